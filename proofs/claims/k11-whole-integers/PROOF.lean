import PyProof.Rows.All
import Wide.All
import OpenK.AllK
import Wide.FinOn
import HandS.ForMost
import HandS.Wide
import HandS.Gcd
import HandS.TupLe
import HandS.TupAny
import HandS.TupMul
import HandS.Style
import HandS.Evl
import HandS.Flt
import HandS.SetFor
import HandS.Ends
import PySem.Challenge.RW_nearestheld_k11_whole_integers_there_and
set_option Elab.async false
set_option linter.all false
set_option maxRecDepth 100000
set_option maxHeartbeats 1000000
/-! data over the abstract heap; weakest preconditions without the heap -/
namespace Nh
open PySem PySem.Spec PyProof.Rows L2

inductive D where
  | non | bl (b : Bool) | int (i : Int) | str (s : Str) | tup (ds : List D) | lst (ds : List D) | bag

/-- the law's bag: where it stands, where its cells stand, what they are -/
structure Bag where
  b : Addr
  l : Addr
  cells : List Int
/-- all tracked but the bag stands -/
def ExB (β : Bag) (H H' : Hp) : Prop := ∀ a o, a ≠ β.b → H a = some o → H' a = some o
theorem ExB.refl {β : Bag} (H : Hp) : ExB β H H := fun _ _ _ h => h
theorem ExB.trans {β : Bag} {H H1 H2 : Hp} (a : ExB β H H1) (b : ExB β H1 H2) : ExB β H H2 := fun x o n h => b x o n (a x o n h)
theorem ExB.new {β : Bag} {H : Hp} {p : Addr} {o : HO} (h : H p = none) : ExB β H (upd H p o) := fun a u _ e => by
  rw [upd_ne (ne_of_none e h)]
  exact e
structure BagAt (β : Bag) (H : Hp) (b0 b1 b2 : Int) : Prop where
  at_ : H β.b = some (.lst [.int b0, .int b1, .int b2, .ref β.l])
  ne : β.l ≠ β.b
  cl : H β.l = some (.lst (β.cells.map V.int))
  p0 : 0 ≤ b0
  p1 : 0 ≤ b1
  q1 : b1 < 2147483647
  p2 : 0 ≤ b2
  pc : ∀ c ∈ β.cells, 0 ≤ c
  lc : β.cells.length ≤ 63
def BagOk (bn : Nat) (β : Bag) (H : Hp) : Prop := ∃ b0 b1 b2, BagAt β H b0 b1 b2 ∧ b2 ≤ bn
variable {bn : Nat}
theorem BagOk.live {β : Bag} {H : Hp} {p : Addr} (b : BagOk bn β H) (h : H p = none) : p ≠ β.b := by
  obtain ⟨b0, b1, b2, h1, _⟩ := b
  exact (ne_of_none h1.at_ h).symm
theorem BagOk.live2 {β : Bag} {H : Hp} {p : Addr} (b : BagOk bn β H) (h : H p = none) : p ≠ β.l := by
  obtain ⟨b0, b1, b2, h1, _⟩ := b
  exact (ne_of_none h1.cl h).symm
/-- what is not the bag nor its cells may change -/
theorem BagOk.write {β : Bag} {H : Hp} {p : Addr} {o : HO} (b : BagOk bn β H) (hb : p ≠ β.b) (hl : p ≠ β.l) : BagOk bn β (L2.upd H p o) := by
  obtain ⟨b0, b1, b2, h1, hn⟩ := b
  exact ⟨b0, b1, b2, ⟨by rw [upd_ne hb.symm]; exact h1.at_, h1.ne, by rw [upd_ne hl.symm]; exact h1.cl, h1.p0, h1.p1, h1.q1, h1.p2, h1.pc, h1.lc⟩, hn⟩
theorem BagOk.upd {β : Bag} {H : Hp} {p : Addr} {o : HO} (b : BagOk bn β H) (h : H p = none) : BagOk bn β (L2.upd H p o) := b.write (b.live h) (b.live2 h)

mutual
inductive Rep (β : Bag) (H : Hp) : V → D → Prop
  | non : Rep β H .non .non
  | bl (b : Bool) : Rep β H (.bl b) (.bl b)
  | int (i : Int) : Rep β H (.int i) (.int i)
  | str (s : Str) : Rep β H (.str s) (.str s)
  | tup {a : Addr} {xs : List V} {ds : List D} : a ≠ β.b → H a = some (.tup xs) → RepL β H xs ds → Rep β H (.ref a) (.tup ds)
  | lst {a : Addr} {xs : List V} {ds : List D} : a ≠ β.b → a ≠ β.l → H a = some (.lst xs) → RepL β H xs ds → Rep β H (.ref a) (.lst ds)
  | bag : Rep β H (.ref β.b) .bag
inductive RepL (β : Bag) (H : Hp) : List V → List D → Prop
  | nil : RepL β H [] []
  | cons {v : V} {d : D} {vs : List V} {ds : List D} : Rep β H v d → RepL β H vs ds → RepL β H (v :: vs) (d :: ds)
end
mutual
theorem Rep.mono {β : Bag} {H H' : Hp} (e : ExB β H H') : ∀ {v : V} {d : D}, Rep β H v d → Rep β H' v d
  | _, _, .non => .non
  | _, _, .bl b => .bl b
  | _, _, .int i => .int i
  | _, _, .str s => .str s
  | _, _, .tup n h r => .tup n (e _ _ n h) (RepL.mono e r)
  | _, _, .lst n n2 h r => .lst n n2 (e _ _ n h) (RepL.mono e r)
  | _, _, .bag => .bag
theorem RepL.mono {β : Bag} {H H' : Hp} (e : ExB β H H') : ∀ {vs : List V} {ds : List D}, RepL β H vs ds → RepL β H' vs ds
  | _, _, .nil => .nil
  | _, _, .cons r t => .cons (Rep.mono e r) (RepL.mono e t)
end
theorem RepL.len {β : Bag} {H : Hp} : ∀ {vs : List V} {ds : List D}, RepL β H vs ds → vs.length = ds.length
  | _, _, .nil => rfl
  | _, _, .cons _ t => by rw [List.length_cons, List.length_cons, t.len]
theorem RepL.get {β : Bag} {H : Hp} : ∀ {vs : List V} {ds : List D} {i : Nat} {d : D}, RepL β H vs ds → ds[i]? = some d → ∃ v, vs[i]? = some v ∧ Rep β H v d
  | _, _, _, _, .nil, e => by simp at e
  | _, _, 0, _, .cons r _, e => by simp at e; subst e; exact ⟨_, rfl, r⟩
  | _, _, i + 1, d, .cons _ t, e => by
    obtain ⟨v, h1, h2⟩ := RepL.get (i := i) (d := d) t (by simpa using e)
    exact ⟨v, by simpa using h1, h2⟩
theorem RepL.got {β : Bag} {H : Hp} : ∀ {vs : List V} {ds : List D} {i : Nat} {v : V}, RepL β H vs ds → vs[i]? = some v → ∃ d, ds[i]? = some d ∧ Rep β H v d
  | _, _, _, _, .nil, e => by simp at e
  | _, _, 0, _, .cons r _, e => by simp at e; subst e; exact ⟨_, rfl, r⟩
  | _, _, i + 1, d, .cons _ t, e => by
    obtain ⟨v, h1, h2⟩ := RepL.got (i := i) (v := d) t (by simpa using e)
    exact ⟨v, by simpa using h1, h2⟩
theorem RepL.append {β : Bag} {H : Hp} : ∀ {vs us : List V} {ds es : List D}, RepL β H vs ds → RepL β H us es → RepL β H (vs ++ us) (ds ++ es)
  | _, _, _, _, .nil, t => t
  | _, _, _, _, .cons r s, t => .cons r (RepL.append s t)
theorem RepL.drop {β : Bag} {H : Hp} : ∀ {vs : List V} {ds : List D} (n : Nat), RepL β H vs ds → RepL β H (vs.drop n) (ds.drop n)
  | _, _, 0, r => r
  | _, _, _ + 1, .nil => .nil
  | _, _, n + 1, .cons _ t => RepL.drop n t
theorem RepL.take {β : Bag} {H : Hp} : ∀ {vs : List V} {ds : List D} (n : Nat), RepL β H vs ds → RepL β H (vs.take n) (ds.take n)
  | _, _, 0, _ => .nil
  | _, _, _ + 1, .nil => .nil
  | _, _, n + 1, .cons r t => .cons r (RepL.take n t)

/-- names, some of them known -/
abbrev Env := List (Option D)
inductive RepO (β : Bag) (H : Hp) : L2.St → Env → Prop
  | nil : RepO β H [] []
  | cons {o : Option V} {p : Option D} {σ : L2.St} {ρ : Env} : (∀ d, p = some d → ∃ v, o = some v ∧ Rep β H v d) → RepO β H σ ρ → RepO β H (o :: σ) (p :: ρ)
theorem RepO.mono {β : Bag} {H H' : Hp} (e : ExB β H H') : ∀ {σ : L2.St} {ρ : Env}, RepO β H σ ρ → RepO β H' σ ρ
  | _, _, .nil => .nil
  | _, _, .cons r t => .cons (fun d h => let ⟨v, h1, h2⟩ := r d h; ⟨v, h1, h2.mono e⟩) (RepO.mono e t)
theorem RepO.get {β : Bag} {H : Hp} : ∀ {σ : L2.St} {ρ : Env} {i : Nat} {d : D}, RepO β H σ ρ → ρ[i]? = some (some d) → ∃ v, σ[i]? = some (some v) ∧ Rep β H v d
  | _, _, _, _, .nil, e => by simp at e
  | _, _, 0, _, .cons r _, e => by
    simp at e
    obtain ⟨v, h1, h2⟩ := r _ e
    exact ⟨v, by rw [h1]; rfl, h2⟩
  | _, _, i + 1, d, .cons _ t, e => by
    obtain ⟨v, h1, h2⟩ := RepO.get (i := i) (d := d) t (by simpa using e)
    exact ⟨v, by simpa using h1, h2⟩
theorem RepO.set {β : Bag} {H : Hp} {v : V} {d : D} (h : Rep β H v d) : ∀ {σ : L2.St} {ρ : Env} (i : Nat), RepO β H σ ρ → RepO β H (σ.set i (some v)) (ρ.set i (some d))
  | _, _, _, .nil => .nil
  | _, _, 0, .cons _ t => .cons (fun d' e => by cases e; exact ⟨v, rfl, h⟩) t
  | _, _, i + 1, .cons r t => .cons r (RepO.set h i t)
theorem RepO.blank {β : Bag} {H : Hp} : ∀ n : Nat, RepO β H (List.replicate n none) (List.replicate n none)
  | 0 => .nil
  | n + 1 => .cons (fun _ h => nomatch h) (RepO.blank n)
theorem RepO.args {β : Bag} {H : Hp} : ∀ {vs : List V} {ds : List D} {σ : L2.St} {ρ : Env}, RepL β H vs ds → RepO β H σ ρ → RepO β H (vs.map some ++ σ) (ds.map some ++ ρ)
  | _, _, _, _, .nil, t => t
  | _, _, _, _, .cons r s, t => .cons (fun d' e => by cases e; exact ⟨_, rfl, r⟩) (RepO.args s t)
/-- forgetting -/
theorem RepO.wipe {β : Bag} {H : Hp} : ∀ {σ : L2.St} {ρ : Env} (i : Nat), RepO β H σ ρ → RepO β H (σ.set i none) (ρ.set i none)
  | _, _, _, .nil => .nil
  | _, _, 0, .cons _ t => .cons (fun d' e => nomatch e) t
  | _, _, i + 1, .cons r t => .cons r (RepO.wipe i t)

/-! ### the judgements -/
/-- what holds behind, of a value -/
def KE_ (bn : Nat) (β : Bag) (H : Hp) (Φ : D → Prop) (Q : VK) : Prop := ∀ v d H', ExB β H H' → BagOk bn β H' → Rep β H' v d → Φ d → Q v H'
def WE (te : TE) (ρ : Env) (Φ : D → Prop) : Prop := ∀ (bn : Nat) β σ H Q, BagOk bn β H → RepO β H σ ρ → KE_ bn β H Φ Q → te σ H Q
def WT (tt : TT) (ρ : Env) (Φ : Bool → Prop) : Prop := ∀ (bn : Nat) β σ H (Q : Bool → Hp → Prop), BagOk bn β H → RepO β H σ ρ → (∀ b H', ExB β H H' → BagOk bn β H' → Φ b → Q b H') → tt σ H Q
def WA (ta : TA) (ρ : Env) (Φ : List D → Prop) : Prop := ∀ (bn : Nat) β σ H (Q : List V → Hp → Prop), BagOk bn β H → RepO β H σ ρ → (∀ vs ds H', ExB β H H' → BagOk bn β H' → RepL β H' vs ds → Φ ds → Q vs H') → ta σ H Q
structure EndsD where
  nx : Env → Prop
  rt : D → Prop
  bk : Env → Prop := fun _ => False
  ct : Env → Prop := fun _ => False
structure EOk (bn : Nat) (β : Bag) (H : Hp) (Φ : EndsD) (E : Ends) : Prop where
  nx : ∀ σ ρ H', ExB β H H' → BagOk bn β H' → RepO β H' σ ρ → Φ.nx ρ → E.nx σ H'
  rt : ∀ v d H', ExB β H H' → BagOk bn β H' → Rep β H' v d → Φ.rt d → E.rt v H'
  bk : ∀ σ ρ H', ExB β H H' → BagOk bn β H' → RepO β H' σ ρ → Φ.bk ρ → E.bk σ H'
  ct : ∀ σ ρ H', ExB β H H' → BagOk bn β H' → RepO β H' σ ρ → Φ.ct ρ → E.ct σ H'
theorem EOk.mono {β : Bag} {H H1 : Hp} {Φ : EndsD} {E : Ends} (k : EOk bn β H Φ E) (e : ExB β H H1) : EOk bn β H1 Φ E :=
  ⟨fun σ ρ H' a => k.nx σ ρ H' (e.trans a), fun v d H' a => k.rt v d H' (e.trans a), fun σ ρ H' a => k.bk σ ρ H' (e.trans a), fun σ ρ H' a => k.ct σ ρ H' (e.trans a)⟩
def WS (ts : TS) (ρ : Env) (Φ : EndsD) : Prop := ∀ (bn : Nat) β σ H E, BagOk bn β H → RepO β H σ ρ → EOk bn β H Φ E → ts E σ H
def WG (g : TG) (d : D) (ρ : Env) (Ψ : Env → Prop) : Prop := ∀ (bn : Nat) β σ H v Q, BagOk bn β H → RepO β H σ ρ → Rep β H v d → (∀ σ' ρ', RepO β H σ' ρ' → Ψ ρ' → Q σ' H) → g v σ H Q
def WGs (g : TGs) (ds : List D) (ρ : Env) (Ψ : Env → Prop) : Prop := ∀ (bn : Nat) β σ H vs Q, BagOk bn β H → RepO β H σ ρ → RepL β H vs ds → (∀ σ' ρ', RepO β H σ' ρ' → Ψ ρ' → Q σ' H) → g vs σ H Q

section
variable {ρ : Env} {Φ : D → Prop} {ta tb te tx : TE} {K : PySem.W.Frag}

/-! ### names, constants -/
theorem we_var {i : Nat} {d : D} (h : ρ[i]? = some (some d)) (k : Φ d) : WE (tVar i) ρ Φ := fun bn β σ H Q b r q => by
  obtain ⟨v, h1, h2⟩ := r.get h
  exact ⟨v, h1, q v d H (.refl H) b h2 k⟩
theorem we_int {i : Int} (k : Φ (.int i)) : WE (tC (.int i)) ρ Φ := fun bn β σ H Q b r q => q _ _ H (.refl H) b (.int i) k
theorem we_bl {i : Bool} (k : Φ (.bl i)) : WE (tC (.bl i)) ρ Φ := fun bn β σ H Q b r q => q _ _ H (.refl H) b (.bl i) k
theorem we_str {i : Str} (k : Φ (.str i)) : WE (tC (.str i)) ρ Φ := fun bn β σ H Q b r q => q _ _ H (.refl H) b (.str i) k
theorem we_non (k : Φ .non) : WE (tC .non) ρ Φ := fun bn β σ H Q b r q => q _ _ H (.refl H) b .non k

/-! ### operators -/
/-- what an operator of two places does -/
def OpS (r : R2) (R : D → D → (D → Prop) → Prop) : Prop := ∀ (bn : Nat) β H x y dx dy Φ Q, BagOk bn β H → Rep β H x dx → Rep β H y dy → R dx dy Φ → KE_ bn β H Φ Q → r x y H Q
theorem we_op {r : R2} {R : D → D → (D → Prop) → Prop} (s : OpS r R) (h : WE ta ρ fun x => WE tb ρ fun y => R x y Φ) : WE (tOp r ta tb) ρ Φ := fun bn β σ H Q b r q =>
  h bn β σ H _ b r fun x dx H1 e1 b1 r1 k1 => k1 bn β σ H1 _ b1 (r.mono e1) fun y dy H2 e2 b2 r2 k2 => s bn β H2 x y dx dy Φ Q b2 (r1.mono e2) r2 k2 fun v d H' e b r => q v d H' ((e1.trans e2).trans e) b r
theorem here {β : Bag} {H : Hp} {Φ : D → Prop} {Q : VK} {v : V} {d : D} (q : KE_ bn β H Φ Q) (b : BagOk bn β H) (r : Rep β H v d) (k : Φ d) : Q v H := q v d H (.refl H) b r k
theorem here_new {β : Bag} {H : Hp} {Φ : D → Prop} {Q : VK} {p : Addr} {o : HO} {d : D} (q : KE_ bn β H Φ Q) (b : BagOk bn β H) (hp : H p = none) (r : Rep β (upd H p o) (.ref p) d) (k : Φ d) : Q (.ref p) (upd H p o) := q _ d _ (.new hp) (b.upd hp) r k
theorem os_I0 {g : Int → Int → V} {f : Int → Int → D} (hg : ∀ β H i j, Rep β H (g i j) (f i j)) : OpS (rI0 g) (fun x y Φ => ∃ i j, x = .int i ∧ y = .int j ∧ Φ (f i j)) := by
  intro bn β H x y dx dy Φ Q b rx ry ⟨i, j, e1, e2, k⟩ q
  subst e1 e2
  cases rx; cases ry
  exact ⟨i, j, rfl, rfl, here q b (hg β H i j) k⟩
theorem os_I {C : Int → Int → Prop} {g : Int → Int → V} {f : Int → Int → D} (hg : ∀ β H i j, Rep β H (g i j) (f i j)) : OpS (rI C g) (fun x y Φ => ∃ i j, x = .int i ∧ y = .int j ∧ C i j ∧ Φ (f i j)) := by
  intro bn β H x y dx dy Φ Q b rx ry ⟨i, j, e1, e2, c, k⟩ q
  subst e1 e2
  cases rx; cases ry
  exact ⟨i, j, rfl, rfl, c, here q b (hg β H i j) k⟩
theorem we_add (h : WE ta ρ fun x => ∃ i, x = .int i ∧ WE tb ρ fun y => ∃ j, y = .int j ∧ Φ (.int (i + j))) : WE (tOp (rI0 fun i j => .int (i + j)) ta tb) ρ Φ :=
  we_op (os_I0 (f := fun i j => .int (i + j)) fun _ _ _ _ => .int _) fun bn β σ H Q b r q => h bn β σ H Q b r fun v d H' e b' r' ⟨i, ei, k⟩ => q v d H' e b' r' fun bn β σ H Q b r q => k bn β σ H Q b r fun v' d' H'' e b'' r'' ⟨j, ej, k'⟩ => q v' d' H'' e b'' r'' ⟨i, j, ei, ej, k'⟩
theorem WE.imp {Ψ : D → Prop} (h : WE te ρ Ψ) (k : ∀ d, Ψ d → Φ d) : WE te ρ Φ := fun bn β σ H Q b r q => h bn β σ H Q b r fun v d H' e b' r' p => q v d H' e b' r' (k d p)
/-- two ints -/
theorem we_opI0 {g : Int → Int → V} {f : Int → Int → D} (hg : ∀ β H i j, Rep β H (g i j) (f i j)) (h : WE ta ρ fun x => ∃ i, x = .int i ∧ WE tb ρ fun y => ∃ j, y = .int j ∧ Φ (f i j)) : WE (tOp (rI0 g) ta tb) ρ Φ :=
  we_op (os_I0 hg) (h.imp fun x ⟨i, ei, k⟩ => k.imp fun y ⟨j, ej, k⟩ => ⟨i, j, ei, ej, k⟩)
theorem we_opI {C : Int → Int → Prop} {g : Int → Int → V} {f : Int → Int → D} (hg : ∀ β H i j, Rep β H (g i j) (f i j)) (h : WE ta ρ fun x => ∃ i, x = .int i ∧ WE tb ρ fun y => ∃ j, y = .int j ∧ C i j ∧ Φ (f i j)) : WE (tOp (rI C g) ta tb) ρ Φ :=
  we_op (os_I hg) (h.imp fun x ⟨i, ei, k⟩ => k.imp fun y ⟨j, ej, k⟩ => ⟨i, j, ei, ej, k⟩)
theorem we_sub (h : WE ta ρ fun x => ∃ i, x = .int i ∧ WE tb ρ fun y => ∃ j, y = .int j ∧ Φ (.int (i - j))) : WE (tOp (rI0 fun i j => .int (i - j)) ta tb) ρ Φ := we_opI0 (f := fun i j => .int (i - j)) (fun _ _ _ _ => .int _) h
theorem we_mul (h : WE ta ρ fun x => ∃ i, x = .int i ∧ WE tb ρ fun y => ∃ j, y = .int j ∧ CMulW i j ∧ Φ (.int (i * j))) : WE (tOp (rI CMulW fun i j => .int (i * j)) ta tb) ρ Φ := we_opI (f := fun i j => .int (i * j)) (fun _ _ _ _ => .int _) h
theorem we_div (h : WE ta ρ fun x => ∃ i, x = .int i ∧ WE tb ρ fun y => ∃ j, y = .int j ∧ CDivW i j ∧ Φ (.int (i / j))) : WE (tOp (rI CDivW fun i j => .int (i / j)) ta tb) ρ Φ := we_opI (f := fun i j => .int (i / j)) (fun _ _ _ _ => .int _) h
theorem we_mod (h : WE ta ρ fun x => ∃ i, x = .int i ∧ WE tb ρ fun y => ∃ j, y = .int j ∧ 0 < j ∧ Φ (.int (i % j))) : WE (tOp (rI (fun _ j => 0 < j) fun i j => .int (i % j)) ta tb) ρ Φ := we_opI (C := fun _ j => 0 < j) (f := fun i j => .int (i % j)) (fun _ _ _ _ => .int _) h
theorem we_pow (h : WE ta ρ fun x => ∃ i, x = .int i ∧ WE tb ρ fun y => ∃ j, y = .int j ∧ CPow i j ∧ Φ (.int (i ^ j.toNat))) : WE (tOp (rI CPow fun i j => .int (i ^ j.toNat)) ta tb) ρ Φ := we_opI (f := fun i j => .int (i ^ j.toNat)) (fun _ _ _ _ => .int _) h
theorem we_lt (h : WE ta ρ fun x => ∃ i, x = .int i ∧ WE tb ρ fun y => ∃ j, y = .int j ∧ Φ (.bl (decide (i < j)))) : WE (tOp (rI0 fun i j => .bl (decide (i < j))) ta tb) ρ Φ := we_opI0 (f := fun i j => .bl (decide (i < j))) (fun _ _ _ _ => .bl _) h
theorem we_le (h : WE ta ρ fun x => ∃ i, x = .int i ∧ WE tb ρ fun y => ∃ j, y = .int j ∧ Φ (.bl (decide (i ≤ j)))) : WE (tOp (rI0 fun i j => .bl (decide (i ≤ j))) ta tb) ρ Φ := we_opI0 (f := fun i j => .bl (decide (i ≤ j))) (fun _ _ _ _ => .bl _) h
theorem we_gt (h : WE ta ρ fun x => ∃ i, x = .int i ∧ WE tb ρ fun y => ∃ j, y = .int j ∧ Φ (.bl (decide (j < i)))) : WE (tOp (rI0 fun i j => .bl (decide (j < i))) ta tb) ρ Φ := we_opI0 (f := fun i j => .bl (decide (j < i))) (fun _ _ _ _ => .bl _) h
theorem we_ge (h : WE ta ρ fun x => ∃ i, x = .int i ∧ WE tb ρ fun y => ∃ j, y = .int j ∧ Φ (.bl (decide (j ≤ i)))) : WE (tOp (rI0 fun i j => .bl (decide (j ≤ i))) ta tb) ρ Φ := we_opI0 (f := fun i j => .bl (decide (j ≤ i))) (fun _ _ _ _ => .bl _) h
/-- -x -/
theorem we_neg (h : WE ta ρ fun x => ∃ i, x = .int i ∧ Φ (.int (-i))) : WE (tUn (rU fun i => .int (-i)) ta) ρ Φ := fun bn β σ H Q b r q =>
  h bn β σ H _ b r fun x dx H1 e1 b1 r1 ⟨i, ei, k⟩ => by
    subst ei
    cases r1
    exact ⟨i, rfl, q _ _ H1 e1 b1 (.int _) k⟩
/-- == of like scalars -/
inductive EqV : D → D → Bool → Prop
  | int (i j : Int) : EqV (.int i) (.int j) (decide (i = j))
  | str (i j : Str) : EqV (.str i) (.str j) (decide (i = j))
  | bl (i j : Bool) : EqV (.bl i) (.bl j) (decide (i = j))
theorem EqV.ok {β : Bag} {H : Hp} {x y : V} {dx dy : D} {b : Bool} (h : EqV dx dy b) (rx : Rep β H x dx) (ry : Rep β H y dy) : scal x y = true ∧ decide (x = y) = b := by
  cases h with
  | int i j =>
    cases rx; cases ry
    exact ⟨rfl, by rw [dec_int]; rfl⟩
  | str i j =>
    cases rx; cases ry
    exact ⟨rfl, by rw [dec_str]; rfl⟩
  | bl i j =>
    cases rx; cases ry
    exact ⟨rfl, by rw [dec_bl]; rfl⟩
theorem os_eq : OpS rEq (fun x y Φ => ∃ b, EqV x y b ∧ Φ (.bl b)) := by
  intro bn β H x y dx dy Φ Q b rx ry ⟨c, e, k⟩ q
  obtain ⟨h1, h2⟩ := e.ok rx ry
  exact ⟨h1, by rw [h2]; exact here q b (.bl c) k⟩
theorem os_ne : OpS rNe (fun x y Φ => ∃ b, EqV x y b ∧ Φ (.bl (!b))) := by
  intro bn β H x y dx dy Φ Q b rx ry ⟨c, e, k⟩ q
  obtain ⟨h1, h2⟩ := e.ok rx ry
  exact ⟨h1, by rw [h2]; exact here q b (.bl _) k⟩
theorem we_eq (h : WE ta ρ fun x => WE tb ρ fun y => ∃ b, EqV x y b ∧ Φ (.bl b)) : WE (tOp rEq ta tb) ρ Φ := we_op os_eq h
theorem we_ne (h : WE ta ρ fun x => WE tb ρ fun y => ∃ b, EqV x y b ∧ Φ (.bl (!b))) : WE (tOp rNe ta tb) ρ Φ := we_op os_ne h
mutual
/-- as data without the bag -/
def D.py : D → PyData
  | .non => .none
  | .bl b => .bool b
  | .int i => .int i
  | .str s => .str s
  | .tup ds => .tuple (D.pyL ds)
  | .lst ds => .list (D.pyL ds)
  | .bag => .none
def D.pyL : List D → List PyData
  | [] => []
  | d :: ds => d.py :: D.pyL ds
end
mutual
/-- no bag in it -/
def D.ok : D → Bool
  | .bag => false
  | .tup ds => D.okL ds
  | .lst ds => D.okL ds
  | _ => true
def D.okL : List D → Bool
  | [] => true
  | d :: ds => d.ok && D.okL ds
end
mutual
theorem Rep.dp {K : PySem.W.Frag} {β : Bag} {H : Hp} : ∀ {v : V} {d : D}, Rep β H v d → d.ok = true → Dp K H v d.py
  | _, _, .non, _ => by simp only [D.py]; exact .non
  | _, _, .bl b, _ => by simp only [D.py]; exact .bl b
  | _, _, .int i, _ => by simp only [D.py]; exact .int i
  | _, _, .str s, _ => by simp only [D.py]; exact .str s
  | _, _, .tup n h r, k => by simp only [D.py]; exact .tup (SqT.of h) (RepL.dp r (by simpa only [D.ok] using k))
  | _, _, .lst n n2 h r, k => by simp only [D.py]; exact .lst (SqL.of h) (RepL.dp r (by simpa only [D.ok] using k))
  | _, _, .bag, k => by simp [D.ok] at k
theorem RepL.dp {K : PySem.W.Frag} {β : Bag} {H : Hp} : ∀ {vs : List V} {ds : List D}, RepL β H vs ds → D.okL ds = true → DpAll K H vs (D.pyL ds)
  | _, _, .nil, _ => by simp only [D.pyL]; exact .nil
  | _, _, .cons r t, k => by
    simp only [D.okL, Bool.and_eq_true] at k
    simp only [D.pyL]
    exact .cons (Rep.dp r k.1) (RepL.dp t k.2)
end
/-- == of data -/
def EqD (x y : D) (Φ : Bool → Prop) : Prop := x.ok = true ∧ y.ok = true ∧ SeqAt.shaped x.py = true ∧ SeqAt.shaped y.py = true ∧ Φ (PyData.eqv x.py y.py)
theorem os_eqD : OpS (rEqD K) (fun x y Φ => EqD x y fun b => Φ (.bl b)) := by
  intro bn β H x y dx dy Φ Q b rx ry ⟨h1, h2, h3, h4, k⟩ q
  exact ⟨dx.py, dy.py, rx.dp h1, ry.dp h2, h3, h4, here q b (.bl _) k⟩
theorem os_neD : OpS (rNeD K) (fun x y Φ => EqD x y fun b => Φ (.bl (!b))) := by
  intro bn β H x y dx dy Φ Q b rx ry ⟨h1, h2, h3, h4, k⟩ q
  exact ⟨dx.py, dy.py, rx.dp h1, ry.dp h2, h3, h4, here q b (.bl _) k⟩
theorem we_eqD (h : WE ta ρ fun x => WE tb ρ fun y => EqD x y fun b => Φ (.bl b)) : WE (tOp (rEqD K) ta tb) ρ Φ := we_op os_eqD h
theorem we_neD (h : WE ta ρ fun x => WE tb ρ fun y => EqD x y fun b => Φ (.bl (!b))) : WE (tOp (rNeD K) ta tb) ρ Φ := we_op os_neD h

/-! ### tuples, lists -/
theorem wa_nil {Φ : List D → Prop} (k : Φ []) : WA tNil ρ Φ := fun bn β σ H Q b r q => q [] [] H (.refl H) b .nil k
theorem wa_cons {Φ : List D → Prop} {tr : TA} (h : WE ta ρ fun x => WA tr ρ fun xs => Φ (x :: xs)) : WA (tCons ta tr) ρ Φ := fun bn β σ H Q b r q =>
  h bn β σ H _ b r fun x dx H1 e1 b1 r1 k1 => k1 bn β σ H1 _ b1 (r.mono e1) fun xs dxs H2 e2 b2 r2 k2 => q _ _ H2 (e1.trans e2) b2 (.cons (r1.mono e2) r2) k2
theorem sz100 {n : Nat} (h : n ≤ 1000) : n ≤ sizeLine := Nat.le_trans h (by decide)
theorem we_tup {ta : TA} (h : WA ta ρ fun ds => ds.length ≤ 1000 ∧ Φ (.tup ds)) : WE (tTup ta) ρ Φ := fun bn β σ H Q b r q =>
  h bn β σ H _ b r fun vs ds H1 e1 b1 r1 ⟨hl, k⟩ => ⟨sz100 (by rw [r1.len]; exact hl), fun p hp => q _ _ _ (e1.trans (.new hp)) (b1.upd hp) (.tup (b1.live hp) upd_same (r1.mono (.new hp))) k⟩
theorem we_lst {ta : TA} (h : WA ta ρ fun ds => ds.length ≤ 1000 ∧ Φ (.lst ds)) : WE (tLst ta) ρ Φ := fun bn β σ H Q b r q =>
  h bn β σ H _ b r fun vs ds H1 e1 b1 r1 ⟨hl, k⟩ => ⟨sz100 (by rw [r1.len]; exact hl), fun p hp => q _ _ _ (e1.trans (.new hp)) (b1.upd hp) (.lst (b1.live hp) (b1.live2 hp) upd_same (r1.mono (.new hp))) k⟩
theorem RepL.atI {β : Bag} {H : Hp} {vs : List V} {ds : List D} {i : Int} {d : D} (r : RepL β H vs ds) (e : L2.atI ds i = some d) : ∃ v, L2.atI vs i = some v ∧ Rep β H v d := by
  unfold L2.atI at e ⊢
  rw [r.len]
  cases h : ixN ds.length i with
  | none =>
    rw [h] at e
    cases e
  | some j =>
    rw [h] at e
    obtain ⟨v, h1, h2⟩ := r.get (i := j) (d := d) e
    exact ⟨v, h1, h2⟩
theorem we_ixT (h : WE ta ρ fun x => ∃ ds, x = .tup ds ∧ WE tb ρ fun y => ∃ i d, y = .int i ∧ L2.atI ds i = some d ∧ Φ d) : WE (tOp (rIxT K) ta tb) ρ Φ :=
  we_op (R := fun x y Φ => ∃ ds i d, x = .tup ds ∧ y = .int i ∧ L2.atI ds i = some d ∧ Φ d) (by
    intro bn β H x y dx dy Φ Q b rx ry ⟨ds, i, d, e1, e2, e3, k⟩ q
    subst e1 e2
    cases ry
    cases rx with
    | tup n hh r =>
      obtain ⟨v, h1, h2⟩ := r.atI e3
      exact ⟨_, _, i, v, rfl, rfl, SqT.of hh, h1, here q b h2 k⟩) (h.imp fun x ⟨ds, ex, k⟩ => k.imp fun y ⟨i, d, ey, ed, k⟩ => ⟨ds, i, d, ex, ey, ed, k⟩)
theorem we_ixL (h : WE ta ρ fun x => ∃ ds, x = .lst ds ∧ WE tb ρ fun y => ∃ i d, y = .int i ∧ L2.atI ds i = some d ∧ Φ d) : WE (tOp (rIxL K) ta tb) ρ Φ :=
  we_op (R := fun x y Φ => ∃ ds i d, x = .lst ds ∧ y = .int i ∧ L2.atI ds i = some d ∧ Φ d) (by
    intro bn β H x y dx dy Φ Q b rx ry ⟨ds, i, d, e1, e2, e3, k⟩ q
    subst e1 e2
    cases ry
    cases rx with
    | lst n n2 hh r =>
      obtain ⟨v, h1, h2⟩ := r.atI e3
      exact ⟨_, _, i, v, rfl, rfl, SqL.of hh, h1, here q b h2 k⟩) (h.imp fun x ⟨ds, ex, k⟩ => k.imp fun y ⟨i, d, ey, ed, k⟩ => ⟨ds, i, d, ex, ey, ed, k⟩)
/-- + of tuples, the left one not empty -/
theorem we_catT (h : WE ta ρ fun x => ∃ as, x = .tup as ∧ as ≠ [] ∧ WE tb ρ fun y => ∃ bs, y = .tup bs ∧ as.length + bs.length ≤ 1000 ∧ Φ (.tup (as ++ bs))) : WE (tOp (rCatT K) ta tb) ρ Φ :=
  we_op (R := fun x y Φ => ∃ as bs, x = .tup as ∧ as ≠ [] ∧ y = .tup bs ∧ as.length + bs.length ≤ 1000 ∧ Φ (.tup (as ++ bs))) (by
    intro bn β H x y dx dy Φ Q b rx ry ⟨as, bs, e1, n1, e2, hl, k⟩ q
    subst e1 e2
    cases rx with
    | tup na ha rA =>
    cases ry with
    | tup nb hb rB =>
      refine ⟨_, _, _, _, rfl, rfl, SqT.of ha, SqT.of hb, fun z => n1 ?_, sz100 (by rw [rA.len, rB.len]; exact hl), fun z => ?_, fun z p hp => ?_⟩
      · subst z
        cases rA
        rfl
      · subst z
        cases rB
        rw [List.append_nil] at k
        exact here q b (.tup na ha rA) k
      · exact here_new q b hp (.tup (b.live hp) upd_same ((rA.append rB).mono (.new hp))) k) (h.imp fun x ⟨as, ex, n1, k⟩ => k.imp fun y ⟨bs, ey, hl, k⟩ => ⟨as, bs, ex, n1, ey, hl, k⟩)
theorem we_catL (h : WE ta ρ fun x => ∃ as, x = .lst as ∧ WE tb ρ fun y => ∃ bs, y = .lst bs ∧ as.length + bs.length ≤ 1000 ∧ Φ (.lst (as ++ bs))) : WE (tOp rCat ta tb) ρ Φ :=
  we_op (R := fun x y Φ => ∃ as bs, x = .lst as ∧ y = .lst bs ∧ as.length + bs.length ≤ 1000 ∧ Φ (.lst (as ++ bs))) (by
    intro bn β H x y dx dy Φ Q b rx ry ⟨as, bs, e1, e2, hl, k⟩ q
    subst e1 e2
    cases rx with
    | lst na na2 ha rA =>
    cases ry with
    | lst nb nb2 hb rB =>
      refine ⟨_, _, _, _, rfl, rfl, ha, hb, sz100 (by rw [rA.len, rB.len]; exact hl), fun p hp => ?_⟩
      exact here_new q b hp (.lst (b.live hp) (b.live2 hp) upd_same ((rA.append rB).mono (.new hp))) k) (h.imp fun x ⟨as, ex, k⟩ => k.imp fun y ⟨bs, ey, hl, k⟩ => ⟨as, bs, ex, ey, hl, k⟩)
theorem RepL.rep {β : Bag} {H : Hp} {vs : List V} {ds : List D} (r : RepL β H vs ds) : ∀ k : Nat, RepL β H (List.replicate k vs).flatten (List.replicate k ds).flatten
  | 0 => .nil
  | k + 1 => by
    rw [List.replicate_succ, List.replicate_succ, List.flatten_cons, List.flatten_cons]
    exact r.append (r.rep k)
/-- list * 0 or 1 -/
theorem we_repL (h : WE ta ρ fun x => ∃ as, x = .lst as ∧ as.length ≤ 1000 ∧ WE tb ρ fun y => ∃ j : Int, y = .int j ∧ 0 ≤ j ∧ j ≤ 1 ∧ Φ (.lst (if j = 1 then as else []))) : WE (tOp rRep ta tb) ρ Φ :=
  we_op (R := fun x y Φ => ∃ as j, x = .lst as ∧ as.length ≤ 1000 ∧ y = .int j ∧ 0 ≤ j ∧ j ≤ 1 ∧ Φ (.lst (if j = 1 then as else []))) (by
    intro bn β H x y dx dy Φ Q b rx ry ⟨as, j, e1, hl, e2, h0, h1, k⟩ q
    subst e1 e2
    cases ry
    cases rx with
    | lst na na2 ha rA =>
      have ej : (List.replicate j.toNat as).flatten = if j = 1 then as else [] := by
        by_cases e : j = 1
        · subst e
          rw [if_pos rfl]
          simp
        · have e0 : j = 0 := by omega
          subst e0
          simp
      refine ⟨_, j, _, rfl, rfl, ha, by omega, by omega, sz100 ?_, fun p hp => ?_⟩
      · rw [rA.len]
        have : j.toNat ≤ 1 := by omega
        exact Nat.le_trans (Nat.mul_le_mul_left _ this) (by omega)
      · exact here_new q b hp (.lst (b.live hp) (b.live2 hp) upd_same (by rw [← ej]; exact (rA.rep j.toNat).mono (.new hp))) k) (h.imp fun x ⟨as, ex, hl, k⟩ => k.imp fun y ⟨j, ey, h0, h1, k⟩ => ⟨as, j, ex, hl, ey, h0, h1, k⟩)
/-- t[k:], k within -/
theorem we_slT {k : Nat} (h : WE ta ρ fun x => ∃ ds, x = .tup ds ∧ 0 < k ∧ k ≤ ds.length ∧ Φ (.tup (ds.drop k))) : WE (tSl (rSlT K) ta (tPart (tC (.int (k : Int)))) tNoPart) ρ Φ := fun bn β σ H Q b r q =>
  h bn β σ H _ b r fun v dx H1 e1 b1 r1 ⟨ds, ex, h0, hk, kk⟩ => ⟨(k : Int), rfl, by
    subst ex
    cases r1 with
    | tup n hh rr =>
      rename_i a xs
      have hl := rr.len
      have e1' : HT.sIx xs.length 0 (some (k : Int)) = k := by
        rw [HT.sIx_nat]
        omega
      refine ⟨_, _, rfl, SqT.of hh, fun z => ?_, fun p hp => ?_⟩
      · rw [e1'] at z
        omega
      · have ec : cutV xs (some (k : Int)) none = xs.drop k := by
          unfold cutV
          rw [e1', HT.sIx_none]
          exact List.take_of_length_le (by rw [List.length_drop]; omega)
        rw [ec]
        exact q _ _ _ (e1.trans (.new hp)) (b1.upd hp) (.tup (b1.live hp) upd_same ((rr.drop k).mono (.new hp))) kk⟩
/-- a text in a tuple of texts -/
theorem inV_strs (s : Str) : ∀ (ss : List Str) {β : Bag} {H : Hp} {vs : List V}, RepL β H vs (ss.map D.str) → vs.all flatV = true ∧ inV (.str s) vs = ss.any fun z => decide (z = s)
  | [], _, _, _, r => by cases r; exact ⟨rfl, rfl⟩
  | z :: ss, _, _, _, r => by
    cases r with
    | cons r1 r2 =>
      cases r1
      obtain ⟨h1, h2⟩ := inV_strs s ss r2
      refine ⟨by rw [List.all_cons, h1]; rfl, ?_⟩
      unfold inV at h2 ⊢
      rw [List.any_cons, List.any_cons, h2]
      have : eqV (.str z) (.str s) = decide (z = s) := by
        show (z == s) = _
        exact Bool.beq_eq_decide_eq z s
      rw [this]
theorem we_in (h : WE ta ρ fun x => ∃ s, x = .str s ∧ WE tb ρ fun y => ∃ ss : List Str, y = .tup (ss.map D.str) ∧ Φ (.bl (ss.any fun z => decide (z = s)))) : WE (tOp (rIn K false) ta tb) ρ Φ :=
  we_op (R := fun x y Φ => ∃ (s : Str) (ss : List Str), x = .str s ∧ y = .tup (ss.map D.str) ∧ Φ (.bl (ss.any fun z => decide (z = s)))) (by
    intro bn β H x y dx dy Φ Q b rx ry ⟨s, ss, e1, e2, k⟩ q
    subst e1 e2
    cases rx
    cases ry with
    | tup n hh r =>
      obtain ⟨h1, h2⟩ := inV_strs s ss r
      refine ⟨_, _, rfl, .inr (SqT.of hh), rfl, h1, ?_⟩
      rw [if_neg Bool.false_ne_true, h2]
      exact here q b (.bl _) k) (h.imp fun x ⟨s, ex, k⟩ => k.imp fun y ⟨ss, ey, k⟩ => ⟨s, ss, ex, ey, k⟩)
/-- x is None -/
theorem we_isN {r : R2} (hr : r = fun x y H Q => y = .non ∧ Q (.bl (decide (x = .non))) H) (h : WE ta ρ fun x => ∃ b : Bool, ((b = true ∧ x = .non) ∨ (b = false ∧ x ≠ .non)) ∧ Φ (.bl b)) : WE (tOp r ta (tC .non)) ρ Φ := fun bn β σ H Q b rr q =>
  h bn β σ H _ b rr fun v dx H1 e1 b1 r1 ⟨c, hc, k⟩ => by
    subst hr
    refine ⟨rfl, ?_⟩
    have : decide (v = V.non) = c := by
      rcases hc with ⟨rfl, rfl⟩ | ⟨rfl, hn⟩
      · cases r1
        exact decide_eq_true rfl
      · refine decide_eq_false fun z => ?_
        subst z
        cases r1
        exact hn rfl
    rw [this]
    exact q _ _ _ e1 b1 (.bl c) k
theorem we_notN {r : R2} (hr : r = fun x y H Q => y = .non ∧ Q (.bl (!decide (x = .non))) H) (h : WE ta ρ fun x => ∃ b : Bool, ((b = true ∧ x = .non) ∨ (b = false ∧ x ≠ .non)) ∧ Φ (.bl (!b))) : WE (tOp r ta (tC .non)) ρ Φ := fun bn β σ H Q b rr q =>
  h bn β σ H _ b rr fun v dx H1 e1 b1 r1 ⟨c, hc, k⟩ => by
    subst hr
    refine ⟨rfl, ?_⟩
    have : decide (v = V.non) = c := by
      rcases hc with ⟨rfl, rfl⟩ | ⟨rfl, hn⟩
      · cases r1
        exact decide_eq_true rfl
      · refine decide_eq_false fun z => ?_
        subst z
        cases r1
        exact hn rfl
    rw [this]
    exact q _ _ _ e1 b1 (.bl _) k

/-! ### tests -/
variable {tt uu : TT} {Ψ : Bool → Prop}
theorem WT.imp {Ψ' : Bool → Prop} (h : WT tt ρ Ψ') (k : ∀ b, Ψ' b → Ψ b) : WT tt ρ Ψ := fun bn β σ H Q b r q => h bn β σ H Q b r fun c H' e b' p => q c H' e b' (k c p)
theorem wt_test (h : WE te ρ fun x => ∃ b, x = .bl b ∧ Ψ b) : WT (tTest te) ρ Ψ := fun bn β σ H Q b r q =>
  h bn β σ H _ b r fun v dx H1 e1 b1 r1 ⟨c, ec, k⟩ => by
    subst ec
    cases r1
    exact ⟨c, rfl, q c H1 e1 b1 k⟩
theorem wt_B (h : WE te ρ fun x => ∃ b, x = .bl b ∧ Ψ b) : WT (tB te) ρ Ψ := fun bn β σ H Q b r q =>
  h bn β σ H _ b r fun v dx H1 e1 b1 r1 ⟨c, ec, k⟩ => by
    subst ec
    cases r1
    exact ⟨c, rfl, q c H1 e1 b1 k⟩
theorem wt_and (h : WT tt ρ fun c => (c = true → WT uu ρ Ψ) ∧ (c = false → Ψ false)) : WT (tAnd tt uu) ρ Ψ := fun bn β σ H Q b r q =>
  h bn β σ H _ b r fun c H1 e1 b1 ⟨k1, k2⟩ => by
    cases c with
    | true => exact iteT (k1 rfl bn β σ H1 _ b1 (r.mono e1) fun c' H2 e2 b2 k => q c' H2 (e1.trans e2) b2 k)
    | false => exact iteF (q false H1 e1 b1 (k2 rfl))
theorem wt_or (h : WT tt ρ fun c => (c = true → Ψ true) ∧ (c = false → WT uu ρ Ψ)) : WT (tOr tt uu) ρ Ψ := fun bn β σ H Q b r q =>
  h bn β σ H _ b r fun c H1 e1 b1 ⟨k1, k2⟩ => by
    cases c with
    | true => exact iteT (q true H1 e1 b1 (k1 rfl))
    | false => exact iteF (k2 rfl bn β σ H1 _ b1 (r.mono e1) fun c' H2 e2 b2 k => q c' H2 (e1.trans e2) b2 k)
theorem wt_not (h : WT tt ρ fun c => Ψ (!c)) : WT (tNot tt) ρ Ψ := fun bn β σ H Q b r q => h bn β σ H _ b r fun c H1 e1 b1 k => q _ H1 e1 b1 k
theorem we_and (h : WE ta ρ fun x => ∃ c, x = .bl c ∧ (c = true → WE tb ρ Φ) ∧ (c = false → Φ (.bl false))) : WE (tAndV ta tb) ρ Φ := fun bn β σ H Q b r q =>
  h bn β σ H _ b r fun v dx H1 e1 b1 r1 ⟨c, ec, k1, k2⟩ => by
    subst ec
    cases r1
    refine ⟨c, rfl, ?_⟩
    cases c with
    | true => exact iteT (k1 rfl bn β σ H1 _ b1 (r.mono e1) fun v d H2 e2 b2 r2 k => q v d H2 (e1.trans e2) b2 r2 k)
    | false => exact iteF (q _ _ H1 e1 b1 (.bl false) (k2 rfl))
theorem we_or (h : WE ta ρ fun x => ∃ c, x = .bl c ∧ (c = true → Φ (.bl true)) ∧ (c = false → WE tb ρ Φ)) : WE (tOrV ta tb) ρ Φ := fun bn β σ H Q b r q =>
  h bn β σ H _ b r fun v dx H1 e1 b1 r1 ⟨c, ec, k1, k2⟩ => by
    subst ec
    cases r1
    refine ⟨c, rfl, ?_⟩
    cases c with
    | true => exact iteT (q _ _ H1 e1 b1 (.bl true) (k1 rfl))
    | false => exact iteF (k2 rfl bn β σ H1 _ b1 (r.mono e1) fun v d H2 e2 b2 r2 k => q v d H2 (e1.trans e2) b2 r2 k)
theorem we_ifE (h : WT tt ρ fun c => (c = true → WE ta ρ Φ) ∧ (c = false → WE tb ρ Φ)) : WE (tIf tt ta tb) ρ Φ := fun bn β σ H Q b r q =>
  h bn β σ H _ b r fun c H1 e1 b1 ⟨k1, k2⟩ => by
    cases c with
    | true => exact iteT (k1 rfl bn β σ H1 _ b1 (r.mono e1) fun v d H2 e2 b2 r2 k => q v d H2 (e1.trans e2) b2 r2 k)
    | false => exact iteF (k2 rfl bn β σ H1 _ b1 (r.mono e1) fun v d H2 e2 b2 r2 k => q v d H2 (e1.trans e2) b2 r2 k)
/-- a < b < c of ints -/
theorem we_chain {tc : TE} (h : WE ta ρ fun x => ∃ i, x = .int i ∧ WE tb ρ fun y => ∃ j, y = .int j ∧ (i < j → WE tc ρ fun z => ∃ k, z = .int k ∧ Φ (.bl (decide (j < k)))) ∧ (¬ i < j → Φ (.bl false))) :
    WE (tChain (rI0 fun i j => .bl (decide (i < j))) (rI0 fun i j => .bl (decide (i < j))) ta tb tc) ρ Φ := fun bn β σ H Q b r q =>
  h bn β σ H _ b r fun v dx H1 e1 b1 r1 ⟨i, ei, k⟩ => by
    subst ei
    cases r1
    refine k bn β σ H1 _ b1 (r.mono e1) fun v2 dy H2 e2 b2 r2 ⟨j, ej, k1, k2⟩ => ?_
    subst ej
    cases r2
    refine ⟨i, j, rfl, rfl, decide (i < j), rfl, ?_⟩
    by_cases hij : i < j
    · rw [decide_eq_true hij]
      refine iteT (k1 hij bn β σ H2 _ b2 (r.mono (e1.trans e2)) fun v3 dz H3 e3 b3 r3 ⟨kk, ek, k⟩ => ?_)
      subst ek
      cases r3
      exact ⟨j, kk, rfl, rfl, q _ _ H3 ((e1.trans e2).trans e3) b3 (.bl _) k⟩
    · rw [decide_eq_false hij]
      exact iteF (q _ _ H2 (e1.trans e2) b2 (.bl false) (k2 hij))

/-! ### calls -/
/-- the promise of a def over data -/
def spD (pre : List D → Prop) (post : List D → D → Prop) : Sp := fun vs H Q _ => ∃ bn β ds, BagOk bn β H ∧ RepL β H vs ds ∧ pre ds ∧ KE_ bn β H (post ds) Q
theorem we_call {pre : List D → Prop} {post : List D → D → Prop} {E : XK} {ta : TA} (h : WA ta ρ fun ds => pre ds ∧ ∀ d, post ds d → Φ d) : WE (tCall (spD pre post) [] E ta) ρ Φ := fun bn β σ H Q b r q =>
  h bn β σ H _ b r fun vs ds H1 e1 b1 r1 ⟨hp, k⟩ => ⟨_, β, ds, b1, by rw [List.append_nil]; exact r1, hp, fun v d H2 e2 b2 r2 p => q v d H2 (e1.trans e2) b2 r2 (k d p)⟩
/-- what a built-in does -/
theorem wa_cb {r : List V → Hp → VK → Prop} {ta : TA} {R : List D → (D → Prop) → Prop} (s : ∀ (bn : Nat) β H vs ds Φ Q, BagOk bn β H → RepL β H vs ds → R ds Φ → KE_ bn β H Φ Q → r vs H Q) (h : WA ta ρ fun ds => R ds Φ) : WE (tCB r ta) ρ Φ := fun bn β σ H Q b rr q =>
  h bn β σ H _ b rr fun vs ds H1 e1 b1 r1 k => s bn β H1 vs ds Φ Q b1 r1 k fun v d H2 e2 b2 r2 p => q v d H2 (e1.trans e2) b2 r2 p
theorem we_abs {ta : TA} (h : WA ta ρ fun ds => ∃ i, ds = [.int i] ∧ Φ (.int (if i < 0 then -i else i))) : WE (tCB (fun xs H Q => ∃ i, xs = [.int i] ∧ Q (.int (if i < 0 then -i else i)) H) ta) ρ Φ :=
  wa_cb (R := fun ds Φ => ∃ i, ds = [.int i] ∧ Φ (.int (if i < 0 then -i else i))) (by
    intro bn β H vs ds Φ Q b r ⟨i, e, k⟩ q
    subst e
    cases r with
    | cons r1 r2 =>
      cases r1; cases r2
      exact ⟨i, rfl, here q b (.int _) k⟩) h
theorem we_max2 {ta : TA} (h : WA ta ρ fun ds => ∃ i j, ds = [.int i, .int j] ∧ Φ (.int (if j > i then j else i))) : WE (tCB (fun xs H Q => ∃ i j, xs = [.int i, .int j] ∧ Q (.int (if j > i then j else i)) H) ta) ρ Φ :=
  wa_cb (R := fun ds Φ => ∃ i j, ds = [.int i, .int j] ∧ Φ (.int (if j > i then j else i))) (by
    intro bn β H vs ds Φ Q b r ⟨i, j, e, k⟩ q
    subst e
    cases r with
    | cons r1 r2 =>
      cases r2 with
      | cons r2 r3 =>
        cases r1; cases r2; cases r3
        exact ⟨i, j, rfl, here q b (.int _) k⟩) h
theorem we_min2 {ta : TA} (h : WA ta ρ fun ds => ∃ i j, ds = [.int i, .int j] ∧ Φ (.int (if j < i then j else i))) : WE (tCB (fun xs H Q => ∃ i j, xs = [.int i, .int j] ∧ Q (.int (if j < i then j else i)) H) ta) ρ Φ :=
  wa_cb (R := fun ds Φ => ∃ i j, ds = [.int i, .int j] ∧ Φ (.int (if j < i then j else i))) (by
    intro bn β H vs ds Φ Q b r ⟨i, j, e, k⟩ q
    subst e
    cases r with
    | cons r1 r2 =>
      cases r2 with
      | cons r2 r3 =>
        cases r1; cases r2; cases r3
        exact ⟨i, j, rfl, here q b (.int _) k⟩) h
theorem we_gcd {ta : TA} (h : WA ta ρ fun ds => ∃ i j, ds = [.int i, .int j] ∧ Φ (.int ((Nat.gcd i.natAbs j.natAbs : Nat) : Int))) : WE (tCB rGcd ta) ρ Φ :=
  wa_cb (R := fun ds Φ => ∃ i j, ds = [.int i, .int j] ∧ Φ (.int ((Nat.gcd i.natAbs j.natAbs : Nat) : Int))) (by
    intro bn β H vs ds Φ Q b r ⟨i, j, e, k⟩ q
    subst e
    cases r with
    | cons r1 r2 =>
      cases r2 with
      | cons r2 r3 =>
        cases r1; cases r2; cases r3
        exact ⟨i, j, rfl, here q b (.int _) k⟩) h
/-- int(x) of an int, of a truth -/
def IntOf : List D → (D → Prop) → Prop
  | [.int i], Φ => Φ (.int i)
  | [.bl k], Φ => Φ (.int (if k then 1 else 0))
  | _, _ => False
theorem we_int1 {ta : TA} (h : WA ta ρ fun ds => IntOf ds Φ) : WE (tCB (fun xs H Q => (∃ i, xs = [.int i] ∧ Q (.int i) H) ∨ ∃ k, xs = [.bl k] ∧ Q (.int (if k then 1 else 0)) H) ta) ρ Φ :=
  wa_cb (R := IntOf) (by
    intro bn β H vs ds Φ Q b r k q
    cases r with
    | nil => exact k.elim
    | cons r1 r2 =>
      cases r2 with
      | cons _ _ => cases r1 <;> exact k.elim
      | nil =>
        cases r1 with
        | int i => exact .inl ⟨i, rfl, here q b (.int _) k⟩
        | bl c => exact .inr ⟨c, rfl, here q b (.int _) k⟩
        | _ => exact k.elim) h
theorem we_len {ta : TA} (h : WA ta ρ fun ds => ∃ es, ds = [.lst es] ∧ Φ (.int (es.length : Int))) : WE (tCB (fun xs H Q => ∃ p ys, xs = [.ref p] ∧ (SqL K H p ys ∨ SqT K H p ys) ∧ Q (.int ys.length) H) ta) ρ Φ :=
  wa_cb (R := fun ds Φ => ∃ es, ds = [.lst es] ∧ Φ (.int (es.length : Int))) (by
    intro bn β H vs ds Φ Q b r ⟨es, e, k⟩ q
    subst e
    cases r with
    | cons r1 r2 =>
      cases r2
      cases r1 with
      | lst n n2 hh rr =>
        refine ⟨_, _, rfl, .inl (SqL.of hh), ?_⟩
        rw [rr.len]
        exact here q b (.int _) k) h
/-- tuple(list) -/
theorem we_tupleL {ta : TA} (h : WA ta ρ fun ds => ∃ es, ds = [.lst es] ∧ Φ (.tup es)) : WE (tCB (fun xs H Q => ∃ p ys, xs = [.ref p] ∧ ((SqL K H p ys ∧ ∀ l, H l = none → Q (.ref l) (upd H l (.tup ys))) ∨ (SqT K H p ys ∧ Q (.ref p) H))) ta) ρ Φ :=
  wa_cb (R := fun ds Φ => ∃ es, ds = [.lst es] ∧ Φ (.tup es)) (by
    intro bn β H vs ds Φ Q b r ⟨es, e, k⟩ q
    subst e
    cases r with
    | cons r1 r2 =>
      cases r2
      cases r1 with
      | lst n n2 hh rr => exact ⟨_, _, rfl, .inl ⟨SqL.of hh, fun p hp => here_new q b hp (.tup (b.live hp) upd_same (rr.mono (.new hp))) k⟩⟩) h

/-! ### statements -/
variable {Ω : EndsD} {ts us : TS}
theorem ws_next (k : Ω.nx ρ) : WS tNext ρ Ω := fun bn β σ H E b r q => q.nx σ ρ H (.refl H) b r k
theorem ws_seq (h : WS ts ρ { Ω with nx := fun ρ' => WS us ρ' Ω }) : WS (tSeq ts us) ρ Ω := fun bn β σ H E b r q =>
  h bn β σ H { E with nx := us E } b r ⟨fun σ' ρ' H' e b' r' k => k bn β σ' H' E b' r' (q.mono e), q.rt, q.bk, q.ct⟩
theorem ws_asg {g : TG} (h : WE te ρ fun d => WG g d ρ Ω.nx) : WS (tAsg te g) ρ Ω := fun bn β σ H E b r q =>
  h bn β σ H _ b r fun v d H1 e1 b1 r1 k => k bn β σ H1 v _ b1 (r.mono e1) r1 fun σ' ρ' r' k' => q.nx σ' ρ' H1 e1 b1 r' k'
theorem wg_name {i : Nat} {d : D} {Ξ : Env → Prop} (k : Ξ (ρ.set i (some d))) : WG (gName i) d ρ Ξ := fun bn β σ H v Q b r rv q => q _ _ (r.set rv i) k
theorem wgs_nil {Ξ : Env → Prop} (k : Ξ ρ) : WGs gNil [] ρ Ξ := fun bn β σ H vs Q b r rv q => by
  cases rv
  exact ⟨rfl, q _ _ r k⟩
theorem wgs_cons {g : TG} {gs : TGs} {d : D} {ds : List D} {Ξ : Env → Prop} (h : WG g d ρ fun ρ' => WGs gs ds ρ' Ξ) : WGs (gCons g gs) (d :: ds) ρ Ξ := fun bn β σ H vs Q b r rv q => by
  cases rv with
  | cons r1 r2 => exact ⟨_, _, rfl, h bn β σ H _ _ b r r1 fun σ' ρ' r' k => k bn β σ' H _ Q b r' r2 q⟩
theorem wg_tup {n : Nat} {gs : TGs} {d : D} {Ξ : Env → Prop} (h : ∃ ds, d = .tup ds ∧ ds.length = n ∧ WGs gs ds ρ Ξ) : WG (gTup K n gs) d ρ Ξ := fun bn β σ H v Q b r rv q => by
  obtain ⟨ds, e, hl, k⟩ := h
  subst e
  cases rv with
  | tup nn hh rr => exact ⟨_, _, rfl, SqT.of hh, by rw [rr.len]; exact hl, k bn β σ H _ Q b r rr q⟩
theorem ws_par {i j : Nat} {ta : TA} (h : WA ta ρ fun ds => ∃ x y, ds = [x, y] ∧ Ω.nx ((ρ.set i (some x)).set j (some y))) : WS (tPar i j ta) ρ Ω := fun bn β σ H E b r q =>
  h bn β σ H _ b r fun vs ds H1 e1 b1 r1 ⟨x, y, e, k⟩ => by
    subst e
    cases r1 with
    | cons r1 r2 =>
      cases r2 with
      | cons r2 r3 =>
        cases r3
        exact ⟨_, _, rfl, q.nx _ _ H1 e1 b1 (((r.mono e1).set r1 i).set r2 j) k⟩
theorem ws_par3 {i j l : Nat} {ta : TA} (h : WA ta ρ fun ds => ∃ x y z, ds = [x, y, z] ∧ Ω.nx (((ρ.set i (some x)).set j (some y)).set l (some z))) : WS (tPar3 i j l ta) ρ Ω := fun bn β σ H E b r q =>
  h bn β σ H _ b r fun vs ds H1 e1 b1 r1 ⟨x, y, z, e, k⟩ => by
    subst e
    cases r1 with
    | cons r1 r2 =>
      cases r2 with
      | cons r2 r3 =>
        cases r3 with
        | cons r3 r4 =>
          cases r4
          exact ⟨_, _, _, rfl, q.nx _ _ H1 e1 b1 ((((r.mono e1).set r1 i).set r2 j).set r3 l) k⟩
theorem ws_ret (h : WE te ρ Ω.rt) : WS (tRet te) ρ Ω := fun bn β σ H E b r q => h bn β σ H _ b r fun v d H1 e1 b1 r1 k => q.rt v d H1 e1 b1 r1 k
theorem ws_drop (h : WE te ρ fun _ => Ω.nx ρ) : WS (tDrop te) ρ Ω := fun bn β σ H E b r q => h bn β σ H _ b r fun v d H1 e1 b1 r1 k => q.nx σ ρ H1 e1 b1 (r.mono e1) k
theorem ws_if (h : WT tt ρ fun c => (c = true → WS ts ρ Ω) ∧ (c = false → WS us ρ Ω)) : WS (tIfS tt ts us) ρ Ω := fun bn β σ H E b r q =>
  h bn β σ H _ b r fun c H1 e1 b1 ⟨k1, k2⟩ => by
    cases c with
    | true => exact iteT (k1 rfl bn β σ H1 E b1 (r.mono e1) (q.mono e1))
    | false => exact iteF (k2 rfl bn β σ H1 E b1 (r.mono e1) (q.mono e1))
/-- while, by an invariant and a measure -/
theorem ws_while (I : Nat → Env → Prop) (m : Nat) (h0 : I m ρ)
    (hs : ∀ m ρ', I m ρ' → WT tt ρ' fun c => (c = true → WS ts ρ' { Ω with nx := fun ρ2 => ∃ m', m' < m ∧ I m' ρ2, ct := fun ρ2 => ∃ m', m' < m ∧ I m' ρ2, bk := Ω.nx }) ∧ (c = false → Ω.nx ρ')) : WS (tWhile tt ts) ρ Ω := fun bn β σ H E b r q => by
  refine ⟨fun m σ' H' => ∃ ρ', ExB β H H' ∧ BagOk bn β H' ∧ RepO β H' σ' ρ' ∧ I m ρ', ⟨m, ρ, .refl H, b, r, h0⟩, ?_⟩
  rintro m σ' H' ⟨ρ', e, b', r', hi⟩
  refine hs m ρ' hi bn β σ' H' _ b' r' fun c H1 e1 b1 ⟨k1, k2⟩ => ?_
  have e2 := e.trans e1
  cases c with
  | true =>
    refine iteT ⟨fun σ2 H2 => ∃ m', m' < m ∧ ∃ ρ2, ExB β H H2 ∧ BagOk bn β H2 ∧ RepO β H2 σ2 ρ2 ∧ I m' ρ2, fun σ2 H2 z => z, ?_⟩
    refine k1 rfl bn β σ' H1 _ b1 (r'.mono e1) ⟨fun σ2 ρ2 H2 e3 b2 r2 ⟨m', hm, hi'⟩ => ⟨m', hm, ρ2, e2.trans e3, b2, r2, hi'⟩, fun v d H2 e3 b2 r2 k => q.rt v d H2 (e2.trans e3) b2 r2 k, fun σ2 ρ2 H2 e3 b2 r2 k => q.nx σ2 ρ2 H2 (e2.trans e3) b2 r2 k, fun σ2 ρ2 H2 e3 b2 r2 ⟨m', hm, hi'⟩ => ⟨m', hm, ρ2, e2.trans e3, b2, r2, hi'⟩⟩
  | false => exact iteF (q.nx σ' ρ' H1 e2 b1 (r'.mono e1) (k2 rfl))
/-- for over a tuple -/
theorem ws_forT {g : TG} (I : Nat → Env → Prop) (h : WE te ρ fun x => ∃ ds, x = .tup ds ∧ I 0 ρ ∧
    (∀ i d ρ', ds[i]? = some d → I i ρ' → WG g d ρ' fun ρ2 => WS ts ρ2 { Ω with nx := I (i + 1), ct := I (i + 1), bk := Ω.nx }) ∧ ∀ ρ', I ds.length ρ' → Ω.nx ρ') : WS (tFor (iTup K te) g ts) ρ Ω := fun bn β σ H E b r q =>
  h bn β σ H _ b r fun v dx H1 e1 b1 r1 ⟨ds, ex, h0, hs, hd⟩ => by
    subst ex
    cases r1 with
    | tup n hh rr =>
      rename_i a xs
      refine ⟨a, rfl, ⟨xs, SqT.of hh⟩, for_tup (xs := xs) (fun i σ' H' => ∃ ρ', ExB β H1 H' ∧ BagOk bn β H' ∧ RepO β H' σ' ρ' ∧ I i ρ') ⟨ρ, .refl H1, b1, r.mono e1, h0⟩ (fun i σ' H' hi ⟨ρ', e, _⟩ => SqT.of (e _ _ n hh)) ?_ ?_⟩
      · rintro i x σ' H' hx ⟨ρ', e, b', r', hi⟩
        obtain ⟨d, hd1, hd2⟩ := rr.got hx
        refine hs i d ρ' hd1 hi bn β σ' H' x _ b' r' (hd2.mono e) fun σ2 ρ2 r2 k => ?_
        have e2 := e1.trans e
        exact k bn β σ2 H' _ b' r2 ⟨fun σ3 ρ3 H3 e3 b3 r3 k3 => ⟨ρ3, e.trans e3, b3, r3, k3⟩, fun v d H3 e3 b3 r3 k3 => q.rt v d H3 (e2.trans e3) b3 r3 k3, fun σ3 ρ3 H3 e3 b3 r3 k3 => q.nx σ3 ρ3 H3 (e2.trans e3) b3 r3 k3, fun σ3 ρ3 H3 e3 b3 r3 k3 => ⟨ρ3, e.trans e3, b3, r3, k3⟩⟩
      · rintro σ' H' ⟨ρ', e, b', r', hi⟩
        exact q.nx σ' ρ' H' (e1.trans e) b' r' (hd ρ' (by rw [← rr.len]; exact hi))
theorem ws_forL {g : TG} (I : Nat → Env → Prop) (h : WE te ρ fun x => ∃ ds, x = .lst ds ∧ I 0 ρ ∧
    (∀ i d ρ', ds[i]? = some d → I i ρ' → WG g d ρ' fun ρ2 => WS ts ρ2 { Ω with nx := I (i + 1), ct := I (i + 1), bk := Ω.nx }) ∧ ∀ ρ', I ds.length ρ' → Ω.nx ρ') : WS (tFor (iList K te) g ts) ρ Ω := fun bn β σ H E b r q =>
  h bn β σ H _ b r fun v dx H1 e1 b1 r1 ⟨ds, ex, h0, hs, hd⟩ => by
    subst ex
    cases r1 with
    | lst n n2 hh rr =>
      rename_i a xs
      refine ⟨a, rfl, ⟨xs, SqL.of hh⟩, for_list (xs := xs) (fun i σ' H' => ∃ ρ', ExB β H1 H' ∧ BagOk bn β H' ∧ RepO β H' σ' ρ' ∧ I i ρ') ⟨ρ, .refl H1, b1, r.mono e1, h0⟩ (fun i σ' H' hi ⟨ρ', e, _⟩ => SqL.of (e _ _ n hh)) ?_ ?_⟩
      · rintro i x σ' H' hx ⟨ρ', e, b', r', hi⟩
        obtain ⟨d, hd1, hd2⟩ := rr.got hx
        refine hs i d ρ' hd1 hi bn β σ' H' x _ b' r' (hd2.mono e) fun σ2 ρ2 r2 k => ?_
        have e2 := e1.trans e
        exact k bn β σ2 H' _ b' r2 ⟨fun σ3 ρ3 H3 e3 b3 r3 k3 => ⟨ρ3, e.trans e3, b3, r3, k3⟩, fun v d H3 e3 b3 r3 k3 => q.rt v d H3 (e2.trans e3) b3 r3 k3, fun σ3 ρ3 H3 e3 b3 r3 k3 => q.nx σ3 ρ3 H3 (e2.trans e3) b3 r3 k3, fun σ3 ρ3 H3 e3 b3 r3 k3 => ⟨ρ3, e.trans e3, b3, r3, k3⟩⟩
      · rintro σ' H' ⟨ρ', e, b', r', hi⟩
        exact q.nx σ' ρ' H' (e1.trans e) b' r' (hd ρ' (by rw [← rr.len]; exact hi))
end
end Nh
set_option Elab.async false
set_option linter.all false
set_option maxRecDepth 100000
set_option maxHeartbeats 1000000
namespace Nh
open PySem PySem.Spec PyProof.Rows L2
/-! rules that the layer lacks -/
section
variable {X : Cx}
def rSubB : R2 := fun x y H Q => ∃ a b : Bool, x = .bl a ∧ y = .bl b ∧ Q (.int ((if a then 1 else 0) - (if b then 1 else 0))) H
theorem gives_subB (a b : Bool) : Gives (Builtin.«int.__sub__» ⟨[.bool a, .bool b], []⟩) (.int ((if a = true then (1 : Int) else 0) - if b = true then (1 : Int) else 0)) :=
  .of_wp fun M A E s Q h => by
    obtain ⟨hp, g, d, tk, os⟩ := s
    wp_walk
    exact ⟨_, rfl, h⟩
theorem op_subB : OpR X (binaryOp .Sub) rSubB := by
  intro pins s σ H x y v u Q I rx ry h
  obtain ⟨a, b, rfl, rfl, q⟩ := h
  cases rx
  cases ry
  exact binaryOp_gives (op := .Sub) (T := "bool") rfl rfl PySem.F.fills_bool_sub PySem.F.slot_bool_sub PySem.F.entry_int_sub (PySem.F.args_int_sub_2 _ _) (gives_subB a b) trivial ⟨.int _, H, I.tok _, ⟨_, rfl⟩, q⟩
def rMin3 : List V → Hp → VK → Prop := fun xs H Q => ∃ a b c : Int, xs = [.int a, .int b, .int c] ∧ Q (.int (min (min a b) c)) H
theorem call_min3 (hc : X.calm = true) : CallR X (.builtin "min") rMin3 := by
  intro pins s σ H xs us Q I r h
  obtain ⟨a, b, c, rfl, q⟩ := h
  refine call_min3Nu hc pins s σ H _ us Q I r ⟨.int a, .int b, .int c, .int (min (min a b) c), rfl, ?_, q⟩
  have h2 : ∀ i j : Int, nuMin2 (.int i) (.int j) = some (.int (min i j)) := fun i j => by
    show some (if decide (j < i) = true then V.int j else V.int i) = _
    by_cases h : j < i
    · rw [if_pos (decide_eq_true h)]
      congr 2
      omega
    · rw [if_neg (by rw [decide_eq_false h]; decide)]
      congr 2
      omega
  unfold nuMin3
  rw [h2]
  exact h2 _ _
theorem get_list : PGet X (rIxL X.K) := by
  intro pins s σ H o i ov iv Q I ro ri h
  obtain ⟨p, xs, j, z, rfl, rfl, hq, he, q⟩ := h
  cases ro
  obtain ⟨t, rfl⟩ := ri
  obtain ⟨its, rv, hl, hz⟩ := I.list hq
  obtain ⟨k, h1, h2, h3, h4, h5⟩ := atI_get he
  obtain ⟨w0, ew, rw0⟩ := rv.get h2
  have hn := line63
  by_cases h0 : 0 ≤ j
  · have hj : j.toNat = k := by
      rw [seqIndex_of h0 h5] at h1
      exact Option.some.inj h1
    exact wpAny_getItem_list hl.isList h0 (by omega) (by rw [hj]; simpa using ew) ⟨z, H, I, rw0, q⟩
  · have hlen := rv.length
    have hj : (j + (its.toArray.size : Int)).toNat = k := by
      rw [seqIndex_neg (by omega) h4] at h1
      rw [List.size_toArray, ← hlen]
      exact Option.some.inj h1
    exact wpAny_getItem_list_neg hl.isList (by omega) (by rw [List.size_toArray, ← hlen]; omega) (by omega) (by rw [hj]; simpa using ew) ⟨z, H, I, rw0, q⟩

/-! tuple * 0, tuple * 1 -/
theorem tuple_mul1 (l : Addr) (items : Array Value) (n : Nat) (e : Option Addr) (sl : Array (Option Value)) (u : Tok) :
    Meets (Builtin.«tuple.__mul__» ⟨[.ref l, .int 1 u], []⟩) (fun _ R s => s.heap.get? l = some ⟨.type "tuple", e, .seq items n, sl⟩ ∧ R (.ok (.ret (.ref l))) s) :=
  .of_wp fun prog w A R s h => by
    obtain ⟨hp, g, d, tk, os⟩ := s
    obtain ⟨hl, h⟩ := h
    have f1 := AutoSeq1.idx_int
    wp_walk using wpAny_loadPart' hl
    exact ⟨_, rfl, h⟩
theorem tuple_mul0 (l : Addr) (items : Array Value) (n : Nat) (e : Option Addr) (sl : Array (Option Value)) (u : Tok) (hi : items.isEmpty = false) :
    Meets (Builtin.«tuple.__mul__» ⟨[.ref l, .int 0 u], []⟩) (fun _ R s => s.heap.get? l = some ⟨.type "tuple", e, .seq items n, sl⟩ ∧
      R (.ok (.ret (.ref s.heap.objs.size))) { s with heap := s.heap.push ⟨.type "tuple", none, .seq #[] 0, #[]⟩, toks := s.toks }) :=
  .of_wp fun prog w A R s h => by
    obtain ⟨hp, g, d, tk, os⟩ := s
    obtain ⟨hl, h⟩ := h
    have f1 := AutoSeq1.idx_int
    wp_walk using wpAny_loadPart' hl
    exact ⟨_, rfl, h⟩
def rRep01 (K : PySem.W.Frag) : R2 := fun x y H Q => ∃ l k xs, x = .ref l ∧ y = .int k ∧ SqT K H l xs ∧ xs ≠ [] ∧ ((k = 1 ∧ Q (.ref l) H) ∨ (k = 0 ∧ ∀ p, H p = none → Q (.ref p) (upd H p (.tup []))))
theorem op_rep01 : OpR X (binaryOp .Mult) (rRep01 X.K) := by
  intro pins s σ H x y v u Q I rx ry h
  obtain ⟨l, k, xs, rfl, rfl, hT, hne, hq⟩ := h
  cases rx
  obtain ⟨t, rfl⟩ := ry
  obtain ⟨its, r, ⟨ob, ho, hc, n, hd⟩, hs⟩ := I.tuple hT
  have ho' : s.heap.get? l = some ⟨.type "tuple", ob.dict, .seq its.toArray n, ob.slots⟩ := by
    rw [ho]
    obtain ⟨c1, c2, c3, c4⟩ := ob
    simp only at hc hd
    subst hc hd
    rfl
  have hi : its.toArray.isEmpty = false := by
    cases its with
    | nil =>
      cases r
      exact absurd rfl hne
    | cons a b => rfl
  rcases hq with ⟨rfl, q⟩ | ⟨rfl, q⟩
  · exact wpAny_binaryOp_repeat_ref (T := "tuple") (U := "int") (by decide) ⟨_, ho', rfl⟩ (fun s' => typeIs_int s' 1 t) noFill_tuple_mul PySem.F.fills_int_mul PySem.F.slot_int_rmul repeat_tuple PySem.F.slot_int_index.lookup
      (call_meets PySem.F.slot_int_rmul (typeIs_int s 1 t) PySem.F.entry_int_rmul (PySem.F.args_int_rmul_2 _ _) (int_rmul_tuple 1 t l its.toArray n _ _)
        ⟨ho', rfl, ⟨_, ho', rfl⟩, call_meets PySem.F.slot_tuple_mul ⟨_, ho', rfl⟩ PySem.F.entry_tuple_mul (PySem.F.args_tuple_mul_2 _ _) (tuple_mul1 l its.toArray n _ _ t) ⟨ho', ⟨.ref l, H, I, rfl, q⟩⟩⟩)
  · refine wpAny_binaryOp_repeat_ref (T := "tuple") (U := "int") (by decide) ⟨_, ho', rfl⟩ (fun s' => typeIs_int s' 0 t) noFill_tuple_mul PySem.F.fills_int_mul PySem.F.slot_int_rmul repeat_tuple PySem.F.slot_int_index.lookup
      (call_meets PySem.F.slot_int_rmul (typeIs_int s 0 t) PySem.F.entry_int_rmul (PySem.F.args_int_rmul_2 _ _) (int_rmul_tuple 0 t l its.toArray n _ _)
        ⟨ho', rfl, ⟨_, ho', rfl⟩, call_meets PySem.F.slot_tuple_mul ⟨_, ho', rfl⟩ PySem.F.entry_tuple_mul (PySem.F.args_tuple_mul_2 _ _) (tuple_mul0 l its.toArray n _ _ t hi) ⟨ho', ?_⟩⟩)
    exact ⟨.ref s.heap.objs.size, upd H s.heap.objs.size (.tup []), I.laid (t' := s.toks) (fun b ob q => Heap.get?_push_of_some _ q) (Nat.le_refl _) ⟨Nat.zero_le _, [], .nil, IsTup.new _ _⟩, rfl, q _ (I.hok.fresh (Nat.le_refl _))⟩
end
section
variable {ρ : Env} {Φ : D → Prop} {ta tb te : TE} {K : PySem.W.Frag}
theorem we_subB (h : WE ta ρ fun x => ∃ a, x = .bl a ∧ WE tb ρ fun y => ∃ b, y = .bl b ∧ Φ (.int ((if a then 1 else 0) - (if b then 1 else 0)))) : WE (tOp rSubB ta tb) ρ Φ :=
  we_op (R := fun x y Φ => ∃ a b : Bool, x = .bl a ∧ y = .bl b ∧ Φ (.int ((if a then 1 else 0) - (if b then 1 else 0)))) (by
    intro bn β H x y dx dy Φ Q bg rx ry ⟨a, b, e1, e2, k⟩ q
    subst e1 e2
    cases rx; cases ry
    exact ⟨a, b, rfl, rfl, here q bg (.int _) k⟩) (h.imp fun x ⟨a, ea, k⟩ => k.imp fun y ⟨b, eb, k⟩ => ⟨a, b, ea, eb, k⟩)
theorem we_min3 {ta : TA} (h : WA ta ρ fun ds => ∃ a b c : Int, ds = [.int a, .int b, .int c] ∧ Φ (.int (min (min a b) c))) : WE (tCB rMin3 ta) ρ Φ :=
  wa_cb (R := fun ds Φ => ∃ a b c : Int, ds = [.int a, .int b, .int c] ∧ Φ (.int (min (min a b) c))) (by
    intro bn β H vs ds Φ Q bg r ⟨a, b, c, e, k⟩ q
    subst e
    cases r with
    | cons r1 r2 =>
      cases r2 with
      | cons r2 r3 =>
        cases r3 with
        | cons r3 r4 =>
          cases r1; cases r2; cases r3; cases r4
          exact ⟨a, b, c, rfl, here q bg (.int _) k⟩) h
theorem we_rep01 (h : WE ta ρ fun x => ∃ as, x = .tup as ∧ as ≠ [] ∧ WE tb ρ fun y => ∃ j : Int, y = .int j ∧ 0 ≤ j ∧ j ≤ 1 ∧ Φ (.tup (if j = 1 then as else []))) : WE (tOp (rRep01 K) ta tb) ρ Φ :=
  we_op (R := fun x y Φ => ∃ as j, x = .tup as ∧ as ≠ [] ∧ y = .int j ∧ 0 ≤ j ∧ j ≤ 1 ∧ Φ (.tup (if j = 1 then as else []))) (by
    intro bn β H x y dx dy Φ Q b rx ry ⟨as, j, e1, hne, e2, h0, h1, k⟩ q
    subst e1 e2
    cases ry
    cases rx with
    | tup na ha rA =>
      refine ⟨_, j, _, rfl, rfl, SqT.of ha, fun z => hne ?_, ?_⟩
      · subst z
        cases rA
        rfl
      · by_cases e : j = 1
        · rw [if_pos e] at k
          exact .inl ⟨e, here q b (.tup na ha rA) k⟩
        · rw [if_neg e] at k
          exact .inr ⟨by omega, fun p hp => here_new q b hp (.tup (b.live hp) upd_same .nil) k⟩) (h.imp fun x ⟨as, ex, hne, k⟩ => k.imp fun y ⟨j, ey, h0, h1, k⟩ => ⟨as, j, ex, hne, ey, h0, h1, k⟩)
end
end Nh
set_option Elab.async false
set_option linter.all false
set_option maxRecDepth 100000
set_option maxHeartbeats 1000000
namespace Nh
open PySem PySem.Spec PyProof.Rows L2

/-! ### promises over typed arguments -/
def spA {ι : Type} (args : ι → List D) (P : ι → Prop) (R : ι → D → Prop) : Sp := fun vs H Q _ => ∃ bn β i, BagOk bn β H ∧ RepL β H vs (args i) ∧ P i ∧ KE_ bn β H (R i) Q
theorem we_callA {ι : Type} {args : ι → List D} {P : ι → Prop} {R : ι → D → Prop} {E : XK} {ta : TA} {ρ : Env} {Φ : D → Prop} (h : WA ta ρ fun ds => ∃ i, ds = args i ∧ P i ∧ ∀ d, R i d → Φ d) :
    WE (tCall (spA args P R) [] E ta) ρ Φ := fun bn β σ H Q b r q =>
  h bn β σ H _ b r fun vs ds H1 e1 b1 r1 ⟨i, ei, hp, k⟩ => ⟨_, β, i, b1, by rw [List.append_nil, ← ei]; exact r1, hp, fun v d H2 e2 b2 r2 p => q v d H2 (e1.trans e2) b2 r2 (k d p)⟩
/-- a def of the text, as it stands -/
structure Df (K : PySem.W.Frag) (mg : Str → Option Value) (x : Str) (st : Stmt) (ps : List Str) (f : Addr) (fd : FuncData) : Prop where
  F : Fun K x x st f fd
  g : mg x = some (.ref f)
  b : Binds K fd ps []
/-- a def that keeps its promise, by its name -/
structure Ok (P : Program) (w : World) (K : PySem.W.Frag) (mg : Str → Option Value) (base : Heap) (k : Nat) (x : Str) (ps : List Str) (sp : Sp) : Prop where
  ex : ∃ f fd, FnOk P w K mg base CX0 k f fd ps sp ∧ mg x = some (.ref f) ∧ PySem.W.keepIn K (.ref f) = true ∧ Binds K fd ps []
section
variable {P : Program} {w : World} {K : PySem.W.Frag} {mg : Str → Option Value} {base : Heap} {k : Nat} {x : Str} {ps N : List Str} {sp : Sp} {st : Stmt} {f : Addr} {fd : FuncData}
theorem mk_ok {ι : Type} {args : ι → List D} {Pre : ι → Prop} {R : ι → D → Prop} (d : Df K mg x st ps f fd) (S : FnScope N ps (defScope st)) (hl : ∀ i, (args i).length = ps.length)
    (body : ∀ (cdv : Value) (A : Around) (outer : List PySem.Env) (s : Shared) (H : Hp) (E : XK), Room k (A.deeper (envOfC x (defScope st) s.heap.objs.size f cdv)) →
      ∃ t, PSs (cxOf CX0 P w K mg base N x (defScope st) f cdv A outer s H E).nox (defBody st) t ∧
        ∀ i, Pre i → WS t ((args i).map some ++ List.replicate (N.length - ps.length) none) { nx := fun _ => R i .non, rt := R i }) :
    Ok P w K mg base (k + 1) x ps (spA args Pre R) := by
  refine ⟨f, fd, d.F.ok S (fun vs H Q E h => ?_) (fun cdv A outer s H vs Q E hr h => ?_), d.g, d.F.kp, d.b⟩
  · obtain ⟨bn, β, i, _, r, _⟩ := h
    rw [r.len, hl]
  · obtain ⟨bn, β, i, b, r, p, q⟩ := h
    obtain ⟨t, ht, hw⟩ := body cdv A outer s H E hr
    refine ⟨t, ht, ?_⟩
    have hn : N.length - vs.length = N.length - ps.length := by rw [r.len, hl]
    refine hw i p bn β (L2.start N vs) H _ b ?_ ⟨fun σ ρ H' e b' r' k => q .non .non H' e b' .non k, fun v d H' e b' r' k => q v d H' e b' r' k, fun σ ρ H' e b' r' k => k.elim, fun σ ρ H' e b' r' k => k.elim⟩
    unfold L2.start
    rw [hn]
    exact RepO.args r (RepO.blank _)
end
section
variable {X : Cx} {k j : Nat} {x : Str} {ps : List Str} {sp : Sp} {p pos : Pos} {e : Expr} {es : List Expr} {t : TA}
theorem pe_ok (C : Ok X.prog X.w X.K X.mg X.base k x ps sp) (hr : Room j X.A) (hg : Gl X x) (ha : PA X (e :: es) t) (hk : k ≤ j := by decide) (hdb : (x == ("__debug__" : Str)) = false := by decide)
    (he : starEach (e :: es) X.env = (false, eval e X.env) :: starEach es X.env := by rfl) (hpl : (backTo pos (starEach es X.env)).any (·.1) = false := by rfl) :
    PE X (.Call (.Name x p) (e :: es) [] pos) (tCall sp [] E0 t) := by
  obtain ⟨f, fd, F, m, kp, b⟩ := C.ex
  exact pe_call F (hr.mono hk) hg m kp b .nil pass0 ha hdb he hpl
theorem pe_ok0 (C : Ok X.prog X.w X.K X.mg X.base k x ps sp) (hr : Room j X.A) (hg : Gl X x) (hk : k ≤ j := by decide) (hdb : (x == ("__debug__" : Str)) = false := by decide) :
    PE X (.Call (.Name x p) [] [] pos) (tCall sp [] E0 tNil) := by
  obtain ⟨f, fd, F, m, kp, b⟩ := C.ex
  exact pe_call0 F (hr.mono hk) hg m kp b .nil pass0 hdb
end

/-! ### no list within -/
mutual
def D.nl : D → Bool
  | .lst _ => false
  | .bag => false
  | .tup ds => D.nlL ds
  | _ => true
def D.nlL : List D → Bool
  | [] => true
  | d :: ds => d.nl && D.nlL ds
end
mutual
theorem Rep.keep {β : Bag} {H : Hp} {p : Addr} {xs ys : List V} (hp : H p = some (.lst xs)) : ∀ {v : V} {d : D}, Rep β H v d → d.nl = true → Rep β (upd H p (.lst ys)) v d
  | _, _, .non, _ => .non
  | _, _, .bl b, _ => .bl b
  | _, _, .int i, _ => .int i
  | _, _, .str s, _ => .str s
  | _, _, .tup n h r, k => .tup n (by rw [upd_ne (ne_of h hp (by intro z; cases z))]; exact h) (RepL.keep hp r (by simpa only [D.nl] using k))
  | _, _, .lst n n2 h r, k => by simp [D.nl] at k
  | _, _, .bag, k => by simp [D.nl] at k
theorem RepL.keep {β : Bag} {H : Hp} {p : Addr} {xs ys : List V} (hp : H p = some (.lst xs)) : ∀ {vs : List V} {ds : List D}, RepL β H vs ds → D.nlL ds = true → RepL β (upd H p (.lst ys)) vs ds
  | _, _, .nil, _ => .nil
  | _, _, .cons r t, k => by
    simp only [D.nlL, Bool.and_eq_true] at k
    exact .cons (Rep.keep hp r k.1) (RepL.keep hp t k.2)
end
theorem RepL.snoc {β : Bag} {H : Hp} {vs : List V} {ds : List D} {v : V} {d : D} (r : RepL β H vs ds) (h : Rep β H v d) : RepL β H (vs ++ [v]) (ds ++ [d]) := r.append (.cons h .nil)
theorem nlL_append : ∀ {a b : List D}, D.nlL a = true → D.nlL b = true → D.nlL (a ++ b) = true
  | [], _, _, h => h
  | d :: ds, b, k, h => by
    simp only [D.nlL, Bool.and_eq_true] at k
    simp only [List.cons_append, D.nlL, Bool.and_eq_true]
    exact ⟨k.1, nlL_append k.2 h⟩
theorem nlL_one {d : D} (h : d.nl = true) : D.nlL [d] = true := by simp only [D.nlL, h, Bool.and_self]
/-- a list that was not there when the others were known -/
theorem RepO.fresh {β : Bag} {H H4 : Hp} {p : Addr} {o : HO} {σ : L2.St} {ρ : Env} (r : RepO β H σ ρ) (hp : H p = none) (e : ExB β H H4) : RepO β (upd H4 p o) σ ρ := r.mono fun a u n h => by
  rw [upd_ne (ne_of_none h hp)]
  exact e a u n h

section
variable {ρ : Env} {Φ : D → Prop} {te : TE}
/-- the block's name forgotten -/
theorem wipe1 (σ : L2.St) (j : Nat) : wipe σ [j] = σ.set j none := rfl
/-- [e for k in range(n)], the elements without lists -/
theorem we_lcR {ta : TA} {j : Nat} (P : D → Prop) (hP : ∀ d, P d → d.nl = true)
    (h : WA ta ρ fun ds => ∃ n : Int, ds = [.int n] ∧ 0 ≤ n ∧ n ≤ 1000 ∧ (∀ i : Int, WE te ((ρ.set j none).set j (some (.int i))) P) ∧ (∀ ds : List D, (ds.length : Int) = n → (∀ d ∈ ds, P d) → Φ (.lst ds))) :
    WE (tLc (iRng1 ta) (gName j) tYes te [j]) ρ Φ := fun bn β σ H Q b r q =>
  h bn β σ H _ b r fun vs ds H1 e1 b1 r1 ⟨n, en, h0, h1, hw, hd⟩ => by
    subst en
    cases r1 with
    | cons r1 r2 =>
      cases r1; cases r2
      refine ⟨n, rfl, by omega, by omega, fun L hL => ?_⟩
      refine lc_range (lo := 0) (n := n.toNat) (fun i H' => ∃ xs ds, ExB β H1 H' ∧ BagOk bn β H' ∧ H' L = some (.lst xs) ∧ RepL β H' xs ds ∧ D.nlL ds = true ∧ (∀ d ∈ ds, P d) ∧ ds.length = i)
        ⟨[], [], .new hL, b1.upd hL, upd_same, .nil, rfl, fun _ z => absurd z List.not_mem_nil, rfl⟩ ?_ ?_
      · rintro i H' hi ⟨xs, ds, e, b', hx, rx, hn, hp, hlen⟩
        show wipe (((σ.set j none).set j _)) [j] = _ ∧ _
        refine ⟨by rw [wipe1, wipe1, List.set_set, List.set_set], ?_⟩
        unfold tYes
        dsimp only
        rw [if_pos rfl]
        have rO : RepO β H' ((σ.set j none).set j (some (.int (0 + (i : Int))))) ((ρ.set j none).set j (some (.int (0 + (i : Int))))) := ((r.mono (e1.trans e)).wipe j).set (.int _) j
        refine hw (0 + (i : Int)) bn β _ H' _ b' rO fun v d H4 e4 b4 r4 k4 => ?_
        have hx4 : H4 L = some (.lst xs) := e4 _ _ (b1.live hL) hx
        refine ⟨xs, hx4, Nat.lt_of_lt_of_le (show xs.length < 1001 by rw [rx.len]; omega) (by decide), xs ++ [v], ds ++ [d], ?_, b4.write (b1.live hL) (b1.live2 hL), upd_same, ?_, nlL_append hn (nlL_one (hP d k4)), ?_, by rw [List.length_append, hlen]; rfl⟩
        · intro a u na ha
          rw [upd_ne (ne_of_none ha hL)]
          exact e4 a u na (e a u na ha)
        · exact ((rx.mono e4).keep hx4 hn).snoc (r4.keep hx4 (hP d k4))
        · intro d' hd'
          rcases List.mem_append.mp hd' with z | z
          · exact hp d' z
          · rw [List.mem_singleton.mp z]
            exact k4
      · rintro H' ⟨xs, ds, e, b', hx, rx, hn, hp, hlen⟩
        exact q _ _ H' (e1.trans e) b' (.lst (b1.live hL) (b1.live2 hL) hx rx) (hd ds (by omega) hp)
theorem RepO.forget {β : Bag} {H : Hp} : ∀ {σ : L2.St} {ρ : Env} (i : Nat), RepO β H σ ρ → RepO β H σ (ρ.set i none)
  | _, _, _, .nil => .nil
  | _, _, 0, .cons _ t => .cons (fun d' e => nomatch e) t
  | _, _, i + 1, .cons r t => .cons r (RepO.forget i t)
theorem RepO.put {β : Bag} {H : Hp} {v : V} {d : D} {σ : L2.St} {ρ : Env} {i : Nat} (h : Rep β H v d) (r : RepO β H σ (ρ.set i none)) : RepO β H (σ.set i (some v)) (ρ.set i (some d)) := by
  have e : ρ.set i (some d) = (ρ.set i none).set i (some d) := by rw [List.set_set]
  rw [e]
  exact r.set h i
/-- names without lists: a list that is none of them may change -/
theorem RepO.keep {β : Bag} {H : Hp} {p : Addr} {xs ys : List V} (hp : H p = some (.lst xs)) {σ : L2.St} {ρ : Env} (r : RepO β H σ ρ) : (∀ (j : Nat) (d : D), ρ[j]? = some (some d) → d.nl = true) → RepO β (upd H p (.lst ys)) σ ρ := by
  induction r with
  | nil => intro _; exact .nil
  | @cons o q σ ρ r0 rt ih => exact fun hz => .cons (fun d hd => let ⟨v, e1, e2⟩ := r0 d hd; ⟨v, e1, e2.keep hp (hz 0 d (by rw [hd]; rfl))⟩) (ih fun j d h => hz (j + 1) d (by simpa using h))
/-- x = [s] * e; if c: x.append(s2) -/
theorem ws_flags {K : PySem.W.Frag} {i : Nat} {s s2 : Str} {tb : TE} {cond : TT} {us : TS} {Ω : EndsD} (hi : i < ρ.length) (hρ : ∀ (j : Nat) (d : D), (ρ.set i none)[j]? = some (some d) → d.nl = true)
    (h : WE tb ρ fun y => ∃ j : Int, y = .int j ∧ 0 ≤ j ∧ j ≤ 1 ∧ WT cond (ρ.set i (some (.lst (if j = 1 then [.str s] else [])))) fun c =>
      WS us (ρ.set i (some (.lst ((if j = 1 then [.str s] else []) ++ if c = true then [.str s2] else [])))) Ω) :
    WS (tSeq (tAsg (tOp rRep (tLst (tCons (tC (.str s)) tNil)) tb) (gName i)) (tSeq (tIfS cond (tDrop (tBM K "list" rAppend (tVar i) (tCons (tC (.str s2)) tNil))) tNext) us)) ρ Ω := fun bn β σ H E b r q => by
  refine ⟨by show 1 ≤ sizeLine; decide, fun p0 hp0 => ?_⟩
  have e0 : ExB β H (upd H p0 (.lst [.str s])) := .new hp0
  refine h bn β σ _ _ (b.upd hp0) (r.mono e0) fun y dy H2 e2 b2 r2 ⟨j, ej, h0, h1, k⟩ => ?_
  subst ej
  cases r2
  have hh0 : H2 p0 = some (.lst [.str s]) := e2 _ _ (b.live hp0) upd_same
  refine ⟨p0, j, [.str s], rfl, rfl, hh0, by omega, by omega, ?_, fun p hp => ?_⟩
  · have h2 : j.toNat ≤ 1 := by omega
    exact Nat.le_trans (Nat.mul_le_mul_left _ h2) (by show 1 * 1 ≤ sizeLine; decide)
  have eH : ExB β H H2 := e0.trans e2
  have hpH : H p = none := by
    cases z : H p with
    | none => rfl
    | some o =>
      have := eH p o (b2.live hp) z
      rw [hp] at this
      cases this
  have ex : (List.replicate j.toNat [V.str s]).flatten = (if j = 1 then [V.str s] else []) := by
    by_cases e : j = 1
    · subst e
      rfl
    · have e0 : j = 0 := by omega
      subst e0
      rfl
  rw [ex]
  have rx : RepL β (upd H2 p (.lst (if j = 1 then [V.str s] else []))) (if j = 1 then [V.str s] else []) (if j = 1 then [D.str s] else []) := by
    by_cases e : j = 1
    · rw [if_pos e, if_pos e]
      exact .cons (.str s) .nil
    · rw [if_neg e, if_neg e]
      exact .nil
  have hsz : (if j = 1 then [V.str s] else []).length ≤ 1 := by
    split
    · exact Nat.le_refl 1
    · exact Nat.zero_le 1
  have hnn : D.nlL (if j = 1 then [D.str s] else []) = true := by split <;> rfl
  have b3 : BagOk bn β (upd H2 p (.lst (if j = 1 then [V.str s] else []))) := b2.upd hp
  have e3 : ExB β H (upd H2 p (.lst (if j = 1 then [V.str s] else []))) := eH.trans (.new hp)
  have rn : RepO β (upd H2 p (.lst (if j = 1 then [V.str s] else []))) σ (ρ.set i none) := (r.mono e3).forget i
  generalize (if j = 1 then [V.str s] else []) = xs at rx hsz b3 e3 rn ⊢
  generalize (if j = 1 then [D.str s] else []) = ds at rx hnn k ⊢
  have hpb : p ≠ β.b := b2.live hp
  have hpl : p ≠ β.l := b2.live2 hp
  have rs : RepO β (upd H2 p (.lst xs)) (σ.set i (some (.ref p))) (ρ.set i (some (.lst ds))) := rn.put (.lst hpb hpl upd_same rx)
  show tSeq (tIfS cond (tDrop (tBM K "list" rAppend (tVar i) (tCons (tC (.str s2)) tNil))) tNext) us E (σ.set i (some (.ref p))) (upd H2 p (.lst xs))
  refine k bn β _ _ _ b3 rs fun c H4 e4 b4 kk => ?_
  have e5 : ExB β H H4 := e3.trans e4
  cases c with
  | false =>
    refine iteF ?_
    have q2 := q.mono e5
    refine kk bn β _ H4 E b4 ?_ q2
    rw [if_neg Bool.false_ne_true, List.append_nil]
    exact rs.mono e4
  | true =>
    refine iteT ?_
    have h4 : H4 p = some (.lst xs) := e4 _ _ hpb upd_same
    have hil : i < σ.length := by
      have hl : ∀ {σ : L2.St} {ρ : Env}, RepO β H σ ρ → σ.length = ρ.length := fun r => by
        induction r with
        | nil => rfl
        | cons _ _ ih => rw [List.length_cons, List.length_cons, ih]
      rw [hl r]
      exact hi
    refine ⟨.ref p, List.getElem?_set_self hil, .inl ⟨rfl, xs, SqL.of h4⟩, p, xs, .str s2, rfl, rfl, h4, Nat.lt_of_le_of_lt hsz (by decide), ?_⟩
    have e6 : ExB β H (upd H4 p (.lst (xs ++ [.str s2]))) := fun a o na ha => by
      rw [upd_ne (ne_of_none ha hpH)]
      exact e5 a o na ha
    refine kk bn β _ _ E (b4.write hpb hpl) ?_ (q.mono e6)
    rw [if_pos rfl]
    have r7 : RepO β (upd H4 p (.lst (xs ++ [.str s2]))) (σ.set i (some (.ref p))) (ρ.set i none) := by
      have := ((rs.mono e4).forget i).keep h4 (ys := xs ++ [.str s2]) (by
        rw [List.set_set]
        exact hρ)
      rwa [List.set_set] at this
    have r8 := r7.put (i := i) (.lst hpb hpl upd_same (((rx.mono e4).keep h4 hnn).snoc (.str s2)))
    rwa [List.set_set] at r8
end
end Nh
set_option Elab.async false
set_option linter.all false
set_option maxRecDepth 100000
set_option maxHeartbeats 1000000
namespace Nh
open PySem PySem.Spec PyProof.Rows L2
/-! the operators by names -/
section
variable {X : Cx} {ρ : Env} {Φ : D → Prop} {ta tb te : TE} {K : PySem.W.Frag}

def rAddI : R2 := rI0 fun i j => .int (i + j)
theorem oAddI : OpR X (binaryOp .Add) rAddI := op_add
theorem wAddI (h : WE ta ρ fun x => ∃ i, x = .int i ∧ WE tb ρ fun y => ∃ j, y = .int j ∧ Φ (.int (i + j))) : WE (tOp rAddI ta tb) ρ Φ := we_add h
def rSubI : R2 := rI0 fun i j => .int (i - j)
theorem oSubI : OpR X (binaryOp .Sub) rSubI := op_sub
theorem wSubI (h : WE ta ρ fun x => ∃ i, x = .int i ∧ WE tb ρ fun y => ∃ j, y = .int j ∧ Φ (.int (i - j))) : WE (tOp rSubI ta tb) ρ Φ := we_sub h
def rMulI : R2 := rI CMulW fun i j => .int (i * j)
theorem oMulI : OpR X (binaryOp .Mult) rMulI := op_mulW
theorem wMulI (h : WE ta ρ fun x => ∃ i, x = .int i ∧ WE tb ρ fun y => ∃ j, y = .int j ∧ CMulW i j ∧ Φ (.int (i * j))) : WE (tOp rMulI ta tb) ρ Φ := we_mul h
def rDivI : R2 := rI CDivW fun i j => .int (i / j)
theorem oDivI : OpR X (binaryOp .FloorDiv) rDivI := op_fdivW
theorem wDivI (h : WE ta ρ fun x => ∃ i, x = .int i ∧ WE tb ρ fun y => ∃ j, y = .int j ∧ CDivW i j ∧ Φ (.int (i / j))) : WE (tOp rDivI ta tb) ρ Φ := we_div h
def rModI : R2 := rI (fun _ j => 0 < j) fun i j => .int (i % j)
theorem oModI : OpR X (binaryOp .Mod) rModI := op_mod
theorem wModI (h : WE ta ρ fun x => ∃ i, x = .int i ∧ WE tb ρ fun y => ∃ j, y = .int j ∧ 0 < j ∧ Φ (.int (i % j))) : WE (tOp rModI ta tb) ρ Φ := we_mod h
def rPowI : R2 := rI CPow fun i j => .int (i ^ j.toNat)
theorem oPowI : OpR X (binaryOp .Pow) rPowI := op_pow
theorem wPowI (h : WE ta ρ fun x => ∃ i, x = .int i ∧ WE tb ρ fun y => ∃ j, y = .int j ∧ CPow i j ∧ Φ (.int (i ^ j.toNat))) : WE (tOp rPowI ta tb) ρ Φ := we_pow h
def rLtI : R2 := rI0 fun i j => .bl (decide (i < j))
theorem oLtI : OpR X (compareOp .Lt) rLtI := op_lt
theorem wLtI (h : WE ta ρ fun x => ∃ i, x = .int i ∧ WE tb ρ fun y => ∃ j, y = .int j ∧ Φ (.bl (decide (i < j)))) : WE (tOp rLtI ta tb) ρ Φ := we_lt h
def rLeI : R2 := rI0 fun i j => .bl (decide (i ≤ j))
theorem oLeI : OpR X (compareOp .LtE) rLeI := op_le
theorem wLeI (h : WE ta ρ fun x => ∃ i, x = .int i ∧ WE tb ρ fun y => ∃ j, y = .int j ∧ Φ (.bl (decide (i ≤ j)))) : WE (tOp rLeI ta tb) ρ Φ := we_le h
def rGtI : R2 := rI0 fun i j => .bl (decide (j < i))
theorem oGtI : OpR X (compareOp .Gt) rGtI := op_gt
theorem wGtI (h : WE ta ρ fun x => ∃ i, x = .int i ∧ WE tb ρ fun y => ∃ j, y = .int j ∧ Φ (.bl (decide (j < i)))) : WE (tOp rGtI ta tb) ρ Φ := we_gt h
def rGeI : R2 := rI0 fun i j => .bl (decide (j ≤ i))
theorem oGeI : OpR X (compareOp .GtE) rGeI := op_ge
theorem wGeI (h : WE ta ρ fun x => ∃ i, x = .int i ∧ WE tb ρ fun y => ∃ j, y = .int j ∧ Φ (.bl (decide (j ≤ i)))) : WE (tOp rGeI ta tb) ρ Φ := we_ge h
def rNegI : V → Hp → VK → Prop := rU fun i => .int (-i)
theorem oNegI : UnR X (unaryOp .USub) rNegI := un_neg
theorem wNegI (h : WE ta ρ fun x => ∃ i, x = .int i ∧ Φ (.int (-i))) : WE (tUn rNegI ta) ρ Φ := we_neg h
def rIs0 : R2 := fun x y H Q => y = .non ∧ Q (.bl (decide (x = .non))) H
theorem oIs0 : OpR X (compareOp .Is) rIs0 := op_isN
def rNot0 : R2 := fun x y H Q => y = .non ∧ Q (.bl (!decide (x = .non))) H
theorem oNot0 : OpR X (compareOp .IsNot) rNot0 := op_notN
theorem wIs0 (h : WE ta ρ fun x => ∃ b : Bool, ((b = true ∧ x = .non) ∨ (b = false ∧ x ≠ .non)) ∧ Φ (.bl b)) : WE (tOp rIs0 ta (tC .non)) ρ Φ := we_isN rfl h
theorem wNot0 (h : WE ta ρ fun x => ∃ b : Bool, ((b = true ∧ x = .non) ∨ (b = false ∧ x ≠ .non)) ∧ Φ (.bl (!b))) : WE (tOp rNot0 ta (tC .non)) ρ Φ := we_notN rfl h
def rAbs : List V → Hp → VK → Prop := fun xs H Q => ∃ i, xs = [.int i] ∧ Q (.int (if i < 0 then -i else i)) H
theorem cAbs : CallR X (.builtin "abs") rAbs := call_abs
theorem wAbs {ta : TA} (h : WA ta ρ fun ds => ∃ i, ds = [.int i] ∧ Φ (.int (if i < 0 then -i else i))) : WE (tCB rAbs ta) ρ Φ := we_abs h
def rMax2 : List V → Hp → VK → Prop := fun xs H Q => ∃ i j, xs = [.int i, .int j] ∧ Q (.int (if j > i then j else i)) H
theorem cMax2 (hc : X.calm = true) : CallR X (.builtin "max") rMax2 := call_max2 hc
theorem wMax2 {ta : TA} (h : WA ta ρ fun ds => ∃ i j, ds = [.int i, .int j] ∧ Φ (.int (if j > i then j else i))) : WE (tCB rMax2 ta) ρ Φ := we_max2 h
def rMin2 : List V → Hp → VK → Prop := fun xs H Q => ∃ i j, xs = [.int i, .int j] ∧ Q (.int (if j < i then j else i)) H
theorem cMin2 (hc : X.calm = true) : CallR X (.builtin "min") rMin2 := call_min2 hc
theorem wMin2 {ta : TA} (h : WA ta ρ fun ds => ∃ i j, ds = [.int i, .int j] ∧ Φ (.int (if j < i then j else i))) : WE (tCB rMin2 ta) ρ Φ := we_min2 h
def rInt1 : List V → Hp → VK → Prop := fun xs H Q => (∃ i, xs = [.int i] ∧ Q (.int i) H) ∨ ∃ k, xs = [.bl k] ∧ Q (.int (if k then 1 else 0)) H
theorem cInt1 : CallR X (.type "int") rInt1 := call_int1
theorem wInt1 {ta : TA} (h : WA ta ρ fun ds => IntOf ds Φ) : WE (tCB rInt1 ta) ρ Φ := we_int1 h
def rLenL (K : PySem.W.Frag) : List V → Hp → VK → Prop := fun xs H Q => ∃ p ys, xs = [.ref p] ∧ (SqL K H p ys ∨ SqT K H p ys) ∧ Q (.int ys.length) H
theorem cLenL : CallR X (.builtin "len") (rLenL X.K) := call_len_seq
theorem wLenL {ta : TA} (h : WA ta ρ fun ds => ∃ es, ds = [.lst es] ∧ Φ (.int (es.length : Int))) : WE (tCB (rLenL K) ta) ρ Φ := we_len h
def rTupL (K : PySem.W.Frag) : List V → Hp → VK → Prop := fun xs H Q => ∃ p ys, xs = [.ref p] ∧ ((SqL K H p ys ∧ ∀ l, H l = none → Q (.ref l) (upd H l (.tup ys))) ∨ (SqT K H p ys ∧ Q (.ref p) H))
theorem cTupL : CallR X (.type "tuple") (rTupL X.K) := call_tuple_of
theorem wTupL {ta : TA} (h : WA ta ρ fun ds => ∃ es, ds = [.lst es] ∧ Φ (.tup es)) : WE (tCB (rTupL K) ta) ρ Φ := we_tupleL h
theorem wChain {tc : TE} (h : WE ta ρ fun x => ∃ i, x = .int i ∧ WE tb ρ fun y => ∃ j, y = .int j ∧ (i < j → WE tc ρ fun z => ∃ k, z = .int k ∧ Φ (.bl (decide (j < k)))) ∧ (¬ i < j → Φ (.bl false))) :
    WE (tChain rLtI rLtI ta tb tc) ρ Φ := we_chain h
theorem we_nm {i : Nat} (h : ∃ d, ρ[i]? = some (some d) ∧ Φ d) : WE (tVar i) ρ Φ := let ⟨_, e, k⟩ := h; we_var e k
end
end Nh
set_option Elab.async false
set_option linter.all false
namespace Nh
open PySem PySem.Spec PyProof.Rows L2
def topS (i : Nat) : Stmt := PySem.Challenge.pw_nearestheld_k11_whole_integers_there_and.main.body.getD i (.Pass ⟨0, 0, 0, 0⟩)
/-- the digits' limit stands as it stood -/
def LimOk (K : PySem.W.Frag) : Prop := PySem.W.nsIn K cStatics "sys.int_max_str_digits" = some none
end Nh
set_option Elab.async false
set_option linter.all false
set_option maxRecDepth 100000
set_option maxHeartbeats 4000000
namespace Nh
open PySem PySem.Spec PyProof.Rows L2

abbrev N_whole_power : List Str := ["base", "e", "found"]
abbrev P_whole_power : List Str := ["base", "e"]
theorem sc_whole_power : FnScope N_whole_power P_whole_power (defScope (topS 2)) := ⟨rfl, rfl, rfl, by decide +kernel, rfl, by decide +kernel, by decide +kernel⟩
def t_whole_power (K : PySem.W.Frag) : TS := (tSeq (tAsg (tC (.int 1)) (gName 2))
 (tSeq (tWhile (tTest (tOp rGtI (tVar 1) (tC (.int 0)))) (tSeq (tIfS (tTest (tOp rEq (tOp rModI (tVar 1) (tC (.int 2))) (tC (.int 1)))) (tAsg (tOp rMulI (tVar 2) (tVar 0)) (gName 2)) tNext)
 (tPar 0 1 (tCons (tOp rMulI (tVar 0) (tVar 0)) (tCons (tOp rDivI (tVar 1) (tC (.int 2))) tNil)))))
 (tRet (tVar 2))))
theorem dv_whole_power {P : Program} {w : World} {K : PySem.W.Frag} {mg : Str → Option Value} {base : Heap} {f : Addr} {cdv : Value} {A : Around} {outer : List PySem.Env} {s : Shared} {H : Hp} {E : XK}
    (hr : Room 0 (A.deeper (envOfC "whole_power" (defScope (topS 2)) s.heap.objs.size f cdv))) :
    PSs (cxOf CX0 P w K mg base N_whole_power "whole_power" (defScope (topS 2)) f cdv A outer s H E).nox (defBody (topS 2)) (t_whole_power K) :=
 (pss_cons (ps_set (i := 2) sc_whole_power.nd rfl (.inl rfl) pe_int)
 (pss_cons (ps_while PassesOwn.never (pt_cmpR oGtI (pv 1) pe_int (nomark _)) (pss_cons (ps_if (pt_cmpR op_eq (pe_op oModI (pv 1) pe_int) pe_int (nomark _)) (pss_one (ps_set (i := 2) sc_whole_power.nd rfl (.inl rfl) (pe_op oMulI (pv 2) (pv 0)))) pss_nil)
 (pss_one (ps_par (i := 0) (j := 1) (by rfl) sc_whole_power.nd rfl rfl (by decide) rfl rfl (pa_cons (pe_op oMulI (pv 0) (pv 0)) (pa_cons (pe_op oDivI (pv 1) pe_int) pa_nil)) (by rfl)))))
 (pss_one (ps_ret (pv 2)))))
abbrev N_reduced : List Str := ["n", "d", "common"]
abbrev P_reduced : List Str := ["n", "d"]
theorem sc_reduced : FnScope N_reduced P_reduced (defScope (topS 4)) := ⟨rfl, rfl, rfl, by decide +kernel, rfl, by decide +kernel, by decide +kernel⟩
def t_reduced (K : PySem.W.Frag) : TS := (tSeq (tAsg (tIf (tTest (tOp rGtI (tVar 1) (tC (.int 0)))) (tCB rGcd (tCons (tVar 0) (tCons (tVar 1) tNil))) (tUn rNegI (tCB rGcd (tCons (tVar 0) (tCons (tVar 1) tNil))))) (gName 2))
 (tRet (tTup (tCons (tOp rDivI (tVar 0) (tVar 2)) (tCons (tOp rDivI (tVar 1) (tVar 2)) tNil)))))
theorem dv_reduced {P : Program} {w : World} {K : PySem.W.Frag} {mg : Str → Option Value} {base : Heap} {f : Addr} {cdv : Value} {A : Around} {outer : List PySem.Env} {s : Shared} {H : Hp} {E : XK}
    (hr : Room 0 (A.deeper (envOfC "reduced" (defScope (topS 4)) s.heap.objs.size f cdv))) (m_gcd : mg "gcd" = some (.builtin "math.gcd")) :
    PSs (cxOf CX0 P w K mg base N_reduced "reduced" (defScope (topS 4)) f cdv A outer s H E).nox (defBody (topS 4)) (t_reduced K) :=
 (pss_cons (ps_set (i := 2) sc_reduced.nd rfl (.inl rfl) (pe_ifExp (pt_cmpR oGtI (pv 1) pe_int (nomark _)) (pe_callBfun cr_gcd (by rfl) m_gcd (pa_cons (pv 0) (pa_cons (pv 1) pa_nil))) (pe_un oNegI (pe_callBfun cr_gcd (by rfl) m_gcd (pa_cons (pv 0) (pa_cons (pv 1) pa_nil))))))
 (pss_one (ps_ret (pe_tup (pa_cons (pe_op oDivI (pv 0) (pv 2)) (pa_cons (pe_op oDivI (pv 1) (pv 2)) pa_nil))))))
abbrev N_floor_of : List Str := ["one"]
abbrev P_floor_of : List Str := ["one"]
theorem sc_floor_of : FnScope N_floor_of P_floor_of (defScope (topS 5)) := ⟨rfl, rfl, rfl, by decide +kernel, rfl, by decide +kernel, by decide +kernel⟩
def t_floor_of (K : PySem.W.Frag) : TS := (tRet (tOp rDivI (tOp (rIxT K) (tVar 0) (tC (.int 0))) (tOp (rIxT K) (tVar 0) (tC (.int 1)))))
theorem dv_floor_of {P : Program} {w : World} {K : PySem.W.Frag} {mg : Str → Option Value} {base : Heap} {f : Addr} {cdv : Value} {A : Around} {outer : List PySem.Env} {s : Shared} {H : Hp} {E : XK}
    (hr : Room 0 (A.deeper (envOfC "floor_of" (defScope (topS 5)) s.heap.objs.size f cdv))) :
    PSs (cxOf CX0 P w K mg base N_floor_of "floor_of" (defScope (topS 5)) f cdv A outer s H E).nox (defBody (topS 5)) (t_floor_of K) :=
 (pss_one (ps_ret (pe_op oDivI (pe_ix ix_tup (pv 0) pe_int (fun _ _ => rfl)) (pe_ix ix_tup (pv 0) pe_int (fun _ _ => rfl)))))
abbrev N_ceiling_of : List Str := ["one"]
abbrev P_ceiling_of : List Str := ["one"]
theorem sc_ceiling_of : FnScope N_ceiling_of P_ceiling_of (defScope (topS 6)) := ⟨rfl, rfl, rfl, by decide +kernel, rfl, by decide +kernel, by decide +kernel⟩
def t_ceiling_of (K : PySem.W.Frag) : TS := (tRet (tUn rNegI (tOp rDivI (tUn rNegI (tOp (rIxT K) (tVar 0) (tC (.int 0)))) (tOp (rIxT K) (tVar 0) (tC (.int 1))))))
theorem dv_ceiling_of {P : Program} {w : World} {K : PySem.W.Frag} {mg : Str → Option Value} {base : Heap} {f : Addr} {cdv : Value} {A : Around} {outer : List PySem.Env} {s : Shared} {H : Hp} {E : XK}
    (hr : Room 0 (A.deeper (envOfC "ceiling_of" (defScope (topS 6)) s.heap.objs.size f cdv))) :
    PSs (cxOf CX0 P w K mg base N_ceiling_of "ceiling_of" (defScope (topS 6)) f cdv A outer s H E).nox (defBody (topS 6)) (t_ceiling_of K) :=
 (pss_one (ps_ret (pe_un oNegI (pe_op oDivI (pe_un oNegI (pe_ix ix_tup (pv 0) pe_int (fun _ _ => rfl))) (pe_ix ix_tup (pv 0) pe_int (fun _ _ => rfl))))))
abbrev N_nearer_integer : List Str := ["way", "one", "low", "twice"]
abbrev P_nearer_integer : List Str := ["way", "one", "low"]
theorem sc_nearer_integer : FnScope N_nearer_integer P_nearer_integer (defScope (topS 7)) := ⟨rfl, rfl, rfl, by decide +kernel, rfl, by decide +kernel, by decide +kernel⟩
def t_nearer_integer (K : PySem.W.Frag) : TS := (tSeq (tAsg (tOp rMulI (tC (.int 2)) (tOp rSubI (tOp (rIxT K) (tVar 1) (tC (.int 0))) (tOp rMulI (tVar 2) (tOp (rIxT K) (tVar 1) (tC (.int 1)))))) (gName 3))
 (tSeq (tIfS (tTest (tOp rNe (tVar 3) (tOp (rIxT K) (tVar 1) (tC (.int 1))))) (tRet (tOp rAddI (tVar 2) (tCB rInt1 (tCons (tOp rGtI (tVar 3) (tOp (rIxT K) (tVar 1) (tC (.int 1)))) tNil)))) tNext)
 (tSeq (tIfS (tTest (tOp rEq (tVar 0) (tC (.str "even")))) (tRet (tOp rAddI (tVar 2) (tOp rModI (tVar 2) (tC (.int 2))))) tNext)
 (tRet (tOp rAddI (tVar 2) (tCB rInt1 (tCons (tOp rGtI (tOp (rIxT K) (tVar 1) (tC (.int 0))) (tC (.int 0))) tNil)))))))
theorem dv_nearer_integer {P : Program} {w : World} {K : PySem.W.Frag} {mg : Str → Option Value} {base : Heap} {f : Addr} {cdv : Value} {A : Around} {outer : List PySem.Env} {s : Shared} {H : Hp} {E : XK}
    (hr : Room 0 (A.deeper (envOfC "nearer_integer" (defScope (topS 7)) s.heap.objs.size f cdv))) (m_int : mg "int" = none) :
    PSs (cxOf CX0 P w K mg base N_nearer_integer "nearer_integer" (defScope (topS 7)) f cdv A outer s H E).nox (defBody (topS 7)) (t_nearer_integer K) :=
 (pss_cons (ps_set (i := 3) sc_nearer_integer.nd rfl (.inl rfl) (pe_op oMulI pe_int (pe_op oSubI (pe_ix ix_tup (pv 1) pe_int (fun _ _ => rfl)) (pe_op oMulI (pv 2) (pe_ix ix_tup (pv 1) pe_int (fun _ _ => rfl))))))
 (pss_cons (ps_if (pt_cmpR op_ne (pv 3) (pe_ix ix_tup (pv 1) pe_int (fun _ _ => rfl)) (nomark _)) (pss_one (ps_ret (pe_op oAddI (pv 2) (pe_callTy cInt1 (by rfl) m_int (by decide +kernel) (pa_cons (pe_cmpR oGtI (pv 3) (pe_ix ix_tup (pv 1) pe_int (fun _ _ => rfl)) (nomark _)) pa_nil))))) pss_nil)
 (pss_cons (ps_if (pt_cmpR op_eq (pv 0) pe_str (nomark _)) (pss_one (ps_ret (pe_op oAddI (pv 2) (pe_op oModI (pv 2) pe_int)))) pss_nil)
 (pss_one (ps_ret (pe_op oAddI (pv 2) (pe_callTy cInt1 (by rfl) m_int (by decide +kernel) (pa_cons (pe_cmpR oGtI (pe_ix ix_tup (pv 1) pe_int (fun _ _ => rfl)) pe_int (nomark _)) pa_nil))))))))
abbrev N_nearest_integer : List Str := ["way", "one", "low", "high"]
abbrev P_nearest_integer : List Str := ["way", "one"]
theorem sc_nearest_integer : FnScope N_nearest_integer P_nearest_integer (defScope (topS 8)) := ⟨rfl, rfl, rfl, by decide +kernel, rfl, by decide +kernel, by decide +kernel⟩
def t_nearest_integer (K : PySem.W.Frag) (s_ceiling_of s_floor_of s_nearer_integer : Sp) : TS := (tSeq (tPar 2 3 (tCons (tCall s_floor_of [] E0 (tCons (tVar 1) tNil)) (tCons (tCall s_ceiling_of [] E0 (tCons (tVar 1) tNil)) tNil)))
 (tSeq (tIfS (tOr (tTest (tOp rEq (tVar 0) (tC (.str "down")))) (tTest (tOp rEq (tVar 2) (tVar 3)))) (tRet (tVar 2)) tNext)
 (tSeq (tIfS (tTest (tOp rEq (tVar 0) (tC (.str "up")))) (tRet (tVar 3)) tNext)
 (tSeq (tIfS (tTest (tOp rEq (tVar 0) (tC (.str "zero")))) (tRet (tIf (tTest (tOp rGtI (tOp (rIxT K) (tVar 1) (tC (.int 0))) (tC (.int 0)))) (tVar 2) (tVar 3))) tNext)
 (tRet (tCall s_nearer_integer [] E0 (tCons (tVar 0) (tCons (tVar 1) (tCons (tVar 2) tNil)))))))))
theorem dv_nearest_integer {P : Program} {w : World} {K : PySem.W.Frag} {mg : Str → Option Value} {base : Heap} {f : Addr} {cdv : Value} {A : Around} {outer : List PySem.Env} {s : Shared} {H : Hp} {E : XK} {s_ceiling_of s_floor_of s_nearer_integer : Sp}
    (hr : Room 1 (A.deeper (envOfC "nearest_integer" (defScope (topS 8)) s.heap.objs.size f cdv))) (c_ceiling_of : Ok P w K mg base 1 "ceiling_of" P_ceiling_of s_ceiling_of) (c_floor_of : Ok P w K mg base 1 "floor_of" P_floor_of s_floor_of) (c_nearer_integer : Ok P w K mg base 1 "nearer_integer" P_nearer_integer s_nearer_integer) :
    PSs (cxOf CX0 P w K mg base N_nearest_integer "nearest_integer" (defScope (topS 8)) f cdv A outer s H E).nox (defBody (topS 8)) (t_nearest_integer K s_ceiling_of s_floor_of s_nearer_integer) :=
 (pss_cons (ps_par (i := 2) (j := 3) (by rfl) sc_nearest_integer.nd rfl rfl (by decide) rfl rfl (pa_cons (pe_ok c_floor_of hr (by rfl) (pa_cons (pv 1) pa_nil)) (pa_cons (pe_ok c_ceiling_of hr (by rfl) (pa_cons (pv 1) pa_nil)) pa_nil)) (by rfl))
 (pss_cons (ps_if (PW.pt (pw_or (pt_cmpR op_eq (pv 0) pe_str (nomark _)) (pw_or1 (pt_cmpR op_eq (pv 2) (pv 3) (nomark _))))) (pss_one (ps_ret (pv 2))) pss_nil)
 (pss_cons (ps_if (pt_cmpR op_eq (pv 0) pe_str (nomark _)) (pss_one (ps_ret (pv 3))) pss_nil)
 (pss_cons (ps_if (pt_cmpR op_eq (pv 0) pe_str (nomark _)) (pss_one (ps_ret (pe_ifExp (pt_cmpR oGtI (pe_ix ix_tup (pv 1) pe_int (fun _ _ => rfl)) pe_int (nomark _)) (pv 2) (pv 3)))) pss_nil)
 (pss_one (ps_ret (pe_ok c_nearer_integer hr (by rfl) (pa_cons (pv 0) (pa_cons (pv 1) (pa_cons (pv 2) pa_nil))))))))))
abbrev N_is_power_below : List Str := ["base", "k", "x"]
abbrev P_is_power_below : List Str := ["base", "k", "x"]
theorem sc_is_power_below : FnScope N_is_power_below P_is_power_below (defScope (topS 10)) := ⟨rfl, rfl, rfl, by decide +kernel, rfl, by decide +kernel, by decide +kernel⟩
def t_is_power_below (K : PySem.W.Frag) (s_whole_power : Sp) : TS := (tSeq (tIfS (tTest (tOp rLtI (tVar 1) (tC (.int 0)))) (tRet (tOp rLeI (tOp (rIxT K) (tVar 2) (tC (.int 1))) (tOp rMulI (tOp (rIxT K) (tVar 2) (tC (.int 0))) (tCall s_whole_power [] E0 (tCons (tVar 0) (tCons (tOp rSubI (tC (.int 0)) (tVar 1)) tNil)))))) tNext)
 (tRet (tOp rLeI (tOp rMulI (tCall s_whole_power [] E0 (tCons (tVar 0) (tCons (tVar 1) tNil))) (tOp (rIxT K) (tVar 2) (tC (.int 1)))) (tOp (rIxT K) (tVar 2) (tC (.int 0))))))
theorem dv_is_power_below {P : Program} {w : World} {K : PySem.W.Frag} {mg : Str → Option Value} {base : Heap} {f : Addr} {cdv : Value} {A : Around} {outer : List PySem.Env} {s : Shared} {H : Hp} {E : XK} {s_whole_power : Sp}
    (hr : Room 1 (A.deeper (envOfC "is_power_below" (defScope (topS 10)) s.heap.objs.size f cdv))) (c_whole_power : Ok P w K mg base 1 "whole_power" P_whole_power s_whole_power) :
    PSs (cxOf CX0 P w K mg base N_is_power_below "is_power_below" (defScope (topS 10)) f cdv A outer s H E).nox (defBody (topS 10)) (t_is_power_below K s_whole_power) :=
 (pss_cons (ps_if (pt_cmpR oLtI (pv 1) pe_int (nomark _)) (pss_one (ps_ret (pe_cmpR oLeI (pe_ix ix_tup (pv 2) pe_int (fun _ _ => rfl)) (pe_op oMulI (pe_ix ix_tup (pv 2) pe_int (fun _ _ => rfl)) (pe_ok c_whole_power hr (by rfl) (pa_cons (pv 0) (pa_cons (pe_op oSubI pe_int (pv 1)) pa_nil)))) (nomark _)))) pss_nil)
 (pss_one (ps_ret (pe_cmpR oLeI (pe_op oMulI (pe_ok c_whole_power hr (by rfl) (pa_cons (pv 0) (pa_cons (pv 1) pa_nil))) (pe_ix ix_tup (pv 2) pe_int (fun _ _ => rfl))) (pe_ix ix_tup (pv 2) pe_int (fun _ _ => rfl)) (nomark _)))))
abbrev N_power_below : List Str := ["base", "x", "step", "least", "most", "middle"]
abbrev P_power_below : List Str := ["base", "x"]
theorem sc_power_below : FnScope N_power_below P_power_below (defScope (topS 11)) := ⟨rfl, rfl, rfl, by decide +kernel, rfl, by decide +kernel, by decide +kernel⟩
def t_power_below (K : PySem.W.Frag) (s_is_power_below : Sp) : TS := (tSeq (tAsg (tC (.int 1)) (gName 2))
 (tSeq (tWhile (tOr (tB (tCall s_is_power_below [] E0 (tCons (tVar 0) (tCons (tVar 2) (tCons (tVar 1) tNil))))) (tNot (tB (tCall s_is_power_below [] E0 (tCons (tVar 0) (tCons (tOp rSubI (tC (.int 0)) (tVar 2)) (tCons (tVar 1) tNil))))))) (tAsg (tOp rMulI (tC (.int 2)) (tVar 2)) (gName 2)))
 (tSeq (tPar 3 4 (tCons (tOp rSubI (tC (.int 0)) (tVar 2)) (tCons (tVar 2) tNil)))
 (tSeq (tWhile (tTest (tOp rGtI (tOp rSubI (tVar 4) (tVar 3)) (tC (.int 1)))) (tSeq (tAsg (tOp rDivI (tOp rAddI (tVar 3) (tVar 4)) (tC (.int 2))) (gName 5))
 (tIfS (tB (tCall s_is_power_below [] E0 (tCons (tVar 0) (tCons (tVar 5) (tCons (tVar 1) tNil))))) (tAsg (tVar 5) (gName 3)) (tAsg (tVar 5) (gName 4)))))
 (tRet (tVar 3))))))
theorem dv_power_below {P : Program} {w : World} {K : PySem.W.Frag} {mg : Str → Option Value} {base : Heap} {f : Addr} {cdv : Value} {A : Around} {outer : List PySem.Env} {s : Shared} {H : Hp} {E : XK} {s_is_power_below : Sp}
    (hr : Room 2 (A.deeper (envOfC "power_below" (defScope (topS 11)) s.heap.objs.size f cdv))) (c_is_power_below : Ok P w K mg base 2 "is_power_below" P_is_power_below s_is_power_below) :
    PSs (cxOf CX0 P w K mg base N_power_below "power_below" (defScope (topS 11)) f cdv A outer s H E).nox (defBody (topS 11)) (t_power_below K s_is_power_below) :=
 (pss_cons (ps_set (i := 2) sc_power_below.nd rfl (.inl rfl) pe_int)
 (pss_cons (ps_while PassesOwn.never (PW.pt (pw_or (pt_val (pe_ok c_is_power_below hr (by rfl) (pa_cons (pv 0) (pa_cons (pv 2) (pa_cons (pv 1) pa_nil))))) (pw_or1 (pt_not (pt_val (pe_ok c_is_power_below hr (by rfl) (pa_cons (pv 0) (pa_cons (pe_op oSubI pe_int (pv 2)) (pa_cons (pv 1) pa_nil))))))))) (pss_one (ps_set (i := 2) sc_power_below.nd rfl (.inl rfl) (pe_op oMulI pe_int (pv 2)))))
 (pss_cons (ps_par (i := 3) (j := 4) (by rfl) sc_power_below.nd rfl rfl (by decide) rfl rfl (pa_cons (pe_op oSubI pe_int (pv 2)) (pa_cons (pv 2) pa_nil)) (by rfl))
 (pss_cons (ps_while PassesOwn.never (pt_cmpR oGtI (pe_op oSubI (pv 4) (pv 3)) pe_int (nomark _)) (pss_cons (ps_set (i := 5) sc_power_below.nd rfl (.inl rfl) (pe_op oDivI (pe_op oAddI (pv 3) (pv 4)) pe_int))
 (pss_one (ps_if (pt_val (pe_ok c_is_power_below hr (by rfl) (pa_cons (pv 0) (pa_cons (pv 5) (pa_cons (pv 1) pa_nil))))) (pss_one (ps_set (i := 3) sc_power_below.nd rfl (.inl rfl) (pv 5))) (pss_one (ps_set (i := 4) sc_power_below.nd rfl (.inl rfl) (pv 5)))))))
 (pss_one (ps_ret (pv 3)))))))
abbrev N_scaled : List Str := ["base", "e", "x"]
abbrev P_scaled : List Str := ["base", "e", "x"]
theorem sc_scaled : FnScope N_scaled P_scaled (defScope (topS 12)) := ⟨rfl, rfl, rfl, by decide +kernel, rfl, by decide +kernel, by decide +kernel⟩
def t_scaled (K : PySem.W.Frag) (s_whole_power : Sp) : TS := (tRet (tIf (tTest (tOp rGtI (tVar 1) (tC (.int 0)))) (tTup (tCons (tOp (rIxT K) (tVar 2) (tC (.int 0))) (tCons (tOp rMulI (tOp (rIxT K) (tVar 2) (tC (.int 1))) (tCall s_whole_power [] E0 (tCons (tVar 0) (tCons (tVar 1) tNil)))) tNil))) (tTup (tCons (tOp rMulI (tOp (rIxT K) (tVar 2) (tC (.int 0))) (tCall s_whole_power [] E0 (tCons (tVar 0) (tCons (tOp rSubI (tC (.int 0)) (tVar 1)) tNil)))) (tCons (tOp (rIxT K) (tVar 2) (tC (.int 1))) tNil)))))
theorem dv_scaled {P : Program} {w : World} {K : PySem.W.Frag} {mg : Str → Option Value} {base : Heap} {f : Addr} {cdv : Value} {A : Around} {outer : List PySem.Env} {s : Shared} {H : Hp} {E : XK} {s_whole_power : Sp}
    (hr : Room 1 (A.deeper (envOfC "scaled" (defScope (topS 12)) s.heap.objs.size f cdv))) (c_whole_power : Ok P w K mg base 1 "whole_power" P_whole_power s_whole_power) :
    PSs (cxOf CX0 P w K mg base N_scaled "scaled" (defScope (topS 12)) f cdv A outer s H E).nox (defBody (topS 12)) (t_scaled K s_whole_power) :=
 (pss_one (ps_ret (pe_ifExp (pt_cmpR oGtI (pv 1) pe_int (nomark _)) (pe_tup (pa_cons (pe_ix ix_tup (pv 2) pe_int (fun _ _ => rfl)) (pa_cons (pe_op oMulI (pe_ix ix_tup (pv 2) pe_int (fun _ _ => rfl)) (pe_ok c_whole_power hr (by rfl) (pa_cons (pv 0) (pa_cons (pv 1) pa_nil)))) pa_nil))) (pe_tup (pa_cons (pe_op oMulI (pe_ix ix_tup (pv 2) pe_int (fun _ _ => rfl)) (pe_ok c_whole_power hr (by rfl) (pa_cons (pv 0) (pa_cons (pe_op oSubI pe_int (pv 1)) pa_nil)))) (pa_cons (pe_ix ix_tup (pv 2) pe_int (fun _ _ => rfl)) pa_nil))))))
abbrev N_parted : List Str := ["form", "x", "base", "digits", "low", "high", "e", "n", "d", "c", "rest"]
abbrev P_parted : List Str := ["form", "x"]
theorem sc_parted : FnScope N_parted P_parted (defScope (topS 13)) := ⟨rfl, rfl, rfl, by decide +kernel, rfl, by decide +kernel, by decide +kernel⟩
def t_parted (K : PySem.W.Frag) (s_power_below s_scaled : Sp) : TS := (tSeq (tAsg (tVar 0) (gTup K 4 (gCons (gName 2) (gCons (gName 3) (gCons (gName 4) (gCons (gName 5) gNil))))))
 (tSeq (tIfS (tTest (tOp rEq (tOp (rIxT K) (tVar 1) (tC (.int 0))) (tC (.int 0)))) (tRet (tTup (tCons (tC (.int 0)) (tCons (tVar 4) (tCons (tC .non) tNil))))) tNext)
 (tSeq (tAsg (tCB rMax2 (tCons (tVar 4) (tCons (tOp rAddI (tOp rSubI (tCall s_power_below [] E0 (tCons (tVar 2) (tCons (tVar 1) tNil))) (tVar 3)) (tC (.int 1))) tNil))) (gName 6))
 (tSeq (tAsg (tCall s_scaled [] E0 (tCons (tVar 2) (tCons (tVar 6) (tCons (tVar 1) tNil)))) (gTup K 2 (gCons (gName 7) (gCons (gName 8) gNil))))
 (tSeq (tAsg (tOp rDivI (tVar 7) (tVar 8)) (gName 9))
 (tSeq (tAsg (tOp rSubI (tOp rMulI (tC (.int 2)) (tOp rSubI (tVar 7) (tOp rMulI (tVar 9) (tVar 8)))) (tVar 8)) (gName 10))
 (tRet (tTup (tCons (tVar 9) (tCons (tVar 6) (tCons (tIf (tTest (tOp rEq (tOp rMulI (tVar 9) (tVar 8)) (tVar 7))) (tC .non) (tOp rSubB (tOp rGtI (tVar 10) (tC (.int 0))) (tOp rLtI (tVar 10) (tC (.int 0))))) tNil)))))))))))
theorem dv_parted {P : Program} {w : World} {K : PySem.W.Frag} {mg : Str → Option Value} {base : Heap} {f : Addr} {cdv : Value} {A : Around} {outer : List PySem.Env} {s : Shared} {H : Hp} {E : XK} {s_power_below s_scaled : Sp}
    (hr : Room 3 (A.deeper (envOfC "parted" (defScope (topS 13)) s.heap.objs.size f cdv))) (c_power_below : Ok P w K mg base 3 "power_below" P_power_below s_power_below) (c_scaled : Ok P w K mg base 2 "scaled" P_scaled s_scaled) (m_max : mg "max" = none) :
    PSs (cxOf CX0 P w K mg base N_parted "parted" (defScope (topS 13)) f cdv A outer s H E).nox (defBody (topS 13)) (t_parted K s_power_below s_scaled) :=
 (pss_cons (ps_asg (pv 0) (pg_tup rfl (pgs_cons (pg_name (i := 2) sc_parted.nd rfl (.inl rfl)) (pgs_cons (pg_name (i := 3) sc_parted.nd rfl (.inl rfl)) (pgs_cons (pg_name (i := 4) sc_parted.nd rfl (.inl rfl)) (pgs_cons (pg_name (i := 5) sc_parted.nd rfl (.inl rfl)) pgs_nil))))))
 (pss_cons (ps_if (pt_cmpR op_eq (pe_ix ix_tup (pv 1) pe_int (fun _ _ => rfl)) pe_int (nomark _)) (pss_one (ps_ret (pe_tup (pa_cons pe_int (pa_cons (pv 4) (pa_cons pe_non pa_nil)))))) pss_nil)
 (pss_cons (ps_set (i := 6) sc_parted.nd rfl (.inl rfl) (pe_callB (cMax2 rfl) (by rfl) m_max (by decide +kernel) (pa_cons (pv 4) (pa_cons (pe_op oAddI (pe_op oSubI (pe_ok c_power_below hr (by rfl) (pa_cons (pv 2) (pa_cons (pv 1) pa_nil))) (pv 3)) pe_int) pa_nil))))
 (pss_cons (ps_asg (pe_ok c_scaled hr (by rfl) (pa_cons (pv 2) (pa_cons (pv 6) (pa_cons (pv 1) pa_nil)))) (pg_tup rfl (pgs_cons (pg_name (i := 7) sc_parted.nd rfl (.inl rfl)) (pgs_cons (pg_name (i := 8) sc_parted.nd rfl (.inl rfl)) pgs_nil))))
 (pss_cons (ps_set (i := 9) sc_parted.nd rfl (.inl rfl) (pe_op oDivI (pv 7) (pv 8)))
 (pss_cons (ps_set (i := 10) sc_parted.nd rfl (.inl rfl) (pe_op oSubI (pe_op oMulI pe_int (pe_op oSubI (pv 7) (pe_op oMulI (pv 9) (pv 8)))) (pv 8)))
 (pss_one (ps_ret (pe_tup (pa_cons (pv 9) (pa_cons (pv 6) (pa_cons (pe_ifExp (pt_cmpR op_eq (pe_op oMulI (pv 9) (pv 8)) (pv 7) (nomark _)) pe_non (pe_op op_subB (pe_cmpR oGtI (pv 10) pe_int (nomark _)) (pe_cmpR oLtI (pv 10) pe_int (nomark _)))) pa_nil))))))))))))
abbrev N_raised : List Str := ["form", "c", "e"]
abbrev P_raised : List Str := ["form", "c", "e"]
theorem sc_raised : FnScope N_raised P_raised (defScope (topS 14)) := ⟨rfl, rfl, rfl, by decide +kernel, rfl, by decide +kernel, by decide +kernel⟩
def t_raised (K : PySem.W.Frag) (s_whole_power : Sp) : TS := (tSeq (tIfS (tTest (tOp rEq (tOp rAddI (tVar 1) (tC (.int 1))) (tCall s_whole_power [] E0 (tCons (tOp (rIxT K) (tVar 0) (tC (.int 0))) (tCons (tOp (rIxT K) (tVar 0) (tC (.int 1))) tNil))))) (tRet (tTup (tCons (tCall s_whole_power [] E0 (tCons (tOp (rIxT K) (tVar 0) (tC (.int 0))) (tCons (tOp rSubI (tOp (rIxT K) (tVar 0) (tC (.int 1))) (tC (.int 1))) tNil))) (tCons (tOp rAddI (tVar 2) (tC (.int 1))) tNil)))) tNext)
 (tRet (tTup (tCons (tOp rAddI (tVar 1) (tC (.int 1))) (tCons (tVar 2) tNil)))))
theorem dv_raised {P : Program} {w : World} {K : PySem.W.Frag} {mg : Str → Option Value} {base : Heap} {f : Addr} {cdv : Value} {A : Around} {outer : List PySem.Env} {s : Shared} {H : Hp} {E : XK} {s_whole_power : Sp}
    (hr : Room 1 (A.deeper (envOfC "raised" (defScope (topS 14)) s.heap.objs.size f cdv))) (c_whole_power : Ok P w K mg base 1 "whole_power" P_whole_power s_whole_power) :
    PSs (cxOf CX0 P w K mg base N_raised "raised" (defScope (topS 14)) f cdv A outer s H E).nox (defBody (topS 14)) (t_raised K s_whole_power) :=
 (pss_cons (ps_if (pt_cmpR op_eq (pe_op oAddI (pv 1) pe_int) (pe_ok c_whole_power hr (by rfl) (pa_cons (pe_ix ix_tup (pv 0) pe_int (fun _ _ => rfl)) (pa_cons (pe_ix ix_tup (pv 0) pe_int (fun _ _ => rfl)) pa_nil))) (nomark _)) (pss_one (ps_ret (pe_tup (pa_cons (pe_ok c_whole_power hr (by rfl) (pa_cons (pe_ix ix_tup (pv 0) pe_int (fun _ _ => rfl)) (pa_cons (pe_op oSubI (pe_ix ix_tup (pv 0) pe_int (fun _ _ => rfl)) pe_int) pa_nil))) (pa_cons (pe_op oAddI (pv 2) pe_int) pa_nil))))) pss_nil)
 (pss_one (ps_ret (pe_tup (pa_cons (pe_op oAddI (pv 1) pe_int) (pa_cons (pv 2) pa_nil))))))
abbrev N_is_raised : List Str := ["way", "s", "c", "side"]
abbrev P_is_raised : List Str := ["way", "s", "c", "side"]
theorem sc_is_raised : FnScope N_is_raised P_is_raised (defScope (topS 15)) := ⟨rfl, rfl, rfl, by decide +kernel, rfl, by decide +kernel, by decide +kernel⟩
def t_is_raised (K : PySem.W.Frag) : TS := (tSeq (tIfS (tOr (tTest (tOp rIs0 (tVar 3) (tC .non))) (tTest (tOp rEq (tVar 0) (tC (.str "zero"))))) (tRet (tC (.bl false))) tNext)
 (tSeq (tIfS (tTest (tOp (rIn K false) (tVar 0) (tTup (tCons (tC (.str "up")) (tCons (tC (.str "down")) tNil))))) (tRet (tOp rEq (tOp rEq (tVar 0) (tC (.str "up"))) (tOp rEq (tVar 1) (tC (.int 0))))) tNext)
 (tRet (tIf (tTest (tOp rEq (tVar 3) (tC (.int 0)))) (tOrV (tOp rEq (tVar 0) (tC (.str "away"))) (tOp rEq (tOp rModI (tVar 2) (tC (.int 2))) (tC (.int 1)))) (tOp rGtI (tVar 3) (tC (.int 0)))))))
theorem dv_is_raised {P : Program} {w : World} {K : PySem.W.Frag} {mg : Str → Option Value} {base : Heap} {f : Addr} {cdv : Value} {A : Around} {outer : List PySem.Env} {s : Shared} {H : Hp} {E : XK}
    (hr : Room 0 (A.deeper (envOfC "is_raised" (defScope (topS 15)) s.heap.objs.size f cdv))) :
    PSs (cxOf CX0 P w K mg base N_is_raised "is_raised" (defScope (topS 15)) f cdv A outer s H E).nox (defBody (topS 15)) (t_is_raised K) :=
 (pss_cons (ps_if (PW.pt (pw_or (pt_cmpR oIs0 (pv 3) pe_non (nomark _)) (pw_or1 (pt_cmpR op_eq (pv 0) pe_str (nomark _))))) (pss_one (ps_ret pe_bl)) pss_nil)
 (pss_cons (ps_if (pt_cmpR (op_in_seq) (pv 0) (pe_tup (pa_cons pe_str (pa_cons pe_str pa_nil))) rfl) (pss_one (ps_ret (pe_cmpR op_eq (pe_cmpR op_eq (pv 0) pe_str (nomark _)) (pe_cmpR op_eq (pv 1) pe_int (nomark _)) (nomark _)))) pss_nil)
 (pss_one (ps_ret (pe_ifExp (pt_cmpR op_eq (pv 3) pe_int (nomark _)) (pe_or (pe_cmpR op_eq (pv 0) pe_str (nomark _)) (pe_one (pe_cmpR op_eq (pe_op oModI (pv 2) pe_int) pe_int (nomark _)))) (pe_cmpR oGtI (pv 3) pe_int (nomark _)))))))
abbrev N_finished : List Str := ["form", "way", "s", "parts", "base", "digits", "low", "high", "c", "e", "side", "is_inf", "is_tiny"]
abbrev P_finished : List Str := ["form", "way", "s", "parts"]
theorem sc_finished : FnScope N_finished P_finished (defScope (topS 16)) := ⟨rfl, rfl, rfl, by decide +kernel, rfl, by decide +kernel, by decide +kernel⟩
def t_finished (K : PySem.W.Frag) (s_is_raised s_raised s_whole_power : Sp) : TS := (tSeq (tAsg (tVar 0) (gTup K 4 (gCons (gName 4) (gCons (gName 5) (gCons (gName 6) (gCons (gName 7) gNil))))))
 (tSeq (tAsg (tVar 3) (gTup K 3 (gCons (gName 8) (gCons (gName 9) (gCons (gName 10) gNil)))))
 (tSeq (tIfS (tB (tCall s_is_raised [] E0 (tCons (tVar 1) (tCons (tVar 2) (tCons (tVar 8) (tCons (tVar 10) tNil)))))) (tAsg (tCall s_raised [] E0 (tCons (tVar 0) (tCons (tVar 8) (tCons (tVar 9) tNil)))) (gTup K 2 (gCons (gName 8) (gCons (gName 9) gNil)))) tNext)
 (tSeq (tIfS (tTest (tOp rGtI (tVar 9) (tVar 7))) (tSeq (tAsg (tOrV (tOp (rIn K false) (tVar 1) (tTup (tCons (tC (.str "even")) (tCons (tC (.str "away")) tNil)))) (tOp rEq (tVar 1) (tIf (tTest (tOp rEq (tVar 2) (tC (.int 0)))) (tC (.str "up")) (tC (.str "down"))))) (gName 11))
 (tRet (tTup (tCons (tIf (tB (tVar 11)) (tTup (tCons (tC (.str "inf")) (tCons (tVar 2) tNil))) (tTup (tCons (tC (.str "num")) (tCons (tVar 2) (tCons (tOp rSubI (tCall s_whole_power [] E0 (tCons (tVar 4) (tCons (tVar 5) tNil))) (tC (.int 1))) (tCons (tVar 7) tNil)))))) (tCons (tTup (tCons (tC (.str "inexact")) (tCons (tC (.str "over")) tNil))) tNil))))) tNext)
 (tSeq (tAsg (tAndV (tOp rNot0 (tVar 10) (tC .non)) (tOp rLtI (tOp (rIxT K) (tVar 3) (tC (.int 0))) (tCall s_whole_power [] E0 (tCons (tVar 4) (tCons (tOp rSubI (tVar 5) (tC (.int 1))) tNil))))) (gName 12))
 (tRet (tTup (tCons (tTup (tCons (tC (.str "num")) (tCons (tVar 2) (tCons (tVar 8) (tCons (tVar 9) tNil))))) (tCons (tIf (tB (tVar 12)) (tTup (tCons (tC (.str "inexact")) (tCons (tC (.str "tiny")) tNil))) (tIf (tTest (tOp rIs0 (tVar 10) (tC .non))) (tTup tNil) (tTup (tCons (tC (.str "inexact")) tNil)))) tNil)))))))))
theorem dv_finished {P : Program} {w : World} {K : PySem.W.Frag} {mg : Str → Option Value} {base : Heap} {f : Addr} {cdv : Value} {A : Around} {outer : List PySem.Env} {s : Shared} {H : Hp} {E : XK} {s_is_raised s_raised s_whole_power : Sp}
    (hr : Room 2 (A.deeper (envOfC "finished" (defScope (topS 16)) s.heap.objs.size f cdv))) (c_is_raised : Ok P w K mg base 1 "is_raised" P_is_raised s_is_raised) (c_raised : Ok P w K mg base 2 "raised" P_raised s_raised) (c_whole_power : Ok P w K mg base 1 "whole_power" P_whole_power s_whole_power) :
    PSs (cxOf CX0 P w K mg base N_finished "finished" (defScope (topS 16)) f cdv A outer s H E).nox (defBody (topS 16)) (t_finished K s_is_raised s_raised s_whole_power) :=
 (pss_cons (ps_asg (pv 0) (pg_tup rfl (pgs_cons (pg_name (i := 4) sc_finished.nd rfl (.inl rfl)) (pgs_cons (pg_name (i := 5) sc_finished.nd rfl (.inl rfl)) (pgs_cons (pg_name (i := 6) sc_finished.nd rfl (.inl rfl)) (pgs_cons (pg_name (i := 7) sc_finished.nd rfl (.inl rfl)) pgs_nil))))))
 (pss_cons (ps_asg (pv 3) (pg_tup rfl (pgs_cons (pg_name (i := 8) sc_finished.nd rfl (.inl rfl)) (pgs_cons (pg_name (i := 9) sc_finished.nd rfl (.inl rfl)) (pgs_cons (pg_name (i := 10) sc_finished.nd rfl (.inl rfl)) pgs_nil)))))
 (pss_cons (ps_if (pt_val (pe_ok c_is_raised hr (by rfl) (pa_cons (pv 1) (pa_cons (pv 2) (pa_cons (pv 8) (pa_cons (pv 10) pa_nil)))))) (pss_one (ps_asg (pe_ok c_raised hr (by rfl) (pa_cons (pv 0) (pa_cons (pv 8) (pa_cons (pv 9) pa_nil)))) (pg_tup rfl (pgs_cons (pg_name (i := 8) sc_finished.nd rfl (.inl rfl)) (pgs_cons (pg_name (i := 9) sc_finished.nd rfl (.inl rfl)) pgs_nil))))) pss_nil)
 (pss_cons (ps_if (pt_cmpR oGtI (pv 9) (pv 7) (nomark _)) (pss_cons (ps_set (i := 11) sc_finished.nd rfl (.inl rfl) (pe_or (pe_cmpR (op_in_seq) (pv 1) (pe_tup (pa_cons pe_str (pa_cons pe_str pa_nil))) rfl) (pe_one (pe_cmpR op_eq (pv 1) (pe_ifExp (pt_cmpR op_eq (pv 2) pe_int (nomark _)) pe_str pe_str) (nomark _)))))
 (pss_one (ps_ret (pe_tup (pa_cons (pe_ifExp (pt_val (pv 11)) (pe_tup (pa_cons pe_str (pa_cons (pv 2) pa_nil))) (pe_tup (pa_cons pe_str (pa_cons (pv 2) (pa_cons (pe_op oSubI (pe_ok c_whole_power hr (by rfl) (pa_cons (pv 4) (pa_cons (pv 5) pa_nil))) pe_int) (pa_cons (pv 7) pa_nil)))))) (pa_cons (pe_tup (pa_cons pe_str (pa_cons pe_str pa_nil))) pa_nil)))))) pss_nil)
 (pss_cons (ps_set (i := 12) sc_finished.nd rfl (.inl rfl) (pe_and (pe_cmpR oNot0 (pv 10) pe_non (nomark _)) (pe_one (pe_cmpR oLtI (pe_ix ix_tup (pv 3) pe_int (fun _ _ => rfl)) (pe_ok c_whole_power hr (by rfl) (pa_cons (pv 4) (pa_cons (pe_op oSubI (pv 5) pe_int) pa_nil))) (nomark _)))))
 (pss_one (ps_ret (pe_tup (pa_cons (pe_tup (pa_cons pe_str (pa_cons (pv 2) (pa_cons (pv 8) (pa_cons (pv 9) pa_nil))))) (pa_cons (pe_ifExp (pt_val (pv 12)) (pe_tup (pa_cons pe_str (pa_cons pe_str pa_nil))) (pe_ifExp (pt_cmpR oIs0 (pv 10) pe_non (nomark _)) (pe_tup pa_nil) (pe_tup (pa_cons pe_str pa_nil)))) pa_nil))))))))))
abbrev N_without_sign : List Str := ["x"]
abbrev P_without_sign : List Str := ["x"]
theorem sc_without_sign : FnScope N_without_sign P_without_sign (defScope (topS 17)) := ⟨rfl, rfl, rfl, by decide +kernel, rfl, by decide +kernel, by decide +kernel⟩
def t_without_sign (K : PySem.W.Frag) : TS := (tRet (tTup (tCons (tCB rAbs (tCons (tOp (rIxT K) (tVar 0) (tC (.int 0))) tNil)) (tCons (tOp (rIxT K) (tVar 0) (tC (.int 1))) tNil))))
theorem dv_without_sign {P : Program} {w : World} {K : PySem.W.Frag} {mg : Str → Option Value} {base : Heap} {f : Addr} {cdv : Value} {A : Around} {outer : List PySem.Env} {s : Shared} {H : Hp} {E : XK}
    (hr : Room 0 (A.deeper (envOfC "without_sign" (defScope (topS 17)) s.heap.objs.size f cdv))) (m_abs : mg "abs" = none) :
    PSs (cxOf CX0 P w K mg base N_without_sign "without_sign" (defScope (topS 17)) f cdv A outer s H E).nox (defBody (topS 17)) (t_without_sign K) :=
 (pss_one (ps_ret (pe_tup (pa_cons (pe_callB cAbs (by rfl) m_abs (by decide +kernel) (pa_cons (pe_ix ix_tup (pv 0) pe_int (fun _ _ => rfl)) pa_nil)) (pa_cons (pe_ix ix_tup (pv 0) pe_int (fun _ _ => rfl)) pa_nil)))))
abbrev N_rounded : List Str := ["form", "way", "x", "s"]
abbrev P_rounded : List Str := ["form", "way", "x", "s"]
theorem sc_rounded : FnScope N_rounded P_rounded (defScope (topS 18)) := ⟨rfl, rfl, rfl, by decide +kernel, rfl, by decide +kernel, by decide +kernel⟩
def t_rounded (K : PySem.W.Frag) (s_finished s_parted s_without_sign : Sp) : TS := (tSeq (tIfS (tTest (tOp rEq (tOp (rIxT K) (tVar 2) (tC (.int 0))) (tC (.int 0)))) (tRet (tTup (tCons (tTup (tCons (tC (.str "num")) (tCons (tVar 3) (tCons (tC (.int 0)) (tCons (tOp (rIxT K) (tVar 0) (tC (.int 2))) tNil))))) (tCons (tTup tNil) tNil)))) tNext)
 (tRet (tCall s_finished [] E0 (tCons (tVar 0) (tCons (tVar 1) (tCons (tCB rInt1 (tCons (tOp rLtI (tOp (rIxT K) (tVar 2) (tC (.int 0))) (tC (.int 0))) tNil)) (tCons (tCall s_parted [] E0 (tCons (tVar 0) (tCons (tCall s_without_sign [] E0 (tCons (tVar 2) tNil)) tNil))) tNil)))))))
theorem dv_rounded {P : Program} {w : World} {K : PySem.W.Frag} {mg : Str → Option Value} {base : Heap} {f : Addr} {cdv : Value} {A : Around} {outer : List PySem.Env} {s : Shared} {H : Hp} {E : XK} {s_finished s_parted s_without_sign : Sp}
    (hr : Room 4 (A.deeper (envOfC "rounded" (defScope (topS 18)) s.heap.objs.size f cdv))) (c_finished : Ok P w K mg base 3 "finished" P_finished s_finished) (c_parted : Ok P w K mg base 4 "parted" P_parted s_parted) (c_without_sign : Ok P w K mg base 1 "without_sign" P_without_sign s_without_sign) (m_int : mg "int" = none) :
    PSs (cxOf CX0 P w K mg base N_rounded "rounded" (defScope (topS 18)) f cdv A outer s H E).nox (defBody (topS 18)) (t_rounded K s_finished s_parted s_without_sign) :=
 (pss_cons (ps_if (pt_cmpR op_eq (pe_ix ix_tup (pv 2) pe_int (fun _ _ => rfl)) pe_int (nomark _)) (pss_one (ps_ret (pe_tup (pa_cons (pe_tup (pa_cons pe_str (pa_cons (pv 3) (pa_cons pe_int (pa_cons (pe_ix ix_tup (pv 0) pe_int (fun _ _ => rfl)) pa_nil))))) (pa_cons (pe_tup pa_nil) pa_nil))))) pss_nil)
 (pss_one (ps_ret (pe_ok c_finished hr (by rfl) (pa_cons (pv 0) (pa_cons (pv 1) (pa_cons (pe_callTy cInt1 (by rfl) m_int (by decide +kernel) (pa_cons (pe_cmpR oLtI (pe_ix ix_tup (pv 2) pe_int (fun _ _ => rfl)) pe_int (nomark _)) pa_nil)) (pa_cons (pe_ok c_parted hr (by rfl) (pa_cons (pv 0) (pa_cons (pe_ok c_without_sign hr (by rfl) (pa_cons (pv 2) pa_nil)) pa_nil))) pa_nil))))))))
abbrev N_worth : List Str := ["form", "number", "base", "e", "c"]
abbrev P_worth : List Str := ["form", "number"]
theorem sc_worth : FnScope N_worth P_worth (defScope (topS 20)) := ⟨rfl, rfl, rfl, by decide +kernel, rfl, by decide +kernel, by decide +kernel⟩
def t_worth (K : PySem.W.Frag) (s_whole_power s_reduced : Sp) : TS := (tSeq (tPar 2 3 (tCons (tOp (rIxT K) (tVar 0) (tC (.int 0))) (tCons (tOp (rIxT K) (tVar 1) (tC (.int 3))) tNil)))
 (tSeq (tAsg (tIf (tTest (tOp rEq (tOp (rIxT K) (tVar 1) (tC (.int 1))) (tC (.int 1)))) (tUn rNegI (tOp (rIxT K) (tVar 1) (tC (.int 2)))) (tOp (rIxT K) (tVar 1) (tC (.int 2)))) (gName 4))
 (tRet (tIf (tTest (tOp rGeI (tVar 3) (tC (.int 0)))) (tTup (tCons (tOp rMulI (tVar 4) (tCall s_whole_power [] E0 (tCons (tVar 2) (tCons (tVar 3) tNil)))) (tCons (tC (.int 1)) tNil))) (tCall s_reduced [] E0 (tCons (tVar 4) (tCons (tCall s_whole_power [] E0 (tCons (tVar 2) (tCons (tUn rNegI (tVar 3)) tNil))) tNil)))))))
theorem dv_worth {P : Program} {w : World} {K : PySem.W.Frag} {mg : Str → Option Value} {base : Heap} {f : Addr} {cdv : Value} {A : Around} {outer : List PySem.Env} {s : Shared} {H : Hp} {E : XK} {s_whole_power s_reduced : Sp}
    (hr : Room 1 (A.deeper (envOfC "worth" (defScope (topS 20)) s.heap.objs.size f cdv))) (c_whole_power : Ok P w K mg base 1 "whole_power" P_whole_power s_whole_power) (c_reduced : Ok P w K mg base 1 "reduced" P_reduced s_reduced) :
    PSs (cxOf CX0 P w K mg base N_worth "worth" (defScope (topS 20)) f cdv A outer s H E).nox (defBody (topS 20)) (t_worth K s_whole_power s_reduced) :=
 (pss_cons (ps_par (i := 2) (j := 3) (by rfl) sc_worth.nd rfl rfl (by decide) rfl rfl (pa_cons (pe_ix ix_tup (pv 0) pe_int (fun _ _ => rfl)) (pa_cons (pe_ix ix_tup (pv 1) pe_int (fun _ _ => rfl)) pa_nil)) (by rfl))
 (pss_cons (ps_set (i := 4) sc_worth.nd rfl (.inl rfl) (pe_ifExp (pt_cmpR op_eq (pe_ix ix_tup (pv 1) pe_int (fun _ _ => rfl)) pe_int (nomark _)) (pe_un oNegI (pe_ix ix_tup (pv 1) pe_int (fun _ _ => rfl))) (pe_ix ix_tup (pv 1) pe_int (fun _ _ => rfl))))
 (pss_one (ps_ret (pe_ifExp (pt_cmpR oGeI (pv 3) pe_int (nomark _)) (pe_tup (pa_cons (pe_op oMulI (pv 4) (pe_ok c_whole_power hr (by rfl) (pa_cons (pv 2) (pa_cons (pv 3) pa_nil)))) (pa_cons pe_int pa_nil))) (pe_ok c_reduced hr (by rfl) (pa_cons (pv 4) (pa_cons (pe_ok c_whole_power hr (by rfl) (pa_cons (pv 2) (pa_cons (pe_un oNegI (pv 3)) pa_nil))) pa_nil))))))))
abbrev N_is_finite : List Str := ["value"]
abbrev P_is_finite : List Str := ["value"]
theorem sc_is_finite : FnScope N_is_finite P_is_finite (defScope (topS 21)) := ⟨rfl, rfl, rfl, by decide +kernel, rfl, by decide +kernel, by decide +kernel⟩
def t_is_finite (K : PySem.W.Frag) : TS := (tRet (tOp rEq (tOp (rIxT K) (tVar 0) (tC (.int 0))) (tC (.str "num"))))
theorem dv_is_finite {P : Program} {w : World} {K : PySem.W.Frag} {mg : Str → Option Value} {base : Heap} {f : Addr} {cdv : Value} {A : Around} {outer : List PySem.Env} {s : Shared} {H : Hp} {E : XK}
    (hr : Room 0 (A.deeper (envOfC "is_finite" (defScope (topS 21)) s.heap.objs.size f cdv))) :
    PSs (cxOf CX0 P w K mg base N_is_finite "is_finite" (defScope (topS 21)) f cdv A outer s H E).nox (defBody (topS 21)) (t_is_finite K) :=
 (pss_one (ps_ret (pe_cmpR op_eq (pe_ix ix_tup (pv 0) pe_int (fun _ _ => rfl)) pe_str (nomark _))))
abbrev N_from_integer : List Str := ["form", "way", "n"]
abbrev P_from_integer : List Str := ["form", "way", "n"]
theorem sc_from_integer : FnScope N_from_integer P_from_integer (defScope (topS 23)) := ⟨rfl, rfl, rfl, by decide +kernel, rfl, by decide +kernel, by decide +kernel⟩
def t_from_integer (K : PySem.W.Frag) (s_rounded : Sp) : TS := (tRet (tCall s_rounded [] E0 (tCons (tVar 0) (tCons (tVar 1) (tCons (tTup (tCons (tVar 2) (tCons (tC (.int 1)) tNil))) (tCons (tC (.int 0)) tNil))))))
theorem dv_from_integer {P : Program} {w : World} {K : PySem.W.Frag} {mg : Str → Option Value} {base : Heap} {f : Addr} {cdv : Value} {A : Around} {outer : List PySem.Env} {s : Shared} {H : Hp} {E : XK} {s_rounded : Sp}
    (hr : Room 5 (A.deeper (envOfC "from_integer" (defScope (topS 23)) s.heap.objs.size f cdv))) (c_rounded : Ok P w K mg base 5 "rounded" P_rounded s_rounded) :
    PSs (cxOf CX0 P w K mg base N_from_integer "from_integer" (defScope (topS 23)) f cdv A outer s H E).nox (defBody (topS 23)) (t_from_integer K s_rounded) :=
 (pss_one (ps_ret (pe_ok c_rounded hr (by rfl) (pa_cons (pv 0) (pa_cons (pv 1) (pa_cons (pe_tup (pa_cons (pv 2) (pa_cons pe_int pa_nil))) (pa_cons pe_int pa_nil)))))))
abbrev N_integer_of : List Str := ["form", "way", "value", "told", "found"]
abbrev P_integer_of : List Str := ["form", "way", "value"]
theorem sc_integer_of : FnScope N_integer_of P_integer_of (defScope (topS 24)) := ⟨rfl, rfl, rfl, by decide +kernel, rfl, by decide +kernel, by decide +kernel⟩
def t_integer_of (K : PySem.W.Frag) (s_is_finite s_worth s_nearest_integer : Sp) : TS := (tSeq (tIfS (tNot (tB (tCall s_is_finite [] E0 (tCons (tVar 2) tNil)))) (tRet (tTup (tCons (tC .non) (tCons (tTup (tCons (tC (.str "invalid")) tNil)) tNil)))) tNext)
 (tSeq (tAsg (tCall s_worth [] E0 (tCons (tVar 0) (tCons (tVar 2) tNil))) (gName 3))
 (tSeq (tAsg (tCall s_nearest_integer [] E0 (tCons (tVar 1) (tCons (tVar 3) tNil))) (gName 4))
 (tRet (tTup (tCons (tVar 4) (tCons (tIf (tTest (tOp (rEqD K) (tTup (tCons (tVar 4) (tCons (tC (.int 1)) tNil))) (tVar 3))) (tTup tNil) (tTup (tCons (tC (.str "inexact")) tNil))) tNil)))))))
theorem dv_integer_of {P : Program} {w : World} {K : PySem.W.Frag} {mg : Str → Option Value} {base : Heap} {f : Addr} {cdv : Value} {A : Around} {outer : List PySem.Env} {s : Shared} {H : Hp} {E : XK} {s_is_finite s_worth s_nearest_integer : Sp}
    (hr : Room 2 (A.deeper (envOfC "integer_of" (defScope (topS 24)) s.heap.objs.size f cdv))) (c_is_finite : Ok P w K mg base 1 "is_finite" P_is_finite s_is_finite) (c_worth : Ok P w K mg base 2 "worth" P_worth s_worth) (c_nearest_integer : Ok P w K mg base 2 "nearest_integer" P_nearest_integer s_nearest_integer) :
    PSs (cxOf CX0 P w K mg base N_integer_of "integer_of" (defScope (topS 24)) f cdv A outer s H E).nox (defBody (topS 24)) (t_integer_of K s_is_finite s_worth s_nearest_integer) :=
 (pss_cons (ps_if (pt_not (pt_val (pe_ok c_is_finite hr (by rfl) (pa_cons (pv 2) pa_nil)))) (pss_one (ps_ret (pe_tup (pa_cons pe_non (pa_cons (pe_tup (pa_cons pe_str pa_nil)) pa_nil))))) pss_nil)
 (pss_cons (ps_set (i := 3) sc_integer_of.nd rfl (.inl rfl) (pe_ok c_worth hr (by rfl) (pa_cons (pv 0) (pa_cons (pv 2) pa_nil))))
 (pss_cons (ps_set (i := 4) sc_integer_of.nd rfl (.inl rfl) (pe_ok c_nearest_integer hr (by rfl) (pa_cons (pv 1) (pa_cons (pv 3) pa_nil))))
 (pss_one (ps_ret (pe_tup (pa_cons (pv 4) (pa_cons (pe_ifExp (pt_cmpR (op_eqD hr.units) (pe_tup (pa_cons (pv 4) (pa_cons pe_int pa_nil))) (pv 3) (nomark _)) (pe_tup pa_nil) (pe_tup (pa_cons pe_str pa_nil))) pa_nil))))))))
abbrev N_L_bag : List Str := ["_law_script", "_law_cell"]
abbrev P_L_bag : List Str := ["_law_script"]
theorem sc_L_bag : FnScope N_L_bag P_L_bag (defScope (topS 26)) := ⟨rfl, rfl, rfl, by decide +kernel, rfl, by decide +kernel, by decide +kernel⟩
def t_L_bag (K : PySem.W.Frag) : TS := (tRet (tLst (tCons (tC (.int 0)) (tCons (tC (.int 1234567891)) (tCons (tC (.int 0)) (tCons (tLc (iList K (tSl (rSlL K) (tVar 0) tNoPart (tPart (tC (.int 63))))) (gName 1) tYes (tCB rAbs (tCons (tVar 1) tNil)) [1]) tNil))))))
theorem dv_L_bag {P : Program} {w : World} {K : PySem.W.Frag} {mg : Str → Option Value} {base : Heap} {f : Addr} {cdv : Value} {A : Around} {outer : List PySem.Env} {s : Shared} {H : Hp} {E : XK}
    (hr : Room 0 (A.deeper (envOfC "_law_bag" (defScope (topS 26)) s.heap.objs.size f cdv))) (m_abs : mg "abs" = none) :
    PSs (cxOf CX0 P w K mg base N_L_bag "_law_bag" (defScope (topS 26)) f cdv A outer s H E).nox (defBody (topS 26)) (t_L_bag K) :=
 (pss_one (ps_ret (pe_lst (pa_cons pe_int (pa_cons pe_int (pa_cons pe_int (pa_cons (pe_lc (own := [("_law_cell", 1)]) (g := gName 1) (tt := tYes) rfl sc_L_bag.nd (pi_list (pe_slice sl_list (pv 0) po_none (po_some pe_int))) (blkOk_by (own := [("_law_cell", 1)]) (N := N_L_bag) (sc := defScope (topS 26)) (by decide +kernel)) (fun _ _ _ _ _ => pg_name (i := 1) sc_L_bag.nd rfl (Or.inl rfl)) (fun _ _ _ _ _ => pts_nil) (fun _ _ _ _ _ => (pe_callB cAbs (by rfl) m_abs (by decide +kernel) (pa_cons (pv 1) pa_nil)))) pa_nil)))))))
abbrev N_L_take : List Str := ["_law_bag_here", "_law_many", "_law_cell", "_law_stirred", "_law_value_here", "_law_begin", "_law_second"]
abbrev P_L_take : List Str := ["_law_bag_here", "_law_many"]
theorem sc_L_take : FnScope N_L_take P_L_take (defScope (topS 27)) := ⟨rfl, rfl, rfl, by decide +kernel, rfl, by decide +kernel, by decide +kernel⟩
def t_L_take (K : PySem.W.Frag) : TS := (tSeq (tIfS (tTest (tOp rEq (tOp (rIxL K) (tVar 0) (tC (.int 0))) (tC (.int 0)))) (tSeq (tAsg (tOp (rIxL K) (tOp rCat (tSl (rSlL K) (tOp (rIxL K) (tVar 0) (tC (.int 3))) (tPart (tOp (rIxL K) (tVar 0) (tC (.int 2)))) tNoPart) (tLst (tCons (tC (.int 0)) tNil))) (tC (.int 0))) (gName 2))
 (tSeq (tAugS (tVar 0) (tC (.int 2)) (tC (.int 1)) (rIxL K) (ipI fun i j => i + j) rSetL)
 (tSeq (tIfS (tTest (tOp rGeI (tVar 2) (tOp rPowI (tC (.int 10)) (tC (.int 18))))) (tAsg (tVar 2) (gSub (tVar 0) (tC (.int 0)) rSetL)) tNext)
 (tSeq (tAsg (tOp rAddI (tOp rAddI (tOp rMulI (tOp (rIxL K) (tVar 0) (tC (.int 1))) (tC (.int 48271))) (tOp rModI (tCB rInt1 (tCons (tVar 2) tNil)) (tC (.int 2147483647)))) (tOp rMulI (tC (.int 7919)) (tOp (rIxL K) (tVar 0) (tC (.int 2))))) (gName 3))
 (tAsg (tOp rModI (tCB rInt1 (tCons (tVar 3) tNil)) (tC (.int 2147483647))) (gSub (tVar 0) (tC (.int 1)) rSetL)))))) tNext)
 (tSeq (tIfS (tTest (tOp rGtI (tOp (rIxL K) (tVar 0) (tC (.int 0))) (tC (.int 0)))) (tSeq (tAsg (tOp rModI (tCB rInt1 (tCons (tOp (rIxL K) (tVar 0) (tC (.int 0))) tNil)) (tVar 1)) (gName 4))
 (tSeq (tAsg (tOp rDivI (tCB rInt1 (tCons (tOp (rIxL K) (tVar 0) (tC (.int 0))) tNil)) (tVar 1)) (gSub (tVar 0) (tC (.int 0)) rSetL))
 (tRet (tVar 4)))) tNext)
 (tSeq (tAsg (tOp rModI (tCB rInt1 (tCons (tOp rMulI (tOp rAddI (tOp (rIxL K) (tVar 0) (tC (.int 1))) (tC (.int 1))) (tC (.int 39373))) tNil)) (tC (.int 1000000007))) (gName 5))
 (tSeq (tAsg (tOp rModI (tCB rInt1 (tCons (tOp rMulI (tOp rModI (tCB rInt1 (tCons (tOp rMulI (tVar 5) (tVar 5)) tNil)) (tC (.int 998244353))) (tC (.int 30011))) tNil)) (tC (.int 998244353))) (gName 6))
 (tRet (tOp rModI (tCB rInt1 (tCons (tOp rDivI (tVar 6) (tC (.int 7))) tNil)) (tVar 1)))))))
theorem dv_L_take {P : Program} {w : World} {K : PySem.W.Frag} {mg : Str → Option Value} {base : Heap} {f : Addr} {cdv : Value} {A : Around} {outer : List PySem.Env} {s : Shared} {H : Hp} {E : XK}
    (hr : Room 0 (A.deeper (envOfC "_law_take" (defScope (topS 27)) s.heap.objs.size f cdv))) (m_int : mg "int" = none) :
    PSs (cxOf CX0 P w K mg base N_L_take "_law_take" (defScope (topS 27)) f cdv A outer s H E).nox (defBody (topS 27)) (t_L_take K) :=
 (pss_cons (ps_if (pt_cmpR op_eq (pe_ix ix_list (pv 0) pe_int (fun _ _ => rfl)) pe_int (nomark _)) (pss_cons (ps_set (i := 2) sc_L_take.nd rfl (.inl rfl) (pe_ix ix_list (pe_op op_cat (pe_slice sl_list (pe_ix ix_list (pv 0) pe_int (fun _ _ => rfl)) (po_some (pe_ix ix_list (pv 0) pe_int (fun _ _ => rfl))) po_none) (pe_lst (pa_cons pe_int pa_nil))) pe_int (fun _ _ => rfl)))
 (pss_cons (ps_augS (pv 0) pe_int get_list pe_int ip_add set_list)
 (pss_cons (ps_if (pt_cmpR oGeI (pv 2) (pe_op oPowI pe_int pe_int) (nomark _)) (pss_one (ps_asg (pv 2) (pg_sub (pv 0) pe_int set_list))) pss_nil)
 (pss_cons (ps_set (i := 3) sc_L_take.nd rfl (.inl rfl) (pe_op oAddI (pe_op oAddI (pe_op oMulI (pe_ix ix_list (pv 0) pe_int (fun _ _ => rfl)) pe_int) (pe_op oModI (pe_callTy cInt1 (by rfl) m_int (by decide +kernel) (pa_cons (pv 2) pa_nil)) pe_int)) (pe_op oMulI pe_int (pe_ix ix_list (pv 0) pe_int (fun _ _ => rfl)))))
 (pss_one (ps_asg (pe_op oModI (pe_callTy cInt1 (by rfl) m_int (by decide +kernel) (pa_cons (pv 3) pa_nil)) pe_int) (pg_sub (pv 0) pe_int set_list))))))) pss_nil)
 (pss_cons (ps_if (pt_cmpR oGtI (pe_ix ix_list (pv 0) pe_int (fun _ _ => rfl)) pe_int (nomark _)) (pss_cons (ps_set (i := 4) sc_L_take.nd rfl (.inl rfl) (pe_op oModI (pe_callTy cInt1 (by rfl) m_int (by decide +kernel) (pa_cons (pe_ix ix_list (pv 0) pe_int (fun _ _ => rfl)) pa_nil)) (pv 1)))
 (pss_cons (ps_asg (pe_op oDivI (pe_callTy cInt1 (by rfl) m_int (by decide +kernel) (pa_cons (pe_ix ix_list (pv 0) pe_int (fun _ _ => rfl)) pa_nil)) (pv 1)) (pg_sub (pv 0) pe_int set_list))
 (pss_one (ps_ret (pv 4))))) pss_nil)
 (pss_cons (ps_set (i := 5) sc_L_take.nd rfl (.inl rfl) (pe_op oModI (pe_callTy cInt1 (by rfl) m_int (by decide +kernel) (pa_cons (pe_op oMulI (pe_op oAddI (pe_ix ix_list (pv 0) pe_int (fun _ _ => rfl)) pe_int) pe_int) pa_nil)) pe_int))
 (pss_cons (ps_set (i := 6) sc_L_take.nd rfl (.inl rfl) (pe_op oModI (pe_callTy cInt1 (by rfl) m_int (by decide +kernel) (pa_cons (pe_op oMulI (pe_op oModI (pe_callTy cInt1 (by rfl) m_int (by decide +kernel) (pa_cons (pe_op oMulI (pv 5) (pv 5)) pa_nil)) pe_int) pe_int) pa_nil)) pe_int))
 (pss_one (ps_ret (pe_op oModI (pe_callTy cInt1 (by rfl) m_int (by decide +kernel) (pa_cons (pe_op oDivI (pv 6) pe_int) pa_nil)) (pv 1))))))))
abbrev N_L_some : List Str := ["_law_bag_here", "_law_things"]
abbrev P_L_some : List Str := ["_law_bag_here", "_law_things"]
theorem sc_L_some : FnScope N_L_some P_L_some (defScope (topS 28)) := ⟨rfl, rfl, rfl, by decide +kernel, rfl, by decide +kernel, by decide +kernel⟩
def t_L_some (K : PySem.W.Frag) (s_L_take : Sp) : TS := (tRet (tOp (rIxL K) (tVar 1) (tCall s_L_take [] E0 (tCons (tVar 0) (tCons (tCB (rLenL K) (tCons (tVar 1) tNil)) tNil)))))
theorem dv_L_some {P : Program} {w : World} {K : PySem.W.Frag} {mg : Str → Option Value} {base : Heap} {f : Addr} {cdv : Value} {A : Around} {outer : List PySem.Env} {s : Shared} {H : Hp} {E : XK} {s_L_take : Sp}
    (hr : Room 1 (A.deeper (envOfC "_law_some" (defScope (topS 28)) s.heap.objs.size f cdv))) (c_L_take : Ok P w K mg base 1 "_law_take" P_L_take s_L_take) (m_len : mg "len" = none) :
    PSs (cxOf CX0 P w K mg base N_L_some "_law_some" (defScope (topS 28)) f cdv A outer s H E).nox (defBody (topS 28)) (t_L_some K s_L_take) :=
 (pss_one (ps_ret (pe_ix ix_list (pv 1) (pe_ok c_L_take hr (by rfl) (pa_cons (pv 0) (pa_cons (pe_callB cLenL (by rfl) m_len (by decide +kernel) (pa_cons (pv 1) pa_nil)) pa_nil))) (fun _ _ => rfl))))
abbrev N_L_common : List Str := ["_law_one", "_law_other"]
abbrev P_L_common : List Str := ["_law_one", "_law_other"]
theorem sc_L_common : FnScope N_L_common P_L_common (defScope (topS 30)) := ⟨rfl, rfl, rfl, by decide +kernel, rfl, by decide +kernel, by decide +kernel⟩
def t_L_common (K : PySem.W.Frag) : TS := (tSeq (tPar 0 1 (tCons (tCB rAbs (tCons (tVar 0) tNil)) (tCons (tCB rAbs (tCons (tVar 1) tNil)) tNil)))
 (tSeq (tWhile (tTest (tOp rGtI (tVar 1) (tC (.int 0)))) (tPar 0 1 (tCons (tVar 1) (tCons (tOp rModI (tCB rInt1 (tCons (tVar 0) tNil)) (tVar 1)) tNil))))
 (tRet (tVar 0))))
theorem dv_L_common {P : Program} {w : World} {K : PySem.W.Frag} {mg : Str → Option Value} {base : Heap} {f : Addr} {cdv : Value} {A : Around} {outer : List PySem.Env} {s : Shared} {H : Hp} {E : XK}
    (hr : Room 0 (A.deeper (envOfC "_law_common" (defScope (topS 30)) s.heap.objs.size f cdv))) (m_abs : mg "abs" = none) (m_int : mg "int" = none) :
    PSs (cxOf CX0 P w K mg base N_L_common "_law_common" (defScope (topS 30)) f cdv A outer s H E).nox (defBody (topS 30)) (t_L_common K) :=
 (pss_cons (ps_par (i := 0) (j := 1) (by rfl) sc_L_common.nd rfl rfl (by decide) rfl rfl (pa_cons (pe_callB cAbs (by rfl) m_abs (by decide +kernel) (pa_cons (pv 0) pa_nil)) (pa_cons (pe_callB cAbs (by rfl) m_abs (by decide +kernel) (pa_cons (pv 1) pa_nil)) pa_nil)) (by rfl))
 (pss_cons (ps_while PassesOwn.never (pt_cmpR oGtI (pv 1) pe_int (nomark _)) (pss_one (ps_par (i := 0) (j := 1) (by rfl) sc_L_common.nd rfl rfl (by decide) rfl rfl (pa_cons (pv 1) (pa_cons (pe_op oModI (pe_callTy cInt1 (by rfl) m_int (by decide +kernel) (pa_cons (pv 0) pa_nil)) (pv 1)) pa_nil)) (by rfl))))
 (pss_one (ps_ret (pv 0)))))
abbrev N_L_to : List Str := ["_law_base", "_law_n", "_law_found", "_law_factor"]
abbrev P_L_to : List Str := ["_law_base", "_law_n"]
theorem sc_L_to : FnScope N_L_to P_L_to (defScope (topS 31)) := ⟨rfl, rfl, rfl, by decide +kernel, rfl, by decide +kernel, by decide +kernel⟩
def t_L_to (K : PySem.W.Frag) : TS := (tSeq (tPar 2 3 (tCons (tC (.int 1)) (tCons (tVar 0) tNil)))
 (tSeq (tWhile (tTest (tOp rGtI (tVar 1) (tC (.int 0)))) (tSeq (tIfS (tTest (tOp rEq (tOp rModI (tCB rInt1 (tCons (tVar 1) tNil)) (tC (.int 2))) (tC (.int 1)))) (tAsg (tOp rMulI (tVar 2) (tVar 3)) (gName 2)) tNext)
 (tPar 3 1 (tCons (tOp rMulI (tVar 3) (tVar 3)) (tCons (tOp rDivI (tCB rInt1 (tCons (tVar 1) tNil)) (tC (.int 2))) tNil)))))
 (tRet (tVar 2))))
theorem dv_L_to {P : Program} {w : World} {K : PySem.W.Frag} {mg : Str → Option Value} {base : Heap} {f : Addr} {cdv : Value} {A : Around} {outer : List PySem.Env} {s : Shared} {H : Hp} {E : XK}
    (hr : Room 0 (A.deeper (envOfC "_law_to" (defScope (topS 31)) s.heap.objs.size f cdv))) (m_int : mg "int" = none) :
    PSs (cxOf CX0 P w K mg base N_L_to "_law_to" (defScope (topS 31)) f cdv A outer s H E).nox (defBody (topS 31)) (t_L_to K) :=
 (pss_cons (ps_par (i := 2) (j := 3) (by rfl) sc_L_to.nd rfl rfl (by decide) rfl rfl (pa_cons pe_int (pa_cons (pv 0) pa_nil)) (by rfl))
 (pss_cons (ps_while PassesOwn.never (pt_cmpR oGtI (pv 1) pe_int (nomark _)) (pss_cons (ps_if (pt_cmpR op_eq (pe_op oModI (pe_callTy cInt1 (by rfl) m_int (by decide +kernel) (pa_cons (pv 1) pa_nil)) pe_int) pe_int (nomark _)) (pss_one (ps_set (i := 2) sc_L_to.nd rfl (.inl rfl) (pe_op oMulI (pv 2) (pv 3)))) pss_nil)
 (pss_one (ps_par (i := 3) (j := 1) (by rfl) sc_L_to.nd rfl rfl (by decide) rfl rfl (pa_cons (pe_op oMulI (pv 3) (pv 3)) (pa_cons (pe_op oDivI (pe_callTy cInt1 (by rfl) m_int (by decide +kernel) (pa_cons (pv 1) pa_nil)) pe_int) pa_nil)) (by rfl)))))
 (pss_one (ps_ret (pv 2)))))
abbrev N_L_over : List Str := ["_law_n", "_law_d", "_law_shared"]
abbrev P_L_over : List Str := ["_law_n", "_law_d"]
theorem sc_L_over : FnScope N_L_over P_L_over (defScope (topS 32)) := ⟨rfl, rfl, rfl, by decide +kernel, rfl, by decide +kernel, by decide +kernel⟩
def t_L_over (K : PySem.W.Frag) (s_L_common : Sp) : TS := (tSeq (tAsg (tCall s_L_common [] E0 (tCons (tVar 0) (tCons (tVar 1) tNil))) (gName 2))
 (tSeq (tAsg (tIf (tTest (tOp rGtI (tVar 1) (tC (.int 0)))) (tVar 2) (tUn rNegI (tVar 2))) (gName 2))
 (tRet (tTup (tCons (tOp rDivI (tCB rInt1 (tCons (tVar 0) tNil)) (tVar 2)) (tCons (tOp rDivI (tCB rInt1 (tCons (tVar 1) tNil)) (tVar 2)) tNil))))))
theorem dv_L_over {P : Program} {w : World} {K : PySem.W.Frag} {mg : Str → Option Value} {base : Heap} {f : Addr} {cdv : Value} {A : Around} {outer : List PySem.Env} {s : Shared} {H : Hp} {E : XK} {s_L_common : Sp}
    (hr : Room 1 (A.deeper (envOfC "_law_over" (defScope (topS 32)) s.heap.objs.size f cdv))) (c_L_common : Ok P w K mg base 1 "_law_common" P_L_common s_L_common) (m_int : mg "int" = none) :
    PSs (cxOf CX0 P w K mg base N_L_over "_law_over" (defScope (topS 32)) f cdv A outer s H E).nox (defBody (topS 32)) (t_L_over K s_L_common) :=
 (pss_cons (ps_set (i := 2) sc_L_over.nd rfl (.inl rfl) (pe_ok c_L_common hr (by rfl) (pa_cons (pv 0) (pa_cons (pv 1) pa_nil))))
 (pss_cons (ps_set (i := 2) sc_L_over.nd rfl (.inl rfl) (pe_ifExp (pt_cmpR oGtI (pv 1) pe_int (nomark _)) (pv 2) (pe_un oNegI (pv 2))))
 (pss_one (ps_ret (pe_tup (pa_cons (pe_op oDivI (pe_callTy cInt1 (by rfl) m_int (by decide +kernel) (pa_cons (pv 0) pa_nil)) (pv 2)) (pa_cons (pe_op oDivI (pe_callTy cInt1 (by rfl) m_int (by decide +kernel) (pa_cons (pv 1) pa_nil)) (pv 2)) pa_nil)))))))
abbrev N_L_lessened : List Str := ["_law_x", "_law_y"]
abbrev P_L_lessened : List Str := ["_law_x", "_law_y"]
theorem sc_L_lessened : FnScope N_L_lessened P_L_lessened (defScope (topS 33)) := ⟨rfl, rfl, rfl, by decide +kernel, rfl, by decide +kernel, by decide +kernel⟩
def t_L_lessened (K : PySem.W.Frag) (s_L_over : Sp) : TS := (tRet (tCall s_L_over [] E0 (tCons (tOp rSubI (tOp rMulI (tOp (rIxT K) (tVar 0) (tC (.int 0))) (tOp (rIxT K) (tVar 1) (tC (.int 1)))) (tOp rMulI (tOp (rIxT K) (tVar 1) (tC (.int 0))) (tOp (rIxT K) (tVar 0) (tC (.int 1))))) (tCons (tOp rMulI (tOp (rIxT K) (tVar 0) (tC (.int 1))) (tOp (rIxT K) (tVar 1) (tC (.int 1)))) tNil))))
theorem dv_L_lessened {P : Program} {w : World} {K : PySem.W.Frag} {mg : Str → Option Value} {base : Heap} {f : Addr} {cdv : Value} {A : Around} {outer : List PySem.Env} {s : Shared} {H : Hp} {E : XK} {s_L_over : Sp}
    (hr : Room 2 (A.deeper (envOfC "_law_lessened" (defScope (topS 33)) s.heap.objs.size f cdv))) (c_L_over : Ok P w K mg base 2 "_law_over" P_L_over s_L_over) :
    PSs (cxOf CX0 P w K mg base N_L_lessened "_law_lessened" (defScope (topS 33)) f cdv A outer s H E).nox (defBody (topS 33)) (t_L_lessened K s_L_over) :=
 (pss_one (ps_ret (pe_ok c_L_over hr (by rfl) (pa_cons (pe_op oSubI (pe_op oMulI (pe_ix ix_tup (pv 0) pe_int (fun _ _ => rfl)) (pe_ix ix_tup (pv 1) pe_int (fun _ _ => rfl))) (pe_op oMulI (pe_ix ix_tup (pv 1) pe_int (fun _ _ => rfl)) (pe_ix ix_tup (pv 0) pe_int (fun _ _ => rfl)))) (pa_cons (pe_op oMulI (pe_ix ix_tup (pv 0) pe_int (fun _ _ => rfl)) (pe_ix ix_tup (pv 1) pe_int (fun _ _ => rfl))) pa_nil)))))
abbrev N_L_multiplied : List Str := ["_law_x", "_law_y"]
abbrev P_L_multiplied : List Str := ["_law_x", "_law_y"]
theorem sc_L_multiplied : FnScope N_L_multiplied P_L_multiplied (defScope (topS 34)) := ⟨rfl, rfl, rfl, by decide +kernel, rfl, by decide +kernel, by decide +kernel⟩
def t_L_multiplied (K : PySem.W.Frag) (s_L_over : Sp) : TS := (tRet (tCall s_L_over [] E0 (tCons (tOp rMulI (tOp (rIxT K) (tVar 0) (tC (.int 0))) (tOp (rIxT K) (tVar 1) (tC (.int 0)))) (tCons (tOp rMulI (tOp (rIxT K) (tVar 0) (tC (.int 1))) (tOp (rIxT K) (tVar 1) (tC (.int 1)))) tNil))))
theorem dv_L_multiplied {P : Program} {w : World} {K : PySem.W.Frag} {mg : Str → Option Value} {base : Heap} {f : Addr} {cdv : Value} {A : Around} {outer : List PySem.Env} {s : Shared} {H : Hp} {E : XK} {s_L_over : Sp}
    (hr : Room 2 (A.deeper (envOfC "_law_multiplied" (defScope (topS 34)) s.heap.objs.size f cdv))) (c_L_over : Ok P w K mg base 2 "_law_over" P_L_over s_L_over) :
    PSs (cxOf CX0 P w K mg base N_L_multiplied "_law_multiplied" (defScope (topS 34)) f cdv A outer s H E).nox (defBody (topS 34)) (t_L_multiplied K s_L_over) :=
 (pss_one (ps_ret (pe_ok c_L_over hr (by rfl) (pa_cons (pe_op oMulI (pe_ix ix_tup (pv 0) pe_int (fun _ _ => rfl)) (pe_ix ix_tup (pv 1) pe_int (fun _ _ => rfl))) (pa_cons (pe_op oMulI (pe_ix ix_tup (pv 0) pe_int (fun _ _ => rfl)) (pe_ix ix_tup (pv 1) pe_int (fun _ _ => rfl))) pa_nil)))))
abbrev N_L_is_below : List Str := ["_law_x", "_law_y"]
abbrev P_L_is_below : List Str := ["_law_x", "_law_y"]
theorem sc_L_is_below : FnScope N_L_is_below P_L_is_below (defScope (topS 35)) := ⟨rfl, rfl, rfl, by decide +kernel, rfl, by decide +kernel, by decide +kernel⟩
def t_L_is_below (K : PySem.W.Frag) : TS := (tRet (tOp rLtI (tOp rMulI (tOp (rIxT K) (tVar 0) (tC (.int 0))) (tOp (rIxT K) (tVar 1) (tC (.int 1)))) (tOp rMulI (tOp (rIxT K) (tVar 1) (tC (.int 0))) (tOp (rIxT K) (tVar 0) (tC (.int 1))))))
theorem dv_L_is_below {P : Program} {w : World} {K : PySem.W.Frag} {mg : Str → Option Value} {base : Heap} {f : Addr} {cdv : Value} {A : Around} {outer : List PySem.Env} {s : Shared} {H : Hp} {E : XK}
    (hr : Room 0 (A.deeper (envOfC "_law_is_below" (defScope (topS 35)) s.heap.objs.size f cdv))) :
    PSs (cxOf CX0 P w K mg base N_L_is_below "_law_is_below" (defScope (topS 35)) f cdv A outer s H E).nox (defBody (topS 35)) (t_L_is_below K) :=
 (pss_one (ps_ret (pe_cmpR oLtI (pe_op oMulI (pe_ix ix_tup (pv 0) pe_int (fun _ _ => rfl)) (pe_ix ix_tup (pv 1) pe_int (fun _ _ => rfl))) (pe_op oMulI (pe_ix ix_tup (pv 1) pe_int (fun _ _ => rfl)) (pe_ix ix_tup (pv 0) pe_int (fun _ _ => rfl))) (nomark _))))
abbrev N_L_sized : List Str := ["_law_x"]
abbrev P_L_sized : List Str := ["_law_x"]
theorem sc_L_sized : FnScope N_L_sized P_L_sized (defScope (topS 36)) := ⟨rfl, rfl, rfl, by decide +kernel, rfl, by decide +kernel, by decide +kernel⟩
def t_L_sized (K : PySem.W.Frag) : TS := (tRet (tTup (tCons (tCB rAbs (tCons (tOp (rIxT K) (tVar 0) (tC (.int 0))) tNil)) (tCons (tOp (rIxT K) (tVar 0) (tC (.int 1))) tNil))))
theorem dv_L_sized {P : Program} {w : World} {K : PySem.W.Frag} {mg : Str → Option Value} {base : Heap} {f : Addr} {cdv : Value} {A : Around} {outer : List PySem.Env} {s : Shared} {H : Hp} {E : XK}
    (hr : Room 0 (A.deeper (envOfC "_law_sized" (defScope (topS 36)) s.heap.objs.size f cdv))) (m_abs : mg "abs" = none) :
    PSs (cxOf CX0 P w K mg base N_L_sized "_law_sized" (defScope (topS 36)) f cdv A outer s H E).nox (defBody (topS 36)) (t_L_sized K) :=
 (pss_one (ps_ret (pe_tup (pa_cons (pe_callB cAbs (by rfl) m_abs (by decide +kernel) (pa_cons (pe_ix ix_tup (pv 0) pe_int (fun _ _ => rfl)) pa_nil)) (pa_cons (pe_ix ix_tup (pv 0) pe_int (fun _ _ => rfl)) pa_nil)))))
abbrev N_L_power : List Str := ["_law_base", "_law_e"]
abbrev P_L_power : List Str := ["_law_base", "_law_e"]
theorem sc_L_power : FnScope N_L_power P_L_power (defScope (topS 37)) := ⟨rfl, rfl, rfl, by decide +kernel, rfl, by decide +kernel, by decide +kernel⟩
def t_L_power (K : PySem.W.Frag) (s_L_to : Sp) : TS := (tRet (tIf (tTest (tOp rGeI (tVar 1) (tC (.int 0)))) (tTup (tCons (tCall s_L_to [] E0 (tCons (tVar 0) (tCons (tVar 1) tNil))) (tCons (tC (.int 1)) tNil))) (tTup (tCons (tC (.int 1)) (tCons (tCall s_L_to [] E0 (tCons (tVar 0) (tCons (tUn rNegI (tVar 1)) tNil))) tNil)))))
theorem dv_L_power {P : Program} {w : World} {K : PySem.W.Frag} {mg : Str → Option Value} {base : Heap} {f : Addr} {cdv : Value} {A : Around} {outer : List PySem.Env} {s : Shared} {H : Hp} {E : XK} {s_L_to : Sp}
    (hr : Room 1 (A.deeper (envOfC "_law_power" (defScope (topS 37)) s.heap.objs.size f cdv))) (c_L_to : Ok P w K mg base 1 "_law_to" P_L_to s_L_to) :
    PSs (cxOf CX0 P w K mg base N_L_power "_law_power" (defScope (topS 37)) f cdv A outer s H E).nox (defBody (topS 37)) (t_L_power K s_L_to) :=
 (pss_one (ps_ret (pe_ifExp (pt_cmpR oGeI (pv 1) pe_int (nomark _)) (pe_tup (pa_cons (pe_ok c_L_to hr (by rfl) (pa_cons (pv 0) (pa_cons (pv 1) pa_nil))) (pa_cons pe_int pa_nil))) (pe_tup (pa_cons pe_int (pa_cons (pe_ok c_L_to hr (by rfl) (pa_cons (pv 0) (pa_cons (pe_un oNegI (pv 1)) pa_nil))) pa_nil))))))
abbrev N_L_worth : List Str := ["_law_form", "_law_number_here", "_law_size"]
abbrev P_L_worth : List Str := ["_law_form", "_law_number_here"]
theorem sc_L_worth : FnScope N_L_worth P_L_worth (defScope (topS 38)) := ⟨rfl, rfl, rfl, by decide +kernel, rfl, by decide +kernel, by decide +kernel⟩
def t_L_worth (K : PySem.W.Frag) (s_L_multiplied s_L_power : Sp) : TS := (tSeq (tAsg (tCall s_L_multiplied [] E0 (tCons (tTup (tCons (tOp (rIxT K) (tVar 1) (tC (.int 2))) (tCons (tC (.int 1)) tNil))) (tCons (tCall s_L_power [] E0 (tCons (tOp (rIxT K) (tVar 0) (tC (.int 0))) (tCons (tOp (rIxT K) (tVar 1) (tC (.int 3))) tNil))) tNil))) (gName 2))
 (tRet (tIf (tTest (tOp rEq (tOp (rIxT K) (tVar 1) (tC (.int 1))) (tC (.int 1)))) (tTup (tCons (tUn rNegI (tOp (rIxT K) (tVar 2) (tC (.int 0)))) (tCons (tOp (rIxT K) (tVar 2) (tC (.int 1))) tNil))) (tVar 2))))
theorem dv_L_worth {P : Program} {w : World} {K : PySem.W.Frag} {mg : Str → Option Value} {base : Heap} {f : Addr} {cdv : Value} {A : Around} {outer : List PySem.Env} {s : Shared} {H : Hp} {E : XK} {s_L_multiplied s_L_power : Sp}
    (hr : Room 3 (A.deeper (envOfC "_law_worth" (defScope (topS 38)) s.heap.objs.size f cdv))) (c_L_multiplied : Ok P w K mg base 3 "_law_multiplied" P_L_multiplied s_L_multiplied) (c_L_power : Ok P w K mg base 2 "_law_power" P_L_power s_L_power) :
    PSs (cxOf CX0 P w K mg base N_L_worth "_law_worth" (defScope (topS 38)) f cdv A outer s H E).nox (defBody (topS 38)) (t_L_worth K s_L_multiplied s_L_power) :=
 (pss_cons (ps_set (i := 2) sc_L_worth.nd rfl (.inl rfl) (pe_ok c_L_multiplied hr (by rfl) (pa_cons (pe_tup (pa_cons (pe_ix ix_tup (pv 1) pe_int (fun _ _ => rfl)) (pa_cons pe_int pa_nil))) (pa_cons (pe_ok c_L_power hr (by rfl) (pa_cons (pe_ix ix_tup (pv 0) pe_int (fun _ _ => rfl)) (pa_cons (pe_ix ix_tup (pv 1) pe_int (fun _ _ => rfl)) pa_nil))) pa_nil))))
 (pss_one (ps_ret (pe_ifExp (pt_cmpR op_eq (pe_ix ix_tup (pv 1) pe_int (fun _ _ => rfl)) pe_int (nomark _)) (pe_tup (pa_cons (pe_un oNegI (pe_ix ix_tup (pv 2) pe_int (fun _ _ => rfl))) (pa_cons (pe_ix ix_tup (pv 2) pe_int (fun _ _ => rfl)) pa_nil))) (pv 2)))))
abbrev N_L_formats : List Str := ["_law_bag_here", "_law_small"]
abbrev P_L_formats : List Str := ["_law_bag_here"]
theorem sc_L_formats : FnScope N_L_formats P_L_formats (defScope (topS 39)) := ⟨rfl, rfl, rfl, by decide +kernel, rfl, by decide +kernel, by decide +kernel⟩
def t_L_formats (K : PySem.W.Frag) (s_L_some : Sp) : TS := (tSeq (tAsg (tLst (tCons (tTup (tCons (tC (.int 2)) (tCons (tC (.int 2)) (tCons (tC (.int 0)) (tCons (tC (.int 0)) tNil))))) (tCons (tTup (tCons (tC (.int 2)) (tCons (tC (.int 2)) (tCons (tUn rNegI (tC (.int 3))) (tCons (tC (.int 2)) tNil))))) (tCons (tTup (tCons (tC (.int 2)) (tCons (tC (.int 3)) (tCons (tUn rNegI (tC (.int 4))) (tCons (tC (.int 3)) tNil))))) (tCons (tTup (tCons (tC (.int 4)) (tCons (tC (.int 2)) (tCons (tUn rNegI (tC (.int 2))) (tCons (tC (.int 1)) tNil))))) (tCons (tTup (tCons (tC (.int 10)) (tCons (tC (.int 2)) (tCons (tUn rNegI (tC (.int 2))) (tCons (tC (.int 1)) tNil))))) (tCons (tTup (tCons (tC (.int 6)) (tCons (tC (.int 2)) (tCons (tUn rNegI (tC (.int 1))) (tCons (tC (.int 2)) tNil))))) (tCons (tTup (tCons (tC (.int 2)) (tCons (tC (.int 4)) (tCons (tUn rNegI (tC (.int 2))) (tCons (tC (.int 2)) tNil))))) tNil)))))))) (gName 1))
 (tRet (tCall s_L_some [] E0 (tCons (tVar 0) (tCons (tOp rCat (tVar 1) (tLst (tCons (tTup (tCons (tC (.int 4)) (tCons (tC (.int 2)) (tCons (tC (.int 1)) (tCons (tC (.int 3)) tNil))))) (tCons (tTup (tCons (tC (.int 2)) (tCons (tC (.int 3)) (tCons (tC (.int 2)) (tCons (tC (.int 5)) tNil))))) (tCons (tTup (tCons (tC (.int 10)) (tCons (tC (.int 2)) (tCons (tUn rNegI (tC (.int 6))) (tCons (tUn rNegI (tC (.int 5))) tNil))))) tNil))))) tNil)))))
theorem dv_L_formats {P : Program} {w : World} {K : PySem.W.Frag} {mg : Str → Option Value} {base : Heap} {f : Addr} {cdv : Value} {A : Around} {outer : List PySem.Env} {s : Shared} {H : Hp} {E : XK} {s_L_some : Sp}
    (hr : Room 2 (A.deeper (envOfC "_law_formats" (defScope (topS 39)) s.heap.objs.size f cdv))) (c_L_some : Ok P w K mg base 2 "_law_some" P_L_some s_L_some) :
    PSs (cxOf CX0 P w K mg base N_L_formats "_law_formats" (defScope (topS 39)) f cdv A outer s H E).nox (defBody (topS 39)) (t_L_formats K s_L_some) :=
 (pss_cons (ps_set (i := 1) sc_L_formats.nd rfl (.inl rfl) (pe_lst (pa_cons (pe_tup (pa_cons pe_int (pa_cons pe_int (pa_cons pe_int (pa_cons pe_int pa_nil))))) (pa_cons (pe_tup (pa_cons pe_int (pa_cons pe_int (pa_cons (pe_un oNegI pe_int) (pa_cons pe_int pa_nil))))) (pa_cons (pe_tup (pa_cons pe_int (pa_cons pe_int (pa_cons (pe_un oNegI pe_int) (pa_cons pe_int pa_nil))))) (pa_cons (pe_tup (pa_cons pe_int (pa_cons pe_int (pa_cons (pe_un oNegI pe_int) (pa_cons pe_int pa_nil))))) (pa_cons (pe_tup (pa_cons pe_int (pa_cons pe_int (pa_cons (pe_un oNegI pe_int) (pa_cons pe_int pa_nil))))) (pa_cons (pe_tup (pa_cons pe_int (pa_cons pe_int (pa_cons (pe_un oNegI pe_int) (pa_cons pe_int pa_nil))))) (pa_cons (pe_tup (pa_cons pe_int (pa_cons pe_int (pa_cons (pe_un oNegI pe_int) (pa_cons pe_int pa_nil))))) pa_nil)))))))))
 (pss_one (ps_ret (pe_ok c_L_some hr (by rfl) (pa_cons (pv 0) (pa_cons (pe_op op_cat (pv 1) (pe_lst (pa_cons (pe_tup (pa_cons pe_int (pa_cons pe_int (pa_cons pe_int (pa_cons pe_int pa_nil))))) (pa_cons (pe_tup (pa_cons pe_int (pa_cons pe_int (pa_cons pe_int (pa_cons pe_int pa_nil))))) (pa_cons (pe_tup (pa_cons pe_int (pa_cons pe_int (pa_cons (pe_un oNegI pe_int) (pa_cons (pe_un oNegI pe_int) pa_nil))))) pa_nil))))) pa_nil))))))
abbrev N_L_wide_format : List Str := ["_law_bag_here", "_law_some_here", "_law_far"]
abbrev P_L_wide_format : List Str := ["_law_bag_here"]
theorem sc_L_wide_format : FnScope N_L_wide_format P_L_wide_format (defScope (topS 40)) := ⟨rfl, rfl, rfl, by decide +kernel, rfl, by decide +kernel, by decide +kernel⟩
def t_L_wide_format (K : PySem.W.Frag) (s_L_some s_L_take : Sp) : TS := (tSeq (tAsg (tLst (tCons (tTup (tCons (tC (.int 2)) (tCons (tC (.int 24)) (tCons (tUn rNegI (tC (.int 149))) (tCons (tC (.int 104)) tNil))))) (tCons (tTup (tCons (tC (.int 2)) (tCons (tC (.int 11)) (tCons (tUn rNegI (tC (.int 24))) (tCons (tC (.int 5)) tNil))))) (tCons (tTup (tCons (tC (.int 10)) (tCons (tC (.int 7)) (tCons (tUn rNegI (tC (.int 101))) (tCons (tC (.int 90)) tNil))))) (tCons (tTup (tCons (tC (.int 36)) (tCons (tC (.int 3)) (tCons (tUn rNegI (tC (.int 5))) (tCons (tC (.int 4)) tNil))))) (tCons (tTup (tCons (tC (.int 16)) (tCons (tC (.int 6)) (tCons (tUn rNegI (tC (.int 70))) (tCons (tC (.int 57)) tNil))))) (tCons (tTup (tCons (tC (.int 10)) (tCons (tC (.int 34)) (tCons (tUn rNegI (tC (.int 60))) (tCons (tC (.int 40)) tNil))))) tNil))))))) (gName 1))
 (tSeq (tAsg (tOp rCat (tVar 1) (tLst (tCons (tTup (tCons (tC (.int 2)) (tCons (tC (.int 8)) (tCons (tUn rNegI (tC (.int 133))) (tCons (tC (.int 120)) tNil))))) (tCons (tTup (tCons (tC (.int 20)) (tCons (tC (.int 2)) (tCons (tC (.int 0)) (tCons (tC (.int 3)) tNil))))) (tCons (tTup (tCons (tC (.int 10)) (tCons (tC (.int 16)) (tCons (tUn rNegI (tC (.int 98))) (tCons (tC (.int 69)) tNil))))) (tCons (tTup (tCons (tC (.int 2)) (tCons (tC (.int 53)) (tCons (tUn rNegI (tC (.int 120))) (tCons (tC (.int 60)) tNil))))) (tCons (tTup (tCons (tC (.int 10)) (tCons (tC (.int 20)) (tCons (tC (.int 5)) (tCons (tC (.int 60)) tNil))))) tNil))))))) (gName 1))
 (tSeq (tAsg (tOp rCat (tVar 1) (tLst (tCons (tTup (tCons (tC (.int 2)) (tCons (tC (.int 30)) (tCons (tUn rNegI (tC (.int 90))) (tCons (tUn rNegI (tC (.int 40))) tNil))))) (tCons (tTup (tCons (tC (.int 14)) (tCons (tC (.int 5)) (tCons (tUn rNegI (tC (.int 9))) (tCons (tC (.int 9)) tNil))))) (tCons (tTup (tCons (tC (.int 22)) (tCons (tC (.int 4)) (tCons (tC (.int 1)) (tCons (tC (.int 8)) tNil))))) tNil))))) (gName 1))
 (tSeq (tAsg (tLst (tCons (tTup (tCons (tC (.int 2)) (tCons (tC (.int 53)) (tCons (tUn rNegI (tC (.int 1074))) (tCons (tC (.int 971)) tNil))))) (tCons (tTup (tCons (tC (.int 10)) (tCons (tC (.int 16)) (tCons (tUn rNegI (tC (.int 398))) (tCons (tC (.int 369)) tNil))))) (tCons (tTup (tCons (tC (.int 36)) (tCons (tC (.int 120)) (tCons (tUn rNegI (tC (.int 200))) (tCons (tC (.int 200)) tNil))))) (tCons (tTup (tCons (tC (.int 2)) (tCons (tC (.int 120)) (tCons (tUn rNegI (tC (.int 1200))) (tCons (tC (.int 1080)) tNil))))) (tCons (tTup (tCons (tC (.int 10)) (tCons (tC (.int 100)) (tCons (tUn rNegI (tC (.int 700))) (tCons (tC (.int 700)) tNil))))) tNil)))))) (gName 2))
 (tSeq (tAsg (tOp rCat (tVar 2) (tLst (tCons (tTup (tCons (tC (.int 2)) (tCons (tC (.int 24)) (tCons (tUn rNegI (tC (.int 1200))) (tCons (tC (.int 1200)) tNil))))) (tCons (tTup (tCons (tC (.int 2)) (tCons (tC (.int 40)) (tCons (tUn rNegI (tC (.int 300))) (tCons (tC (.int 300)) tNil))))) (tCons (tTup (tCons (tC (.int 10)) (tCons (tC (.int 16)) (tCons (tUn rNegI (tC (.int 300))) (tCons (tC (.int 300)) tNil))))) tNil))))) (gName 2))
 (tRet (tCall s_L_some [] E0 (tCons (tVar 0) (tCons (tIf (tTest (tOp rGtI (tCall s_L_take [] E0 (tCons (tVar 0) (tCons (tC (.int 4)) tNil))) (tC (.int 0)))) (tVar 1) (tVar 2)) tNil)))))))))
theorem dv_L_wide_format {P : Program} {w : World} {K : PySem.W.Frag} {mg : Str → Option Value} {base : Heap} {f : Addr} {cdv : Value} {A : Around} {outer : List PySem.Env} {s : Shared} {H : Hp} {E : XK} {s_L_some s_L_take : Sp}
    (hr : Room 2 (A.deeper (envOfC "_law_wide_format" (defScope (topS 40)) s.heap.objs.size f cdv))) (c_L_some : Ok P w K mg base 2 "_law_some" P_L_some s_L_some) (c_L_take : Ok P w K mg base 1 "_law_take" P_L_take s_L_take) :
    PSs (cxOf CX0 P w K mg base N_L_wide_format "_law_wide_format" (defScope (topS 40)) f cdv A outer s H E).nox (defBody (topS 40)) (t_L_wide_format K s_L_some s_L_take) :=
 (pss_cons (ps_set (i := 1) sc_L_wide_format.nd rfl (.inl rfl) (pe_lst (pa_cons (pe_tup (pa_cons pe_int (pa_cons pe_int (pa_cons (pe_un oNegI pe_int) (pa_cons pe_int pa_nil))))) (pa_cons (pe_tup (pa_cons pe_int (pa_cons pe_int (pa_cons (pe_un oNegI pe_int) (pa_cons pe_int pa_nil))))) (pa_cons (pe_tup (pa_cons pe_int (pa_cons pe_int (pa_cons (pe_un oNegI pe_int) (pa_cons pe_int pa_nil))))) (pa_cons (pe_tup (pa_cons pe_int (pa_cons pe_int (pa_cons (pe_un oNegI pe_int) (pa_cons pe_int pa_nil))))) (pa_cons (pe_tup (pa_cons pe_int (pa_cons pe_int (pa_cons (pe_un oNegI pe_int) (pa_cons pe_int pa_nil))))) (pa_cons (pe_tup (pa_cons pe_int (pa_cons pe_int (pa_cons (pe_un oNegI pe_int) (pa_cons pe_int pa_nil))))) pa_nil))))))))
 (pss_cons (ps_set (i := 1) sc_L_wide_format.nd rfl (.inl rfl) (pe_op op_cat (pv 1) (pe_lst (pa_cons (pe_tup (pa_cons pe_int (pa_cons pe_int (pa_cons (pe_un oNegI pe_int) (pa_cons pe_int pa_nil))))) (pa_cons (pe_tup (pa_cons pe_int (pa_cons pe_int (pa_cons pe_int (pa_cons pe_int pa_nil))))) (pa_cons (pe_tup (pa_cons pe_int (pa_cons pe_int (pa_cons (pe_un oNegI pe_int) (pa_cons pe_int pa_nil))))) (pa_cons (pe_tup (pa_cons pe_int (pa_cons pe_int (pa_cons (pe_un oNegI pe_int) (pa_cons pe_int pa_nil))))) (pa_cons (pe_tup (pa_cons pe_int (pa_cons pe_int (pa_cons pe_int (pa_cons pe_int pa_nil))))) pa_nil))))))))
 (pss_cons (ps_set (i := 1) sc_L_wide_format.nd rfl (.inl rfl) (pe_op op_cat (pv 1) (pe_lst (pa_cons (pe_tup (pa_cons pe_int (pa_cons pe_int (pa_cons (pe_un oNegI pe_int) (pa_cons (pe_un oNegI pe_int) pa_nil))))) (pa_cons (pe_tup (pa_cons pe_int (pa_cons pe_int (pa_cons (pe_un oNegI pe_int) (pa_cons pe_int pa_nil))))) (pa_cons (pe_tup (pa_cons pe_int (pa_cons pe_int (pa_cons pe_int (pa_cons pe_int pa_nil))))) pa_nil))))))
 (pss_cons (ps_set (i := 2) sc_L_wide_format.nd rfl (.inl rfl) (pe_lst (pa_cons (pe_tup (pa_cons pe_int (pa_cons pe_int (pa_cons (pe_un oNegI pe_int) (pa_cons pe_int pa_nil))))) (pa_cons (pe_tup (pa_cons pe_int (pa_cons pe_int (pa_cons (pe_un oNegI pe_int) (pa_cons pe_int pa_nil))))) (pa_cons (pe_tup (pa_cons pe_int (pa_cons pe_int (pa_cons (pe_un oNegI pe_int) (pa_cons pe_int pa_nil))))) (pa_cons (pe_tup (pa_cons pe_int (pa_cons pe_int (pa_cons (pe_un oNegI pe_int) (pa_cons pe_int pa_nil))))) (pa_cons (pe_tup (pa_cons pe_int (pa_cons pe_int (pa_cons (pe_un oNegI pe_int) (pa_cons pe_int pa_nil))))) pa_nil)))))))
 (pss_cons (ps_set (i := 2) sc_L_wide_format.nd rfl (.inl rfl) (pe_op op_cat (pv 2) (pe_lst (pa_cons (pe_tup (pa_cons pe_int (pa_cons pe_int (pa_cons (pe_un oNegI pe_int) (pa_cons pe_int pa_nil))))) (pa_cons (pe_tup (pa_cons pe_int (pa_cons pe_int (pa_cons (pe_un oNegI pe_int) (pa_cons pe_int pa_nil))))) (pa_cons (pe_tup (pa_cons pe_int (pa_cons pe_int (pa_cons (pe_un oNegI pe_int) (pa_cons pe_int pa_nil))))) pa_nil))))))
 (pss_one (ps_ret (pe_ok c_L_some hr (by rfl) (pa_cons (pv 0) (pa_cons (pe_ifExp (pt_cmpR oGtI (pe_ok c_L_take hr (by rfl) (pa_cons (pv 0) (pa_cons pe_int pa_nil))) pe_int (nomark _)) (pv 1) (pv 2)) pa_nil))))))))))
abbrev N_L_any_format : List Str := ["_law_bag_here"]
abbrev P_L_any_format : List Str := ["_law_bag_here"]
theorem sc_L_any_format : FnScope N_L_any_format P_L_any_format (defScope (topS 41)) := ⟨rfl, rfl, rfl, by decide +kernel, rfl, by decide +kernel, by decide +kernel⟩
def t_L_any_format (K : PySem.W.Frag) (s_L_take s_L_formats s_L_wide_format : Sp) : TS := (tRet (tIf (tTest (tOp rGtI (tCall s_L_take [] E0 (tCons (tVar 0) (tCons (tC (.int 3)) tNil))) (tC (.int 0)))) (tCall s_L_formats [] E0 (tCons (tVar 0) tNil)) (tCall s_L_wide_format [] E0 (tCons (tVar 0) tNil))))
theorem dv_L_any_format {P : Program} {w : World} {K : PySem.W.Frag} {mg : Str → Option Value} {base : Heap} {f : Addr} {cdv : Value} {A : Around} {outer : List PySem.Env} {s : Shared} {H : Hp} {E : XK} {s_L_take s_L_formats s_L_wide_format : Sp}
    (hr : Room 3 (A.deeper (envOfC "_law_any_format" (defScope (topS 41)) s.heap.objs.size f cdv))) (c_L_take : Ok P w K mg base 1 "_law_take" P_L_take s_L_take) (c_L_formats : Ok P w K mg base 3 "_law_formats" P_L_formats s_L_formats) (c_L_wide_format : Ok P w K mg base 3 "_law_wide_format" P_L_wide_format s_L_wide_format) :
    PSs (cxOf CX0 P w K mg base N_L_any_format "_law_any_format" (defScope (topS 41)) f cdv A outer s H E).nox (defBody (topS 41)) (t_L_any_format K s_L_take s_L_formats s_L_wide_format) :=
 (pss_one (ps_ret (pe_ifExp (pt_cmpR oGtI (pe_ok c_L_take hr (by rfl) (pa_cons (pv 0) (pa_cons pe_int pa_nil))) pe_int (nomark _)) (pe_ok c_L_formats hr (by rfl) (pa_cons (pv 0) pa_nil)) (pe_ok c_L_wide_format hr (by rfl) (pa_cons (pv 0) pa_nil)))))
abbrev N_L_edges : List Str := ["_law_form", "_law_base", "_law_digits", "_law_low", "_law_high", "_law_lead", "_law_most", "_law_found"]
abbrev P_L_edges : List Str := ["_law_form"]
theorem sc_L_edges : FnScope N_L_edges P_L_edges (defScope (topS 42)) := ⟨rfl, rfl, rfl, by decide +kernel, rfl, by decide +kernel, by decide +kernel⟩
def t_L_edges (K : PySem.W.Frag) (s_L_to : Sp) : TS := (tSeq (tAsg (tVar 0) (gTup K 4 (gCons (gName 1) (gCons (gName 2) (gCons (gName 3) (gCons (gName 4) gNil))))))
 (tSeq (tPar 5 6 (tCons (tCall s_L_to [] E0 (tCons (tVar 1) (tCons (tOp rSubI (tVar 2) (tC (.int 1))) tNil))) (tCons (tOp rSubI (tCall s_L_to [] E0 (tCons (tVar 1) (tCons (tVar 2) tNil))) (tC (.int 1))) tNil)))
 (tSeq (tAsg (tLst (tCons (tTup (tCons (tC (.str "num")) (tCons (tC (.int 0)) (tCons (tC (.int 0)) (tCons (tVar 3) tNil))))) (tCons (tTup (tCons (tC (.str "num")) (tCons (tC (.int 0)) (tCons (tC (.int 1)) (tCons (tVar 3) tNil))))) (tCons (tTup (tCons (tC (.str "num")) (tCons (tC (.int 0)) (tCons (tOp rSubI (tVar 5) (tC (.int 1))) (tCons (tVar 3) tNil))))) (tCons (tTup (tCons (tC (.str "num")) (tCons (tC (.int 0)) (tCons (tVar 5) (tCons (tVar 3) tNil))))) tNil))))) (gName 7))
 (tSeq (tAsg (tOp rCat (tVar 7) (tLst (tCons (tTup (tCons (tC (.str "num")) (tCons (tC (.int 0)) (tCons (tOp rAddI (tVar 5) (tC (.int 1))) (tCons (tVar 3) tNil))))) (tCons (tTup (tCons (tC (.str "num")) (tCons (tC (.int 0)) (tCons (tVar 6) (tCons (tVar 3) tNil))))) (tCons (tTup (tCons (tC (.str "num")) (tCons (tC (.int 0)) (tCons (tVar 5) (tCons (tVar 4) tNil))))) (tCons (tTup (tCons (tC (.str "num")) (tCons (tC (.int 0)) (tCons (tVar 6) (tCons (tVar 4) tNil))))) tNil)))))) (gName 7))
 (tRet (tOp rCat (tVar 7) (tLst (tCons (tTup (tCons (tC (.str "num")) (tCons (tC (.int 0)) (tCons (tOp rSubI (tVar 6) (tC (.int 1))) (tCons (tVar 4) tNil))))) (tCons (tTup (tCons (tC (.str "num")) (tCons (tC (.int 0)) (tCons (tOp rAddI (tVar 5) (tOp rDivI (tVar 5) (tC (.int 2)))) (tCons (tVar 4) tNil))))) tNil)))))))))
theorem dv_L_edges {P : Program} {w : World} {K : PySem.W.Frag} {mg : Str → Option Value} {base : Heap} {f : Addr} {cdv : Value} {A : Around} {outer : List PySem.Env} {s : Shared} {H : Hp} {E : XK} {s_L_to : Sp}
    (hr : Room 1 (A.deeper (envOfC "_law_edges" (defScope (topS 42)) s.heap.objs.size f cdv))) (c_L_to : Ok P w K mg base 1 "_law_to" P_L_to s_L_to) :
    PSs (cxOf CX0 P w K mg base N_L_edges "_law_edges" (defScope (topS 42)) f cdv A outer s H E).nox (defBody (topS 42)) (t_L_edges K s_L_to) :=
 (pss_cons (ps_asg (pv 0) (pg_tup rfl (pgs_cons (pg_name (i := 1) sc_L_edges.nd rfl (.inl rfl)) (pgs_cons (pg_name (i := 2) sc_L_edges.nd rfl (.inl rfl)) (pgs_cons (pg_name (i := 3) sc_L_edges.nd rfl (.inl rfl)) (pgs_cons (pg_name (i := 4) sc_L_edges.nd rfl (.inl rfl)) pgs_nil))))))
 (pss_cons (ps_par (i := 5) (j := 6) (by rfl) sc_L_edges.nd rfl rfl (by decide) rfl rfl (pa_cons (pe_ok c_L_to hr (by rfl) (pa_cons (pv 1) (pa_cons (pe_op oSubI (pv 2) pe_int) pa_nil))) (pa_cons (pe_op oSubI (pe_ok c_L_to hr (by rfl) (pa_cons (pv 1) (pa_cons (pv 2) pa_nil))) pe_int) pa_nil)) (by rfl))
 (pss_cons (ps_set (i := 7) sc_L_edges.nd rfl (.inl rfl) (pe_lst (pa_cons (pe_tup (pa_cons pe_str (pa_cons pe_int (pa_cons pe_int (pa_cons (pv 3) pa_nil))))) (pa_cons (pe_tup (pa_cons pe_str (pa_cons pe_int (pa_cons pe_int (pa_cons (pv 3) pa_nil))))) (pa_cons (pe_tup (pa_cons pe_str (pa_cons pe_int (pa_cons (pe_op oSubI (pv 5) pe_int) (pa_cons (pv 3) pa_nil))))) (pa_cons (pe_tup (pa_cons pe_str (pa_cons pe_int (pa_cons (pv 5) (pa_cons (pv 3) pa_nil))))) pa_nil))))))
 (pss_cons (ps_set (i := 7) sc_L_edges.nd rfl (.inl rfl) (pe_op op_cat (pv 7) (pe_lst (pa_cons (pe_tup (pa_cons pe_str (pa_cons pe_int (pa_cons (pe_op oAddI (pv 5) pe_int) (pa_cons (pv 3) pa_nil))))) (pa_cons (pe_tup (pa_cons pe_str (pa_cons pe_int (pa_cons (pv 6) (pa_cons (pv 3) pa_nil))))) (pa_cons (pe_tup (pa_cons pe_str (pa_cons pe_int (pa_cons (pv 5) (pa_cons (pv 4) pa_nil))))) (pa_cons (pe_tup (pa_cons pe_str (pa_cons pe_int (pa_cons (pv 6) (pa_cons (pv 4) pa_nil))))) pa_nil)))))))
 (pss_one (ps_ret (pe_op op_cat (pv 7) (pe_lst (pa_cons (pe_tup (pa_cons pe_str (pa_cons pe_int (pa_cons (pe_op oSubI (pv 6) pe_int) (pa_cons (pv 4) pa_nil))))) (pa_cons (pe_tup (pa_cons pe_str (pa_cons pe_int (pa_cons (pe_op oAddI (pv 5) (pe_op oDivI (pv 5) pe_int)) (pa_cons (pv 4) pa_nil))))) pa_nil))))))))))
abbrev N_L_number : List Str := ["_law_bag_here", "_law_form", "_law_base", "_law_digits", "_law_low", "_law_high", "_law_way", "_law_s", "_law_number_here", "_law_e", "_law_lead", "_law_c"]
abbrev P_L_number : List Str := ["_law_bag_here", "_law_form"]
theorem sc_L_number : FnScope N_L_number P_L_number (defScope (topS 43)) := ⟨rfl, rfl, rfl, by decide +kernel, rfl, by decide +kernel, by decide +kernel⟩
def t_L_number (K : PySem.W.Frag) (s_L_take s_L_some s_L_edges s_L_to : Sp) : TS := (tSeq (tAsg (tVar 1) (gTup K 4 (gCons (gName 2) (gCons (gName 3) (gCons (gName 4) (gCons (gName 5) gNil))))))
 (tSeq (tPar 6 7 (tCons (tCall s_L_take [] E0 (tCons (tVar 0) (tCons (tC (.int 6)) tNil))) (tCons (tCall s_L_take [] E0 (tCons (tVar 0) (tCons (tC (.int 2)) tNil))) tNil)))
 (tSeq (tIfS (tTest (tOp rLtI (tVar 6) (tC (.int 2)))) (tAsg (tCall s_L_some [] E0 (tCons (tVar 0) (tCons (tCall s_L_edges [] E0 (tCons (tVar 1) tNil)) tNil))) (gName 8)) (tSeq (tAsg (tCall s_L_some [] E0 (tCons (tVar 0) (tCons (tLst (tCons (tVar 4) (tCons (tVar 5) (tCons (tOp rAddI (tVar 4) (tCall s_L_take [] E0 (tCons (tVar 0) (tCons (tOp rAddI (tOp rSubI (tVar 5) (tVar 4)) (tC (.int 1))) tNil)))) (tCons (tCB rMin2 (tCons (tVar 5) (tCons (tCB rMax2 (tCons (tVar 4) (tCons (tUn rNegI (tOp rDivI (tVar 3) (tC (.int 2)))) tNil))) tNil))) tNil))))) tNil))) (gName 9))
 (tSeq (tAsg (tCall s_L_to [] E0 (tCons (tVar 2) (tCons (tOp rSubI (tVar 3) (tC (.int 1))) tNil))) (gName 10))
 (tSeq (tAsg (tOp rAddI (tVar 10) (tCall s_L_take [] E0 (tCons (tVar 0) (tCons (tOp rSubI (tCall s_L_to [] E0 (tCons (tVar 2) (tCons (tVar 3) tNil))) (tVar 10)) tNil)))) (gName 11))
 (tSeq (tIfS (tTest (tOp rEq (tVar 6) (tC (.int 2)))) (tAsg (tCall s_L_some [] E0 (tCons (tVar 0) (tCons (tLst (tCons (tVar 10) (tCons (tOp rMulI (tVar 10) (tOp rSubI (tVar 2) (tC (.int 1)))) (tCons (tOp rAddI (tVar 10) (tC (.int 1))) (tCons (tOp rSubI (tCall s_L_to [] E0 (tCons (tVar 2) (tCons (tVar 3) tNil))) (tC (.int 1))) tNil))))) tNil))) (gName 11)) tNext)
 (tSeq (tIfS (tAnd (tTest (tOp rEq (tVar 9) (tVar 4))) (tTest (tOp rEq (tVar 6) (tC (.int 3))))) (tAsg (tCall s_L_take [] E0 (tCons (tVar 0) (tCons (tVar 10) tNil))) (gName 11)) tNext)
 (tAsg (tTup (tCons (tC (.str "num")) (tCons (tC (.int 0)) (tCons (tVar 11) (tCons (tVar 9) tNil))))) (gName 8))))))))
 (tRet (tOp (rCatT K) (tTup (tCons (tC (.str "num")) (tCons (tVar 7) tNil))) (tSl (rSlT K) (tVar 8) (tPart (tC (.int 2))) tNoPart))))))
theorem dv_L_number {P : Program} {w : World} {K : PySem.W.Frag} {mg : Str → Option Value} {base : Heap} {f : Addr} {cdv : Value} {A : Around} {outer : List PySem.Env} {s : Shared} {H : Hp} {E : XK} {s_L_take s_L_some s_L_edges s_L_to : Sp}
    (hr : Room 2 (A.deeper (envOfC "_law_number" (defScope (topS 43)) s.heap.objs.size f cdv))) (c_L_take : Ok P w K mg base 1 "_law_take" P_L_take s_L_take) (c_L_some : Ok P w K mg base 2 "_law_some" P_L_some s_L_some) (c_L_edges : Ok P w K mg base 2 "_law_edges" P_L_edges s_L_edges) (c_L_to : Ok P w K mg base 1 "_law_to" P_L_to s_L_to) (m_min : mg "min" = none) (m_max : mg "max" = none) :
    PSs (cxOf CX0 P w K mg base N_L_number "_law_number" (defScope (topS 43)) f cdv A outer s H E).nox (defBody (topS 43)) (t_L_number K s_L_take s_L_some s_L_edges s_L_to) :=
 (pss_cons (ps_asg (pv 1) (pg_tup rfl (pgs_cons (pg_name (i := 2) sc_L_number.nd rfl (.inl rfl)) (pgs_cons (pg_name (i := 3) sc_L_number.nd rfl (.inl rfl)) (pgs_cons (pg_name (i := 4) sc_L_number.nd rfl (.inl rfl)) (pgs_cons (pg_name (i := 5) sc_L_number.nd rfl (.inl rfl)) pgs_nil))))))
 (pss_cons (ps_par (i := 6) (j := 7) (by rfl) sc_L_number.nd rfl rfl (by decide) rfl rfl (pa_cons (pe_ok c_L_take hr (by rfl) (pa_cons (pv 0) (pa_cons pe_int pa_nil))) (pa_cons (pe_ok c_L_take hr (by rfl) (pa_cons (pv 0) (pa_cons pe_int pa_nil))) pa_nil)) (by rfl))
 (pss_cons (ps_if (pt_cmpR oLtI (pv 6) pe_int (nomark _)) (pss_one (ps_set (i := 8) sc_L_number.nd rfl (.inl rfl) (pe_ok c_L_some hr (by rfl) (pa_cons (pv 0) (pa_cons (pe_ok c_L_edges hr (by rfl) (pa_cons (pv 1) pa_nil)) pa_nil))))) (pss_cons (ps_set (i := 9) sc_L_number.nd rfl (.inl rfl) (pe_ok c_L_some hr (by rfl) (pa_cons (pv 0) (pa_cons (pe_lst (pa_cons (pv 4) (pa_cons (pv 5) (pa_cons (pe_op oAddI (pv 4) (pe_ok c_L_take hr (by rfl) (pa_cons (pv 0) (pa_cons (pe_op oAddI (pe_op oSubI (pv 5) (pv 4)) pe_int) pa_nil)))) (pa_cons (pe_callB (cMin2 rfl) (by rfl) m_min (by decide +kernel) (pa_cons (pv 5) (pa_cons (pe_callB (cMax2 rfl) (by rfl) m_max (by decide +kernel) (pa_cons (pv 4) (pa_cons (pe_un oNegI (pe_op oDivI (pv 3) pe_int)) pa_nil))) pa_nil))) pa_nil))))) pa_nil))))
 (pss_cons (ps_set (i := 10) sc_L_number.nd rfl (.inl rfl) (pe_ok c_L_to hr (by rfl) (pa_cons (pv 2) (pa_cons (pe_op oSubI (pv 3) pe_int) pa_nil))))
 (pss_cons (ps_set (i := 11) sc_L_number.nd rfl (.inl rfl) (pe_op oAddI (pv 10) (pe_ok c_L_take hr (by rfl) (pa_cons (pv 0) (pa_cons (pe_op oSubI (pe_ok c_L_to hr (by rfl) (pa_cons (pv 2) (pa_cons (pv 3) pa_nil))) (pv 10)) pa_nil)))))
 (pss_cons (ps_if (pt_cmpR op_eq (pv 6) pe_int (nomark _)) (pss_one (ps_set (i := 11) sc_L_number.nd rfl (.inl rfl) (pe_ok c_L_some hr (by rfl) (pa_cons (pv 0) (pa_cons (pe_lst (pa_cons (pv 10) (pa_cons (pe_op oMulI (pv 10) (pe_op oSubI (pv 2) pe_int)) (pa_cons (pe_op oAddI (pv 10) pe_int) (pa_cons (pe_op oSubI (pe_ok c_L_to hr (by rfl) (pa_cons (pv 2) (pa_cons (pv 3) pa_nil))) pe_int) pa_nil))))) pa_nil))))) pss_nil)
 (pss_cons (ps_if (PW.pt (pw_and (pt_cmpR op_eq (pv 9) (pv 4) (nomark _)) (pw_and1 (pt_cmpR op_eq (pv 6) pe_int (nomark _))))) (pss_one (ps_set (i := 11) sc_L_number.nd rfl (.inl rfl) (pe_ok c_L_take hr (by rfl) (pa_cons (pv 0) (pa_cons (pv 10) pa_nil))))) pss_nil)
 (pss_one (ps_set (i := 8) sc_L_number.nd rfl (.inl rfl) (pe_tup (pa_cons pe_str (pa_cons pe_int (pa_cons (pv 11) (pa_cons (pv 9) pa_nil)))))))))))))
 (pss_one (ps_ret (pe_op op_catT (pe_tup (pa_cons pe_str (pa_cons (pv 7) pa_nil))) (pe_slice sl_tup (pv 8) (po_some pe_int) po_none)))))))
abbrev N_L_value : List Str := ["_law_bag_here", "_law_form", "_law_way"]
abbrev P_L_value : List Str := ["_law_bag_here", "_law_form"]
theorem sc_L_value : FnScope N_L_value P_L_value (defScope (topS 44)) := ⟨rfl, rfl, rfl, by decide +kernel, rfl, by decide +kernel, by decide +kernel⟩
def t_L_value (K : PySem.W.Frag) (s_L_take s_L_number : Sp) : TS := (tSeq (tAsg (tCall s_L_take [] E0 (tCons (tVar 0) (tCons (tC (.int 12)) tNil))) (gName 2))
 (tSeq (tIfS (tTest (tOp rEq (tVar 2) (tC (.int 0)))) (tRet (tTup (tCons (tC (.str "nan")) tNil))) tNext)
 (tRet (tIf (tTest (tOp rEq (tVar 2) (tC (.int 1)))) (tTup (tCons (tC (.str "inf")) (tCons (tCall s_L_take [] E0 (tCons (tVar 0) (tCons (tC (.int 2)) tNil))) tNil))) (tCall s_L_number [] E0 (tCons (tVar 0) (tCons (tVar 1) tNil)))))))
theorem dv_L_value {P : Program} {w : World} {K : PySem.W.Frag} {mg : Str → Option Value} {base : Heap} {f : Addr} {cdv : Value} {A : Around} {outer : List PySem.Env} {s : Shared} {H : Hp} {E : XK} {s_L_take s_L_number : Sp}
    (hr : Room 3 (A.deeper (envOfC "_law_value" (defScope (topS 44)) s.heap.objs.size f cdv))) (c_L_take : Ok P w K mg base 1 "_law_take" P_L_take s_L_take) (c_L_number : Ok P w K mg base 3 "_law_number" P_L_number s_L_number) :
    PSs (cxOf CX0 P w K mg base N_L_value "_law_value" (defScope (topS 44)) f cdv A outer s H E).nox (defBody (topS 44)) (t_L_value K s_L_take s_L_number) :=
 (pss_cons (ps_set (i := 2) sc_L_value.nd rfl (.inl rfl) (pe_ok c_L_take hr (by rfl) (pa_cons (pv 0) (pa_cons pe_int pa_nil))))
 (pss_cons (ps_if (pt_cmpR op_eq (pv 2) pe_int (nomark _)) (pss_one (ps_ret (pe_tup (pa_cons pe_str pa_nil)))) pss_nil)
 (pss_one (ps_ret (pe_ifExp (pt_cmpR op_eq (pv 2) pe_int (nomark _)) (pe_tup (pa_cons pe_str (pa_cons (pe_ok c_L_take hr (by rfl) (pa_cons (pv 0) (pa_cons pe_int pa_nil))) pa_nil))) (pe_ok c_L_number hr (by rfl) (pa_cons (pv 0) (pa_cons (pv 1) pa_nil))))))))
abbrev N_L_ways : List Str := []
abbrev P_L_ways : List Str := []
theorem sc_L_ways : FnScope N_L_ways P_L_ways (defScope (topS 45)) := ⟨rfl, rfl, rfl, by decide +kernel, rfl, by decide +kernel, by decide +kernel⟩
def t_L_ways (K : PySem.W.Frag) : TS := (tRet (tLst (tCons (tC (.str "even")) (tCons (tC (.str "away")) (tCons (tC (.str "up")) (tCons (tC (.str "down")) (tCons (tC (.str "zero")) tNil)))))))
theorem dv_L_ways {P : Program} {w : World} {K : PySem.W.Frag} {mg : Str → Option Value} {base : Heap} {f : Addr} {cdv : Value} {A : Around} {outer : List PySem.Env} {s : Shared} {H : Hp} {E : XK}
    (hr : Room 0 (A.deeper (envOfC "_law_ways" (defScope (topS 45)) s.heap.objs.size f cdv))) :
    PSs (cxOf CX0 P w K mg base N_L_ways "_law_ways" (defScope (topS 45)) f cdv A outer s H E).nox (defBody (topS 45)) (t_L_ways K) :=
 (pss_one (ps_ret (pe_lst (pa_cons pe_str (pa_cons pe_str (pa_cons pe_str (pa_cons pe_str (pa_cons pe_str pa_nil))))))))
abbrev N_L_grid : List Str := ["_law_form", "_law_x", "_law_base", "_law_digits", "_law_low", "_law_high", "_law_size", "_law_bound", "_law_e", "_law_many", "_law_step"]
abbrev P_L_grid : List Str := ["_law_form", "_law_x"]
theorem sc_L_grid : FnScope N_L_grid P_L_grid (defScope (topS 46)) := ⟨rfl, rfl, rfl, by decide +kernel, rfl, by decide +kernel, by decide +kernel⟩
def t_L_grid (K : PySem.W.Frag) (s_L_to : Sp) : TS := (tSeq (tAsg (tVar 0) (gTup K 4 (gCons (gName 2) (gCons (gName 3) (gCons (gName 4) (gCons (gName 5) gNil))))))
 (tSeq (tPar3 6 7 8 (tCons (tOp rMulI (tOp (rIxT K) (tVar 1) (tC (.int 0))) (tCall s_L_to [] E0 (tCons (tVar 2) (tCons (tCB rMax2 (tCons (tC (.int 0)) (tCons (tUn rNegI (tVar 4)) tNil))) tNil)))) (tCons (tOp rMulI (tOp (rIxT K) (tVar 1) (tC (.int 1))) (tCall s_L_to [] E0 (tCons (tVar 2) (tCons (tOp rAddI (tVar 3) (tCB rMax2 (tCons (tC (.int 0)) (tCons (tVar 4) tNil)))) tNil)))) (tCons (tVar 4) tNil))))
 (tSeq (tFor (iTup K (tTup (tCons (tC (.int 512)) (tCons (tC (.int 64)) (tCons (tC (.int 8)) (tCons (tC (.int 1)) tNil)))))) (gName 9) (tSeq (tAsg (tCall s_L_to [] E0 (tCons (tVar 2) (tCons (tVar 9) tNil))) (gName 10))
 (tWhile (tTest (tOp rGeI (tVar 6) (tOp rMulI (tVar 7) (tVar 10)))) (tPar 7 8 (tCons (tOp rMulI (tVar 7) (tVar 10)) (tCons (tOp rAddI (tVar 8) (tVar 9)) tNil))))))
 (tSeq (tAsg (tOp rAddI (tVar 8) (tCB rInt1 (tCons (tOp rGeI (tVar 6) (tVar 7)) tNil))) (gName 8))
 (tRet (tTup (tCons (tOp rDivI (tCB rInt1 (tCons (tOp rMulI (tOp (rIxT K) (tVar 1) (tC (.int 0))) (tCall s_L_to [] E0 (tCons (tVar 2) (tCons (tCB rMax2 (tCons (tC (.int 0)) (tCons (tUn rNegI (tVar 8)) tNil))) tNil)))) tNil)) (tOp rMulI (tOp (rIxT K) (tVar 1) (tC (.int 1))) (tCall s_L_to [] E0 (tCons (tVar 2) (tCons (tCB rMax2 (tCons (tC (.int 0)) (tCons (tVar 8) tNil))) tNil))))) (tCons (tVar 8) tNil))))))))
theorem dv_L_grid {P : Program} {w : World} {K : PySem.W.Frag} {mg : Str → Option Value} {base : Heap} {f : Addr} {cdv : Value} {A : Around} {outer : List PySem.Env} {s : Shared} {H : Hp} {E : XK} {s_L_to : Sp}
    (hr : Room 1 (A.deeper (envOfC "_law_grid" (defScope (topS 46)) s.heap.objs.size f cdv))) (c_L_to : Ok P w K mg base 1 "_law_to" P_L_to s_L_to) (m_max : mg "max" = none) (m_int : mg "int" = none) :
    PSs (cxOf CX0 P w K mg base N_L_grid "_law_grid" (defScope (topS 46)) f cdv A outer s H E).nox (defBody (topS 46)) (t_L_grid K s_L_to) :=
 (pss_cons (ps_asg (pv 0) (pg_tup rfl (pgs_cons (pg_name (i := 2) sc_L_grid.nd rfl (.inl rfl)) (pgs_cons (pg_name (i := 3) sc_L_grid.nd rfl (.inl rfl)) (pgs_cons (pg_name (i := 4) sc_L_grid.nd rfl (.inl rfl)) (pgs_cons (pg_name (i := 5) sc_L_grid.nd rfl (.inl rfl)) pgs_nil))))))
 (pss_cons (ps_par3 (i := 6) (j := 7) (l := 8) (by rfl) sc_L_grid.nd rfl rfl rfl (by decide) (by decide) (by decide) rfl rfl rfl (pa_cons (pe_op oMulI (pe_ix ix_tup (pv 1) pe_int (fun _ _ => rfl)) (pe_ok c_L_to hr (by rfl) (pa_cons (pv 2) (pa_cons (pe_callB (cMax2 rfl) (by rfl) m_max (by decide +kernel) (pa_cons pe_int (pa_cons (pe_un oNegI (pv 4)) pa_nil))) pa_nil)))) (pa_cons (pe_op oMulI (pe_ix ix_tup (pv 1) pe_int (fun _ _ => rfl)) (pe_ok c_L_to hr (by rfl) (pa_cons (pv 2) (pa_cons (pe_op oAddI (pv 3) (pe_callB (cMax2 rfl) (by rfl) m_max (by decide +kernel) (pa_cons pe_int (pa_cons (pv 4) pa_nil)))) pa_nil)))) (pa_cons (pv 4) pa_nil))) (by rfl))
 (pss_cons (ps_for PassesOwn.never rfl (pi_tup (pe_tup (pa_cons pe_int (pa_cons pe_int (pa_cons pe_int (pa_cons pe_int pa_nil)))))) (pg_name (i := 9) sc_L_grid.nd rfl (.inl rfl)) (pss_cons (ps_set (i := 10) sc_L_grid.nd rfl (.inl rfl) (pe_ok c_L_to hr (by rfl) (pa_cons (pv 2) (pa_cons (pv 9) pa_nil))))
 (pss_one (ps_while PassesOwn.never (pt_cmpR oGeI (pv 6) (pe_op oMulI (pv 7) (pv 10)) (nomark _)) (pss_one (ps_par (i := 7) (j := 8) (by rfl) sc_L_grid.nd rfl rfl (by decide) rfl rfl (pa_cons (pe_op oMulI (pv 7) (pv 10)) (pa_cons (pe_op oAddI (pv 8) (pv 9)) pa_nil)) (by rfl)))))))
 (pss_cons (ps_set (i := 8) sc_L_grid.nd rfl (.inl rfl) (pe_op oAddI (pv 8) (pe_callTy cInt1 (by rfl) m_int (by decide +kernel) (pa_cons (pe_cmpR oGeI (pv 6) (pv 7) (nomark _)) pa_nil))))
 (pss_one (ps_ret (pe_tup (pa_cons (pe_op oDivI (pe_callTy cInt1 (by rfl) m_int (by decide +kernel) (pa_cons (pe_op oMulI (pe_ix ix_tup (pv 1) pe_int (fun _ _ => rfl)) (pe_ok c_L_to hr (by rfl) (pa_cons (pv 2) (pa_cons (pe_callB (cMax2 rfl) (by rfl) m_max (by decide +kernel) (pa_cons pe_int (pa_cons (pe_un oNegI (pv 8)) pa_nil))) pa_nil)))) pa_nil)) (pe_op oMulI (pe_ix ix_tup (pv 1) pe_int (fun _ _ => rfl)) (pe_ok c_L_to hr (by rfl) (pa_cons (pv 2) (pa_cons (pe_callB (cMax2 rfl) (by rfl) m_max (by decide +kernel) (pa_cons pe_int (pa_cons (pv 8) pa_nil))) pa_nil))))) (pa_cons (pv 8) pa_nil)))))))))
abbrev N_L_neighbours : List Str := ["_law_form", "_law_x", "_law_c", "_law_e", "_law_unit", "_law_lower"]
abbrev P_L_neighbours : List Str := ["_law_form", "_law_x"]
theorem sc_L_neighbours : FnScope N_L_neighbours P_L_neighbours (defScope (topS 47)) := ⟨rfl, rfl, rfl, by decide +kernel, rfl, by decide +kernel, by decide +kernel⟩
def t_L_neighbours (K : PySem.W.Frag) (s_L_grid s_L_power s_L_multiplied : Sp) : TS := (tSeq (tAsg (tCall s_L_grid [] E0 (tCons (tVar 0) (tCons (tVar 1) tNil))) (gTup K 2 (gCons (gName 2) (gCons (gName 3) gNil))))
 (tSeq (tAsg (tCall s_L_power [] E0 (tCons (tOp (rIxT K) (tVar 0) (tC (.int 0))) (tCons (tVar 3) tNil))) (gName 4))
 (tSeq (tAsg (tCall s_L_multiplied [] E0 (tCons (tTup (tCons (tVar 2) (tCons (tC (.int 1)) tNil))) (tCons (tVar 4) tNil))) (gName 5))
 (tSeq (tIfS (tTest (tOp (rEqD K) (tVar 5) (tVar 1))) (tRet (tTup (tCons (tVar 5) (tCons (tVar 5) (tCons (tVar 2) (tCons (tVar 2) tNil)))))) tNext)
 (tRet (tTup (tCons (tVar 5) (tCons (tCall s_L_multiplied [] E0 (tCons (tTup (tCons (tOp rAddI (tVar 2) (tC (.int 1))) (tCons (tC (.int 1)) tNil))) (tCons (tVar 4) tNil))) (tCons (tVar 2) (tCons (tOp rAddI (tVar 2) (tC (.int 1))) tNil))))))))))
theorem dv_L_neighbours {P : Program} {w : World} {K : PySem.W.Frag} {mg : Str → Option Value} {base : Heap} {f : Addr} {cdv : Value} {A : Around} {outer : List PySem.Env} {s : Shared} {H : Hp} {E : XK} {s_L_grid s_L_power s_L_multiplied : Sp}
    (hr : Room 3 (A.deeper (envOfC "_law_neighbours" (defScope (topS 47)) s.heap.objs.size f cdv))) (c_L_grid : Ok P w K mg base 2 "_law_grid" P_L_grid s_L_grid) (c_L_power : Ok P w K mg base 2 "_law_power" P_L_power s_L_power) (c_L_multiplied : Ok P w K mg base 3 "_law_multiplied" P_L_multiplied s_L_multiplied) :
    PSs (cxOf CX0 P w K mg base N_L_neighbours "_law_neighbours" (defScope (topS 47)) f cdv A outer s H E).nox (defBody (topS 47)) (t_L_neighbours K s_L_grid s_L_power s_L_multiplied) :=
 (pss_cons (ps_asg (pe_ok c_L_grid hr (by rfl) (pa_cons (pv 0) (pa_cons (pv 1) pa_nil))) (pg_tup rfl (pgs_cons (pg_name (i := 2) sc_L_neighbours.nd rfl (.inl rfl)) (pgs_cons (pg_name (i := 3) sc_L_neighbours.nd rfl (.inl rfl)) pgs_nil))))
 (pss_cons (ps_set (i := 4) sc_L_neighbours.nd rfl (.inl rfl) (pe_ok c_L_power hr (by rfl) (pa_cons (pe_ix ix_tup (pv 0) pe_int (fun _ _ => rfl)) (pa_cons (pv 3) pa_nil))))
 (pss_cons (ps_set (i := 5) sc_L_neighbours.nd rfl (.inl rfl) (pe_ok c_L_multiplied hr (by rfl) (pa_cons (pe_tup (pa_cons (pv 2) (pa_cons pe_int pa_nil))) (pa_cons (pv 4) pa_nil))))
 (pss_cons (ps_if (pt_cmpR (op_eqD hr.units) (pv 5) (pv 1) (nomark _)) (pss_one (ps_ret (pe_tup (pa_cons (pv 5) (pa_cons (pv 5) (pa_cons (pv 2) (pa_cons (pv 2) pa_nil))))))) pss_nil)
 (pss_one (ps_ret (pe_tup (pa_cons (pv 5) (pa_cons (pe_ok c_L_multiplied hr (by rfl) (pa_cons (pe_tup (pa_cons (pe_op oAddI (pv 2) pe_int) (pa_cons pe_int pa_nil))) (pa_cons (pv 4) pa_nil))) (pa_cons (pv 2) (pa_cons (pe_op oAddI (pv 2) pe_int) pa_nil)))))))))))
abbrev N_L_greatest : List Str := ["_law_form", "_law_base", "_law_digits", "_law_low", "_law_high"]
abbrev P_L_greatest : List Str := ["_law_form"]
theorem sc_L_greatest : FnScope N_L_greatest P_L_greatest (defScope (topS 48)) := ⟨rfl, rfl, rfl, by decide +kernel, rfl, by decide +kernel, by decide +kernel⟩
def t_L_greatest (K : PySem.W.Frag) (s_L_multiplied s_L_power s_L_to : Sp) : TS := (tSeq (tAsg (tVar 0) (gTup K 4 (gCons (gName 1) (gCons (gName 2) (gCons (gName 3) (gCons (gName 4) gNil))))))
 (tRet (tCall s_L_multiplied [] E0 (tCons (tTup (tCons (tOp rSubI (tCall s_L_to [] E0 (tCons (tVar 1) (tCons (tVar 2) tNil))) (tC (.int 1))) (tCons (tC (.int 1)) tNil))) (tCons (tCall s_L_power [] E0 (tCons (tVar 1) (tCons (tVar 4) tNil))) tNil)))))
theorem dv_L_greatest {P : Program} {w : World} {K : PySem.W.Frag} {mg : Str → Option Value} {base : Heap} {f : Addr} {cdv : Value} {A : Around} {outer : List PySem.Env} {s : Shared} {H : Hp} {E : XK} {s_L_multiplied s_L_power s_L_to : Sp}
    (hr : Room 3 (A.deeper (envOfC "_law_greatest" (defScope (topS 48)) s.heap.objs.size f cdv))) (c_L_multiplied : Ok P w K mg base 3 "_law_multiplied" P_L_multiplied s_L_multiplied) (c_L_power : Ok P w K mg base 2 "_law_power" P_L_power s_L_power) (c_L_to : Ok P w K mg base 1 "_law_to" P_L_to s_L_to) :
    PSs (cxOf CX0 P w K mg base N_L_greatest "_law_greatest" (defScope (topS 48)) f cdv A outer s H E).nox (defBody (topS 48)) (t_L_greatest K s_L_multiplied s_L_power s_L_to) :=
 (pss_cons (ps_asg (pv 0) (pg_tup rfl (pgs_cons (pg_name (i := 1) sc_L_greatest.nd rfl (.inl rfl)) (pgs_cons (pg_name (i := 2) sc_L_greatest.nd rfl (.inl rfl)) (pgs_cons (pg_name (i := 3) sc_L_greatest.nd rfl (.inl rfl)) (pgs_cons (pg_name (i := 4) sc_L_greatest.nd rfl (.inl rfl)) pgs_nil))))))
 (pss_one (ps_ret (pe_ok c_L_multiplied hr (by rfl) (pa_cons (pe_tup (pa_cons (pe_op oSubI (pe_ok c_L_to hr (by rfl) (pa_cons (pv 1) (pa_cons (pv 2) pa_nil))) pe_int) (pa_cons pe_int pa_nil))) (pa_cons (pe_ok c_L_power hr (by rfl) (pa_cons (pv 1) (pa_cons (pv 4) pa_nil))) pa_nil))))))
abbrev N_L_normal : List Str := ["_law_form"]
abbrev P_L_normal : List Str := ["_law_form"]
theorem sc_L_normal : FnScope N_L_normal P_L_normal (defScope (topS 49)) := ⟨rfl, rfl, rfl, by decide +kernel, rfl, by decide +kernel, by decide +kernel⟩
def t_L_normal (K : PySem.W.Frag) (s_L_power : Sp) : TS := (tRet (tCall s_L_power [] E0 (tCons (tOp (rIxT K) (tVar 0) (tC (.int 0))) (tCons (tOp rSubI (tOp rAddI (tOp (rIxT K) (tVar 0) (tC (.int 2))) (tOp (rIxT K) (tVar 0) (tC (.int 1)))) (tC (.int 1))) tNil))))
theorem dv_L_normal {P : Program} {w : World} {K : PySem.W.Frag} {mg : Str → Option Value} {base : Heap} {f : Addr} {cdv : Value} {A : Around} {outer : List PySem.Env} {s : Shared} {H : Hp} {E : XK} {s_L_power : Sp}
    (hr : Room 2 (A.deeper (envOfC "_law_normal" (defScope (topS 49)) s.heap.objs.size f cdv))) (c_L_power : Ok P w K mg base 2 "_law_power" P_L_power s_L_power) :
    PSs (cxOf CX0 P w K mg base N_L_normal "_law_normal" (defScope (topS 49)) f cdv A outer s H E).nox (defBody (topS 49)) (t_L_normal K s_L_power) :=
 (pss_one (ps_ret (pe_ok c_L_power hr (by rfl) (pa_cons (pe_ix ix_tup (pv 0) pe_int (fun _ _ => rfl)) (pa_cons (pe_op oSubI (pe_op oAddI (pe_ix ix_tup (pv 0) pe_int (fun _ _ => rfl)) (pe_ix ix_tup (pv 0) pe_int (fun _ _ => rfl))) pe_int) pa_nil)))))
abbrev N_L_nearer : List Str := ["_law_way", "_law_x", "_law_lower", "_law_upper", "_law_c", "_law_one", "_law_other"]
abbrev P_L_nearer : List Str := ["_law_way", "_law_x", "_law_lower", "_law_upper", "_law_c"]
theorem sc_L_nearer : FnScope N_L_nearer P_L_nearer (defScope (topS 50)) := ⟨rfl, rfl, rfl, by decide +kernel, rfl, by decide +kernel, by decide +kernel⟩
def t_L_nearer (K : PySem.W.Frag) (s_L_lessened s_L_is_below : Sp) : TS := (tSeq (tIfS (tTest (tOp (rIn K false) (tVar 0) (tTup (tCons (tC (.str "zero")) (tCons (tC (.str "lower")) tNil))))) (tRet (tVar 2)) tNext)
 (tSeq (tIfS (tTest (tOp rEq (tVar 0) (tC (.str "upper")))) (tRet (tVar 3)) tNext)
 (tSeq (tPar 5 6 (tCons (tCall s_L_lessened [] E0 (tCons (tVar 1) (tCons (tVar 2) tNil))) (tCons (tCall s_L_lessened [] E0 (tCons (tVar 3) (tCons (tVar 1) tNil))) tNil)))
 (tSeq (tIfS (tTest (tOp (rEqD K) (tVar 5) (tVar 6))) (tRet (tIf (tAnd (tTest (tOp rEq (tVar 0) (tC (.str "even")))) (tTest (tOp rEq (tOp rModI (tCB rInt1 (tCons (tVar 4) tNil)) (tC (.int 2))) (tC (.int 0))))) (tVar 2) (tVar 3))) tNext)
 (tRet (tIf (tB (tCall s_L_is_below [] E0 (tCons (tVar 5) (tCons (tVar 6) tNil)))) (tVar 2) (tVar 3)))))))
theorem dv_L_nearer {P : Program} {w : World} {K : PySem.W.Frag} {mg : Str → Option Value} {base : Heap} {f : Addr} {cdv : Value} {A : Around} {outer : List PySem.Env} {s : Shared} {H : Hp} {E : XK} {s_L_lessened s_L_is_below : Sp}
    (hr : Room 3 (A.deeper (envOfC "_law_nearer" (defScope (topS 50)) s.heap.objs.size f cdv))) (c_L_lessened : Ok P w K mg base 3 "_law_lessened" P_L_lessened s_L_lessened) (c_L_is_below : Ok P w K mg base 1 "_law_is_below" P_L_is_below s_L_is_below) (m_int : mg "int" = none) :
    PSs (cxOf CX0 P w K mg base N_L_nearer "_law_nearer" (defScope (topS 50)) f cdv A outer s H E).nox (defBody (topS 50)) (t_L_nearer K s_L_lessened s_L_is_below) :=
 (pss_cons (ps_if (pt_cmpR (op_in_seq) (pv 0) (pe_tup (pa_cons pe_str (pa_cons pe_str pa_nil))) rfl) (pss_one (ps_ret (pv 2))) pss_nil)
 (pss_cons (ps_if (pt_cmpR op_eq (pv 0) pe_str (nomark _)) (pss_one (ps_ret (pv 3))) pss_nil)
 (pss_cons (ps_par (i := 5) (j := 6) (by rfl) sc_L_nearer.nd rfl rfl (by decide) rfl rfl (pa_cons (pe_ok c_L_lessened hr (by rfl) (pa_cons (pv 1) (pa_cons (pv 2) pa_nil))) (pa_cons (pe_ok c_L_lessened hr (by rfl) (pa_cons (pv 3) (pa_cons (pv 1) pa_nil))) pa_nil)) (by rfl))
 (pss_cons (ps_if (pt_cmpR (op_eqD hr.units) (pv 5) (pv 6) (nomark _)) (pss_one (ps_ret (pe_ifExp (PW.pt (pw_and (pt_cmpR op_eq (pv 0) pe_str (nomark _)) (pw_and1 (pt_cmpR op_eq (pe_op oModI (pe_callTy cInt1 (by rfl) m_int (by decide +kernel) (pa_cons (pv 4) pa_nil)) pe_int) pe_int (nomark _))))) (pv 2) (pv 3)))) pss_nil)
 (pss_one (ps_ret (pe_ifExp (pt_val (pe_ok c_L_is_below hr (by rfl) (pa_cons (pv 5) (pa_cons (pv 6) pa_nil)))) (pv 2) (pv 3))))))))
abbrev N_L_form_of : List Str := ["_law_form", "_law_s", "_law_worth_here", "_law_c", "_law_e"]
abbrev P_L_form_of : List Str := ["_law_form", "_law_s", "_law_worth_here"]
theorem sc_L_form_of : FnScope N_L_form_of P_L_form_of (defScope (topS 51)) := ⟨rfl, rfl, rfl, by decide +kernel, rfl, by decide +kernel, by decide +kernel⟩
def t_L_form_of (K : PySem.W.Frag) (s_L_grid : Sp) : TS := (tSeq (tAsg (tCall s_L_grid [] E0 (tCons (tVar 0) (tCons (tVar 2) tNil))) (gTup K 2 (gCons (gName 3) (gCons (gName 4) gNil))))
 (tRet (tTup (tCons (tC (.str "num")) (tCons (tVar 1) (tCons (tVar 3) (tCons (tVar 4) tNil)))))))
theorem dv_L_form_of {P : Program} {w : World} {K : PySem.W.Frag} {mg : Str → Option Value} {base : Heap} {f : Addr} {cdv : Value} {A : Around} {outer : List PySem.Env} {s : Shared} {H : Hp} {E : XK} {s_L_grid : Sp}
    (hr : Room 2 (A.deeper (envOfC "_law_form_of" (defScope (topS 51)) s.heap.objs.size f cdv))) (c_L_grid : Ok P w K mg base 2 "_law_grid" P_L_grid s_L_grid) :
    PSs (cxOf CX0 P w K mg base N_L_form_of "_law_form_of" (defScope (topS 51)) f cdv A outer s H E).nox (defBody (topS 51)) (t_L_form_of K s_L_grid) :=
 (pss_cons (ps_asg (pe_ok c_L_grid hr (by rfl) (pa_cons (pv 0) (pa_cons (pv 2) pa_nil))) (pg_tup rfl (pgs_cons (pg_name (i := 3) sc_L_form_of.nd rfl (.inl rfl)) (pgs_cons (pg_name (i := 4) sc_L_form_of.nd rfl (.inl rfl)) pgs_nil))))
 (pss_one (ps_ret (pe_tup (pa_cons pe_str (pa_cons (pv 1) (pa_cons (pv 3) (pa_cons (pv 4) pa_nil))))))))
abbrev N_L_number_of : List Str := ["_law_form", "_law_x", "_law_s", "_law_size", "_law_c", "_law_e"]
abbrev P_L_number_of : List Str := ["_law_form", "_law_x"]
theorem sc_L_number_of : FnScope N_L_number_of P_L_number_of (defScope (topS 53)) := ⟨rfl, rfl, rfl, by decide +kernel, rfl, by decide +kernel, by decide +kernel⟩
def t_L_number_of (K : PySem.W.Frag) (s_L_sized s_L_is_below s_L_multiplied s_L_greatest s_L_grid s_L_power : Sp) : TS := (tSeq (tPar 2 3 (tCons (tCB rInt1 (tCons (tOp rLtI (tOp (rIxT K) (tVar 1) (tC (.int 0))) (tC (.int 0))) tNil)) (tCons (tCall s_L_sized [] E0 (tCons (tVar 1) tNil)) tNil)))
 (tSeq (tIfS (tNot (tB (tCall s_L_is_below [] E0 (tCons (tVar 3) (tCons (tCall s_L_multiplied [] E0 (tCons (tTup (tCons (tC (.int 2)) (tCons (tC (.int 1)) tNil))) (tCons (tCall s_L_greatest [] E0 (tCons (tVar 0) tNil)) tNil))) tNil))))) (tRet (tC .non)) tNext)
 (tSeq (tAsg (tCall s_L_grid [] E0 (tCons (tVar 0) (tCons (tVar 3) tNil))) (gTup K 2 (gCons (gName 4) (gCons (gName 5) gNil))))
 (tSeq (tIfS (tOr (tTest (tOp rGtI (tVar 5) (tOp (rIxT K) (tVar 0) (tC (.int 3))))) (tTest (tOp (rNeD K) (tCall s_L_multiplied [] E0 (tCons (tTup (tCons (tVar 4) (tCons (tC (.int 1)) tNil))) (tCons (tCall s_L_power [] E0 (tCons (tOp (rIxT K) (tVar 0) (tC (.int 0))) (tCons (tVar 5) tNil))) tNil))) (tVar 3)))) (tRet (tC .non)) tNext)
 (tRet (tTup (tCons (tC (.str "num")) (tCons (tVar 2) (tCons (tVar 4) (tCons (tVar 5) tNil))))))))))
theorem dv_L_number_of {P : Program} {w : World} {K : PySem.W.Frag} {mg : Str → Option Value} {base : Heap} {f : Addr} {cdv : Value} {A : Around} {outer : List PySem.Env} {s : Shared} {H : Hp} {E : XK} {s_L_sized s_L_is_below s_L_multiplied s_L_greatest s_L_grid s_L_power : Sp}
    (hr : Room 4 (A.deeper (envOfC "_law_number_of" (defScope (topS 53)) s.heap.objs.size f cdv))) (c_L_sized : Ok P w K mg base 1 "_law_sized" P_L_sized s_L_sized) (c_L_is_below : Ok P w K mg base 1 "_law_is_below" P_L_is_below s_L_is_below) (c_L_multiplied : Ok P w K mg base 3 "_law_multiplied" P_L_multiplied s_L_multiplied) (c_L_greatest : Ok P w K mg base 4 "_law_greatest" P_L_greatest s_L_greatest) (c_L_grid : Ok P w K mg base 2 "_law_grid" P_L_grid s_L_grid) (c_L_power : Ok P w K mg base 2 "_law_power" P_L_power s_L_power) (m_int : mg "int" = none) :
    PSs (cxOf CX0 P w K mg base N_L_number_of "_law_number_of" (defScope (topS 53)) f cdv A outer s H E).nox (defBody (topS 53)) (t_L_number_of K s_L_sized s_L_is_below s_L_multiplied s_L_greatest s_L_grid s_L_power) :=
 (pss_cons (ps_par (i := 2) (j := 3) (by rfl) sc_L_number_of.nd rfl rfl (by decide) rfl rfl (pa_cons (pe_callTy cInt1 (by rfl) m_int (by decide +kernel) (pa_cons (pe_cmpR oLtI (pe_ix ix_tup (pv 1) pe_int (fun _ _ => rfl)) pe_int (nomark _)) pa_nil)) (pa_cons (pe_ok c_L_sized hr (by rfl) (pa_cons (pv 1) pa_nil)) pa_nil)) (by rfl))
 (pss_cons (ps_if (pt_not (pt_val (pe_ok c_L_is_below hr (by rfl) (pa_cons (pv 3) (pa_cons (pe_ok c_L_multiplied hr (by rfl) (pa_cons (pe_tup (pa_cons pe_int (pa_cons pe_int pa_nil))) (pa_cons (pe_ok c_L_greatest hr (by rfl) (pa_cons (pv 0) pa_nil)) pa_nil))) pa_nil))))) (pss_one (ps_ret pe_non)) pss_nil)
 (pss_cons (ps_asg (pe_ok c_L_grid hr (by rfl) (pa_cons (pv 0) (pa_cons (pv 3) pa_nil))) (pg_tup rfl (pgs_cons (pg_name (i := 4) sc_L_number_of.nd rfl (.inl rfl)) (pgs_cons (pg_name (i := 5) sc_L_number_of.nd rfl (.inl rfl)) pgs_nil))))
 (pss_cons (ps_if (PW.pt (pw_or (pt_cmpR oGtI (pv 5) (pe_ix ix_tup (pv 0) pe_int (fun _ _ => rfl)) (nomark _)) (pw_or1 (pt_cmpR (op_neD hr.units) (pe_ok c_L_multiplied hr (by rfl) (pa_cons (pe_tup (pa_cons (pv 4) (pa_cons pe_int pa_nil))) (pa_cons (pe_ok c_L_power hr (by rfl) (pa_cons (pe_ix ix_tup (pv 0) pe_int (fun _ _ => rfl)) (pa_cons (pv 5) pa_nil))) pa_nil))) (pv 3) (nomark _))))) (pss_one (ps_ret pe_non)) pss_nil)
 (pss_one (ps_ret (pe_tup (pa_cons pe_str (pa_cons (pv 2) (pa_cons (pv 4) (pa_cons (pv 5) pa_nil)))))))))))
abbrev N_L_due_integer : List Str := ["_law_way", "_law_x", "_law_floor", "_law_rest", "_law_is_up"]
abbrev P_L_due_integer : List Str := ["_law_way", "_law_x"]
theorem sc_L_due_integer : FnScope N_L_due_integer P_L_due_integer (defScope (topS 54)) := ⟨rfl, rfl, rfl, by decide +kernel, rfl, by decide +kernel, by decide +kernel⟩
def t_L_due_integer (K : PySem.W.Frag) (s_L_over s_L_is_below : Sp) : TS := (tSeq (tPar 2 3 (tCons (tOp rDivI (tOp (rIxT K) (tVar 1) (tC (.int 0))) (tOp (rIxT K) (tVar 1) (tC (.int 1)))) (tCons (tCall s_L_over [] E0 (tCons (tOp rSubI (tOp (rIxT K) (tVar 1) (tC (.int 0))) (tOp rMulI (tOp rDivI (tOp (rIxT K) (tVar 1) (tC (.int 0))) (tOp (rIxT K) (tVar 1) (tC (.int 1)))) (tOp (rIxT K) (tVar 1) (tC (.int 1))))) (tCons (tOp (rIxT K) (tVar 1) (tC (.int 1))) tNil))) tNil)))
 (tSeq (tIfS (tTest (tOp rEq (tOp (rIxT K) (tVar 3) (tC (.int 0))) (tC (.int 0)))) (tRet (tVar 2)) tNext)
 (tSeq (tIfS (tTest (tOp (rIn K false) (tVar 0) (tTup (tCons (tC (.str "up")) (tCons (tC (.str "down")) (tCons (tC (.str "zero")) tNil)))))) (tRet (tOp rAddI (tVar 2) (tCB rInt1 (tCons (tOrV (tOp rEq (tVar 0) (tC (.str "up"))) (tAndV (tOp rEq (tVar 0) (tC (.str "zero"))) (tOp rLtI (tOp (rIxT K) (tVar 1) (tC (.int 0))) (tC (.int 0))))) tNil)))) tNext)
 (tSeq (tIfS (tTest (tOp (rNeD K) (tVar 3) (tTup (tCons (tC (.int 1)) (tCons (tC (.int 2)) tNil))))) (tRet (tOp rAddI (tVar 2) (tCB rInt1 (tCons (tCall s_L_is_below [] E0 (tCons (tTup (tCons (tC (.int 1)) (tCons (tC (.int 2)) tNil))) (tCons (tVar 3) tNil))) tNil)))) tNext)
 (tSeq (tAsg (tIf (tTest (tOp rEq (tVar 0) (tC (.str "away")))) (tOp rGtI (tOp (rIxT K) (tVar 1) (tC (.int 0))) (tC (.int 0))) (tOp rEq (tOp rModI (tCB rInt1 (tCons (tVar 2) tNil)) (tC (.int 2))) (tC (.int 1)))) (gName 4))
 (tRet (tOp rAddI (tVar 2) (tCB rInt1 (tCons (tVar 4) tNil)))))))))
theorem dv_L_due_integer {P : Program} {w : World} {K : PySem.W.Frag} {mg : Str → Option Value} {base : Heap} {f : Addr} {cdv : Value} {A : Around} {outer : List PySem.Env} {s : Shared} {H : Hp} {E : XK} {s_L_over s_L_is_below : Sp}
    (hr : Room 2 (A.deeper (envOfC "_law_due_integer" (defScope (topS 54)) s.heap.objs.size f cdv))) (c_L_over : Ok P w K mg base 2 "_law_over" P_L_over s_L_over) (c_L_is_below : Ok P w K mg base 1 "_law_is_below" P_L_is_below s_L_is_below) (m_int : mg "int" = none) :
    PSs (cxOf CX0 P w K mg base N_L_due_integer "_law_due_integer" (defScope (topS 54)) f cdv A outer s H E).nox (defBody (topS 54)) (t_L_due_integer K s_L_over s_L_is_below) :=
 (pss_cons (ps_par (i := 2) (j := 3) (by rfl) sc_L_due_integer.nd rfl rfl (by decide) rfl rfl (pa_cons (pe_op oDivI (pe_ix ix_tup (pv 1) pe_int (fun _ _ => rfl)) (pe_ix ix_tup (pv 1) pe_int (fun _ _ => rfl))) (pa_cons (pe_ok c_L_over hr (by rfl) (pa_cons (pe_op oSubI (pe_ix ix_tup (pv 1) pe_int (fun _ _ => rfl)) (pe_op oMulI (pe_op oDivI (pe_ix ix_tup (pv 1) pe_int (fun _ _ => rfl)) (pe_ix ix_tup (pv 1) pe_int (fun _ _ => rfl))) (pe_ix ix_tup (pv 1) pe_int (fun _ _ => rfl)))) (pa_cons (pe_ix ix_tup (pv 1) pe_int (fun _ _ => rfl)) pa_nil))) pa_nil)) (by rfl))
 (pss_cons (ps_if (pt_cmpR op_eq (pe_ix ix_tup (pv 3) pe_int (fun _ _ => rfl)) pe_int (nomark _)) (pss_one (ps_ret (pv 2))) pss_nil)
 (pss_cons (ps_if (pt_cmpR (op_in_seq) (pv 0) (pe_tup (pa_cons pe_str (pa_cons pe_str (pa_cons pe_str pa_nil)))) rfl) (pss_one (ps_ret (pe_op oAddI (pv 2) (pe_callTy cInt1 (by rfl) m_int (by decide +kernel) (pa_cons (pe_or (pe_cmpR op_eq (pv 0) pe_str (nomark _)) (pe_one (pe_and (pe_cmpR op_eq (pv 0) pe_str (nomark _)) (pe_one (pe_cmpR oLtI (pe_ix ix_tup (pv 1) pe_int (fun _ _ => rfl)) pe_int (nomark _)))))) pa_nil))))) pss_nil)
 (pss_cons (ps_if (pt_cmpR (op_neD hr.units) (pv 3) (pe_tup (pa_cons pe_int (pa_cons pe_int pa_nil))) (nomark _)) (pss_one (ps_ret (pe_op oAddI (pv 2) (pe_callTy cInt1 (by rfl) m_int (by decide +kernel) (pa_cons (pe_ok c_L_is_below hr (by rfl) (pa_cons (pe_tup (pa_cons pe_int (pa_cons pe_int pa_nil))) (pa_cons (pv 3) pa_nil))) pa_nil))))) pss_nil)
 (pss_cons (ps_set (i := 4) sc_L_due_integer.nd rfl (.inl rfl) (pe_ifExp (pt_cmpR op_eq (pv 0) pe_str (nomark _)) (pe_cmpR oGtI (pe_ix ix_tup (pv 1) pe_int (fun _ _ => rfl)) pe_int (nomark _)) (pe_cmpR op_eq (pe_op oModI (pe_callTy cInt1 (by rfl) m_int (by decide +kernel) (pa_cons (pv 2) pa_nil)) pe_int) pe_int (nomark _))))
 (pss_one (ps_ret (pe_op oAddI (pv 2) (pe_callTy cInt1 (by rfl) m_int (by decide +kernel) (pa_cons (pv 4) pa_nil))))))))))
abbrev N_L_drawn_integer : List Str := ["_law_bag_here", "_law_form", "_law_way", "_law_unit", "_law_found", "_law_most"]
abbrev P_L_drawn_integer : List Str := ["_law_bag_here", "_law_form"]
theorem sc_L_drawn_integer : FnScope N_L_drawn_integer P_L_drawn_integer (defScope (topS 55)) := ⟨rfl, rfl, rfl, by decide +kernel, rfl, by decide +kernel, by decide +kernel⟩
def t_L_drawn_integer (K : PySem.W.Frag) (s_L_take s_L_to s_L_some : Sp) : TS := (tSeq (tAsg (tCall s_L_take [] E0 (tCons (tVar 0) (tCons (tC (.int 6)) tNil))) (gName 2))
 (tSeq (tIfS (tAnd (tTest (tOp rEq (tVar 2) (tC (.int 5)))) (tTest (tChain rLtI rLtI (tC (.int 0)) (tOp (rIxT K) (tVar 1) (tC (.int 3))) (tC (.int 300))))) (tSeq (tAsg (tCall s_L_to [] E0 (tCons (tOp (rIxT K) (tVar 1) (tC (.int 0))) (tCons (tOp (rIxT K) (tVar 1) (tC (.int 3))) tNil))) (gName 3))
 (tAsg (tOp rAddI (tOp rAddI (tOp rMulI (tOp rSubI (tCall s_L_to [] E0 (tCons (tOp (rIxT K) (tVar 1) (tC (.int 0))) (tCons (tOp (rIxT K) (tVar 1) (tC (.int 1))) tNil))) (tC (.int 1))) (tVar 3)) (tOp rDivI (tVar 3) (tC (.int 2)))) (tCall s_L_some [] E0 (tCons (tVar 0) (tCons (tLst (tCons (tC (.int 0)) (tCons (tC (.int 1)) (tCons (tUn rNegI (tC (.int 1))) tNil)))) tNil)))) (gName 4))) (tIfS (tTest (tOp rEq (tVar 2) (tC (.int 0)))) (tAsg (tCall s_L_take [] E0 (tCons (tVar 0) (tCons (tOp rPowI (tC (.int 10)) (tC (.int 12))) tNil))) (gName 4)) (tIfS (tTest (tOp rEq (tVar 2) (tC (.int 1)))) (tAsg (tOp rAddI (tCall s_L_to [] E0 (tCons (tOp (rIxT K) (tVar 1) (tC (.int 0))) (tCons (tCall s_L_take [] E0 (tCons (tVar 0) (tCons (tOp rAddI (tOp (rIxT K) (tVar 1) (tC (.int 1))) (tC (.int 3))) tNil))) tNil))) (tCall s_L_some [] E0 (tCons (tVar 0) (tCons (tLst (tCons (tC (.int 0)) (tCons (tC (.int 1)) (tCons (tUn rNegI (tC (.int 1))) tNil)))) tNil)))) (gName 4)) (tIfS (tTest (tOp rEq (tVar 2) (tC (.int 2)))) (tAsg (tOp rAddI (tCall s_L_to [] E0 (tCons (tOp (rIxT K) (tVar 1) (tC (.int 0))) (tCons (tOp (rIxT K) (tVar 1) (tC (.int 1))) tNil))) (tCall s_L_take [] E0 (tCons (tVar 0) (tCons (tOp rMulI (tC (.int 2)) (tOp (rIxT K) (tVar 1) (tC (.int 0)))) tNil)))) (gName 4)) (tIfS (tTest (tOp rEq (tVar 2) (tC (.int 3)))) (tAsg (tCall s_L_some [] E0 (tCons (tVar 0) (tCons (tLst (tCons (tC (.int 0)) (tCons (tC (.int 1)) (tCons (tC (.int 2)) (tCons (tC (.int 7)) (tCons (tC (.int 10)) tNil)))))) tNil))) (gName 4)) (tSeq (tAsg (tOp rSubI (tCall s_L_to [] E0 (tCons (tOp (rIxT K) (tVar 1) (tC (.int 0))) (tCons (tOp (rIxT K) (tVar 1) (tC (.int 1))) tNil))) (tC (.int 1))) (gName 5))
 (tAsg (tOp rAddI (tOp rMulI (tVar 5) (tCall s_L_to [] E0 (tCons (tOp (rIxT K) (tVar 1) (tC (.int 0))) (tCons (tCB rMax2 (tCons (tC (.int 0)) (tCons (tCB rMin3 (tCons (tOp (rIxT K) (tVar 1) (tC (.int 3))) (tCons (tC (.int 20)) (tCons (tOp rSubI (tC (.int 120)) (tOp (rIxT K) (tVar 1) (tC (.int 1)))) tNil)))) tNil))) tNil)))) (tCall s_L_some [] E0 (tCons (tVar 0) (tCons (tLst (tCons (tC (.int 0)) (tCons (tC (.int 1)) (tCons (tUn rNegI (tC (.int 1))) tNil)))) tNil)))) (gName 4))))))))
 (tRet (tIf (tTest (tOp rEq (tCall s_L_take [] E0 (tCons (tVar 0) (tCons (tC (.int 2)) tNil))) (tC (.int 0)))) (tVar 4) (tUn rNegI (tVar 4))))))
theorem dv_L_drawn_integer {P : Program} {w : World} {K : PySem.W.Frag} {mg : Str → Option Value} {base : Heap} {f : Addr} {cdv : Value} {A : Around} {outer : List PySem.Env} {s : Shared} {H : Hp} {E : XK} {s_L_take s_L_to s_L_some : Sp}
    (hr : Room 2 (A.deeper (envOfC "_law_drawn_integer" (defScope (topS 55)) s.heap.objs.size f cdv))) (c_L_take : Ok P w K mg base 1 "_law_take" P_L_take s_L_take) (c_L_to : Ok P w K mg base 1 "_law_to" P_L_to s_L_to) (c_L_some : Ok P w K mg base 2 "_law_some" P_L_some s_L_some) (m_max : mg "max" = none) (m_min : mg "min" = none) :
    PSs (cxOf CX0 P w K mg base N_L_drawn_integer "_law_drawn_integer" (defScope (topS 55)) f cdv A outer s H E).nox (defBody (topS 55)) (t_L_drawn_integer K s_L_take s_L_to s_L_some) :=
 (pss_cons (ps_set (i := 2) sc_L_drawn_integer.nd rfl (.inl rfl) (pe_ok c_L_take hr (by rfl) (pa_cons (pv 0) (pa_cons pe_int pa_nil))))
 (pss_cons (ps_if (PW.pt (pw_and (pt_cmpR op_eq (pv 2) pe_int (nomark _)) (pw_and1 (pt_chain oLtI oLtI pe_int (pe_ix ix_tup (pv 1) pe_int (fun _ _ => rfl)) pe_int)))) (pss_cons (ps_set (i := 3) sc_L_drawn_integer.nd rfl (.inl rfl) (pe_ok c_L_to hr (by rfl) (pa_cons (pe_ix ix_tup (pv 1) pe_int (fun _ _ => rfl)) (pa_cons (pe_ix ix_tup (pv 1) pe_int (fun _ _ => rfl)) pa_nil))))
 (pss_one (ps_set (i := 4) sc_L_drawn_integer.nd rfl (.inl rfl) (pe_op oAddI (pe_op oAddI (pe_op oMulI (pe_op oSubI (pe_ok c_L_to hr (by rfl) (pa_cons (pe_ix ix_tup (pv 1) pe_int (fun _ _ => rfl)) (pa_cons (pe_ix ix_tup (pv 1) pe_int (fun _ _ => rfl)) pa_nil))) pe_int) (pv 3)) (pe_op oDivI (pv 3) pe_int)) (pe_ok c_L_some hr (by rfl) (pa_cons (pv 0) (pa_cons (pe_lst (pa_cons pe_int (pa_cons pe_int (pa_cons (pe_un oNegI pe_int) pa_nil)))) pa_nil))))))) (pss_one (ps_if (pt_cmpR op_eq (pv 2) pe_int (nomark _)) (pss_one (ps_set (i := 4) sc_L_drawn_integer.nd rfl (.inl rfl) (pe_ok c_L_take hr (by rfl) (pa_cons (pv 0) (pa_cons (pe_op oPowI pe_int pe_int) pa_nil))))) (pss_one (ps_if (pt_cmpR op_eq (pv 2) pe_int (nomark _)) (pss_one (ps_set (i := 4) sc_L_drawn_integer.nd rfl (.inl rfl) (pe_op oAddI (pe_ok c_L_to hr (by rfl) (pa_cons (pe_ix ix_tup (pv 1) pe_int (fun _ _ => rfl)) (pa_cons (pe_ok c_L_take hr (by rfl) (pa_cons (pv 0) (pa_cons (pe_op oAddI (pe_ix ix_tup (pv 1) pe_int (fun _ _ => rfl)) pe_int) pa_nil))) pa_nil))) (pe_ok c_L_some hr (by rfl) (pa_cons (pv 0) (pa_cons (pe_lst (pa_cons pe_int (pa_cons pe_int (pa_cons (pe_un oNegI pe_int) pa_nil)))) pa_nil)))))) (pss_one (ps_if (pt_cmpR op_eq (pv 2) pe_int (nomark _)) (pss_one (ps_set (i := 4) sc_L_drawn_integer.nd rfl (.inl rfl) (pe_op oAddI (pe_ok c_L_to hr (by rfl) (pa_cons (pe_ix ix_tup (pv 1) pe_int (fun _ _ => rfl)) (pa_cons (pe_ix ix_tup (pv 1) pe_int (fun _ _ => rfl)) pa_nil))) (pe_ok c_L_take hr (by rfl) (pa_cons (pv 0) (pa_cons (pe_op oMulI pe_int (pe_ix ix_tup (pv 1) pe_int (fun _ _ => rfl))) pa_nil)))))) (pss_one (ps_if (pt_cmpR op_eq (pv 2) pe_int (nomark _)) (pss_one (ps_set (i := 4) sc_L_drawn_integer.nd rfl (.inl rfl) (pe_ok c_L_some hr (by rfl) (pa_cons (pv 0) (pa_cons (pe_lst (pa_cons pe_int (pa_cons pe_int (pa_cons pe_int (pa_cons pe_int (pa_cons pe_int pa_nil)))))) pa_nil))))) (pss_cons (ps_set (i := 5) sc_L_drawn_integer.nd rfl (.inl rfl) (pe_op oSubI (pe_ok c_L_to hr (by rfl) (pa_cons (pe_ix ix_tup (pv 1) pe_int (fun _ _ => rfl)) (pa_cons (pe_ix ix_tup (pv 1) pe_int (fun _ _ => rfl)) pa_nil))) pe_int))
 (pss_one (ps_set (i := 4) sc_L_drawn_integer.nd rfl (.inl rfl) (pe_op oAddI (pe_op oMulI (pv 5) (pe_ok c_L_to hr (by rfl) (pa_cons (pe_ix ix_tup (pv 1) pe_int (fun _ _ => rfl)) (pa_cons (pe_callB (cMax2 rfl) (by rfl) m_max (by decide +kernel) (pa_cons pe_int (pa_cons (pe_callB (call_min3 rfl) (by rfl) m_min (by decide +kernel) (pa_cons (pe_ix ix_tup (pv 1) pe_int (fun _ _ => rfl)) (pa_cons pe_int (pa_cons (pe_op oSubI pe_int (pe_ix ix_tup (pv 1) pe_int (fun _ _ => rfl))) pa_nil)))) pa_nil))) pa_nil)))) (pe_ok c_L_some hr (by rfl) (pa_cons (pv 0) (pa_cons (pe_lst (pa_cons pe_int (pa_cons pe_int (pa_cons (pe_un oNegI pe_int) pa_nil)))) pa_nil))))))))))))))))
 (pss_one (ps_ret (pe_ifExp (pt_cmpR op_eq (pe_ok c_L_take hr (by rfl) (pa_cons (pv 0) (pa_cons pe_int pa_nil))) pe_int (nomark _)) (pv 4) (pe_un oNegI (pv 4)))))))
abbrev N_L_near_half : List Str := ["_law_bag_here", "_law_form", "_law_x", "_law_found"]
abbrev P_L_near_half : List Str := ["_law_bag_here", "_law_form"]
theorem sc_L_near_half : FnScope N_L_near_half P_L_near_half (defScope (topS 56)) := ⟨rfl, rfl, rfl, by decide +kernel, rfl, by decide +kernel, by decide +kernel⟩
def t_L_near_half (K : PySem.W.Frag) (s_L_over s_L_some s_L_take s_L_number_of s_L_value : Sp) : TS := (tSeq (tAsg (tCall s_L_over [] E0 (tCons (tOp rSubI (tOp rMulI (tC (.int 2)) (tCall s_L_take [] E0 (tCons (tVar 0) (tCons (tC (.int 30)) tNil)))) (tC (.int 29))) (tCons (tCall s_L_some [] E0 (tCons (tVar 0) (tCons (tLst (tCons (tC (.int 2)) (tCons (tC (.int 1)) (tCons (tC (.int 4)) tNil)))) tNil))) tNil))) (gName 2))
 (tSeq (tAsg (tCall s_L_number_of [] E0 (tCons (tVar 1) (tCons (tVar 2) tNil))) (gName 3))
 (tRet (tIf (tTest (tOp rNot0 (tVar 3) (tC .non))) (tVar 3) (tCall s_L_value [] E0 (tCons (tVar 0) (tCons (tVar 1) tNil)))))))
theorem dv_L_near_half {P : Program} {w : World} {K : PySem.W.Frag} {mg : Str → Option Value} {base : Heap} {f : Addr} {cdv : Value} {A : Around} {outer : List PySem.Env} {s : Shared} {H : Hp} {E : XK} {s_L_over s_L_some s_L_take s_L_number_of s_L_value : Sp}
    (hr : Room 5 (A.deeper (envOfC "_law_near_half" (defScope (topS 56)) s.heap.objs.size f cdv))) (c_L_over : Ok P w K mg base 2 "_law_over" P_L_over s_L_over) (c_L_some : Ok P w K mg base 2 "_law_some" P_L_some s_L_some) (c_L_take : Ok P w K mg base 1 "_law_take" P_L_take s_L_take) (c_L_number_of : Ok P w K mg base 5 "_law_number_of" P_L_number_of s_L_number_of) (c_L_value : Ok P w K mg base 4 "_law_value" P_L_value s_L_value) :
    PSs (cxOf CX0 P w K mg base N_L_near_half "_law_near_half" (defScope (topS 56)) f cdv A outer s H E).nox (defBody (topS 56)) (t_L_near_half K s_L_over s_L_some s_L_take s_L_number_of s_L_value) :=
 (pss_cons (ps_set (i := 2) sc_L_near_half.nd rfl (.inl rfl) (pe_ok c_L_over hr (by rfl) (pa_cons (pe_op oSubI (pe_op oMulI pe_int (pe_ok c_L_take hr (by rfl) (pa_cons (pv 0) (pa_cons pe_int pa_nil)))) pe_int) (pa_cons (pe_ok c_L_some hr (by rfl) (pa_cons (pv 0) (pa_cons (pe_lst (pa_cons pe_int (pa_cons pe_int (pa_cons pe_int pa_nil)))) pa_nil))) pa_nil))))
 (pss_cons (ps_set (i := 3) sc_L_near_half.nd rfl (.inl rfl) (pe_ok c_L_number_of hr (by rfl) (pa_cons (pv 1) (pa_cons (pv 2) pa_nil))))
 (pss_one (ps_ret (pe_ifExp (pt_cmpR oNot0 (pv 3) pe_non (nomark _)) (pv 3) (pe_ok c_L_value hr (by rfl) (pa_cons (pv 0) (pa_cons (pv 1) pa_nil))))))))
end Nh
/-! plain integers: the grid of a format -/
namespace Nh
structure Fm where
  b : Int
  g : Int
  lo : Int
  hi : Int
structure FmOk (F : Fm) : Prop where
  b2 : 2 ≤ F.b
  b36 : F.b ≤ 36
  ev : F.b % 2 = 0
  g2 : 2 ≤ F.g
  g120 : F.g ≤ 120
  lh : F.lo ≤ F.hi
  l1 : -1200 ≤ F.lo
  h1 : F.hi ≤ 1200
  sl : F.b ^ (F.g.toNat + F.lo.natAbs) < 2 ^ 2700
  sh : F.b ^ (F.g.toNat + F.hi.natAbs) < 2 ^ 2700
theorem pow_pos' {b : Int} (h : 1 ≤ b) (n : Nat) : 1 ≤ b ^ n := by
  induction n with
  | zero =>
    rw [Int.pow_zero]
    exact Int.le_refl 1
  | succ n ih =>
    rw [Int.pow_succ]
    have : 1 * 1 ≤ b ^ n * b := Int.mul_le_mul ih h (by omega) (by omega)
    omega
theorem pow_mono {b : Int} (h : 1 ≤ b) {m n : Nat} (hm : m ≤ n) : b ^ m ≤ b ^ n := by
  obtain ⟨k, rfl⟩ := Nat.le.dest hm
  rw [Int.pow_add]
  have h1 := pow_pos' h m
  have h2 := pow_pos' h k
  have : b ^ m * 1 ≤ b ^ m * b ^ k := Int.mul_le_mul_of_nonneg_left h2 (by omega)
  omega
/-- x / b ^ e as a pair -/
def up (b e n : Int) : Int := n * b ^ (-e).toNat
def dn (b e d : Int) : Int := d * b ^ e.toNat
theorem dn_pos {b e d : Int} (hb : 1 ≤ b) (hd : 0 < d) : 0 < dn b e d := Int.mul_pos hd (by have := pow_pos' hb e.toNat; omega)
theorem up_nn {b e n : Int} (hb : 1 ≤ b) (hn : 0 ≤ n) : 0 ≤ up b e n := Int.mul_nonneg hn (by have := pow_pos' hb (-e).toNat; omega)
theorem sc_shift {b e e' n d : Int} (h : e ≤ e') : up b e n * dn b e' d = up b e' n * dn b e d * b ^ (e' - e).toNat := by
  unfold up dn
  have k : (-e).toNat + e'.toNat = (-e').toNat + e.toNat + (e' - e).toNat := by omega
  have p : b ^ (-e).toNat * b ^ e'.toNat = b ^ (-e').toNat * b ^ e.toNat * b ^ (e' - e).toNat := by
    rw [← Int.pow_add, ← Int.pow_add, ← Int.pow_add, k]
  calc n * b ^ (-e).toNat * (d * b ^ e'.toNat) = n * d * (b ^ (-e).toNat * b ^ e'.toNat) := by ac_rfl
    _ = n * d * (b ^ (-e').toNat * b ^ e.toNat * b ^ (e' - e).toNat) := by rw [p]
    _ = n * b ^ (-e').toNat * (d * b ^ e.toNat) * b ^ (e' - e).toNat := by ac_rfl
/-- c * b ^ e is the greatest number of the format not above n / d -/
structure Grid (F : Fm) (n d c e : Int) : Prop where
  le : F.lo ≤ e
  lt : up F.b e n < F.b ^ F.g.toNat * dn F.b e d
  ge : e = F.lo ∨ F.b ^ (F.g.toNat - 1) * dn F.b e d ≤ up F.b e n
  eq : c = up F.b e n / dn F.b e d
theorem grid_lt {F : Fm} (ok : FmOk F) {n d c e c' e' : Int} (hd : 0 < d) (h : Grid F n d c e) (h' : Grid F n d c' e') : ¬ e < e' := by
  intro hlt
  have hb : 1 ≤ F.b := by have := ok.b2; omega
  have hg := ok.g2
  have d1 := dn_pos (e := e) hb hd
  have d2 := dn_pos (e := e') hb hd
  rcases h'.ge with z | z
  · have := h.le
    omega
  · have s := sc_shift (b := F.b) (n := n) (d := d) (Int.le_of_lt hlt)
    have a1 : up F.b e n * dn F.b e' d < F.b ^ F.g.toNat * dn F.b e d * dn F.b e' d := Int.mul_lt_mul_of_pos_right h.lt d2
    have hp := pow_pos' hb (e' - e).toNat
    have a2 : F.b ^ (F.g.toNat - 1) * dn F.b e' d * (dn F.b e d * F.b ^ (e' - e).toNat) ≤ up F.b e' n * (dn F.b e d * F.b ^ (e' - e).toNat) := Int.mul_le_mul_of_nonneg_right z (Int.mul_nonneg (by omega) (by omega))
    have pw : F.b ^ F.g.toNat ≤ F.b ^ (F.g.toNat - 1) * F.b ^ (e' - e).toNat := by
      rw [← Int.pow_add]
      exact pow_mono hb (by omega)
    have a3 : F.b ^ F.g.toNat * (dn F.b e d * dn F.b e' d) ≤ F.b ^ (F.g.toNat - 1) * F.b ^ (e' - e).toNat * (dn F.b e d * dn F.b e' d) := Int.mul_le_mul_of_nonneg_right pw (Int.mul_nonneg (by omega) (by omega))
    have e1 : F.b ^ (F.g.toNat - 1) * F.b ^ (e' - e).toNat * (dn F.b e d * dn F.b e' d) = F.b ^ (F.g.toNat - 1) * dn F.b e' d * (dn F.b e d * F.b ^ (e' - e).toNat) := by ac_rfl
    have e2 : up F.b e' n * (dn F.b e d * F.b ^ (e' - e).toNat) = up F.b e' n * dn F.b e d * F.b ^ (e' - e).toNat := by ac_rfl
    have e3 : F.b ^ F.g.toNat * (dn F.b e d * dn F.b e' d) = F.b ^ F.g.toNat * dn F.b e d * dn F.b e' d := by ac_rfl
    omega
theorem grid_eq {F : Fm} (ok : FmOk F) {n d c e c' e' : Int} (hd : 0 < d) (h : Grid F n d c e) (h' : Grid F n d c' e') : c = c' ∧ e = e' := by
  have h1 := grid_lt ok hd h h'
  have h2 := grid_lt ok hd h' h
  have he : e = e' := by omega
  subst he
  exact ⟨h.eq.trans h'.eq.symm, rfl⟩
theorem up_cross {b e n d n' d' : Int} (h : n * d' = n' * d) : up b e n * dn b e d' = up b e n' * dn b e d := by
  unfold up dn
  calc n * b ^ (-e).toNat * (d' * b ^ e.toNat) = (n * d') * (b ^ (-e).toNat * b ^ e.toNat) := by ac_rfl
    _ = (n' * d) * (b ^ (-e).toNat * b ^ e.toNat) := by rw [h]
    _ = n' * b ^ (-e).toNat * (d * b ^ e.toNat) := by ac_rfl
theorem div_cross {a b c d : Int} (hb : 0 < b) (hd : 0 < d) (h : a * d = c * b) : a / b = c / d := by
  have e1 : a / b = (a * d) / (b * d) := (Int.mul_ediv_mul_of_pos_left a b hd).symm
  have e2 : c / d = (c * b) / (d * b) := (Int.mul_ediv_mul_of_pos_left c d hb).symm
  rw [e1, e2, h, Int.mul_comm b d]
theorem le_cross {x a b c d : Int} (hb : 0 < b) (hd : 0 < d) (h : a * d = c * b) : (x * b ≤ a) ↔ (x * d ≤ c) := by
  constructor
  · intro k
    have : x * b * d ≤ a * d := Int.mul_le_mul_of_nonneg_right k (by omega)
    rw [h] at this
    have e : x * b * d = x * d * b := by ac_rfl
    rw [e] at this
    exact Int.le_of_mul_le_mul_right this hb
  · intro k
    have : x * d * b ≤ c * b := Int.mul_le_mul_of_nonneg_right k (by omega)
    rw [← h] at this
    have e : x * d * b = x * b * d := by ac_rfl
    rw [e] at this
    exact Int.le_of_mul_le_mul_right this hd
theorem Grid.congr {F : Fm} (ok : FmOk F) {n d n' d' c e : Int} (hd : 0 < d) (hd' : 0 < d') (h : n * d' = n' * d) (g : Grid F n d c e) : Grid F n' d' c e := by
  have hb : 1 ≤ F.b := by have := ok.b2; omega
  have d1 := dn_pos (e := e) hb hd
  have d2 := dn_pos (e := e) hb hd'
  have x := up_cross (b := F.b) (e := e) h
  refine ⟨g.le, ?_, g.ge.imp id fun z => (le_cross d1 d2 x).mp z, g.eq.trans (div_cross d1 d2 x)⟩
  have := g.lt
  have k := le_cross (x := F.b ^ F.g.toNat) d1 d2 x
  omega
theorem Grid.own {F : Fm} (ok : FmOk F) {c e : Int} (h0 : 0 ≤ c) (hc : c < F.b ^ F.g.toNat) (hl : F.lo ≤ e) (hn : e = F.lo ∨ F.b ^ (F.g.toNat - 1) ≤ c) : Grid F (c * F.b ^ e.toNat) (F.b ^ (-e).toNat) c e := by
  have hb : 1 ≤ F.b := by have := ok.b2; omega
  have p1 := pow_pos' hb e.toNat
  have p2 := pow_pos' hb (-e).toNat
  have hd : 0 < dn F.b e (F.b ^ (-e).toNat) := dn_pos hb (by omega)
  have hu : up F.b e (c * F.b ^ e.toNat) = c * dn F.b e (F.b ^ (-e).toNat) := by
    unfold up dn
    ac_rfl
  refine ⟨hl, ?_, hn.imp id fun z => ?_, ?_⟩
  · rw [hu]
    exact Int.mul_lt_mul_of_pos_right hc hd
  · rw [hu]
    exact Int.mul_le_mul_of_nonneg_right z (by omega)
  · rw [hu, Int.mul_ediv_cancel _ (by omega)]
/-- the c of a number -/
theorem Grid.nn {F : Fm} (ok : FmOk F) {n d c e : Int} (hn : 0 ≤ n) (hd : 0 < d) (g : Grid F n d c e) : 0 ≤ c := by
  have hb : 1 ≤ F.b := by have := ok.b2; omega
  rw [g.eq]
  exact Int.ediv_nonneg (up_nn hb hn) (Int.le_of_lt (dn_pos hb hd))
theorem Grid.top {F : Fm} (ok : FmOk F) {n d c e : Int} (hd : 0 < d) (g : Grid F n d c e) : c < F.b ^ F.g.toNat := by
  have hb : 1 ≤ F.b := by have := ok.b2; omega
  rw [g.eq]
  exact Int.ediv_lt_of_lt_mul (dn_pos hb hd) g.lt
theorem Grid.norm {F : Fm} (ok : FmOk F) {n d c e : Int} (hd : 0 < d) (g : Grid F n d c e) : e = F.lo ∨ F.b ^ (F.g.toNat - 1) ≤ c := by
  have hb : 1 ≤ F.b := by have := ok.b2; omega
  refine g.ge.imp id fun z => ?_
  rw [g.eq]
  exact (Int.le_ediv_iff_mul_le (dn_pos hb hd)).mpr z
theorem Grid.low {F : Fm} (ok : FmOk F) {n d c e : Int} (hd : 0 < d) (g : Grid F n d c e) : c * dn F.b e d ≤ up F.b e n := by
  have hb : 1 ≤ F.b := by have := ok.b2; omega
  rw [g.eq]
  exact Int.ediv_mul_le _ (by have := dn_pos (e := e) hb hd; omega)
theorem Grid.high {F : Fm} (ok : FmOk F) {n d c e : Int} (hd : 0 < d) (g : Grid F n d c e) : up F.b e n < (c + 1) * dn F.b e d := by
  have hb : 1 ≤ F.b := by have := ok.b2; omega
  rw [g.eq]
  exact Int.lt_ediv_add_one_mul_self _ (dn_pos hb hd)
end Nh
namespace Nh
theorem up_lt {b g j e n d : Int} (hb : 1 ≤ b) (hd : 0 < d) (hn : 0 ≤ n) (hg : 0 ≤ g) (h : up b j n < dn b j d) (hj : j ≤ e + g) : up b e n < b ^ g.toNat * dn b e d := by
  have de := dn_pos (e := e) hb hd
  have dj := dn_pos (e := j) hb hd
  have hp := pow_pos' hb g.toNat
  by_cases c : e ≤ j
  · have s := sc_shift (b := b) (n := n) (d := d) c
    have pj := pow_pos' hb (j - e).toNat
    have a1 : up b j n * (dn b e d * b ^ (j - e).toNat) < dn b j d * (dn b e d * b ^ (j - e).toNat) := Int.mul_lt_mul_of_pos_right h (Int.mul_pos de (by omega))
    have a2 : b ^ (j - e).toNat ≤ b ^ g.toNat := pow_mono hb (by omega)
    have a3 : dn b j d * dn b e d * b ^ (j - e).toNat ≤ dn b j d * dn b e d * b ^ g.toNat := Int.mul_le_mul_of_nonneg_left a2 (Int.mul_nonneg (by omega) (by omega))
    have e1 : up b j n * (dn b e d * b ^ (j - e).toNat) = up b j n * dn b e d * b ^ (j - e).toNat := by ac_rfl
    have e2 : dn b j d * (dn b e d * b ^ (j - e).toNat) = dn b j d * dn b e d * b ^ (j - e).toNat := by ac_rfl
    have e3 : dn b j d * dn b e d * b ^ g.toNat = b ^ g.toNat * dn b e d * dn b j d := by ac_rfl
    have f : up b e n * dn b j d < b ^ g.toNat * dn b e d * dn b j d := by omega
    exact Int.lt_of_mul_lt_mul_right f (by omega)
  · have s := sc_shift (b := b) (n := n) (d := d) (e := j) (e' := e) (by omega)
    have pj := pow_pos' hb (e - j).toNat
    have un := up_nn (e := e) hb hn
    have a1 : up b j n * dn b e d < dn b j d * dn b e d := Int.mul_lt_mul_of_pos_right h de
    have a2 : up b e n * dn b j d * 1 ≤ up b e n * dn b j d * b ^ (e - j).toNat := Int.mul_le_mul_of_nonneg_left pj (Int.mul_nonneg un (by omega))
    have e1 : dn b j d * dn b e d = dn b e d * dn b j d := Int.mul_comm _ _
    have f : up b e n * dn b j d < dn b e d * dn b j d := by omega
    have g1 : up b e n < dn b e d := Int.lt_of_mul_lt_mul_right f (by omega)
    have g2 : 1 * dn b e d ≤ b ^ g.toNat * dn b e d := Int.mul_le_mul_of_nonneg_right hp (by omega)
    omega
theorem up_ge {b e k n d : Int} (hb : 1 ≤ b) (hd : 0 < d) (hk : e ≤ k) (h : dn b k d ≤ up b k n) : b ^ (k - e).toNat * dn b e d ≤ up b e n := by
  have de := dn_pos (e := e) hb hd
  have dk := dn_pos (e := k) hb hd
  have s := sc_shift (b := b) (n := n) (d := d) hk
  have pj := pow_pos' hb (k - e).toNat
  have a1 : dn b k d * (dn b e d * b ^ (k - e).toNat) ≤ up b k n * (dn b e d * b ^ (k - e).toNat) := Int.mul_le_mul_of_nonneg_right h (Int.mul_nonneg (by omega) (by omega))
  have e1 : up b k n * (dn b e d * b ^ (k - e).toNat) = up b k n * dn b e d * b ^ (k - e).toNat := by ac_rfl
  have e2 : dn b k d * (dn b e d * b ^ (k - e).toNat) = b ^ (k - e).toNat * dn b e d * dn b k d := by ac_rfl
  exact Int.le_of_mul_le_mul_right (by omega : b ^ (k - e).toNat * dn b e d * dn b k d ≤ up b e n * dn b k d) dk
/-- the grid, from the power below -/
theorem Grid.of_pow {F : Fm} (ok : FmOk F) {n d k : Int} (hd : 0 < d) (hn : 0 ≤ n) (h1 : dn F.b k d ≤ up F.b k n) (h2 : up F.b (k + 1) n < dn F.b (k + 1) d) {e : Int} (he : e = if k - F.g + 1 > F.lo then k - F.g + 1 else F.lo) :
    Grid F n d (up F.b e n / dn F.b e d) e := by
  have hb : 1 ≤ F.b := by have := ok.b2; omega
  have hg := ok.g2
  refine ⟨by rw [he]; split <;> omega, up_lt hb hd hn (by omega) h2 (by rw [he]; split <;> omega), ?_, rfl⟩
  by_cases c : k - F.g + 1 > F.lo
  · rw [if_pos c] at he
    right
    have := up_ge (e := e) hb hd (by omega) h1
    have q : (k - e).toNat = F.g.toNat - 1 := by omega
    rwa [q] at this
  · rw [if_neg c] at he
    exact .inl he
theorem Grid.zero {F : Fm} (ok : FmOk F) {d : Int} (hd : 0 < d) : Grid F 0 d 0 F.lo := by
  have hb : 1 ≤ F.b := by have := ok.b2; omega
  have e0 : up F.b F.lo 0 = 0 := Int.zero_mul _
  refine ⟨Int.le_refl _, ?_, .inl rfl, ?_⟩
  · rw [e0]
    have h1 := pow_pos' hb F.g.toNat
    exact Int.mul_pos (by omega) (dn_pos hb hd)
  · rw [e0, Int.zero_ediv]
/-- the divisor is no larger than what is known -/
theorem Grid.dn_le {F : Fm} (ok : FmOk F) {n d c e : Int} (hd : 0 < d) (g : Grid F n d c e) (he : 0 < e) : dn F.b e d ≤ d * F.b ^ F.lo.toNat ∨ dn F.b e d ≤ n := by
  have hb : 1 ≤ F.b := by have := ok.b2; omega
  rcases g.ge with z | z
  · left
    unfold dn
    rw [z]
    exact Int.le_refl _
  · right
    have h1 := pow_pos' hb (F.g.toNat - 1)
    have h2 := dn_pos (e := e) hb hd
    have h3 : 1 * dn F.b e d ≤ F.b ^ (F.g.toNat - 1) * dn F.b e d := Int.mul_le_mul_of_nonneg_right h1 (by omega)
    have h4 : up F.b e n = n := by
      unfold up
      have : (-e).toNat = 0 := by omega
      rw [this, Int.pow_zero, Int.mul_one]
    omega
end Nh
namespace Nh
theorem grid_scale {b h lo j n d : Int} (hj : lo ≤ j) (hh : 0 ≤ h) : n * b ^ (-lo).toNat = up b j n * b ^ ((-lo).toNat - (-j).toNat) ∧ d * b ^ (h + (lo.toNat : Int) + (j - lo)).toNat = b ^ h.toNat * dn b j d * b ^ ((-lo).toNat - (-j).toNat) := by
  constructor
  · unfold up
    have e : (-lo).toNat = (-j).toNat + ((-lo).toNat - (-j).toNat) := by omega
    rw [Int.mul_assoc, ← Int.pow_add, ← e]
  · unfold dn
    have e : (h + (lo.toNat : Int) + (j - lo)).toNat = h.toNat + j.toNat + ((-lo).toNat - (-j).toNat) := by omega
    rw [e, Int.pow_add, Int.pow_add]
    ac_rfl
theorem Grid.of_scan {F : Fm} (ok : FmOk F) {n d e B S : Int} (hd : 0 < d) (he : F.lo ≤ e) (hB : B = d * F.b ^ (F.g + (F.lo.toNat : Int) + (e - F.lo)).toNat) (hS : S = n * F.b ^ (-F.lo).toNat)
    (h1 : S < B * F.b) (h2 : e = F.lo ∨ B ≤ S) : Grid F n d (up F.b (if B ≤ S then e + 1 else e) n / dn F.b (if B ≤ S then e + 1 else e) d) (if B ≤ S then e + 1 else e) := by
  have hb : 1 ≤ F.b := by have := ok.b2; omega
  have hg := ok.g2
  by_cases c : B ≤ S
  · rw [if_pos c]
    obtain ⟨s1, s2⟩ := grid_scale (b := F.b) (h := F.g) (lo := F.lo) (j := e + 1) (n := n) (d := d) (by omega) (by omega)
    obtain ⟨_, s3⟩ := grid_scale (b := F.b) (h := F.g - 1) (lo := F.lo) (j := e + 1) (n := n) (d := d) (by omega) (by omega)
    have p := pow_pos' hb ((-F.lo).toNat - (-(e + 1)).toNat)
    have eB : B = d * F.b ^ (F.g - 1 + (F.lo.toNat : Int) + (e + 1 - F.lo)).toNat := by
      rw [hB]
      congr 2
      omega
    have eB2 : B * F.b = d * F.b ^ (F.g + (F.lo.toNat : Int) + (e + 1 - F.lo)).toNat := by
      rw [hB, Int.mul_assoc, ← Int.pow_succ]
      congr 2
      omega
    rw [hS, s1] at h1 c
    rw [eB2, s2] at h1
    rw [eB, s3] at c
    refine ⟨by omega, Int.lt_of_mul_lt_mul_right h1 (by omega), .inr ?_, rfl⟩
    have q : (F.g - 1).toNat = F.g.toNat - 1 := by omega
    rw [q] at c
    exact Int.le_of_mul_le_mul_right c (by omega)
  · rw [if_neg c]
    have hlo : e = F.lo := h2.elim id fun z => absurd z c
    obtain ⟨s1, s2⟩ := grid_scale (b := F.b) (h := F.g) (lo := F.lo) (j := e) (n := n) (d := d) he (by omega)
    have p := pow_pos' hb ((-F.lo).toNat - (-e).toNat)
    have c' : S < B := by omega
    rw [hS, s1, hB, s2] at c'
    exact ⟨he, Int.lt_of_mul_lt_mul_right c' (by omega), .inl hlo, rfl⟩
end Nh
set_option Elab.async false
set_option linter.all false
set_option maxRecDepth 100000
set_option maxHeartbeats 4000000
namespace Nh
open PySem PySem.Spec PyProof.Rows L2
/-! ### sizes -/
theorem cm {i j : Int} {a b : Nat} (hi : i.natAbs < 2 ^ a) (hj : j.natAbs < 2 ^ b) (h : a + b ≤ 900000 := by decide) : CMulW i j :=
  wide_mul (a := a + 1) (b := b + 1) (Nat.lt_of_lt_of_le hi (Nat.pow_le_pow_right (by decide) (Nat.le_succ a))) (Nat.lt_of_lt_of_le hj (Nat.pow_le_pow_right (by decide) (Nat.le_succ b))) (by omega) (by omega) (by omega)
theorem cd {i j : Int} {b : Nat} (h0 : 0 < j) (hj : j.natAbs < 2 ^ b) (h : b < 9000 := by decide) : CDivW i j :=
  wide_div (b := b + 1) h0 (Nat.lt_of_lt_of_le hj (Nat.pow_le_pow_right (by decide) (Nat.le_succ b))) (by omega) (by omega)
theorem cd2 {i : Int} : CDivW i 2 := cd (b := 2) (by decide) (by decide)
theorem sz_mono {i : Int} {a b : Nat} (h : i.natAbs < 2 ^ a) (hab : a ≤ b := by decide) : i.natAbs < 2 ^ b := Nat.lt_of_lt_of_le h (Nat.pow_le_pow_right (by decide) hab)
theorem sz_mul {i j : Int} {a b : Nat} (hi : i.natAbs < 2 ^ a) (hj : j.natAbs < 2 ^ b) : (i * j).natAbs < 2 ^ (a + b) := by
  rw [Int.natAbs_mul, Nat.pow_add]
  exact Nat.mul_lt_mul'' hi hj
theorem sz_sub {i j : Int} {a : Nat} (hi : i.natAbs < 2 ^ a) (hj : j.natAbs < 2 ^ a) : (i - j).natAbs < 2 ^ (a + 1) := by
  rw [Nat.pow_succ]
  omega
theorem sz_add {i j : Int} {a : Nat} (hi : i.natAbs < 2 ^ a) (hj : j.natAbs < 2 ^ a) : (i + j).natAbs < 2 ^ (a + 1) := by
  rw [Nat.pow_succ]
  omega
theorem sz_le {i j : Int} {a : Nat} (h0 : 0 ≤ i) (h : i ≤ j) (hj : j.natAbs < 2 ^ a) : i.natAbs < 2 ^ a := by omega
theorem sz_div {n d : Int} {a : Nat} (h : 0 < d) (hn : n.natAbs < 2 ^ a) : (n / d).natAbs < 2 ^ (a + 1) := by
  have h1 : (n / d).natAbs ≤ n.natAbs := Int.natAbs_ediv_le_natAbs n d
  rw [Nat.pow_succ]
  omega
theorem sz_pow {b : Int} (h1 : 1 ≤ b) (h2 : b ≤ 36) (n : Nat) : (b ^ n).natAbs < 2 ^ (6 * n + 1) := by
  rw [Int.natAbs_pow]
  have h : b.natAbs ≤ 2 ^ 6 := by omega
  have := Nat.pow_le_pow_left h n
  rw [← Nat.pow_mul] at this
  rw [Nat.pow_succ]
  have p : 0 < 2 ^ (6 * n) := Nat.pow_pos (by decide)
  omega
theorem sz_powE {b e : Int} {E : Nat} (h1 : 1 ≤ b) (h2 : b ≤ 36) (he : e.toNat ≤ E) : (b ^ e.toNat).natAbs < 2 ^ (6 * E + 1) :=
  Nat.lt_of_lt_of_le (sz_pow h1 h2 _) (Nat.pow_le_pow_right (by decide) (by omega))
/-! ### branches -/
theorem br {p A B : Prop} [Decidable p] (h1 : p → A) (h2 : ¬ p → B) : (decide p = true → A) ∧ (decide p = false → B) := ⟨fun h => h1 (of_decide_eq_true h), fun h => h2 (of_decide_eq_false h)⟩
theorem brT {p A B : Prop} [Decidable p] (h : p) (h1 : A) : (decide p = true → A) ∧ (decide p = false → B) := ⟨fun _ => h1, fun z => absurd h (of_decide_eq_false z)⟩
theorem brF {p A B : Prop} [Decidable p] (h : ¬ p) (h1 : B) : (decide p = true → A) ∧ (decide p = false → B) := ⟨fun z => absurd (of_decide_eq_true z) h, fun _ => h1⟩
theorem brN {p A B : Prop} [Decidable p] (h1 : ¬ p → A) (h2 : p → B) : ((!decide p) = true → A) ∧ ((!decide p) = false → B) := by
  by_cases z : p
  · rw [decide_eq_true z]
    exact ⟨fun h => (nomatch h), fun _ => h2 z⟩
  · rw [decide_eq_false z]
    exact ⟨fun _ => h1 z, fun h => (nomatch h)⟩
theorem bT {A B : Prop} (h : A) : (true = true → A) ∧ (true = false → B) := ⟨fun _ => h, fun z => (nomatch z)⟩
theorem bF {A B : Prop} (h : B) : (false = true → A) ∧ (false = false → B) := ⟨fun z => (nomatch z), fun _ => h⟩
theorem bb {b : Bool} {A B : Prop} (h1 : b = true → A) (h2 : b = false → B) : (b = true → A) ∧ (b = false → B) := ⟨h1, h2⟩
theorem intOf_bl {k : Bool} {Φ : D → Prop} (h : Φ (.int (if k then 1 else 0))) : IntOf [.bl k] Φ := h
theorem intOf_int {i : Int} {Φ : D → Prop} (h : Φ (.int i)) : IntOf [.int i] Φ := h
theorem WS.imp {ts : TS} {ρ : Env} {Ω Ω' : EndsD} (h : WS ts ρ Ω) (hn : ∀ ρ, Ω.nx ρ → Ω'.nx ρ) (hr : ∀ d, Ω.rt d → Ω'.rt d) (hb : ∀ ρ, Ω.bk ρ → Ω'.bk ρ) (hc : ∀ ρ, Ω.ct ρ → Ω'.ct ρ) : WS ts ρ Ω' := fun bn β σ H E b r q =>
  h bn β σ H E b r ⟨fun σ ρ H' e b r k => q.nx σ ρ H' e b r (hn ρ k), fun v d H' e b r k => q.rt v d H' e b r (hr d k), fun σ ρ H' e b r k => q.bk σ ρ H' e b r (hb ρ k), fun σ ρ H' e b r k => q.ct σ ρ H' e b r (hc ρ k)⟩
/-! ### powers -/
def spW : Sp := spA (fun p : Int × Int => [.int p.1, .int p.2]) (fun p => 1 ≤ p.1 ∧ p.1 ≤ 36 ∧ 0 ≤ p.2 ∧ p.2 ≤ 40000) (fun p d => d = .int (p.1 ^ p.2.toNat))
theorem c_W {ta : TA} {ρ : Env} {Φ : D → Prop} {E : XK} (h : WA ta ρ fun ds => ∃ b e : Int, ds = [.int b, .int e] ∧ (1 ≤ b ∧ b ≤ 36 ∧ 0 ≤ e ∧ e ≤ 40000) ∧ Φ (.int (b ^ e.toNat))) : WE (tCall spW [] E ta) ρ Φ :=
  we_callA fun bn β σ H Q bg r q => h bn β σ H Q bg r fun vs ds H' e b' r' ⟨b, e1, hd, hp, k⟩ => q vs ds H' e b' r' ⟨(b, e1), hd, hp, fun d hd => hd ▸ k⟩
/-! ### fractions -/
def gd (n d : Int) : Int := ((Nat.gcd n.natAbs d.natAbs : Nat) : Int)
def fr (n d : Int) : D := .tup [.int n, .int d]
def rdD (n d : Int) : D := fr (n / gd n d) (d / gd n d)
theorem gd_pos {n d : Int} (h : 0 < d) : 0 < gd n d := by
  unfold gd
  have : 0 < Nat.gcd n.natAbs d.natAbs := Nat.gcd_pos_of_pos_right _ (by omega)
  omega
theorem gd_le {n d : Int} (h : 0 < d) : gd n d ≤ d := by
  unfold gd
  have : Nat.gcd n.natAbs d.natAbs ≤ d.natAbs := Nat.gcd_le_right _ (by omega)
  omega
theorem gd_sz {n d : Int} {a : Nat} (h : 0 < d) (hd : d.natAbs < 2 ^ a) : (gd n d).natAbs < 2 ^ a := sz_le (Int.le_of_lt (gd_pos h)) (gd_le h) hd
/-! ### what the program reckons -/
def nearerI (w : Str) (n d low : Int) : Int := if 2 * (n - low * d) ≠ d then low + (if d < 2 * (n - low * d) then 1 else 0) else if w = "even" then low + low % 2 else low + (if 0 < n then 1 else 0)
def nearI (w : Str) (n d : Int) : Int := if w = "down" ∨ n / d = -(-n / d) then n / d else if w = "up" then -(-n / d) else if w = "zero" then (if 0 < n then n / d else -(-n / d)) else nearerI w n d (n / d)
def ipb (b k n d : Int) : Bool := if k < 0 then decide (d ≤ n * b ^ (0 - k).toNat) else decide (b ^ k.toNat * d ≤ n)
def sgn (r : Int) : Int := (if 0 < r then 1 else 0) - (if r < 0 then 1 else 0)
def sideOf (N M c : Int) : Option Int := if c * M = N then none else some (sgn (2 * (N - c * M) - M))
def sideD : Option Int → D
  | none => .non
  | some t => .int t
def rs (F : Fm) (c e : Int) : Int × Int := if c + 1 = F.b ^ F.g.toNat then (F.b ^ (F.g.toNat - 1), e + 1) else (c + 1, e)
def isR (w : Str) (s c : Int) : Option Int → Bool
  | none => false
  | some t => if w = "zero" then false else if w = "up" ∨ w = "down" then decide (decide (w = "up") = decide (s = 0)) else if t = 0 then decide (w = "away") || decide (c % 2 = 1) else decide (0 < t)
def infB (w : Str) (s : Int) : Bool := decide (w = "even" ∨ w = "away") || decide (w = if s = 0 then ("up" : Str) else "down")
def numD (s c e : Int) : D := .tup [.str "num", .int s, .int c, .int e]
def infD (s : Int) : D := .tup [.str "inf", .int s]
def nanD : D := .tup [.str "nan"]
def Fm.D (F : Fm) : D := .tup [.int F.b, .int F.g, .int F.lo, .int F.hi]
def fl0 : D := .tup []
def fl1 : D := .tup [.str "inexact"]
def flT : D := .tup [.str "inexact", .str "tiny"]
def flO : D := .tup [.str "inexact", .str "over"]
def finD (F : Fm) (w : Str) (s c e : Int) (sd : Option Int) : D :=
  let ce := if isR w s c sd = true then rs F c e else (c, e)
  if F.hi < ce.2 then .tup [if infB w s = true then infD s else numD s (F.b ^ F.g.toNat - 1) F.hi, flO]
  else .tup [numD s ce.1 ce.2, if sd ≠ none ∧ c < F.b ^ (F.g.toNat - 1) then flT else if sd = none then fl0 else fl1]
def iabs (n : Int) : Int := if n < 0 then -n else n
def woD (F : Fm) (s c e : Int) : D := if 0 ≤ e then fr ((if s = 1 then -c else c) * F.b ^ e.toNat) 1 else rdD (if s = 1 then -c else c) (F.b ^ (-e).toNat)
inductive Vl where
  | num (s c e : Int) | inf (s : Int) | nan
def Vl.D : Vl → D
  | .num s c e => numD s c e
  | .inf s => infD s
  | .nan => nanD
structure NumOk (F : Fm) (s c e : Int) : Prop where
  s01 : s = 0 ∨ s = 1
  c0 : 0 ≤ c
  cT : c < F.b ^ F.g.toNat
  le : F.lo ≤ e
  hi : e ≤ F.hi
def VlOk (F : Fm) : Vl → Prop
  | .num s c e => NumOk F s c e
  | _ => True
end Nh
set_option Elab.async false
set_option linter.all false
set_option maxRecDepth 100000
set_option maxHeartbeats 4000000
namespace Nh
open PySem PySem.Spec PyProof.Rows L2
theorem WA.imp {ta : TA} {ρ : Env} {Φ Ψ : List D → Prop} (h : WA ta ρ Ψ) (k : ∀ ds, Ψ ds → Φ ds) : WA ta ρ Φ := fun bn β σ H Q b r q => h bn β σ H Q b r fun vs ds H' e b' r' p => q vs ds H' e b' r' (k ds p)
/-- an integer of a value, by the program -/
def ioD (F : Fm) (w : Str) : Vl → D
  | .num s c e => if 0 ≤ e then .tup [.int (nearI w ((if s = 1 then -c else c) * F.b ^ e.toNat) 1), fl0]
      else .tup [.int (nearI w ((if s = 1 then -c else c) / gd (if s = 1 then -c else c) (F.b ^ (-e).toNat)) (F.b ^ (-e).toNat / gd (if s = 1 then -c else c) (F.b ^ (-e).toNat))),
        if F.b ^ (-e).toNat / gd (if s = 1 then -c else c) (F.b ^ (-e).toNat) = 1 then fl0 else fl1]
  | _ => .tup [.non, .tup [.str "invalid"]]

def sp_reduced : Sp := spA (fun (p : Int × Int) => match p with | (n, d) => [.int n, .int d]) (fun (p : Int × Int) => match p with | (n, d) => 0 < d ∧ d.natAbs < 2 ^ 8900) (fun (p : Int × Int) => match p with | (n, d) => (fun d_ => d_ = rdD n d))
theorem c_reduced {ta : TA} {ρ : Env} {Φ : D → Prop} {E : XK} (h : WA ta ρ fun ds => ∃ (n : Int) (d : Int), ds = [.int n, .int d] ∧ (0 < d ∧ d.natAbs < 2 ^ 8900) ∧ Φ (rdD n d)) : WE (tCall sp_reduced [] E ta) ρ Φ :=
  we_callA (h.imp fun ds ⟨n, d, hd_, hp_, k_⟩ => ⟨(n, d), hd_, hp_, fun d_ hd_ => hd_ ▸ k_⟩)
def sp_floor_of : Sp := spA (fun (p : Int × Int) => match p with | (n, d) => [fr n d]) (fun (p : Int × Int) => match p with | (n, d) => 0 < d ∧ d.natAbs < 2 ^ 8900) (fun (p : Int × Int) => match p with | (n, d) => (fun d_ => d_ = .int (n / d)))
theorem c_floor_of {ta : TA} {ρ : Env} {Φ : D → Prop} {E : XK} (h : WA ta ρ fun ds => ∃ (n : Int) (d : Int), ds = [fr n d] ∧ (0 < d ∧ d.natAbs < 2 ^ 8900) ∧ Φ (.int (n / d))) : WE (tCall sp_floor_of [] E ta) ρ Φ :=
  we_callA (h.imp fun ds ⟨n, d, hd_, hp_, k_⟩ => ⟨(n, d), hd_, hp_, fun d_ hd_ => hd_ ▸ k_⟩)
def sp_ceiling_of : Sp := spA (fun (p : Int × Int) => match p with | (n, d) => [fr n d]) (fun (p : Int × Int) => match p with | (n, d) => 0 < d ∧ d.natAbs < 2 ^ 8900) (fun (p : Int × Int) => match p with | (n, d) => (fun d_ => d_ = .int (-(-n / d))))
theorem c_ceiling_of {ta : TA} {ρ : Env} {Φ : D → Prop} {E : XK} (h : WA ta ρ fun ds => ∃ (n : Int) (d : Int), ds = [fr n d] ∧ (0 < d ∧ d.natAbs < 2 ^ 8900) ∧ Φ (.int (-(-n / d)))) : WE (tCall sp_ceiling_of [] E ta) ρ Φ :=
  we_callA (h.imp fun ds ⟨n, d, hd_, hp_, k_⟩ => ⟨(n, d), hd_, hp_, fun d_ hd_ => hd_ ▸ k_⟩)
def sp_nearer_integer : Sp := spA (fun (p : Str × Int × Int × Int) => match p with | (w, n, d, low) => [.str w, fr n d, .int low]) (fun (p : Str × Int × Int × Int) => match p with | (w, n, d, low) => n.natAbs < 2 ^ 9000 ∧ d.natAbs < 2 ^ 9000 ∧ low.natAbs < 2 ^ 20000) (fun (p : Str × Int × Int × Int) => match p with | (w, n, d, low) => (fun d_ => d_ = .int (nearerI w n d low)))
theorem c_nearer_integer {ta : TA} {ρ : Env} {Φ : D → Prop} {E : XK} (h : WA ta ρ fun ds => ∃ (w : Str) (n : Int) (d : Int) (low : Int), ds = [.str w, fr n d, .int low] ∧ (n.natAbs < 2 ^ 9000 ∧ d.natAbs < 2 ^ 9000 ∧ low.natAbs < 2 ^ 20000) ∧ Φ (.int (nearerI w n d low))) : WE (tCall sp_nearer_integer [] E ta) ρ Φ :=
  we_callA (h.imp fun ds ⟨w, n, d, low, hd_, hp_, k_⟩ => ⟨(w, n, d, low), hd_, hp_, fun d_ hd_ => hd_ ▸ k_⟩)
def sp_nearest_integer : Sp := spA (fun (p : Str × Int × Int) => match p with | (w, n, d) => [.str w, fr n d]) (fun (p : Str × Int × Int) => match p with | (w, n, d) => 0 < d ∧ n.natAbs < 2 ^ 8900 ∧ d.natAbs < 2 ^ 8900) (fun (p : Str × Int × Int) => match p with | (w, n, d) => (fun d_ => d_ = .int (nearI w n d)))
theorem c_nearest_integer {ta : TA} {ρ : Env} {Φ : D → Prop} {E : XK} (h : WA ta ρ fun ds => ∃ (w : Str) (n : Int) (d : Int), ds = [.str w, fr n d] ∧ (0 < d ∧ n.natAbs < 2 ^ 8900 ∧ d.natAbs < 2 ^ 8900) ∧ Φ (.int (nearI w n d))) : WE (tCall sp_nearest_integer [] E ta) ρ Φ :=
  we_callA (h.imp fun ds ⟨w, n, d, hd_, hp_, k_⟩ => ⟨(w, n, d), hd_, hp_, fun d_ hd_ => hd_ ▸ k_⟩)
def sp_is_power_below : Sp := spA (fun (p : Int × Int × Int × Int) => match p with | (b, k, n, d) => [.int b, .int k, fr n d]) (fun (p : Int × Int × Int × Int) => match p with | (b, k, n, d) => 1 ≤ b ∧ b ≤ 36 ∧ -40000 ≤ k ∧ k ≤ 40000 ∧ n.natAbs < 2 ^ 9000 ∧ d.natAbs < 2 ^ 9000) (fun (p : Int × Int × Int × Int) => match p with | (b, k, n, d) => (fun d_ => d_ = .bl (ipb b k n d)))
theorem c_is_power_below {ta : TA} {ρ : Env} {Φ : D → Prop} {E : XK} (h : WA ta ρ fun ds => ∃ (b : Int) (k : Int) (n : Int) (d : Int), ds = [.int b, .int k, fr n d] ∧ (1 ≤ b ∧ b ≤ 36 ∧ -40000 ≤ k ∧ k ≤ 40000 ∧ n.natAbs < 2 ^ 9000 ∧ d.natAbs < 2 ^ 9000) ∧ Φ (.bl (ipb b k n d))) : WE (tCall sp_is_power_below [] E ta) ρ Φ :=
  we_callA (h.imp fun ds ⟨b, k, n, d, hd_, hp_, k_⟩ => ⟨(b, k, n, d), hd_, hp_, fun d_ hd_ => hd_ ▸ k_⟩)
def sp_power_below : Sp := spA (fun (p : Int × Int × Int) => match p with | (b, n, d) => [.int b, fr n d]) (fun (p : Int × Int × Int) => match p with | (b, n, d) => 2 ≤ b ∧ b ≤ 36 ∧ 0 < n ∧ 0 < d ∧ n.natAbs < 2 ^ 8900 ∧ d.natAbs < 2 ^ 8900) (fun (p : Int × Int × Int) => match p with | (b, n, d) => (fun d_ => ∃ k : Int, d_ = .int k ∧ -9000 ≤ k ∧ k ≤ 9000 ∧ ipb b k n d = true ∧ ipb b (k + 1) n d = false))
theorem c_power_below {ta : TA} {ρ : Env} {Φ : D → Prop} {E : XK} (h : WA ta ρ fun ds => ∃ (b : Int) (n : Int) (d : Int), ds = [.int b, fr n d] ∧ (2 ≤ b ∧ b ≤ 36 ∧ 0 < n ∧ 0 < d ∧ n.natAbs < 2 ^ 8900 ∧ d.natAbs < 2 ^ 8900) ∧ ∀ d_, (∃ k : Int, d_ = .int k ∧ -9000 ≤ k ∧ k ≤ 9000 ∧ ipb b k n d = true ∧ ipb b (k + 1) n d = false) → Φ d_) : WE (tCall sp_power_below [] E ta) ρ Φ :=
  we_callA (h.imp fun ds ⟨b, n, d, hd_, hp_, k_⟩ => ⟨(b, n, d), hd_, hp_, k_⟩)
def sp_scaled : Sp := spA (fun (p : Int × Int × Int × Int) => match p with | (b, e, n, d) => [.int b, .int e, fr n d]) (fun (p : Int × Int × Int × Int) => match p with | (b, e, n, d) => 1 ≤ b ∧ b ≤ 36 ∧ -40000 ≤ e ∧ e ≤ 40000 ∧ n.natAbs < 2 ^ 9000 ∧ d.natAbs < 2 ^ 9000) (fun (p : Int × Int × Int × Int) => match p with | (b, e, n, d) => (fun d_ => d_ = .tup [.int (up b e n), .int (dn b e d)]))
theorem c_scaled {ta : TA} {ρ : Env} {Φ : D → Prop} {E : XK} (h : WA ta ρ fun ds => ∃ (b : Int) (e : Int) (n : Int) (d : Int), ds = [.int b, .int e, fr n d] ∧ (1 ≤ b ∧ b ≤ 36 ∧ -40000 ≤ e ∧ e ≤ 40000 ∧ n.natAbs < 2 ^ 9000 ∧ d.natAbs < 2 ^ 9000) ∧ Φ (.tup [.int (up b e n), .int (dn b e d)])) : WE (tCall sp_scaled [] E ta) ρ Φ :=
  we_callA (h.imp fun ds ⟨b, e, n, d, hd_, hp_, k_⟩ => ⟨(b, e, n, d), hd_, hp_, fun d_ hd_ => hd_ ▸ k_⟩)
def sp_parted : Sp := spA (fun (p : Fm × Int × Int) => match p with | (F, n, d) => [F.D, fr n d]) (fun (p : Fm × Int × Int) => match p with | (F, n, d) => FmOk F ∧ 0 ≤ n ∧ 0 < d ∧ n.natAbs < 2 ^ 8800 ∧ d.natAbs < 2 ^ 5000) (fun (p : Fm × Int × Int) => match p with | (F, n, d) => (fun d_ => ∃ c e : Int, d_ = .tup [.int c, .int e, sideD (sideOf (up F.b e n) (dn F.b e d) c)] ∧ Grid F n d c e))
theorem c_parted {ta : TA} {ρ : Env} {Φ : D → Prop} {E : XK} (h : WA ta ρ fun ds => ∃ (F : Fm) (n : Int) (d : Int), ds = [F.D, fr n d] ∧ (FmOk F ∧ 0 ≤ n ∧ 0 < d ∧ n.natAbs < 2 ^ 8800 ∧ d.natAbs < 2 ^ 5000) ∧ ∀ d_, (∃ c e : Int, d_ = .tup [.int c, .int e, sideD (sideOf (up F.b e n) (dn F.b e d) c)] ∧ Grid F n d c e) → Φ d_) : WE (tCall sp_parted [] E ta) ρ Φ :=
  we_callA (h.imp fun ds ⟨F, n, d, hd_, hp_, k_⟩ => ⟨(F, n, d), hd_, hp_, k_⟩)
def sp_raised : Sp := spA (fun (p : Fm × Int × Int) => match p with | (F, c, e) => [F.D, .int c, .int e]) (fun (p : Fm × Int × Int) => match p with | (F, c, e) => FmOk F) (fun (p : Fm × Int × Int) => match p with | (F, c, e) => (fun d_ => d_ = .tup [.int (rs F c e).1, .int (rs F c e).2]))
theorem c_raised {ta : TA} {ρ : Env} {Φ : D → Prop} {E : XK} (h : WA ta ρ fun ds => ∃ (F : Fm) (c : Int) (e : Int), ds = [F.D, .int c, .int e] ∧ (FmOk F) ∧ Φ (.tup [.int (rs F c e).1, .int (rs F c e).2])) : WE (tCall sp_raised [] E ta) ρ Φ :=
  we_callA (h.imp fun ds ⟨F, c, e, hd_, hp_, k_⟩ => ⟨(F, c, e), hd_, hp_, fun d_ hd_ => hd_ ▸ k_⟩)
def sp_is_raised : Sp := spA (fun (p : Str × Int × Int × (Option Int)) => match p with | (w, s, c, sd) => [.str w, .int s, .int c, sideD sd]) (fun (p : Str × Int × Int × (Option Int)) => match p with | (w, s, c, sd) => True) (fun (p : Str × Int × Int × (Option Int)) => match p with | (w, s, c, sd) => (fun d_ => d_ = .bl (isR w s c sd)))
theorem c_is_raised {ta : TA} {ρ : Env} {Φ : D → Prop} {E : XK} (h : WA ta ρ fun ds => ∃ (w : Str) (s : Int) (c : Int) (sd : Option Int), ds = [.str w, .int s, .int c, sideD sd] ∧ (True) ∧ Φ (.bl (isR w s c sd))) : WE (tCall sp_is_raised [] E ta) ρ Φ :=
  we_callA (h.imp fun ds ⟨w, s, c, sd, hd_, hp_, k_⟩ => ⟨(w, s, c, sd), hd_, hp_, fun d_ hd_ => hd_ ▸ k_⟩)
def sp_finished : Sp := spA (fun (p : Fm × Str × Int × Int × Int × (Option Int)) => match p with | (F, w, s, c, e, sd) => [F.D, .str w, .int s, .tup [.int c, .int e, sideD sd]]) (fun (p : Fm × Str × Int × Int × Int × (Option Int)) => match p with | (F, w, s, c, e, sd) => FmOk F) (fun (p : Fm × Str × Int × Int × Int × (Option Int)) => match p with | (F, w, s, c, e, sd) => (fun d_ => d_ = finD F w s c e sd))
theorem c_finished {ta : TA} {ρ : Env} {Φ : D → Prop} {E : XK} (h : WA ta ρ fun ds => ∃ (F : Fm) (w : Str) (s : Int) (c : Int) (e : Int) (sd : Option Int), ds = [F.D, .str w, .int s, .tup [.int c, .int e, sideD sd]] ∧ (FmOk F) ∧ Φ (finD F w s c e sd)) : WE (tCall sp_finished [] E ta) ρ Φ :=
  we_callA (h.imp fun ds ⟨F, w, s, c, e, sd, hd_, hp_, k_⟩ => ⟨(F, w, s, c, e, sd), hd_, hp_, fun d_ hd_ => hd_ ▸ k_⟩)
def sp_without_sign : Sp := spA (fun (p : Int × Int) => match p with | (n, d) => [fr n d]) (fun (p : Int × Int) => match p with | (n, d) => True) (fun (p : Int × Int) => match p with | (n, d) => (fun d_ => d_ = fr (iabs n) d))
theorem c_without_sign {ta : TA} {ρ : Env} {Φ : D → Prop} {E : XK} (h : WA ta ρ fun ds => ∃ (n : Int) (d : Int), ds = [fr n d] ∧ (True) ∧ Φ (fr (iabs n) d)) : WE (tCall sp_without_sign [] E ta) ρ Φ :=
  we_callA (h.imp fun ds ⟨n, d, hd_, hp_, k_⟩ => ⟨(n, d), hd_, hp_, fun d_ hd_ => hd_ ▸ k_⟩)
def sp_rounded : Sp := spA (fun (p : Fm × Str × Int × Int × Int) => match p with | (F, w, n, d, s) => [F.D, .str w, fr n d, .int s]) (fun (p : Fm × Str × Int × Int × Int) => match p with | (F, w, n, d, s) => FmOk F ∧ 0 < d ∧ n.natAbs < 2 ^ 8800 ∧ d.natAbs < 2 ^ 5000) (fun (p : Fm × Str × Int × Int × Int) => match p with | (F, w, n, d, s) => (fun d_ => (n = 0 ∧ d_ = .tup [numD s 0 F.lo, fl0]) ∨ (n ≠ 0 ∧ ∃ c e : Int, Grid F (iabs n) d c e ∧ d_ = finD F w (if n < 0 then 1 else 0) c e (sideOf (up F.b e (iabs n)) (dn F.b e d) c))))
theorem c_rounded {ta : TA} {ρ : Env} {Φ : D → Prop} {E : XK} (h : WA ta ρ fun ds => ∃ (F : Fm) (w : Str) (n : Int) (d : Int) (s : Int), ds = [F.D, .str w, fr n d, .int s] ∧ (FmOk F ∧ 0 < d ∧ n.natAbs < 2 ^ 8800 ∧ d.natAbs < 2 ^ 5000) ∧ ∀ d_, ((n = 0 ∧ d_ = .tup [numD s 0 F.lo, fl0]) ∨ (n ≠ 0 ∧ ∃ c e : Int, Grid F (iabs n) d c e ∧ d_ = finD F w (if n < 0 then 1 else 0) c e (sideOf (up F.b e (iabs n)) (dn F.b e d) c))) → Φ d_) : WE (tCall sp_rounded [] E ta) ρ Φ :=
  we_callA (h.imp fun ds ⟨F, w, n, d, s, hd_, hp_, k_⟩ => ⟨(F, w, n, d, s), hd_, hp_, k_⟩)
def sp_worth : Sp := spA (fun (p : Fm × Int × Int × Int) => match p with | (F, s, c, e) => [F.D, numD s c e]) (fun (p : Fm × Int × Int × Int) => match p with | (F, s, c, e) => FmOk F ∧ NumOk F s c e) (fun (p : Fm × Int × Int × Int) => match p with | (F, s, c, e) => (fun d_ => d_ = woD F s c e))
theorem c_worth {ta : TA} {ρ : Env} {Φ : D → Prop} {E : XK} (h : WA ta ρ fun ds => ∃ (F : Fm) (s : Int) (c : Int) (e : Int), ds = [F.D, numD s c e] ∧ (FmOk F ∧ NumOk F s c e) ∧ Φ (woD F s c e)) : WE (tCall sp_worth [] E ta) ρ Φ :=
  we_callA (h.imp fun ds ⟨F, s, c, e, hd_, hp_, k_⟩ => ⟨(F, s, c, e), hd_, hp_, fun d_ hd_ => hd_ ▸ k_⟩)
def sp_is_finite : Sp := spA (fun (v : Vl) => [v.D]) (fun (v : Vl) => True) (fun (v : Vl) => (fun d_ => (∃ s c e, v = .num s c e ∧ d_ = .bl true) ∨ ((∀ s c e, v ≠ .num s c e) ∧ d_ = .bl false)))
theorem c_is_finite {ta : TA} {ρ : Env} {Φ : D → Prop} {E : XK} (h : WA ta ρ fun ds => ∃ (v : Vl), ds = [v.D] ∧ (True) ∧ ∀ d_, ((∃ s c e, v = .num s c e ∧ d_ = .bl true) ∨ ((∀ s c e, v ≠ .num s c e) ∧ d_ = .bl false)) → Φ d_) : WE (tCall sp_is_finite [] E ta) ρ Φ :=
  we_callA (h.imp fun ds ⟨v, hd_, hp_, k_⟩ => ⟨v, hd_, hp_, k_⟩)
def sp_from_integer : Sp := spA (fun (p : Fm × Str × Int) => match p with | (F, w, n) => [F.D, .str w, .int n]) (fun (p : Fm × Str × Int) => match p with | (F, w, n) => FmOk F ∧ n.natAbs < 2 ^ 8800) (fun (p : Fm × Str × Int) => match p with | (F, w, n) => (fun d_ => (n = 0 ∧ d_ = .tup [numD 0 0 F.lo, fl0]) ∨ (n ≠ 0 ∧ ∃ c e : Int, Grid F (iabs n) 1 c e ∧ d_ = finD F w (if n < 0 then 1 else 0) c e (sideOf (up F.b e (iabs n)) (dn F.b e 1) c))))
theorem c_from_integer {ta : TA} {ρ : Env} {Φ : D → Prop} {E : XK} (h : WA ta ρ fun ds => ∃ (F : Fm) (w : Str) (n : Int), ds = [F.D, .str w, .int n] ∧ (FmOk F ∧ n.natAbs < 2 ^ 8800) ∧ ∀ d_, ((n = 0 ∧ d_ = .tup [numD 0 0 F.lo, fl0]) ∨ (n ≠ 0 ∧ ∃ c e : Int, Grid F (iabs n) 1 c e ∧ d_ = finD F w (if n < 0 then 1 else 0) c e (sideOf (up F.b e (iabs n)) (dn F.b e 1) c))) → Φ d_) : WE (tCall sp_from_integer [] E ta) ρ Φ :=
  we_callA (h.imp fun ds ⟨F, w, n, hd_, hp_, k_⟩ => ⟨(F, w, n), hd_, hp_, k_⟩)
def sp_integer_of : Sp := spA (fun (p : Fm × Str × Vl) => match p with | (F, w, v) => [F.D, .str w, v.D]) (fun (p : Fm × Str × Vl) => match p with | (F, w, v) => FmOk F ∧ VlOk F v) (fun (p : Fm × Str × Vl) => match p with | (F, w, v) => (fun d_ => d_ = ioD F w v))
theorem c_integer_of {ta : TA} {ρ : Env} {Φ : D → Prop} {E : XK} (h : WA ta ρ fun ds => ∃ (F : Fm) (w : Str) (v : Vl), ds = [F.D, .str w, v.D] ∧ (FmOk F ∧ VlOk F v) ∧ Φ (ioD F w v)) : WE (tCall sp_integer_of [] E ta) ρ Φ :=
  we_callA (h.imp fun ds ⟨F, w, v, hd_, hp_, k_⟩ => ⟨(F, w, v), hd_, hp_, fun d_ hd_ => hd_ ▸ k_⟩)
end Nh
set_option Elab.async false
set_option linter.all false
set_option maxRecDepth 100000
set_option maxHeartbeats 4000000
namespace Nh
open PySem PySem.Spec PyProof.Rows L2
local macro_rules | `(tactic| walk_at "nh") => `(tactic| first
  | (with_reducible refine ws_seq ?_)
  | (with_reducible refine ws_ret ?_)
  | (with_reducible refine ws_asg ?_)
  | (with_reducible refine ws_if ?_)
  | (with_reducible refine ws_par ?_)
  | (with_reducible refine ws_par3 ?_)
  | (with_reducible refine ws_next ?_)
  | (with_reducible refine ws_drop ?_)
  | (with_reducible refine wg_name ?_)
  | (with_reducible refine wgs_cons ?_)
  | (with_reducible refine wgs_nil ?_)
  | (with_reducible refine wg_tup ?_; refine ⟨_, rfl, rfl, ?_⟩)
  | (with_reducible refine we_nm ?_; refine ⟨_, rfl, ?_⟩)
  | (with_reducible refine we_int ?_)
  | (with_reducible refine we_str ?_)
  | (with_reducible refine we_non ?_)
  | (with_reducible refine we_bl ?_)
  | (with_reducible refine wAddI ?_; refine ⟨_, rfl, ?_⟩)
  | (with_reducible refine wSubI ?_)
  | (with_reducible refine wMulI ?_)
  | (with_reducible refine wDivI ?_)
  | (with_reducible refine wModI ?_)
  | (with_reducible refine wPowI ?_)
  | (with_reducible refine wLtI ?_)
  | (with_reducible refine wLeI ?_)
  | (with_reducible refine wGtI ?_)
  | (with_reducible refine wGeI ?_)
  | (with_reducible refine wNegI ?_)
  | (with_reducible refine we_eq ?_)
  | (with_reducible refine we_ne ?_)
  | (with_reducible refine we_eqD ?_)
  | (with_reducible refine we_neD ?_)
  | (with_reducible refine we_in ?_)
  | (with_reducible refine we_ixT ?_)
  | (with_reducible refine we_ixL ?_)
  | (with_reducible refine we_tup ?_)
  | (with_reducible refine we_lst ?_)
  | (with_reducible refine we_catT ?_)
  | (with_reducible refine we_catL ?_)
  | (with_reducible refine we_subB ?_)
  | (with_reducible refine we_rep01 ?_)
  | (with_reducible refine wIs0 ?_)
  | (with_reducible refine wNot0 ?_)
  | (with_reducible refine wa_cons ?_)
  | (with_reducible refine wa_nil ?_)
  | (with_reducible refine wt_test ?_)
  | (with_reducible refine wt_B ?_)
  | (with_reducible refine wt_and ?_)
  | (with_reducible refine wt_or ?_)
  | (with_reducible refine wt_not ?_)
  | (with_reducible refine we_ifE ?_)
  | (with_reducible refine we_and ?_)
  | (with_reducible refine we_or ?_)
  | (with_reducible refine wChain ?_)
  | (with_reducible refine wAbs ?_; refine ⟨_, rfl, ?_⟩)
  | (with_reducible refine wMax2 ?_)
  | (with_reducible refine wMin2 ?_)
  | (with_reducible refine we_min3 ?_)
  | (with_reducible refine we_gcd ?_)
  | (with_reducible refine wInt1 ?_)
  | (with_reducible refine wLenL ?_)
  | (with_reducible refine wTupL ?_)
  | (with_reducible refine we_slT ?_)
  | (refine ⟨_, rfl, ?_⟩)
  | (refine ⟨_, _, rfl, rfl, ?_⟩)
  | (refine ⟨_, _, rfl, ?_⟩)
  | (refine ⟨_, _, _, rfl, ?_⟩)
  | (refine ⟨_, EqV.int _ _, ?_⟩)
  | (refine ⟨_, EqV.str _ _, ?_⟩)
  | (refine ⟨_, EqV.bl _ _, ?_⟩)
  | (refine ⟨Nat.le_of_ble_eq_true rfl, ?_⟩))
section
variable {P : Program} {w : World} {K : PySem.W.Frag} {mg : Str → Option Value} {base : Heap} {f : Addr} {fd : FuncData}
theorem pow_half (b : Int) (e : Int) (h : 0 ≤ e) : b ^ e.toNat = (if e % 2 = 1 then b else 1) * (b * b) ^ (e / 2).toNat := by
  have e1 : b * b = b ^ 2 := by rw [Int.pow_succ, Int.pow_succ, Int.pow_zero, Int.one_mul]
  rw [e1, ← Int.pow_mul]
  by_cases hh : e % 2 = 1
  · rw [if_pos hh]
    have : e.toNat = 1 + 2 * (e / 2).toNat := by omega
    rw [this, Int.pow_add, Int.pow_one]
  · rw [if_neg hh, Int.one_mul]
    congr 1
    omega
/-- the powers' loop: what is found, the factor, what is left -/
def WInv (b : Int) (e : Int) (m : Nat) (x f n : Int) : Prop := 1 ≤ x ∧ 1 ≤ f ∧ 0 ≤ n ∧ x * f ^ n.toNat = b ^ e.toNat ∧ m = n.toNat ∧ ∃ j : Nat, f = b ^ j ∧ (j : Int) * n ≤ e ∧ (j : Int) ≤ 2 * e + 1
theorem winv_end {b e : Int} {m : Nat} {x f n : Int} (h : WInv b e m x f n) (hn : ¬ 0 < n) : x = b ^ e.toNat := by
  obtain ⟨_, _, h0, h1, _⟩ := h
  have : n.toNat = 0 := by omega
  rw [this, Int.pow_zero, Int.mul_one] at h1
  exact h1
theorem winv_sz {b e : Int} {m : Nat} {x f n : Int} (hb : 1 ≤ b) (hb2 : b ≤ 36) (he : 0 ≤ e) (he2 : e ≤ 40000) (h : WInv b e m x f n) : x.natAbs < 2 ^ 240002 ∧ (0 < n → f.natAbs < 2 ^ 240002) ∧ f.natAbs < 2 ^ 480010 := by
  obtain ⟨h1, h2, h3, h4, _, j, h6, h7, h8⟩ := h
  have pe : (b ^ e.toNat).natAbs < 2 ^ 240001 := sz_powE (E := 40000) hb hb2 (by omega)
  refine ⟨?_, fun hn => ?_, ?_⟩
  · have hp := pow_pos' h2 n.toNat
    have : x * 1 ≤ x * f ^ n.toNat := Int.mul_le_mul_of_nonneg_left hp (by omega)
    exact sz_mono (sz_le (by omega) (by omega) pe)
  · have hj : (j : Int) ≤ e := by
      have : (j : Int) * 1 ≤ (j : Int) * n := Int.mul_le_mul_of_nonneg_left (by omega) (by omega)
      omega
    have : b ^ j ≤ b ^ e.toNat := pow_mono hb (by omega)
    rw [h6]
    exact sz_mono (sz_le (by have := pow_pos' hb j; omega) this pe)
  · rw [h6]
    exact Nat.lt_of_lt_of_le (sz_pow hb hb2 j) (Nat.pow_le_pow_right (by decide) (by omega))
theorem winv_turn {b e : Int} {m : Nat} {x f n : Int} (hb : 1 ≤ b) (h : WInv b e m x f n) (hn : 0 < n) : (n / 2).toNat < m ∧ WInv b e (n / 2).toNat (x * (if n % 2 = 1 then f else 1)) (f * f) (n / 2) := by
  obtain ⟨h1, h2, h3, h4, h5, j, h6, h7, h8⟩ := h
  refine ⟨by omega, ?_, ?_, by omega, ?_, rfl, 2 * j, ?_, ?_, ?_⟩
  · have : 1 * 1 ≤ x * (if n % 2 = 1 then f else 1) := Int.mul_le_mul h1 (by split <;> omega) (by omega) (by omega)
    omega
  · have : 1 * 1 ≤ f * f := Int.mul_le_mul h2 h2 (by omega) (by omega)
    omega
  · rw [Int.mul_assoc, ← pow_half f n h3]
    exact h4
  · rw [h6, ← Int.pow_add]
    congr 1
    omega
  · have e1 : ((2 * j : Nat) : Int) * (n / 2) = (j : Int) * (2 * (n / 2)) := by
      rw [Int.natCast_mul, Int.mul_comm ((2 : Nat) : Int) (j : Int), Int.mul_assoc]
      rfl
    rw [e1]
    have : (j : Int) * (2 * (n / 2)) ≤ (j : Int) * n := Int.mul_le_mul_of_nonneg_left (by omega) (by omega)
    omega
  · have : (j : Int) * 1 ≤ (j : Int) * n := Int.mul_le_mul_of_nonneg_left (by omega) (by omega)
    omega
theorem ok_whole_power (d : Df K mg "whole_power" (topS 2) P_whole_power f fd) : Ok P w K mg base 1 "whole_power" P_whole_power spW := by
  refine mk_ok d sc_whole_power (fun _ => rfl) fun cdv A outer s H E hr => ⟨_, dv_whole_power hr, ?_⟩
  rintro ⟨b, e⟩ ⟨hb, hb2, he, he2⟩
  dsimp only at hb hb2 he he2
  unfold t_whole_power
  repeat (walk_at "nh")
  refine ws_while (fun m ρ => ∃ x f n, ρ = [some (.int f), some (.int n), some (.int x)] ∧ WInv b e m x f n) e.toNat ⟨1, b, e, rfl, by omega, hb, he, Int.one_mul _, rfl, 1, (Int.pow_one b).symm, by omega, by omega⟩ ?_
  rintro m ρ ⟨x, f', n, rfl, hi⟩
  obtain ⟨z1, z2, z3⟩ := winv_sz hb hb2 he he2 hi
  repeat (walk_at "nh")
  refine br (fun hn => ?_) (fun hn => ?_)
  · have t := winv_turn hb hi hn
    have hf := z2 hn
    repeat (walk_at "nh")
    refine ⟨by decide, ?_⟩
    repeat (walk_at "nh")
    refine br (fun h1 => ?_) (fun h1 => ?_)
    · repeat (walk_at "nh")
      refine ⟨cm z1 hf, ?_⟩
      repeat (walk_at "nh")
      refine ⟨cm hf hf, ?_⟩
      repeat (walk_at "nh")
      refine ⟨cd2, ?_⟩
      repeat (walk_at "nh")
      rw [if_pos h1] at t
      exact ⟨_, t.1, _, _, _, rfl, t.2⟩
    · repeat (walk_at "nh")
      refine ⟨cm hf hf, ?_⟩
      repeat (walk_at "nh")
      refine ⟨cd2, ?_⟩
      repeat (walk_at "nh")
      rw [if_neg h1, Int.mul_one] at t
      exact ⟨_, t.1, _, _, _, rfl, t.2⟩
  · repeat (walk_at "nh")
    exact congrArg D.int (winv_end hi hn)
end
end Nh
set_option Elab.async false
set_option linter.all false
set_option maxRecDepth 100000
set_option maxHeartbeats 4000000
namespace Nh
open PySem PySem.Spec PyProof.Rows L2
local macro_rules | `(tactic| walk_at "nhe") => `(tactic| first
  | (with_reducible refine wg_name ?_)
  | (with_reducible refine wgs_cons ?_)
  | (with_reducible refine wgs_nil ?_)
  | (with_reducible refine wg_tup ?_; refine ⟨_, rfl, rfl, ?_⟩)
  | (with_reducible refine we_nm ?_; refine ⟨_, rfl, ?_⟩)
  | (with_reducible refine we_int ?_)
  | (with_reducible refine we_str ?_)
  | (with_reducible refine we_non ?_)
  | (with_reducible refine we_bl ?_)
  | (with_reducible refine wAddI ?_)
  | (with_reducible refine wSubI ?_)
  | (with_reducible refine wMulI ?_)
  | (with_reducible refine wDivI ?_)
  | (with_reducible refine wModI ?_)
  | (with_reducible refine wPowI ?_)
  | (with_reducible refine wLtI ?_)
  | (with_reducible refine wLeI ?_)
  | (with_reducible refine wGtI ?_)
  | (with_reducible refine wGeI ?_)
  | (with_reducible refine wNegI ?_)
  | (with_reducible refine we_eq ?_)
  | (with_reducible refine we_ne ?_)
  | (with_reducible refine we_eqD ?_)
  | (with_reducible refine we_neD ?_)
  | (with_reducible refine we_in ?_)
  | (with_reducible refine we_ixT ?_)
  | (with_reducible refine we_ixL ?_)
  | (with_reducible refine we_tup ?_)
  | (with_reducible refine we_lst ?_)
  | (with_reducible refine we_catT ?_)
  | (with_reducible refine we_catL ?_)
  | (with_reducible refine we_subB ?_)
  | (with_reducible refine we_rep01 ?_)
  | (with_reducible refine wIs0 ?_)
  | (with_reducible refine wNot0 ?_)
  | (with_reducible refine wa_cons ?_)
  | (with_reducible refine wa_nil ?_)
  | (with_reducible refine wt_test ?_)
  | (with_reducible refine wt_B ?_)
  | (with_reducible refine wt_and ?_)
  | (with_reducible refine wt_or ?_)
  | (with_reducible refine wt_not ?_)
  | (with_reducible refine we_ifE ?_)
  | (with_reducible refine we_and ?_)
  | (with_reducible refine we_or ?_)
  | (with_reducible refine wChain ?_)
  | (with_reducible refine wAbs ?_)
  | (with_reducible refine wMax2 ?_)
  | (with_reducible refine wMin2 ?_)
  | (with_reducible refine we_min3 ?_)
  | (with_reducible refine we_gcd ?_)
  | (with_reducible refine wInt1 ?_)
  | (with_reducible refine intOf_bl ?_)
  | (with_reducible refine intOf_int ?_)
  | (with_reducible refine wLenL ?_)
  | (with_reducible refine wTupL ?_)
  | (with_reducible refine we_slT ?_)
  | (refine ⟨_, rfl, ?_⟩)
  | (refine ⟨_, _, rfl, rfl, ?_⟩)
  | (refine ⟨_, _, rfl, ?_⟩)
  | (refine ⟨_, _, _, rfl, ?_⟩)
  | (refine ⟨_, _, _, _, rfl, ?_⟩)
  | (refine ⟨_, _, _, _, _, rfl, ?_⟩)
  | (refine ⟨_, _, _, _, _, _, rfl, ?_⟩)
  | (refine ⟨_, EqV.int _ _, ?_⟩)
  | (refine ⟨_, EqV.str _ _, ?_⟩)
  | (refine ⟨_, EqV.bl _ _, ?_⟩)
  | (refine ⟨Nat.le_of_ble_eq_true rfl, ?_⟩))
local macro_rules | `(tactic| walk_at "nh") => `(tactic| first
  | (with_reducible refine ws_seq ?_)
  | (with_reducible refine ws_ret ?_)
  | (with_reducible refine ws_asg ?_)
  | (with_reducible refine ws_if ?_)
  | (with_reducible refine ws_par ?_)
  | (with_reducible refine ws_par3 ?_)
  | (with_reducible refine ws_next ?_)
  | (with_reducible refine ws_drop ?_)
  | (walk_at "nhe"))
section
variable {P : Program} {w : World} {K : PySem.W.Frag} {mg : Str → Option Value} {base : Heap} {f : Addr} {fd : FuncData}
theorem ok_reduced (d : Df K mg "reduced" (topS 4) P_reduced f fd) (m : mg "gcd" = some (.builtin "math.gcd")) : Ok P w K mg base 1 "reduced" P_reduced sp_reduced := by
  refine mk_ok d sc_reduced (fun _ => rfl) fun cdv A outer s H E hr => ⟨_, dv_reduced hr m, ?_⟩
  rintro ⟨n, d⟩ ⟨hd, hz⟩
  unfold t_reduced
  have hg := gd_sz (n := n) hd hz
  repeat (walk_at "nh")
  refine brT hd ?_
  repeat (walk_at "nh")
  refine ⟨cd (gd_pos hd) hg, ?_⟩
  repeat (walk_at "nh")
  refine ⟨cd (gd_pos hd) hg, ?_⟩
  repeat (walk_at "nh")
  exact rfl
theorem ok_floor_of (d : Df K mg "floor_of" (topS 5) P_floor_of f fd) : Ok P w K mg base 1 "floor_of" P_floor_of sp_floor_of := by
  refine mk_ok d sc_floor_of (fun _ => rfl) fun cdv A outer s H E hr => ⟨_, dv_floor_of hr, ?_⟩
  rintro ⟨n, d⟩ ⟨hd, hz⟩
  unfold t_floor_of
  repeat (walk_at "nh")
  exact ⟨cd hd hz, rfl⟩
theorem ok_ceiling_of (d : Df K mg "ceiling_of" (topS 6) P_ceiling_of f fd) : Ok P w K mg base 1 "ceiling_of" P_ceiling_of sp_ceiling_of := by
  refine mk_ok d sc_ceiling_of (fun _ => rfl) fun cdv A outer s H E hr => ⟨_, dv_ceiling_of hr, ?_⟩
  rintro ⟨n, d⟩ ⟨hd, hz⟩
  unfold t_ceiling_of
  repeat (walk_at "nh")
  refine ⟨cd hd hz, ?_⟩
  repeat (walk_at "nh")
  exact rfl
theorem ok_nearer_integer (d : Df K mg "nearer_integer" (topS 7) P_nearer_integer f fd) (m : mg "int" = none) : Ok P w K mg base 1 "nearer_integer" P_nearer_integer sp_nearer_integer := by
  refine mk_ok d sc_nearer_integer (fun _ => rfl) fun cdv A outer s H E hr => ⟨_, dv_nearer_integer hr m, ?_⟩
  rintro ⟨x, n, d, low⟩ ⟨hn, hd, hl⟩
  unfold t_nearer_integer
  have z1 : (low * d).natAbs < 2 ^ 29000 := sz_mul hl hd
  have z2 : (n - low * d).natAbs < 2 ^ 29001 := sz_sub (sz_mono hn) z1
  repeat (walk_at "nh")
  refine ⟨cm hl hd, ?_⟩
  repeat (walk_at "nh")
  refine ⟨cm (a := 2) (by decide) z2, ?_⟩
  repeat (walk_at "nh")
  refine brN (fun h1 => ?_) (fun h1 => ?_)
  · repeat (walk_at "nh")
    show D.int _ = D.int (nearerI x n d low)
    unfold nearerI
    rw [if_pos h1]
    simp only [decide_eq_true_eq]
  · repeat (walk_at "nh")
    refine br (fun h2 => ?_) (fun h2 => ?_)
    · repeat (walk_at "nh")
      refine ⟨by decide, ?_⟩
      repeat (walk_at "nh")
      show D.int _ = D.int (nearerI x n d low)
      unfold nearerI
      rw [if_neg (fun z => z h1), if_pos h2]
    · repeat (walk_at "nh")
      show D.int _ = D.int (nearerI x n d low)
      unfold nearerI
      simp only [decide_eq_true_eq]
      rw [if_neg (show ¬ (2 * (n - low * d) ≠ d) from fun z => z h1), if_neg h2]
theorem ok_nearest_integer (d : Df K mg "nearest_integer" (topS 8) P_nearest_integer f fd) (c1 : Ok P w K mg base 1 "floor_of" P_floor_of sp_floor_of) (c2 : Ok P w K mg base 1 "ceiling_of" P_ceiling_of sp_ceiling_of) (c3 : Ok P w K mg base 1 "nearer_integer" P_nearer_integer sp_nearer_integer) :
    Ok P w K mg base 2 "nearest_integer" P_nearest_integer sp_nearest_integer := by
  refine mk_ok d sc_nearest_integer (fun _ => rfl) fun cdv A outer s H E hr => ⟨_, dv_nearest_integer hr (c_floor_of := c1) (c_ceiling_of := c2) (c_nearer_integer := c3), ?_⟩
  rintro ⟨x, n, d⟩ ⟨h0, hn, hd⟩
  unfold t_nearest_integer
  repeat (walk_at "nh")
  refine c_floor_of ?_
  repeat (walk_at "nh")
  refine ⟨⟨h0, hd⟩, ?_⟩
  repeat (walk_at "nh")
  refine c_ceiling_of ?_
  repeat (walk_at "nh")
  refine ⟨⟨h0, hd⟩, ?_⟩
  repeat (walk_at "nh")
  refine br (fun h1 => ?_) (fun h1 => ?_)
  · repeat (walk_at "nh")
    refine bT ?_
    repeat (walk_at "nh")
    show D.int _ = D.int (nearI x n d)
    unfold nearI
    rw [if_pos (.inl h1)]
  repeat (walk_at "nh")
  refine br (fun h2 => ?_) (fun h2 => ?_)
  · repeat (walk_at "nh")
    show D.int _ = D.int (nearI x n d)
    unfold nearI
    rw [if_pos (.inr h2)]
  have h12 : ¬ (x = "down" ∨ n / d = -(-n / d)) := fun z => z.elim h1 h2
  repeat (walk_at "nh")
  refine br (fun h3 => ?_) (fun h3 => ?_)
  · repeat (walk_at "nh")
    show D.int _ = D.int (nearI x n d)
    unfold nearI
    rw [if_neg h12, if_pos h3]
  repeat (walk_at "nh")
  refine br (fun h4 => ?_) (fun h4 => ?_)
  · repeat (walk_at "nh")
    refine br (fun h5 => ?_) (fun h5 => ?_)
    · repeat (walk_at "nh")
      show D.int _ = D.int (nearI x n d)
      unfold nearI
      rw [if_neg h12, if_neg h3, if_pos h4, if_pos h5]
    · repeat (walk_at "nh")
      show D.int _ = D.int (nearI x n d)
      unfold nearI
      rw [if_neg h12, if_neg h3, if_pos h4, if_neg h5]
  · repeat (walk_at "nh")
    refine c_nearer_integer ?_
    repeat (walk_at "nh")
    refine ⟨⟨sz_mono hn, sz_mono hd, sz_mono (sz_div h0 hn)⟩, ?_⟩
    show D.int _ = D.int (nearI x n d)
    unfold nearI
    rw [if_neg h12, if_neg h3, if_neg h4]
theorem ok_is_power_below (d : Df K mg "is_power_below" (topS 10) P_is_power_below f fd) (c1 : Ok P w K mg base 1 "whole_power" P_whole_power spW) : Ok P w K mg base 2 "is_power_below" P_is_power_below sp_is_power_below := by
  refine mk_ok d sc_is_power_below (fun _ => rfl) fun cdv A outer s H E hr => ⟨_, dv_is_power_below hr c1, ?_⟩
  rintro ⟨b, k, n, d⟩ ⟨hb, hb2, hk, hk2, hn, hd⟩
  unfold t_is_power_below
  repeat (walk_at "nh")
  refine br (fun h1 => ?_) (fun h1 => ?_)
  · repeat (walk_at "nh")
    refine c_W ?_
    repeat (walk_at "nh")
    refine ⟨⟨hb, hb2, by omega, by omega⟩, ?_⟩
    repeat (walk_at "nh")
    refine ⟨cm hn (sz_powE (E := 40000) hb hb2 (by omega)), ?_⟩
    repeat (walk_at "nh")
    show D.bl _ = D.bl (ipb b k n d)
    unfold ipb
    rw [if_pos h1]
  · repeat (walk_at "nh")
    refine c_W ?_
    repeat (walk_at "nh")
    refine ⟨⟨hb, hb2, by omega, by omega⟩, ?_⟩
    repeat (walk_at "nh")
    refine ⟨cm (sz_powE (E := 40000) hb hb2 (by omega)) hd, ?_⟩
    repeat (walk_at "nh")
    show D.bl _ = D.bl (ipb b k n d)
    unfold ipb
    rw [if_neg h1]
theorem ok_scaled (d : Df K mg "scaled" (topS 12) P_scaled f fd) (c1 : Ok P w K mg base 1 "whole_power" P_whole_power spW) : Ok P w K mg base 2 "scaled" P_scaled sp_scaled := by
  refine mk_ok d sc_scaled (fun _ => rfl) fun cdv A outer s H E hr => ⟨_, dv_scaled hr c1, ?_⟩
  rintro ⟨b, e, n, d⟩ ⟨hb, hb2, hk, hk2, hn, hd⟩
  unfold t_scaled
  repeat (walk_at "nh")
  refine br (fun h1 => ?_) (fun h1 => ?_)
  · repeat (walk_at "nh")
    refine c_W ?_
    repeat (walk_at "nh")
    refine ⟨⟨hb, hb2, by omega, by omega⟩, ?_⟩
    repeat (walk_at "nh")
    refine ⟨cm hd (sz_powE (E := 40000) hb hb2 (by omega)), ?_⟩
    repeat (walk_at "nh")
    show D.tup _ = D.tup [.int (up b e n), .int (dn b e d)]
    unfold up dn
    have : (-e).toNat = 0 := by omega
    rw [this, Int.pow_zero, Int.mul_one]
  · repeat (walk_at "nh")
    refine c_W ?_
    repeat (walk_at "nh")
    refine ⟨⟨hb, hb2, by omega, by omega⟩, ?_⟩
    repeat (walk_at "nh")
    refine ⟨cm hn (sz_powE (E := 40000) hb hb2 (by omega)), ?_⟩
    repeat (walk_at "nh")
    show D.tup _ = D.tup [.int (up b e n), .int (dn b e d)]
    unfold up dn
    have h2 : e.toNat = 0 := by omega
    rw [h2, Int.pow_zero, Int.mul_one, Int.zero_sub]
end
end Nh
set_option Elab.async false
set_option linter.all false
set_option maxRecDepth 100000
set_option maxHeartbeats 4000000
namespace Nh
open PySem PySem.Spec PyProof.Rows L2
local macro_rules | `(tactic| walk_at "nhe") => `(tactic| first
  | (with_reducible refine wg_name ?_)
  | (with_reducible refine wgs_cons ?_)
  | (with_reducible refine wgs_nil ?_)
  | (with_reducible refine wg_tup ?_; refine ⟨_, rfl, rfl, ?_⟩)
  | (with_reducible refine we_nm ?_; refine ⟨_, rfl, ?_⟩)
  | (with_reducible refine we_int ?_)
  | (with_reducible refine we_str ?_)
  | (with_reducible refine we_non ?_)
  | (with_reducible refine we_bl ?_)
  | (with_reducible refine wAddI ?_)
  | (with_reducible refine wSubI ?_)
  | (with_reducible refine wMulI ?_)
  | (with_reducible refine wDivI ?_)
  | (with_reducible refine wModI ?_)
  | (with_reducible refine wPowI ?_)
  | (with_reducible refine wLtI ?_)
  | (with_reducible refine wLeI ?_)
  | (with_reducible refine wGtI ?_)
  | (with_reducible refine wGeI ?_)
  | (with_reducible refine wNegI ?_)
  | (with_reducible refine we_eq ?_)
  | (with_reducible refine we_ne ?_)
  | (with_reducible refine we_eqD ?_)
  | (with_reducible refine we_neD ?_)
  | (with_reducible refine we_in ?_)
  | (with_reducible refine we_ixT ?_)
  | (with_reducible refine we_ixL ?_)
  | (with_reducible refine we_tup ?_)
  | (with_reducible refine we_lst ?_)
  | (with_reducible refine we_catT ?_)
  | (with_reducible refine we_catL ?_)
  | (with_reducible refine we_subB ?_)
  | (with_reducible refine we_rep01 ?_)
  | (with_reducible refine wIs0 ?_)
  | (with_reducible refine wNot0 ?_)
  | (with_reducible refine wa_cons ?_)
  | (with_reducible refine wa_nil ?_)
  | (with_reducible refine wt_test ?_)
  | (with_reducible refine wt_B ?_)
  | (with_reducible refine wt_and ?_)
  | (with_reducible refine wt_or ?_)
  | (with_reducible refine wt_not ?_)
  | (with_reducible refine we_ifE ?_)
  | (with_reducible refine we_and ?_)
  | (with_reducible refine we_or ?_)
  | (with_reducible refine wChain ?_)
  | (with_reducible refine wAbs ?_)
  | (with_reducible refine wMax2 ?_)
  | (with_reducible refine wMin2 ?_)
  | (with_reducible refine we_min3 ?_)
  | (with_reducible refine we_gcd ?_)
  | (with_reducible refine wInt1 ?_)
  | (with_reducible refine intOf_bl ?_)
  | (with_reducible refine intOf_int ?_)
  | (with_reducible refine wLenL ?_)
  | (with_reducible refine wTupL ?_)
  | (with_reducible refine we_slT ?_)
  | (refine ⟨_, rfl, ?_⟩)
  | (refine ⟨_, _, rfl, rfl, ?_⟩)
  | (refine ⟨_, _, rfl, ?_⟩)
  | (refine ⟨_, _, _, rfl, ?_⟩)
  | (refine ⟨_, _, _, _, rfl, ?_⟩)
  | (refine ⟨_, _, _, _, _, rfl, ?_⟩)
  | (refine ⟨_, _, _, _, _, _, rfl, ?_⟩)
  | (refine ⟨_, EqV.int _ _, ?_⟩)
  | (refine ⟨_, EqV.str _ _, ?_⟩)
  | (refine ⟨_, EqV.bl _ _, ?_⟩)
  | (refine ⟨Nat.le_of_ble_eq_true rfl, ?_⟩))
local macro_rules | `(tactic| walk_at "nh") => `(tactic| first
  | (with_reducible refine ws_seq ?_)
  | (with_reducible refine ws_ret ?_)
  | (with_reducible refine ws_asg ?_)
  | (with_reducible refine ws_if ?_)
  | (with_reducible refine ws_par ?_)
  | (with_reducible refine ws_par3 ?_)
  | (with_reducible refine ws_next ?_)
  | (with_reducible refine ws_drop ?_)
  | (walk_at "nhe"))
section
variable {P : Program} {w : World} {K : PySem.W.Frag} {mg : Str → Option Value} {base : Heap} {f : Addr} {fd : FuncData}
theorem nat_sz {x : Int} {a : Nat} (h : x.natAbs < 2 ^ a) : x < 2 ^ a := by
  have : ((x.natAbs : Nat) : Int) < ((2 ^ a : Nat) : Int) := Int.ofNat_lt.mpr h
  rw [Int.natCast_pow] at this
  have h2 : x ≤ (x.natAbs : Int) := Int.le_natAbs
  have e : ((2 : Nat) : Int) = 2 := rfl
  rw [e] at this
  omega
theorem two_le_pow {b : Int} (hb : 2 ≤ b) : ∀ m : Nat, (2 : Int) ^ m ≤ b ^ m
  | 0 => by rw [Int.pow_zero, Int.pow_zero]; exact Int.le_refl _
  | m + 1 => by
    rw [Int.pow_succ, Int.pow_succ]
    exact Int.mul_le_mul (two_le_pow hb m) hb (by decide) (by have := pow_pos' (b := b) (by omega) m; omega)
theorem ipb_hi {b k n d : Int} (hb : 2 ≤ b) (hd : 0 < d) (hn : n.natAbs < 2 ^ 8900) (hk : 9000 ≤ k) : ipb b k n d = false := by
  unfold ipb
  rw [if_neg (by omega)]
  refine decide_eq_false fun z => ?_
  have h1 := two_le_pow hb k.toNat
  have h2 : (2 : Int) ^ 8900 ≤ 2 ^ k.toNat := pow_mono (by decide) (by omega)
  have h3 := nat_sz hn
  have h4 : b ^ k.toNat * 1 ≤ b ^ k.toNat * d := Int.mul_le_mul_of_nonneg_left (by omega) (by have := pow_pos' (b := b) (by omega) k.toNat; omega)
  generalize (2 : Int) ^ 8900 = A at h2 h3
  omega
theorem ipb_lo {b k n d : Int} (hb : 2 ≤ b) (hn : 0 < n) (hd : d.natAbs < 2 ^ 8900) (hk : k ≤ -9000) : ipb b k n d = true := by
  unfold ipb
  rw [if_pos (by omega)]
  refine decide_eq_true ?_
  have h1 := two_le_pow hb (0 - k).toNat
  have h2 : (2 : Int) ^ 8900 ≤ 2 ^ (0 - k).toNat := pow_mono (by decide) (by omega)
  have h3 := nat_sz hd
  have h4 : 1 * b ^ (0 - k).toNat ≤ n * b ^ (0 - k).toNat := Int.mul_le_mul_of_nonneg_right (by omega) (by have := pow_pos' (b := b) (by omega) (0 - k).toNat; omega)
  generalize (2 : Int) ^ 8900 = A at h2 h3
  omega
theorem ipb_iff {b k n d : Int} : ipb b k n d = true ↔ dn b k d ≤ up b k n := by
  unfold ipb dn up
  by_cases h : k < 0
  · rw [if_pos h, decide_eq_true_eq]
    have e1 : k.toNat = 0 := by omega
    rw [e1, Int.pow_zero, Int.mul_one, Int.zero_sub]
  · rw [if_neg h, decide_eq_true_eq]
    have e1 : (-k).toNat = 0 := by omega
    rw [e1, Int.pow_zero, Int.mul_one, Int.mul_comm]
theorem ok_power_below (d : Df K mg "power_below" (topS 11) P_power_below f fd) (c1 : Ok P w K mg base 2 "is_power_below" P_is_power_below sp_is_power_below) : Ok P w K mg base 3 "power_below" P_power_below sp_power_below := by
  refine mk_ok d sc_power_below (fun _ => rfl) fun cdv A outer s H E hr => ⟨_, dv_power_below hr c1, ?_⟩
  rintro ⟨b, n, d⟩ ⟨hb, hb2, hn, hd, zn, zd⟩
  have zn' : n.natAbs < 2 ^ 9000 := sz_mono zn
  have zd' : d.natAbs < 2 ^ 9000 := sz_mono zd
  unfold t_power_below
  repeat (walk_at "nh")
  refine ws_while (fun m ρ => ∃ st : Int, ρ = [some (.int b), some (fr n d), some (.int st), none, none, none] ∧ 1 ≤ st ∧ st ≤ 18000 ∧ m = (18000 - st).toNat) 17999 ⟨1, rfl, by omega, by omega, rfl⟩ ?_
  rintro m ρ ⟨st, rfl, h1, h2, hm⟩
  have s1 : 9000 ≤ st → ipb b st n d = false := fun h => ipb_hi hb hd zn h
  have s2 : 9000 ≤ st → ipb b (0 - st) n d = true := fun h => ipb_lo hb hn zd (by omega)
  have body : st < 9000 → ∀ Ω : EndsD, (∀ ρ2, (∃ m', m' < m ∧ ∃ st : Int, ρ2 = [some (.int b), some (fr n d), some (.int st), none, none, none] ∧ 1 ≤ st ∧ st ≤ 18000 ∧ m' = (18000 - st).toNat) → Ω.nx ρ2) →
      WS (tAsg (tOp rMulI (tC (.int 2)) (tVar 2)) (gName 2)) [some (.int b), some (fr n d), some (.int st), none, none, none] Ω := fun h Ω ho => by
    repeat (walk_at "nh")
    refine ⟨cm (a := 2) (b := 20) (by decide) (by omega), ?_⟩
    repeat (walk_at "nh")
    exact ho _ ⟨(18000 - 2 * st).toNat, by omega, 2 * st, rfl, by omega, by omega, rfl⟩
  repeat (walk_at "nh")
  refine c_is_power_below ?_
  repeat (walk_at "nh")
  refine ⟨⟨by omega, hb2, by omega, by omega, zn', zd'⟩, ?_⟩
  repeat (walk_at "nh")
  refine bb (fun hA => bT ?_) (fun hA => ?_)
  · refine body ?_ _ fun _ z => z
    by_cases h : st < 9000
    · exact h
    · rw [s1 (by omega)] at hA
      cases hA
  repeat (walk_at "nh")
  refine c_is_power_below ?_
  repeat (walk_at "nh")
  refine ⟨⟨by omega, hb2, by omega, by omega, zn', zd'⟩, ?_⟩
  repeat (walk_at "nh")
  refine bb (fun hB => ?_) (fun hB => ?_)
  · refine body ?_ _ fun _ z => z
    by_cases h : st < 9000
    · exact h
    · rw [s2 (by omega)] at hB
      cases hB
  have hB : ipb b (0 - st) n d = true := by
    cases z : ipb b (0 - st) n d with
    | true => rfl
    | false =>
      rw [z] at hB
      cases hB
  repeat (walk_at "nh")
  refine ws_while (fun m ρ => ∃ lo hi : Int, ∃ x, ρ = [some (.int b), some (fr n d), some (.int st), some (.int lo), some (.int hi), x] ∧ lo < hi ∧ -18000 ≤ lo ∧ hi ≤ 18000 ∧ ipb b lo n d = true ∧ ipb b hi n d = false ∧ m = (hi - lo).toNat) (st - (0 - st)).toNat
    ⟨0 - st, st, none, rfl, by omega, by omega, by omega, hB, hA, rfl⟩ ?_
  rintro m2 ρ2 ⟨lo, hi, x, rfl, h3, h4, h5, h6, h7, hm2⟩
  repeat (walk_at "nh")
  refine br (fun h8 => ?_) (fun h8 => ?_)
  · repeat (walk_at "nh")
    refine ⟨cd2, ?_⟩
    repeat (walk_at "nh")
    refine c_is_power_below ?_
    repeat (walk_at "nh")
    refine ⟨⟨by omega, hb2, by omega, by omega, zn', zd'⟩, ?_⟩
    repeat (walk_at "nh")
    refine bb (fun hC => ?_) (fun hC => ?_)
    · repeat (walk_at "nh")
      exact ⟨(hi - (lo + hi) / 2).toNat, by omega, _, _, _, rfl, by omega, by omega, by omega, hC, h7, rfl⟩
    · repeat (walk_at "nh")
      exact ⟨((lo + hi) / 2 - lo).toNat, by omega, _, _, _, rfl, by omega, by omega, by omega, h6, hC, rfl⟩
  · repeat (walk_at "nh")
    have e1 : hi = lo + 1 := by omega
    subst e1
    refine ⟨?_, ?_, h6, h7⟩
    · by_cases h : -9000 ≤ lo
      · exact h
      · rw [ipb_lo hb hn zd (by omega)] at h7
        cases h7
    · by_cases h : lo ≤ 9000
      · exact h
      · rw [ipb_hi hb hd zn (by omega)] at h6
        cases h6
theorem ok_raised (d : Df K mg "raised" (topS 14) P_raised f fd) (c1 : Ok P w K mg base 1 "whole_power" P_whole_power spW) : Ok P w K mg base 2 "raised" P_raised sp_raised := by
  refine mk_ok d sc_raised (fun _ => rfl) fun cdv A outer s H E hr => ⟨_, dv_raised hr c1, ?_⟩
  rintro ⟨F, c, e⟩ ok
  have hb := ok.b2
  have hb2 := ok.b36
  have hg := ok.g2
  have hg2 := ok.g120
  unfold t_raised
  repeat (walk_at "nh")
  refine c_W ?_
  repeat (walk_at "nh")
  refine ⟨⟨by omega, hb2, by omega, by omega⟩, ?_⟩
  repeat (walk_at "nh")
  refine br (fun h => ?_) (fun h => ?_)
  · repeat (walk_at "nh")
    refine c_W ?_
    repeat (walk_at "nh")
    refine ⟨⟨by omega, hb2, by omega, by omega⟩, ?_⟩
    repeat (walk_at "nh")
    show D.tup _ = D.tup [.int (rs F c e).1, .int (rs F c e).2]
    unfold rs
    rw [if_pos h]
    have : (F.g - 1).toNat = F.g.toNat - 1 := by omega
    rw [this]
  · repeat (walk_at "nh")
    show D.tup _ = D.tup [.int (rs F c e).1, .int (rs F c e).2]
    unfold rs
    rw [if_neg h]
theorem ok_without_sign (d : Df K mg "without_sign" (topS 17) P_without_sign f fd) (m : mg "abs" = none) : Ok P w K mg base 1 "without_sign" P_without_sign sp_without_sign := by
  refine mk_ok d sc_without_sign (fun _ => rfl) fun cdv A outer s H E hr => ⟨_, dv_without_sign hr m, ?_⟩
  rintro ⟨n, d⟩ _
  unfold t_without_sign
  repeat (walk_at "nh")
  exact rfl
theorem ok_is_finite (d : Df K mg "is_finite" (topS 21) P_is_finite f fd) : Ok P w K mg base 1 "is_finite" P_is_finite sp_is_finite := by
  refine mk_ok d sc_is_finite (fun _ => rfl) fun cdv A outer s H E hr => ⟨_, dv_is_finite hr, ?_⟩
  rintro v _
  unfold t_is_finite
  cases v with
  | num s c e =>
    repeat (walk_at "nh")
    exact .inl ⟨_, _, _, rfl, rfl⟩
  | inf s =>
    repeat (walk_at "nh")
    exact .inr ⟨fun _ _ _ z => (nomatch z), rfl⟩
  | nan =>
    repeat (walk_at "nh")
    exact .inr ⟨fun _ _ _ z => (nomatch z), rfl⟩
end
end Nh
set_option Elab.async false
set_option linter.all false
set_option maxRecDepth 100000
set_option maxHeartbeats 4000000
namespace Nh
open PySem PySem.Spec PyProof.Rows L2
local macro_rules | `(tactic| walk_at "nhe") => `(tactic| first
  | (with_reducible refine wg_name ?_)
  | (with_reducible refine wgs_cons ?_)
  | (with_reducible refine wgs_nil ?_)
  | (with_reducible refine wg_tup ?_; refine ⟨_, rfl, rfl, ?_⟩)
  | (with_reducible refine we_nm ?_; refine ⟨_, rfl, ?_⟩)
  | (with_reducible refine we_int ?_)
  | (with_reducible refine we_str ?_)
  | (with_reducible refine we_non ?_)
  | (with_reducible refine we_bl ?_)
  | (with_reducible refine wAddI ?_)
  | (with_reducible refine wSubI ?_)
  | (with_reducible refine wMulI ?_)
  | (with_reducible refine wDivI ?_)
  | (with_reducible refine wModI ?_)
  | (with_reducible refine wPowI ?_)
  | (with_reducible refine wLtI ?_)
  | (with_reducible refine wLeI ?_)
  | (with_reducible refine wGtI ?_)
  | (with_reducible refine wGeI ?_)
  | (with_reducible refine wNegI ?_)
  | (with_reducible refine we_eq ?_)
  | (with_reducible refine we_ne ?_)
  | (with_reducible refine we_eqD ?_)
  | (with_reducible refine we_neD ?_)
  | (with_reducible refine we_in ?_)
  | (with_reducible refine we_ixT ?_)
  | (with_reducible refine we_ixL ?_)
  | (with_reducible refine we_tup ?_)
  | (with_reducible refine we_lst ?_)
  | (with_reducible refine we_catT ?_)
  | (with_reducible refine we_catL ?_)
  | (with_reducible refine we_subB ?_)
  | (with_reducible refine we_rep01 ?_)
  | (with_reducible refine wIs0 ?_)
  | (with_reducible refine wNot0 ?_)
  | (with_reducible refine wa_cons ?_)
  | (with_reducible refine wa_nil ?_)
  | (with_reducible refine wt_test ?_)
  | (with_reducible refine wt_B ?_)
  | (with_reducible refine wt_and ?_)
  | (with_reducible refine wt_or ?_)
  | (with_reducible refine wt_not ?_)
  | (with_reducible refine we_ifE ?_)
  | (with_reducible refine we_and ?_)
  | (with_reducible refine we_or ?_)
  | (with_reducible refine wChain ?_)
  | (with_reducible refine wAbs ?_)
  | (with_reducible refine wMax2 ?_)
  | (with_reducible refine wMin2 ?_)
  | (with_reducible refine we_min3 ?_)
  | (with_reducible refine we_gcd ?_)
  | (with_reducible refine wInt1 ?_)
  | (with_reducible refine intOf_bl ?_)
  | (with_reducible refine intOf_int ?_)
  | (with_reducible refine wLenL ?_)
  | (with_reducible refine wTupL ?_)
  | (with_reducible refine we_slT ?_)
  | (refine ⟨_, rfl, ?_⟩)
  | (refine ⟨_, _, rfl, rfl, ?_⟩)
  | (refine ⟨_, _, rfl, ?_⟩)
  | (refine ⟨_, _, _, rfl, ?_⟩)
  | (refine ⟨_, _, _, _, rfl, ?_⟩)
  | (refine ⟨_, _, _, _, _, rfl, ?_⟩)
  | (refine ⟨_, _, _, _, _, _, rfl, ?_⟩)
  | (refine ⟨_, EqV.int _ _, ?_⟩)
  | (refine ⟨_, EqV.str _ _, ?_⟩)
  | (refine ⟨_, EqV.bl _ _, ?_⟩)
  | (refine ⟨Nat.le_of_ble_eq_true rfl, ?_⟩))
local macro_rules | `(tactic| walk_at "nh") => `(tactic| first
  | (with_reducible refine ws_seq ?_)
  | (with_reducible refine ws_ret ?_)
  | (with_reducible refine ws_asg ?_)
  | (with_reducible refine ws_if ?_)
  | (with_reducible refine ws_par ?_)
  | (with_reducible refine ws_par3 ?_)
  | (with_reducible refine ws_next ?_)
  | (with_reducible refine ws_drop ?_)
  | (walk_at "nhe"))
section
variable {P : Program} {w : World} {K : PySem.W.Frag} {mg : Str → Option Value} {base : Heap} {f : Addr} {fd : FuncData}
theorem any2 {x a b : Str} : ([a, b] : List Str).any (fun z => decide (z = x)) = decide (x = a ∨ x = b) := by
  rw [List.any_cons, List.any_cons, List.any_nil, Bool.or_false]
  by_cases h1 : x = a
  · rw [decide_eq_true h1.symm, decide_eq_true (.inl h1 : x = a ∨ x = b)]
    rfl
  · by_cases h2 : x = b
    · rw [decide_eq_true h2.symm, decide_eq_true (.inr h2 : x = a ∨ x = b), Bool.or_true]
    · rw [decide_eq_false (fun z => h1 z.symm), decide_eq_false (fun z => h2 z.symm), decide_eq_false (fun z => z.elim h1 h2)]
      rfl
theorem isR_some (x : Str) (s c t : Int) : isR x s c (some t) = if x = "zero" then false else if x = "up" ∨ x = "down" then decide (decide (x = "up") = decide (s = 0)) else if t = 0 then decide (x = "away") || decide (c % 2 = 1) else decide (0 < t) := rfl
theorem ok_is_raised (d : Df K mg "is_raised" (topS 15) P_is_raised f fd) : Ok P w K mg base 1 "is_raised" P_is_raised sp_is_raised := by
  refine mk_ok d sc_is_raised (fun _ => rfl) fun cdv A outer s H E hr => ⟨_, dv_is_raised hr, ?_⟩
  rintro ⟨x, s, c, sd⟩ _
  unfold t_is_raised
  cases sd with
  | none =>
    repeat (walk_at "nh")
    refine ⟨true, .inl ⟨rfl, rfl⟩, ?_⟩
    repeat (walk_at "nh")
    refine bT (bT ?_)
    repeat (walk_at "nh")
    exact rfl
  | some t =>
    repeat (walk_at "nh")
    refine ⟨false, .inr ⟨rfl, fun z => (nomatch z)⟩, ?_⟩
    repeat (walk_at "nh")
    refine bF ?_
    repeat (walk_at "nh")
    refine br (fun h1 => ?_) (fun h1 => ?_)
    · repeat (walk_at "nh")
      show D.bl _ = D.bl (isR x s c (some t))
      rw [isR_some, if_pos h1]
    repeat (walk_at "nh")
    refine ⟨["up", "down"], rfl, ?_⟩
    rw [any2]
    repeat (walk_at "nh")
    refine br (fun h2 => ?_) (fun h2 => ?_)
    · repeat (walk_at "nh")
      show D.bl _ = D.bl (isR x s c (some t))
      rw [isR_some, if_neg h1, if_pos h2]
    repeat (walk_at "nh")
    refine br (fun h3 => ?_) (fun h3 => ?_)
    · repeat (walk_at "nh")
      refine br (fun h4 => ?_) (fun h4 => ?_)
      · show D.bl _ = D.bl (isR x s c (some t))
        rw [isR_some, if_neg h1, if_neg h2, if_pos h3, decide_eq_true h4]
        rfl
      · repeat (walk_at "nh")
        refine ⟨by decide, ?_⟩
        repeat (walk_at "nh")
        show D.bl _ = D.bl (isR x s c (some t))
        rw [isR_some, if_neg h1, if_neg h2, if_pos h3, decide_eq_false h4]
        rfl
    · repeat (walk_at "nh")
      show D.bl _ = D.bl (isR x s c (some t))
      rw [isR_some, if_neg h1, if_neg h2, if_neg h3]
def t_fin_tail (K : PySem.W.Frag) : TS := (tSeq (tIfS (tTest (tOp rGtI (tVar 9) (tVar 7))) (tSeq (tAsg (tOrV (tOp (rIn K false) (tVar 1) (tTup (tCons (tC (.str "even")) (tCons (tC (.str "away")) tNil)))) (tOp rEq (tVar 1) (tIf (tTest (tOp rEq (tVar 2) (tC (.int 0)))) (tC (.str "up")) (tC (.str "down"))))) (gName 11))
 (tRet (tTup (tCons (tIf (tB (tVar 11)) (tTup (tCons (tC (.str "inf")) (tCons (tVar 2) tNil))) (tTup (tCons (tC (.str "num")) (tCons (tVar 2) (tCons (tOp rSubI (tCall spW [] E0 (tCons (tVar 4) (tCons (tVar 5) tNil))) (tC (.int 1))) (tCons (tVar 7) tNil)))))) (tCons (tTup (tCons (tC (.str "inexact")) (tCons (tC (.str "over")) tNil))) tNil))))) tNext)
 (tSeq (tAsg (tAndV (tOp rNot0 (tVar 10) (tC .non)) (tOp rLtI (tOp (rIxT K) (tVar 3) (tC (.int 0))) (tCall spW [] E0 (tCons (tVar 4) (tCons (tOp rSubI (tVar 5) (tC (.int 1))) tNil))))) (gName 12))
 (tRet (tTup (tCons (tTup (tCons (tC (.str "num")) (tCons (tVar 2) (tCons (tVar 8) (tCons (tVar 9) tNil))))) (tCons (tIf (tB (tVar 12)) (tTup (tCons (tC (.str "inexact")) (tCons (tC (.str "tiny")) tNil))) (tIf (tTest (tOp rIs0 (tVar 10) (tC .non))) (tTup tNil) (tTup (tCons (tC (.str "inexact")) tNil)))) tNil))))))
def finB (F : Fm) (x : Str) (s c2 e2 c : Int) (sd : Option Int) : D := if F.hi < e2 then .tup [if infB x s = true then infD s else numD s (F.b ^ F.g.toNat - 1) F.hi, flO]
  else .tup [numD s c2 e2, if sd ≠ none ∧ c < F.b ^ (F.g.toNat - 1) then flT else if sd = none then fl0 else fl1]
theorem fin_tail {F : Fm} (ok : FmOk F) {x : Str} {s c e c2 e2 : Int} {sd : Option Int} {Ω : EndsD} (hΩ : Ω.rt (finB F x s c2 e2 c sd)) :
    WS (t_fin_tail K) [some F.D, some (.str x), some (.int s), some (.tup [.int c, .int e, sideD sd]), some (.int F.b), some (.int F.g), some (.int F.lo), some (.int F.hi), some (.int c2), some (.int e2), some (sideD sd), none, none] Ω := by
  have hb := ok.b2
  have hb2 := ok.b36
  have hg := ok.g2
  have hg2 := ok.g120
  have pg : (F.g - 1).toNat = F.g.toNat - 1 := by omega
  unfold t_fin_tail
  repeat (walk_at "nh")
  refine br (fun hB => ?_) (fun hB => ?_)
  · repeat (walk_at "nh")
    refine ⟨["even", "away"], rfl, ?_⟩
    rw [any2]
    unfold finB at hΩ
    rw [if_pos hB] at hΩ
    have goI : infB x s = true → Ω.rt (.tup [infD s, flO]) := fun h => by
      rw [if_pos h] at hΩ
      exact hΩ
    have goN : infB x s = false → Ω.rt (.tup [numD s (F.b ^ F.g.toNat - 1) F.hi, flO]) := fun h => by
      rw [if_neg (by rw [h]; decide)] at hΩ
      exact hΩ
    repeat (walk_at "nh")
    refine br (fun h1 => ?_) (fun h1 => ?_)
    · repeat (walk_at "nh")
      refine bT ?_
      repeat (walk_at "nh")
      exact goI (by unfold infB; rw [decide_eq_true h1]; rfl)
    · repeat (walk_at "nh")
      refine br (fun h2 => ?_) (fun h2 => ?_)
      · repeat (walk_at "nh")
        refine br (fun h3 => ?_) (fun h3 => ?_)
        · repeat (walk_at "nh")
          exact goI (by unfold infB; rw [if_pos h2, decide_eq_true h3, Bool.or_true])
        · repeat (walk_at "nh")
          refine c_W ?_
          repeat (walk_at "nh")
          refine ⟨⟨by omega, hb2, by omega, by omega⟩, ?_⟩
          repeat (walk_at "nh")
          exact goN (by unfold infB; rw [if_pos h2, decide_eq_false h3, decide_eq_false h1]; rfl)
      · repeat (walk_at "nh")
        refine br (fun h3 => ?_) (fun h3 => ?_)
        · repeat (walk_at "nh")
          exact goI (by unfold infB; rw [if_neg h2, decide_eq_true h3, Bool.or_true])
        · repeat (walk_at "nh")
          refine c_W ?_
          repeat (walk_at "nh")
          refine ⟨⟨by omega, hb2, by omega, by omega⟩, ?_⟩
          repeat (walk_at "nh")
          exact goN (by unfold infB; rw [if_neg h2, decide_eq_false h3, decide_eq_false h1]; rfl)
  · repeat (walk_at "nh")
    unfold finB at hΩ
    rw [if_neg hB] at hΩ
    cases sd with
    | none =>
      refine ⟨true, .inl ⟨rfl, rfl⟩, ?_⟩
      repeat (walk_at "nh")
      refine bF ?_
      repeat (walk_at "nh")
      refine bF ?_
      repeat (walk_at "nh")
      refine ⟨true, .inl ⟨rfl, rfl⟩, ?_⟩
      repeat (walk_at "nh")
      refine bT ?_
      repeat (walk_at "nh")
      rw [if_neg (fun z => z.1 rfl), if_pos rfl] at hΩ
      exact hΩ
    | some t =>
      refine ⟨false, .inr ⟨rfl, fun z => (nomatch z)⟩, ?_⟩
      repeat (walk_at "nh")
      refine bT ?_
      repeat (walk_at "nh")
      refine c_W ?_
      repeat (walk_at "nh")
      refine ⟨⟨by omega, hb2, by omega, by omega⟩, ?_⟩
      repeat (walk_at "nh")
      rw [pg]
      refine br (fun h1 => ?_) (fun h1 => ?_)
      · repeat (walk_at "nh")
        rw [if_pos ⟨fun z => (nomatch z), h1⟩] at hΩ
        exact hΩ
      · repeat (walk_at "nh")
        refine ⟨false, .inr ⟨rfl, fun z => (nomatch z)⟩, ?_⟩
        repeat (walk_at "nh")
        refine bF ?_
        repeat (walk_at "nh")
        rw [if_neg (fun z => h1 z.2), if_neg (fun z => (nomatch z))] at hΩ
        exact hΩ
theorem ok_finished (d : Df K mg "finished" (topS 16) P_finished f fd) (c1 : Ok P w K mg base 1 "whole_power" P_whole_power spW) (c2 : Ok P w K mg base 1 "is_raised" P_is_raised sp_is_raised) (c3 : Ok P w K mg base 2 "raised" P_raised sp_raised) :
    Ok P w K mg base 3 "finished" P_finished sp_finished := by
  refine mk_ok d sc_finished (fun _ => rfl) fun cdv A outer s H E hr => ⟨_, dv_finished hr (c_whole_power := c1) (c_is_raised := c2) (c_raised := c3), ?_⟩
  rintro ⟨F, x, s, c, e, sd⟩ ok
  unfold t_finished
  repeat (walk_at "nh")
  refine c_is_raised ?_
  repeat (walk_at "nh")
  refine ⟨trivial, ?_⟩
  refine ⟨_, rfl, ?_⟩
  refine bb (fun hA => ?_) (fun hA => ?_)
  · refine ws_asg (c_raised ?_)
    repeat (first | (with_reducible refine wa_cons ?_) | (with_reducible refine wa_nil ?_) | (with_reducible refine we_nm ?_; refine ⟨_, rfl, ?_⟩))
    refine ⟨F, c, e, rfl, ok, ?_⟩
    refine wg_tup ⟨_, rfl, rfl, ?_⟩
    refine wgs_cons (wg_name (wgs_cons (wg_name (wgs_nil ?_))))
    refine fin_tail ok (x := x) (c := c) (sd := sd) ?_
    show finB F x s _ _ c sd = finD F x s c e sd
    unfold finD finB
    rw [if_pos hA]
  · refine ws_next ?_
    refine fin_tail ok (x := x) (c := c) (sd := sd) ?_
    show finB F x s _ _ c sd = finD F x s c e sd
    unfold finD finB
    rw [if_neg (show ¬ isR x s c sd = true by rw [hA]; decide)]
end
end Nh
set_option Elab.async false
set_option linter.all false
set_option maxRecDepth 100000
set_option maxHeartbeats 4000000
namespace Nh
open PySem PySem.Spec PyProof.Rows L2
local macro_rules | `(tactic| walk_at "nhe") => `(tactic| first
  | (with_reducible refine wg_name ?_)
  | (with_reducible refine wgs_cons ?_)
  | (with_reducible refine wgs_nil ?_)
  | (with_reducible refine wg_tup ?_; refine ⟨_, rfl, rfl, ?_⟩)
  | (with_reducible refine we_nm ?_; refine ⟨_, rfl, ?_⟩)
  | (with_reducible refine we_int ?_)
  | (with_reducible refine we_str ?_)
  | (with_reducible refine we_non ?_)
  | (with_reducible refine we_bl ?_)
  | (with_reducible refine wAddI ?_)
  | (with_reducible refine wSubI ?_)
  | (with_reducible refine wMulI ?_)
  | (with_reducible refine wDivI ?_)
  | (with_reducible refine wModI ?_)
  | (with_reducible refine wPowI ?_)
  | (with_reducible refine wLtI ?_)
  | (with_reducible refine wLeI ?_)
  | (with_reducible refine wGtI ?_)
  | (with_reducible refine wGeI ?_)
  | (with_reducible refine wNegI ?_)
  | (with_reducible refine we_eq ?_)
  | (with_reducible refine we_ne ?_)
  | (with_reducible refine we_eqD ?_)
  | (with_reducible refine we_neD ?_)
  | (with_reducible refine we_in ?_)
  | (with_reducible refine we_ixT ?_)
  | (with_reducible refine we_ixL ?_)
  | (with_reducible refine we_tup ?_)
  | (with_reducible refine we_lst ?_)
  | (with_reducible refine we_catT ?_)
  | (with_reducible refine we_catL ?_)
  | (with_reducible refine we_subB ?_)
  | (with_reducible refine we_rep01 ?_)
  | (with_reducible refine wIs0 ?_)
  | (with_reducible refine wNot0 ?_)
  | (with_reducible refine wa_cons ?_)
  | (with_reducible refine wa_nil ?_)
  | (with_reducible refine wt_test ?_)
  | (with_reducible refine wt_B ?_)
  | (with_reducible refine wt_and ?_)
  | (with_reducible refine wt_or ?_)
  | (with_reducible refine wt_not ?_)
  | (with_reducible refine we_ifE ?_)
  | (with_reducible refine we_and ?_)
  | (with_reducible refine we_or ?_)
  | (with_reducible refine wChain ?_)
  | (with_reducible refine wAbs ?_)
  | (with_reducible refine wMax2 ?_)
  | (with_reducible refine wMin2 ?_)
  | (with_reducible refine we_min3 ?_)
  | (with_reducible refine we_gcd ?_)
  | (with_reducible refine wInt1 ?_)
  | (with_reducible refine intOf_bl ?_)
  | (with_reducible refine intOf_int ?_)
  | (with_reducible refine wLenL ?_)
  | (with_reducible refine wTupL ?_)
  | (with_reducible refine we_slT ?_)
  | (refine ⟨_, rfl, ?_⟩)
  | (refine ⟨_, _, rfl, rfl, ?_⟩)
  | (refine ⟨_, _, rfl, ?_⟩)
  | (refine ⟨_, _, _, rfl, ?_⟩)
  | (refine ⟨_, _, _, _, rfl, ?_⟩)
  | (refine ⟨_, _, _, _, _, rfl, ?_⟩)
  | (refine ⟨_, _, _, _, _, _, rfl, ?_⟩)
  | (refine ⟨_, EqV.int _ _, ?_⟩)
  | (refine ⟨_, EqV.str _ _, ?_⟩)
  | (refine ⟨_, EqV.bl _ _, ?_⟩)
  | (refine ⟨Nat.le_of_ble_eq_true rfl, ?_⟩))
local macro_rules | `(tactic| walk_at "nh") => `(tactic| first
  | (with_reducible refine ws_seq ?_)
  | (with_reducible refine ws_ret ?_)
  | (with_reducible refine ws_asg ?_)
  | (with_reducible refine ws_if ?_)
  | (with_reducible refine ws_par ?_)
  | (with_reducible refine ws_par3 ?_)
  | (with_reducible refine ws_next ?_)
  | (with_reducible refine ws_drop ?_)
  | (walk_at "nhe"))
section
variable {P : Program} {w : World} {K : PySem.W.Frag} {mg : Str → Option Value} {base : Heap} {f : Addr} {fd : FuncData}
theorem blo_sz {F : Fm} (ok : FmOk F) : (F.b ^ F.lo.toNat).natAbs < 2 ^ 2700 := by
  have hb : 1 ≤ F.b := by have := ok.b2; omega
  have h1 : F.b ^ F.lo.toNat ≤ F.b ^ (F.g.toNat + F.lo.natAbs) := pow_mono hb (by omega)
  have h2 := pow_pos' hb F.lo.toNat
  have h3 := ok.sl
  have e : ((2 ^ 2700 : Nat) : Int) = 2 ^ 2700 := by rw [Int.natCast_pow]; rfl
  generalize (2 : Int) ^ 2700 = A at h3 e
  generalize (2 : Nat) ^ 2700 = B at e ⊢
  omega
theorem grid_dn_sz {F : Fm} (ok : FmOk F) {n d c e : Int} (hd : 0 < d) (zn : n.natAbs < 2 ^ 8800) (zd : d.natAbs < 2 ^ 5000) (g : Grid F n d c e) : (dn F.b e d).natAbs < 2 ^ 8800 := by
  have hb : 1 ≤ F.b := by have := ok.b2; omega
  have h0 := dn_pos (e := e) hb hd
  by_cases he : 0 < e
  · rcases g.dn_le ok hd he with h | h
    · have := sz_mul zd (blo_sz ok)
      exact sz_mono (sz_le (by omega) h this)
    · exact sz_le (by omega) h zn
  · unfold dn
    have : e.toNat = 0 := by omega
    rw [this, Int.pow_zero, Int.mul_one]
    exact sz_mono zd
theorem ok_parted (d : Df K mg "parted" (topS 13) P_parted f fd) (c1 : Ok P w K mg base 3 "power_below" P_power_below sp_power_below) (c2 : Ok P w K mg base 2 "scaled" P_scaled sp_scaled) (m : mg "max" = none) :
    Ok P w K mg base 4 "parted" P_parted sp_parted := by
  refine mk_ok d sc_parted (fun _ => rfl) fun cdv A outer s H E hr => ⟨_, dv_parted hr (c_power_below := c1) (c_scaled := c2) (m_max := m), ?_⟩
  rintro ⟨F, n, d⟩ ⟨ok, hn, hd, zn, zd⟩
  have hb := ok.b2
  have hb2 := ok.b36
  have hg := ok.g2
  have hg2 := ok.g120
  have hlo := ok.l1
  have hlh := ok.lh
  have hhi := ok.h1
  have hb1 : 1 ≤ F.b := by omega
  unfold t_parted
  repeat (walk_at "nh")
  refine br (fun h0 => ?_) (fun h0 => ?_)
  · repeat (walk_at "nh")
    subst h0
    refine ⟨0, F.lo, ?_, Grid.zero ok hd⟩
    have e0 : up F.b F.lo 0 = 0 := Int.zero_mul _
    have : sideOf (up F.b F.lo 0) (dn F.b F.lo d) 0 = none := by
      unfold sideOf
      rw [e0, Int.zero_mul, if_pos rfl]
    rw [this]
    exact rfl
  · repeat (walk_at "nh")
    refine c_power_below ?_
    repeat (walk_at "nh")
    refine ⟨⟨hb, hb2, by omega, hd, sz_mono zn, sz_mono zd⟩, ?_⟩
    rintro _ ⟨k, rfl, hk1, hk2, hk3, hk4⟩
    have k1 : dn F.b k d ≤ up F.b k n := ipb_iff.mp hk3
    have k2 : up F.b (k + 1) n < dn F.b (k + 1) d := by
      by_cases z : dn F.b (k + 1) d ≤ up F.b (k + 1) n
      · rw [ipb_iff.mpr z] at hk4
        cases hk4
      · omega
    repeat (walk_at "nh")
    generalize he : (if k - F.g + 1 > F.lo then k - F.g + 1 else F.lo) = e
    have he2 : F.lo ≤ e ∧ e ≤ 9000 := by rw [← he]; split <;> omega
    have G := Grid.of_pow ok hd hn k1 k2 he.symm
    refine c_scaled ?_
    repeat (walk_at "nh")
    refine ⟨⟨hb1, hb2, by omega, by omega, sz_mono zn, sz_mono zd⟩, ?_⟩
    repeat (walk_at "nh")
    have zD := grid_dn_sz ok hd zn zd G
    have pD := dn_pos (e := e) hb1 hd
    have zU : (up F.b e n).natAbs < 2 ^ 17000 := sz_mono (sz_mul zn (sz_powE (E := 1200) hb1 hb2 (by omega)))
    refine ⟨cd pD zD, ?_⟩
    have zC := sz_div (n := up F.b e n) pD zU
    have zP := sz_mul zC zD
    have zR : (up F.b e n - up F.b e n / dn F.b e d * dn F.b e d).natAbs < 2 ^ 25802 := sz_sub (sz_mono zU) zP
    repeat (walk_at "nh")
    refine ⟨cm zC zD, ?_⟩
    repeat (walk_at "nh")
    refine ⟨cm (a := 2) (by decide) zR, ?_⟩
    repeat (walk_at "nh")
    refine ⟨cm zC zD, ?_⟩
    repeat (walk_at "nh")
    refine br (fun h1 => ?_) (fun h1 => ?_)
    · repeat (walk_at "nh")
      refine ⟨_, e, ?_, G⟩
      unfold sideOf
      rw [if_pos h1]
      rfl
    · repeat (walk_at "nh")
      refine ⟨_, e, ?_, G⟩
      unfold sideOf sgn
      rw [if_neg h1]
      simp only [decide_eq_true_eq]
      rfl
theorem iabs_sz {n : Int} {a : Nat} (h : n.natAbs < 2 ^ a) : (iabs n).natAbs < 2 ^ a := by
  unfold iabs
  split <;> omega
theorem iabs_nn (n : Int) : 0 ≤ iabs n := by
  unfold iabs
  split <;> omega
theorem ok_rounded (d : Df K mg "rounded" (topS 18) P_rounded f fd) (c1 : Ok P w K mg base 4 "parted" P_parted sp_parted) (c2 : Ok P w K mg base 3 "finished" P_finished sp_finished) (c3 : Ok P w K mg base 1 "without_sign" P_without_sign sp_without_sign) (m : mg "int" = none) :
    Ok P w K mg base 5 "rounded" P_rounded sp_rounded := by
  refine mk_ok d sc_rounded (fun _ => rfl) fun cdv A outer s H E hr => ⟨_, dv_rounded hr (c_finished := c2) (c_parted := c1) (c_without_sign := c3) (m_int := m), ?_⟩
  rintro ⟨F, x, n, d, s⟩ ⟨ok, hd, zn, zd⟩
  unfold t_rounded
  repeat (walk_at "nh")
  refine br (fun h0 => ?_) (fun h0 => ?_)
  · repeat (walk_at "nh")
    exact .inl ⟨h0, rfl⟩
  · repeat (walk_at "nh")
    refine c_finished ?_
    repeat (walk_at "nh")
    refine c_parted ?_
    repeat (walk_at "nh")
    refine c_without_sign ?_
    repeat (walk_at "nh")
    refine ⟨trivial, ?_⟩
    repeat (walk_at "nh")
    refine ⟨⟨ok, iabs_nn n, hd, iabs_sz zn, zd⟩, ?_⟩
    rintro _ ⟨c, e, rfl, G⟩
    repeat (walk_at "nh")
    refine ⟨ok, .inr ⟨h0, c, e, G, ?_⟩⟩
    simp only [decide_eq_true_eq]
theorem ok_from_integer (d : Df K mg "from_integer" (topS 23) P_from_integer f fd) (c1 : Ok P w K mg base 5 "rounded" P_rounded sp_rounded) : Ok P w K mg base 6 "from_integer" P_from_integer sp_from_integer := by
  refine mk_ok d sc_from_integer (fun _ => rfl) fun cdv A outer s H E hr => ⟨_, dv_from_integer hr c1, ?_⟩
  rintro ⟨F, x, n⟩ ⟨ok, zn⟩
  unfold t_from_integer
  repeat (walk_at "nh")
  refine c_rounded ?_
  repeat (walk_at "nh")
  refine ⟨⟨ok, by decide, zn, by decide⟩, ?_⟩
  rintro _ h
  exact h
theorem bhi_sz {F : Fm} (ok : FmOk F) {e : Int} (h1 : F.lo ≤ e) (h2 : e ≤ F.hi) : (F.b ^ e.natAbs).natAbs < 2 ^ 2700 := by
  have hb : 1 ≤ F.b := by have := ok.b2; omega
  have h3 := ok.sl
  have h4 := ok.sh
  have e1 : ((2 ^ 2700 : Nat) : Int) = 2 ^ 2700 := by rw [Int.natCast_pow]; rfl
  generalize (2 : Int) ^ 2700 = A at h3 h4 e1
  generalize (2 : Nat) ^ 2700 = B at e1 ⊢
  have h5 := pow_pos' hb e.natAbs
  have h6 : F.b ^ e.natAbs ≤ F.b ^ (F.g.toNat + F.lo.natAbs) ∨ F.b ^ e.natAbs ≤ F.b ^ (F.g.toNat + F.hi.natAbs) := by
    by_cases z : e.natAbs ≤ F.lo.natAbs
    · exact .inl (pow_mono hb (by omega))
    · exact .inr (pow_mono hb (by omega))
  omega
theorem bg_sz {F : Fm} (ok : FmOk F) : (F.b ^ F.g.toNat).natAbs < 2 ^ 2700 := by
  have hb : 1 ≤ F.b := by have := ok.b2; omega
  have h3 := ok.sl
  have e1 : ((2 ^ 2700 : Nat) : Int) = 2 ^ 2700 := by rw [Int.natCast_pow]; rfl
  generalize (2 : Int) ^ 2700 = A at h3 e1
  generalize (2 : Nat) ^ 2700 = B at e1 ⊢
  have h5 := pow_pos' hb F.g.toNat
  have h6 : F.b ^ F.g.toNat ≤ F.b ^ (F.g.toNat + F.lo.natAbs) := pow_mono hb (by omega)
  omega
theorem NumOk.sz {F : Fm} (ok : FmOk F) {s c e : Int} (h : NumOk F s c e) : (if s = 1 then -c else c).natAbs < 2 ^ 2700 := by
  have := sz_le h.c0 (Int.le_of_lt h.cT) (bg_sz ok)
  split <;> omega
theorem ok_worth (d : Df K mg "worth" (topS 20) P_worth f fd) (c1 : Ok P w K mg base 1 "whole_power" P_whole_power spW) (c2 : Ok P w K mg base 1 "reduced" P_reduced sp_reduced) : Ok P w K mg base 2 "worth" P_worth sp_worth := by
  refine mk_ok d sc_worth (fun _ => rfl) fun cdv A outer s H E hr => ⟨_, dv_worth hr (c_whole_power := c1) (c_reduced := c2), ?_⟩
  rintro ⟨F, s, c, e⟩ ⟨ok, hv⟩
  have hb := ok.b2
  have hb2 := ok.b36
  have hlo := ok.l1
  have hhi := ok.h1
  have h1 := hv.le
  have h2 := hv.hi
  have zc := hv.sz ok
  have zb := bhi_sz ok h1 h2
  have tail : ∀ c', c' = (if s = 1 then -c else c) → ∀ Ω : EndsD, Ω.rt (woD F s c e) →
      WS (tRet (tIf (tTest (tOp rGeI (tVar 3) (tC (.int 0)))) (tTup (tCons (tOp rMulI (tVar 4) (tCall spW [] E0 (tCons (tVar 2) (tCons (tVar 3) tNil)))) (tCons (tC (.int 1)) tNil))) (tCall sp_reduced [] E0 (tCons (tVar 4) (tCons (tCall spW [] E0 (tCons (tVar 2) (tCons (tUn rNegI (tVar 3)) tNil))) tNil)))))
        [some F.D, some (numD s c e), some (.int F.b), some (.int e), some (.int c')] Ω := fun c' hc Ω hΩ => by
    rw [← hc] at zc
    unfold woD at hΩ
    rw [← hc] at hΩ
    repeat (walk_at "nh")
    refine br (fun h => ?_) (fun h => ?_)
    · rw [if_pos h] at hΩ
      repeat (walk_at "nh")
      refine c_W ?_
      repeat (walk_at "nh")
      refine ⟨⟨by omega, hb2, by omega, by omega⟩, ?_⟩
      repeat (walk_at "nh")
      refine ⟨cm zc (sz_powE (E := 1200) (by omega) hb2 (by omega)), ?_⟩
      repeat (walk_at "nh")
      exact hΩ
    · rw [if_neg h] at hΩ
      repeat (walk_at "nh")
      refine c_reduced ?_
      repeat (walk_at "nh")
      refine c_W ?_
      repeat (walk_at "nh")
      refine ⟨⟨by omega, hb2, by omega, by omega⟩, ?_⟩
      repeat (walk_at "nh")
      have p := pow_pos' (b := F.b) (by omega) (-e).toNat
      have : e.natAbs = (-e).toNat := by omega
      rw [this] at zb
      exact ⟨⟨by omega, sz_mono zb⟩, hΩ⟩
  unfold t_worth
  repeat (walk_at "nh")
  refine br (fun h => ?_) (fun h => ?_)
  · repeat (walk_at "nhe")
    exact tail (-c) (by rw [if_pos h]) { nx := fun _ => False, rt := fun d => d = woD F s c e } rfl |>.imp (fun _ z => z.elim) (fun _ z => z) (fun _ z => z.elim) fun _ z => z.elim
  · repeat (walk_at "nhe")
    exact tail c (by rw [if_neg h]) { nx := fun _ => False, rt := fun d => d = woD F s c e } rfl |>.imp (fun _ z => z.elim) (fun _ z => z) (fun _ z => z.elim) fun _ z => z.elim
end
end Nh
set_option Elab.async false
set_option linter.all false
set_option maxRecDepth 100000
set_option maxHeartbeats 4000000
namespace Nh
open PySem PySem.Spec PyProof.Rows L2
/-! ### what the law reckons -/
def pwD (b e : Int) : D := fr (b ^ e.toNat) (b ^ (-e).toNat)
/-- c * b ^ e, reduced -/
def cuD (F : Fm) (c e : Int) : D := rdD (c * F.b ^ e.toNat) (1 * F.b ^ (-e).toNat)
def lwD (F : Fm) (s c e : Int) : D := if s = 1 then fr (-(c * F.b ^ e.toNat / gd (c * F.b ^ e.toNat) (1 * F.b ^ (-e).toNat))) (1 * F.b ^ (-e).toNat / gd (c * F.b ^ e.toNat) (1 * F.b ^ (-e).toNat)) else cuD F c e
def neD (w : Str) (n d a1 b1 a2 b2 c : Int) : D :=
  if w = "zero" ∨ w = "lower" then fr a1 b1 else if w = "upper" then fr a2 b2
  else if (n * b1 - a1 * d) * (b2 * d) = (a2 * d - n * b2) * (d * b1) then (if w = "even" ∧ c % 2 = 0 then fr a1 b1 else fr a2 b2)
  else if (n * b1 - a1 * d) * (b2 * d) < (a2 * d - n * b2) * (d * b1) then fr a1 b1 else fr a2 b2
def WayOk (w : Str) : Prop := w = "even" ∨ w = "away" ∨ w = "up" ∨ w = "down" ∨ w = "zero"

def sp_L_common : Sp := spA (fun (p : Int × Int) => match p with | (a, b) => [.int a, .int b]) (fun (p : Int × Int) => match p with | (a, b) => True) (fun (p : Int × Int) => match p with | (a, b) => (fun d_ => d_ = .int (gd a b)))
theorem c_L_common {ta : TA} {ρ : Env} {Φ : D → Prop} {E : XK} (h : WA ta ρ fun ds => ∃ (a : Int) (b : Int), ds = [.int a, .int b] ∧ (True) ∧ Φ (.int (gd a b))) : WE (tCall sp_L_common [] E ta) ρ Φ :=
  we_callA (h.imp fun ds ⟨a, b, hd_, hp_, k_⟩ => ⟨(a, b), hd_, hp_, fun d_ hd_ => hd_ ▸ k_⟩)
def sp_L_over : Sp := spA (fun (p : Int × Int) => match p with | (n, d) => [.int n, .int d]) (fun (p : Int × Int) => match p with | (n, d) => 0 < d ∧ d.natAbs < 2 ^ 8900) (fun (p : Int × Int) => match p with | (n, d) => (fun d_ => d_ = rdD n d))
theorem c_L_over {ta : TA} {ρ : Env} {Φ : D → Prop} {E : XK} (h : WA ta ρ fun ds => ∃ (n : Int) (d : Int), ds = [.int n, .int d] ∧ (0 < d ∧ d.natAbs < 2 ^ 8900) ∧ Φ (rdD n d)) : WE (tCall sp_L_over [] E ta) ρ Φ :=
  we_callA (h.imp fun ds ⟨n, d, hd_, hp_, k_⟩ => ⟨(n, d), hd_, hp_, fun d_ hd_ => hd_ ▸ k_⟩)
def sp_L_lessened : Sp := spA (fun (p : Int × Int × Int × Int) => match p with | (n, d, m, f) => [fr n d, fr m f]) (fun (p : Int × Int × Int × Int) => match p with | (n, d, m, f) => 0 < d ∧ 0 < f ∧ n.natAbs < 2 ^ 9000 ∧ m.natAbs < 2 ^ 9000 ∧ d.natAbs < 2 ^ 4400 ∧ f.natAbs < 2 ^ 4400) (fun (p : Int × Int × Int × Int) => match p with | (n, d, m, f) => (fun d_ => d_ = rdD (n * f - m * d) (d * f)))
theorem c_L_lessened {ta : TA} {ρ : Env} {Φ : D → Prop} {E : XK} (h : WA ta ρ fun ds => ∃ (n : Int) (d : Int) (m : Int) (f : Int), ds = [fr n d, fr m f] ∧ (0 < d ∧ 0 < f ∧ n.natAbs < 2 ^ 9000 ∧ m.natAbs < 2 ^ 9000 ∧ d.natAbs < 2 ^ 4400 ∧ f.natAbs < 2 ^ 4400) ∧ Φ (rdD (n * f - m * d) (d * f))) : WE (tCall sp_L_lessened [] E ta) ρ Φ :=
  we_callA (h.imp fun ds ⟨n, d, m, f, hd_, hp_, k_⟩ => ⟨(n, d, m, f), hd_, hp_, fun d_ hd_ => hd_ ▸ k_⟩)
def sp_L_multiplied : Sp := spA (fun (p : Int × Int × Int × Int) => match p with | (n, d, m, f) => [fr n d, fr m f]) (fun (p : Int × Int × Int × Int) => match p with | (n, d, m, f) => 0 < d ∧ 0 < f ∧ n.natAbs < 2 ^ 90000 ∧ m.natAbs < 2 ^ 90000 ∧ d.natAbs < 2 ^ 4400 ∧ f.natAbs < 2 ^ 4400) (fun (p : Int × Int × Int × Int) => match p with | (n, d, m, f) => (fun d_ => d_ = rdD (n * m) (d * f)))
theorem c_L_multiplied {ta : TA} {ρ : Env} {Φ : D → Prop} {E : XK} (h : WA ta ρ fun ds => ∃ (n : Int) (d : Int) (m : Int) (f : Int), ds = [fr n d, fr m f] ∧ (0 < d ∧ 0 < f ∧ n.natAbs < 2 ^ 90000 ∧ m.natAbs < 2 ^ 90000 ∧ d.natAbs < 2 ^ 4400 ∧ f.natAbs < 2 ^ 4400) ∧ Φ (rdD (n * m) (d * f))) : WE (tCall sp_L_multiplied [] E ta) ρ Φ :=
  we_callA (h.imp fun ds ⟨n, d, m, f, hd_, hp_, k_⟩ => ⟨(n, d, m, f), hd_, hp_, fun d_ hd_ => hd_ ▸ k_⟩)
def sp_L_is_below : Sp := spA (fun (p : Int × Int × Int × Int) => match p with | (n, d, m, f) => [fr n d, fr m f]) (fun (p : Int × Int × Int × Int) => match p with | (n, d, m, f) => n.natAbs < 2 ^ 90000 ∧ m.natAbs < 2 ^ 90000 ∧ d.natAbs < 2 ^ 90000 ∧ f.natAbs < 2 ^ 90000) (fun (p : Int × Int × Int × Int) => match p with | (n, d, m, f) => (fun d_ => d_ = .bl (decide (n * f < m * d))))
theorem c_L_is_below {ta : TA} {ρ : Env} {Φ : D → Prop} {E : XK} (h : WA ta ρ fun ds => ∃ (n : Int) (d : Int) (m : Int) (f : Int), ds = [fr n d, fr m f] ∧ (n.natAbs < 2 ^ 90000 ∧ m.natAbs < 2 ^ 90000 ∧ d.natAbs < 2 ^ 90000 ∧ f.natAbs < 2 ^ 90000) ∧ Φ (.bl (decide (n * f < m * d)))) : WE (tCall sp_L_is_below [] E ta) ρ Φ :=
  we_callA (h.imp fun ds ⟨n, d, m, f, hd_, hp_, k_⟩ => ⟨(n, d, m, f), hd_, hp_, fun d_ hd_ => hd_ ▸ k_⟩)
def sp_L_sized : Sp := spA (fun (p : Int × Int) => match p with | (n, d) => [fr n d]) (fun (p : Int × Int) => match p with | (n, d) => True) (fun (p : Int × Int) => match p with | (n, d) => (fun d_ => d_ = fr (iabs n) d))
theorem c_L_sized {ta : TA} {ρ : Env} {Φ : D → Prop} {E : XK} (h : WA ta ρ fun ds => ∃ (n : Int) (d : Int), ds = [fr n d] ∧ (True) ∧ Φ (fr (iabs n) d)) : WE (tCall sp_L_sized [] E ta) ρ Φ :=
  we_callA (h.imp fun ds ⟨n, d, hd_, hp_, k_⟩ => ⟨(n, d), hd_, hp_, fun d_ hd_ => hd_ ▸ k_⟩)
def sp_L_power : Sp := spA (fun (p : Int × Int) => match p with | (b, e) => [.int b, .int e]) (fun (p : Int × Int) => match p with | (b, e) => 1 ≤ b ∧ b ≤ 36 ∧ -40000 ≤ e ∧ e ≤ 40000) (fun (p : Int × Int) => match p with | (b, e) => (fun d_ => d_ = pwD b e))
theorem c_L_power {ta : TA} {ρ : Env} {Φ : D → Prop} {E : XK} (h : WA ta ρ fun ds => ∃ (b : Int) (e : Int), ds = [.int b, .int e] ∧ (1 ≤ b ∧ b ≤ 36 ∧ -40000 ≤ e ∧ e ≤ 40000) ∧ Φ (pwD b e)) : WE (tCall sp_L_power [] E ta) ρ Φ :=
  we_callA (h.imp fun ds ⟨b, e, hd_, hp_, k_⟩ => ⟨(b, e), hd_, hp_, fun d_ hd_ => hd_ ▸ k_⟩)
def sp_L_worth : Sp := spA (fun (p : Fm × Int × Int × Int) => match p with | (F, s, c, e) => [F.D, numD s c e]) (fun (p : Fm × Int × Int × Int) => match p with | (F, s, c, e) => FmOk F ∧ NumOk F s c e) (fun (p : Fm × Int × Int × Int) => match p with | (F, s, c, e) => (fun d_ => d_ = lwD F s c e))
theorem c_L_worth {ta : TA} {ρ : Env} {Φ : D → Prop} {E : XK} (h : WA ta ρ fun ds => ∃ (F : Fm) (s : Int) (c : Int) (e : Int), ds = [F.D, numD s c e] ∧ (FmOk F ∧ NumOk F s c e) ∧ Φ (lwD F s c e)) : WE (tCall sp_L_worth [] E ta) ρ Φ :=
  we_callA (h.imp fun ds ⟨F, s, c, e, hd_, hp_, k_⟩ => ⟨(F, s, c, e), hd_, hp_, fun d_ hd_ => hd_ ▸ k_⟩)
def sp_L_edges : Sp := spA (fun (F : Fm) => [F.D]) (fun (F : Fm) => FmOk F) (fun (F : Fm) => (fun d_ => ∃ ds : List D, d_ = .lst ds ∧ 0 < ds.length ∧ ds.length ≤ 1000 ∧ ∀ x ∈ ds, ∃ c e : Int, x = numD 0 c e ∧ NumOk F 0 c e))
theorem c_L_edges {ta : TA} {ρ : Env} {Φ : D → Prop} {E : XK} (h : WA ta ρ fun ds => ∃ (F : Fm), ds = [F.D] ∧ (FmOk F) ∧ ∀ d_, (∃ ds : List D, d_ = .lst ds ∧ 0 < ds.length ∧ ds.length ≤ 1000 ∧ ∀ x ∈ ds, ∃ c e : Int, x = numD 0 c e ∧ NumOk F 0 c e) → Φ d_) : WE (tCall sp_L_edges [] E ta) ρ Φ :=
  we_callA (h.imp fun ds ⟨F, hd_, hp_, k_⟩ => ⟨F, hd_, hp_, k_⟩)
def sp_L_ways : Sp := spA (fun (u : Unit) => []) (fun (u : Unit) => True) (fun (u : Unit) => (fun d_ => d_ = .lst [.str "even", .str "away", .str "up", .str "down", .str "zero"]))
theorem c_L_ways {ta : TA} {ρ : Env} {Φ : D → Prop} {E : XK} (h : WA ta ρ fun ds => ∃ (u : Unit), ds = [] ∧ (True) ∧ Φ (.lst [.str "even", .str "away", .str "up", .str "down", .str "zero"])) : WE (tCall sp_L_ways [] E ta) ρ Φ :=
  we_callA (h.imp fun ds ⟨u, hd_, hp_, k_⟩ => ⟨u, hd_, hp_, fun d_ hd_ => hd_ ▸ k_⟩)
def sp_L_grid : Sp := spA (fun (p : Fm × Int × Int) => match p with | (F, n, d) => [F.D, fr n d]) (fun (p : Fm × Int × Int) => match p with | (F, n, d) => FmOk F ∧ 0 ≤ n ∧ 0 < d ∧ n.natAbs < 2 ^ 8800 ∧ d.natAbs < 2 ^ 5000) (fun (p : Fm × Int × Int) => match p with | (F, n, d) => (fun d_ => ∃ c e : Int, d_ = .tup [.int c, .int e] ∧ Grid F n d c e))
theorem c_L_grid {ta : TA} {ρ : Env} {Φ : D → Prop} {E : XK} (h : WA ta ρ fun ds => ∃ (F : Fm) (n : Int) (d : Int), ds = [F.D, fr n d] ∧ (FmOk F ∧ 0 ≤ n ∧ 0 < d ∧ n.natAbs < 2 ^ 8800 ∧ d.natAbs < 2 ^ 5000) ∧ ∀ d_, (∃ c e : Int, d_ = .tup [.int c, .int e] ∧ Grid F n d c e) → Φ d_) : WE (tCall sp_L_grid [] E ta) ρ Φ :=
  we_callA (h.imp fun ds ⟨F, n, d, hd_, hp_, k_⟩ => ⟨(F, n, d), hd_, hp_, k_⟩)
def sp_L_neighbours : Sp := spA (fun (p : Fm × Int) => match p with | (F, n) => [F.D, fr n 1]) (fun (p : Fm × Int) => match p with | (F, n) => FmOk F ∧ 0 ≤ n ∧ n.natAbs < 2 ^ 4000) (fun (p : Fm × Int) => match p with | (F, n) => (fun d_ => ∃ c e : Int, Grid F n 1 c e ∧ d_ = if c * dn F.b e 1 = up F.b e n then .tup [cuD F c e, cuD F c e, .int c, .int c] else .tup [cuD F c e, cuD F (c + 1) e, .int c, .int (c + 1)]))
theorem c_L_neighbours {ta : TA} {ρ : Env} {Φ : D → Prop} {E : XK} (h : WA ta ρ fun ds => ∃ (F : Fm) (n : Int), ds = [F.D, fr n 1] ∧ (FmOk F ∧ 0 ≤ n ∧ n.natAbs < 2 ^ 4000) ∧ ∀ d_, (∃ c e : Int, Grid F n 1 c e ∧ d_ = if c * dn F.b e 1 = up F.b e n then .tup [cuD F c e, cuD F c e, .int c, .int c] else .tup [cuD F c e, cuD F (c + 1) e, .int c, .int (c + 1)]) → Φ d_) : WE (tCall sp_L_neighbours [] E ta) ρ Φ :=
  we_callA (h.imp fun ds ⟨F, n, hd_, hp_, k_⟩ => ⟨(F, n), hd_, hp_, k_⟩)
def sp_L_greatest : Sp := spA (fun (F : Fm) => [F.D]) (fun (F : Fm) => FmOk F) (fun (F : Fm) => (fun d_ => d_ = cuD F (F.b ^ F.g.toNat - 1) F.hi))
theorem c_L_greatest {ta : TA} {ρ : Env} {Φ : D → Prop} {E : XK} (h : WA ta ρ fun ds => ∃ (F : Fm), ds = [F.D] ∧ (FmOk F) ∧ Φ (cuD F (F.b ^ F.g.toNat - 1) F.hi)) : WE (tCall sp_L_greatest [] E ta) ρ Φ :=
  we_callA (h.imp fun ds ⟨F, hd_, hp_, k_⟩ => ⟨F, hd_, hp_, fun d_ hd_ => hd_ ▸ k_⟩)
def sp_L_normal : Sp := spA (fun (F : Fm) => [F.D]) (fun (F : Fm) => FmOk F) (fun (F : Fm) => (fun d_ => d_ = pwD F.b (F.lo + F.g - 1)))
theorem c_L_normal {ta : TA} {ρ : Env} {Φ : D → Prop} {E : XK} (h : WA ta ρ fun ds => ∃ (F : Fm), ds = [F.D] ∧ (FmOk F) ∧ Φ (pwD F.b (F.lo + F.g - 1))) : WE (tCall sp_L_normal [] E ta) ρ Φ :=
  we_callA (h.imp fun ds ⟨F, hd_, hp_, k_⟩ => ⟨F, hd_, hp_, fun d_ hd_ => hd_ ▸ k_⟩)
def sp_L_nearer : Sp := spA (fun (p : Str × Int × Int × Int × Int × Int × Int × Int) => match p with | (w, n, d, a1, b1, a2, b2, c) => [.str w, fr n d, fr a1 b1, fr a2 b2, .int c]) (fun (p : Str × Int × Int × Int × Int × Int × Int × Int) => match p with | (w, n, d, a1, b1, a2, b2, c) => 0 < d ∧ 0 < b1 ∧ 0 < b2 ∧ n.natAbs < 2 ^ 5000 ∧ a1.natAbs < 2 ^ 5000 ∧ a2.natAbs < 2 ^ 5000 ∧ d.natAbs < 2 ^ 2800 ∧ b1.natAbs < 2 ^ 2800 ∧ b2.natAbs < 2 ^ 2800) (fun (p : Str × Int × Int × Int × Int × Int × Int × Int) => match p with | (w, n, d, a1, b1, a2, b2, c) => (fun d_ => d_ = neD w n d a1 b1 a2 b2 c))
theorem c_L_nearer {ta : TA} {ρ : Env} {Φ : D → Prop} {E : XK} (h : WA ta ρ fun ds => ∃ (w : Str) (n : Int) (d : Int) (a1 : Int) (b1 : Int) (a2 : Int) (b2 : Int) (c : Int), ds = [.str w, fr n d, fr a1 b1, fr a2 b2, .int c] ∧ (0 < d ∧ 0 < b1 ∧ 0 < b2 ∧ n.natAbs < 2 ^ 5000 ∧ a1.natAbs < 2 ^ 5000 ∧ a2.natAbs < 2 ^ 5000 ∧ d.natAbs < 2 ^ 2800 ∧ b1.natAbs < 2 ^ 2800 ∧ b2.natAbs < 2 ^ 2800) ∧ Φ (neD w n d a1 b1 a2 b2 c)) : WE (tCall sp_L_nearer [] E ta) ρ Φ :=
  we_callA (h.imp fun ds ⟨w, n, d, a1, b1, a2, b2, c, hd_, hp_, k_⟩ => ⟨(w, n, d, a1, b1, a2, b2, c), hd_, hp_, fun d_ hd_ => hd_ ▸ k_⟩)
def sp_L_form_of : Sp := spA (fun (p : Fm × Int × Int × Int) => match p with | (F, s, n, d) => [F.D, .int s, fr n d]) (fun (p : Fm × Int × Int × Int) => match p with | (F, s, n, d) => FmOk F ∧ 0 ≤ n ∧ 0 < d ∧ n.natAbs < 2 ^ 8800 ∧ d.natAbs < 2 ^ 5000) (fun (p : Fm × Int × Int × Int) => match p with | (F, s, n, d) => (fun d_ => ∃ c e : Int, d_ = numD s c e ∧ Grid F n d c e))
theorem c_L_form_of {ta : TA} {ρ : Env} {Φ : D → Prop} {E : XK} (h : WA ta ρ fun ds => ∃ (F : Fm) (s : Int) (n : Int) (d : Int), ds = [F.D, .int s, fr n d] ∧ (FmOk F ∧ 0 ≤ n ∧ 0 < d ∧ n.natAbs < 2 ^ 8800 ∧ d.natAbs < 2 ^ 5000) ∧ ∀ d_, (∃ c e : Int, d_ = numD s c e ∧ Grid F n d c e) → Φ d_) : WE (tCall sp_L_form_of [] E ta) ρ Φ :=
  we_callA (h.imp fun ds ⟨F, s, n, d, hd_, hp_, k_⟩ => ⟨(F, s, n, d), hd_, hp_, k_⟩)
def sp_L_rounded : Sp := spA (fun (p : Fm × Str × Int) => match p with | (F, w, n) => [F.D, .str w, fr n 1, .int 0]) (fun (p : Fm × Str × Int) => match p with | (F, w, n) => FmOk F ∧ n.natAbs < 2 ^ 4000 ∧ WayOk w) (fun (p : Fm × Str × Int) => match p with | (F, w, n) => (fun d_ => (n = 0 ∧ d_ = .tup [numD 0 0 F.lo, fl0]) ∨ (n ≠ 0 ∧ ∃ c e : Int, Grid F (iabs n) 1 c e ∧ d_ = finD F w (if n < 0 then 1 else 0) c e (sideOf (up F.b e (iabs n)) (dn F.b e 1) c))))
theorem c_L_rounded {ta : TA} {ρ : Env} {Φ : D → Prop} {E : XK} (h : WA ta ρ fun ds => ∃ (F : Fm) (w : Str) (n : Int), ds = [F.D, .str w, fr n 1, .int 0] ∧ (FmOk F ∧ n.natAbs < 2 ^ 4000 ∧ WayOk w) ∧ ∀ d_, ((n = 0 ∧ d_ = .tup [numD 0 0 F.lo, fl0]) ∨ (n ≠ 0 ∧ ∃ c e : Int, Grid F (iabs n) 1 c e ∧ d_ = finD F w (if n < 0 then 1 else 0) c e (sideOf (up F.b e (iabs n)) (dn F.b e 1) c))) → Φ d_) : WE (tCall sp_L_rounded [] E ta) ρ Φ :=
  we_callA (h.imp fun ds ⟨F, w, n, hd_, hp_, k_⟩ => ⟨(F, w, n), hd_, hp_, k_⟩)
def sp_L_number_of : Sp := spA (fun (p : Fm × Int × Int) => match p with | (F, n, d) => [F.D, fr n d]) (fun (p : Fm × Int × Int) => match p with | (F, n, d) => FmOk F ∧ 0 < d ∧ n.natAbs < 2 ^ 1000 ∧ d.natAbs < 2 ^ 1000) (fun (p : Fm × Int × Int) => match p with | (F, n, d) => (fun d_ => d_ = .non ∨ ∃ s c e : Int, d_ = numD s c e ∧ NumOk F s c e))
theorem c_L_number_of {ta : TA} {ρ : Env} {Φ : D → Prop} {E : XK} (h : WA ta ρ fun ds => ∃ (F : Fm) (n : Int) (d : Int), ds = [F.D, fr n d] ∧ (FmOk F ∧ 0 < d ∧ n.natAbs < 2 ^ 1000 ∧ d.natAbs < 2 ^ 1000) ∧ ∀ d_, (d_ = .non ∨ ∃ s c e : Int, d_ = numD s c e ∧ NumOk F s c e) → Φ d_) : WE (tCall sp_L_number_of [] E ta) ρ Φ :=
  we_callA (h.imp fun ds ⟨F, n, d, hd_, hp_, k_⟩ => ⟨(F, n, d), hd_, hp_, k_⟩)
def sp_L_due_integer : Sp := spA (fun (p : Str × Int × Int) => match p with | (w, n, d) => [.str w, fr n d]) (fun (p : Str × Int × Int) => match p with | (w, n, d) => 0 < d ∧ n.natAbs < 2 ^ 5500 ∧ d.natAbs < 2 ^ 4000 ∧ WayOk w) (fun (p : Str × Int × Int) => match p with | (w, n, d) => (fun d_ => d_ = .int (nearI w n d)))
theorem c_L_due_integer {ta : TA} {ρ : Env} {Φ : D → Prop} {E : XK} (h : WA ta ρ fun ds => ∃ (w : Str) (n : Int) (d : Int), ds = [.str w, fr n d] ∧ (0 < d ∧ n.natAbs < 2 ^ 5500 ∧ d.natAbs < 2 ^ 4000 ∧ WayOk w) ∧ Φ (.int (nearI w n d))) : WE (tCall sp_L_due_integer [] E ta) ρ Φ :=
  we_callA (h.imp fun ds ⟨w, n, d, hd_, hp_, k_⟩ => ⟨(w, n, d), hd_, hp_, fun d_ hd_ => hd_ ▸ k_⟩)
end Nh
set_option Elab.async false
set_option linter.all false
set_option maxRecDepth 100000
set_option maxHeartbeats 4000000
namespace Nh
open PySem PySem.Spec PyProof.Rows L2
local macro_rules | `(tactic| walk_at "nhe") => `(tactic| first
  | (with_reducible refine wg_name ?_)
  | (with_reducible refine wgs_cons ?_)
  | (with_reducible refine wgs_nil ?_)
  | (with_reducible refine wg_tup ?_; refine ⟨_, rfl, rfl, ?_⟩)
  | (with_reducible refine we_nm ?_; refine ⟨_, rfl, ?_⟩)
  | (with_reducible refine we_int ?_)
  | (with_reducible refine we_str ?_)
  | (with_reducible refine we_non ?_)
  | (with_reducible refine we_bl ?_)
  | (with_reducible refine wAddI ?_)
  | (with_reducible refine wSubI ?_)
  | (with_reducible refine wMulI ?_)
  | (with_reducible refine wDivI ?_)
  | (with_reducible refine wModI ?_)
  | (with_reducible refine wPowI ?_)
  | (with_reducible refine wLtI ?_)
  | (with_reducible refine wLeI ?_)
  | (with_reducible refine wGtI ?_)
  | (with_reducible refine wGeI ?_)
  | (with_reducible refine wNegI ?_)
  | (with_reducible refine we_eq ?_)
  | (with_reducible refine we_ne ?_)
  | (with_reducible refine we_eqD ?_)
  | (with_reducible refine we_neD ?_)
  | (with_reducible refine we_in ?_)
  | (with_reducible refine we_ixT ?_)
  | (with_reducible refine we_ixL ?_)
  | (with_reducible refine we_tup ?_)
  | (with_reducible refine we_lst ?_)
  | (with_reducible refine we_catT ?_)
  | (with_reducible refine we_catL ?_)
  | (with_reducible refine we_subB ?_)
  | (with_reducible refine we_rep01 ?_)
  | (with_reducible refine wIs0 ?_)
  | (with_reducible refine wNot0 ?_)
  | (with_reducible refine wa_cons ?_)
  | (with_reducible refine wa_nil ?_)
  | (with_reducible refine wt_test ?_)
  | (with_reducible refine wt_B ?_)
  | (with_reducible refine wt_and ?_)
  | (with_reducible refine wt_or ?_)
  | (with_reducible refine wt_not ?_)
  | (with_reducible refine we_ifE ?_)
  | (with_reducible refine we_and ?_)
  | (with_reducible refine we_or ?_)
  | (with_reducible refine wChain ?_)
  | (with_reducible refine wAbs ?_)
  | (with_reducible refine wMax2 ?_)
  | (with_reducible refine wMin2 ?_)
  | (with_reducible refine we_min3 ?_)
  | (with_reducible refine we_gcd ?_)
  | (with_reducible refine wInt1 ?_)
  | (with_reducible refine intOf_bl ?_)
  | (with_reducible refine intOf_int ?_)
  | (with_reducible refine wLenL ?_)
  | (with_reducible refine wTupL ?_)
  | (with_reducible refine we_slT ?_)
  | (refine ⟨_, rfl, ?_⟩)
  | (refine ⟨_, _, rfl, rfl, ?_⟩)
  | (refine ⟨_, _, rfl, ?_⟩)
  | (refine ⟨_, _, _, rfl, ?_⟩)
  | (refine ⟨_, _, _, _, rfl, ?_⟩)
  | (refine ⟨_, _, _, _, _, rfl, ?_⟩)
  | (refine ⟨_, _, _, _, _, _, rfl, ?_⟩)
  | (refine ⟨_, EqV.int _ _, ?_⟩)
  | (refine ⟨_, EqV.str _ _, ?_⟩)
  | (refine ⟨_, EqV.bl _ _, ?_⟩)
  | (refine ⟨Nat.le_of_ble_eq_true rfl, ?_⟩))
local macro_rules | `(tactic| walk_at "nh") => `(tactic| first
  | (with_reducible refine ws_seq ?_)
  | (with_reducible refine ws_ret ?_)
  | (with_reducible refine ws_asg ?_)
  | (with_reducible refine ws_if ?_)
  | (with_reducible refine ws_par ?_)
  | (with_reducible refine ws_par3 ?_)
  | (with_reducible refine ws_next ?_)
  | (with_reducible refine ws_drop ?_)
  | (walk_at "nhe"))
section
variable {P : Program} {w : World} {K : PySem.W.Frag} {mg : Str → Option Value} {base : Heap} {f : Addr} {fd : FuncData}
theorem eqD_pair {a b c d : Int} {Φ : Bool → Prop} (h : Φ (decide (a = c ∧ b = d))) : EqD (.tup [.int a, .int b]) (.tup [.int c, .int d]) Φ := by
  refine ⟨rfl, rfl, rfl, rfl, ?_⟩
  have : PyData.eqv (D.tup [.int a, .int b]).py (D.tup [.int c, .int d]).py = decide (a = c ∧ b = d) := by
    simp only [D.py, D.pyL, PyData.eqv, PyData.eqvAll, Bool.and_true, Bool.beq_eq_decide_eq, Bool.decide_and]
  rw [this]
  exact h
theorem nearI_one (x : Str) (n : Int) : nearI x n 1 = n := by
  unfold nearI
  have e1 : n / 1 = n := Int.ediv_one n
  have e2 : -(-n / 1) = n := by rw [Int.ediv_one]; omega
  rw [e1, e2, if_pos (.inr rfl)]
theorem ok_integer_of (d : Df K mg "integer_of" (topS 24) P_integer_of f fd) (c1 : Ok P w K mg base 1 "is_finite" P_is_finite sp_is_finite) (c2 : Ok P w K mg base 2 "worth" P_worth sp_worth) (c3 : Ok P w K mg base 2 "nearest_integer" P_nearest_integer sp_nearest_integer) :
    Ok P w K mg base 3 "integer_of" P_integer_of sp_integer_of := by
  refine mk_ok d sc_integer_of (fun _ => rfl) fun cdv A outer s H E hr => ⟨_, dv_integer_of hr (c_is_finite := c1) (c_worth := c2) (c_nearest_integer := c3), ?_⟩
  rintro ⟨F, x, v⟩ ⟨ok, hv⟩
  unfold t_integer_of
  repeat (walk_at "nh")
  refine c_is_finite ?_
  repeat (walk_at "nh")
  refine ⟨trivial, ?_⟩
  rintro _ (⟨s, c, e, rfl, rfl⟩ | ⟨hn, rfl⟩)
  · repeat (walk_at "nh")
    refine bF ?_
    repeat (walk_at "nh")
    refine c_worth ?_
    repeat (walk_at "nh")
    refine ⟨⟨ok, hv⟩, ?_⟩
    have zc := NumOk.sz ok hv
    have hb := ok.b2
    have hb2 := ok.b36
    have hlo := ok.l1
    have hhi := ok.h1
    have h1 := hv.le
    have h2 := hv.hi
    have zb := bhi_sz ok h1 h2
    show WG (gName 3) (woD F s c e) _ _
    generalize hc : (if s = 1 then -c else c) = c' at zc
    have key : ∀ n d : Int, woD F s c e = fr n d → 0 < d → n.natAbs < 2 ^ 5500 → d.natAbs < 2 ^ 5500 → ioD F x (.num s c e) = .tup [.int (nearI x n d), if d = 1 then fl0 else fl1] → WG (gName 3) (woD F s c e) (List.map some [F.D, D.str x, Vl.D (.num s c e)] ++ List.replicate 2 none)
        (fun ρ => WS (tSeq (tAsg (tCall sp_nearest_integer [] E0 (tCons (tVar 1) (tCons (tVar 3) tNil))) (gName 4))
 (tRet (tTup (tCons (tVar 4) (tCons (tIf (tTest (tOp (rEqD K) (tTup (tCons (tVar 4) (tCons (tC (.int 1)) tNil))) (tVar 3))) (tTup tNil) (tTup (tCons (tC (.str "inexact")) tNil))) tNil))))) ρ
          { nx := fun _ => .non = ioD F x (.num s c e), rt := fun d => d = ioD F x (.num s c e) }) := fun n d e1 h0 zn zd e2 => by
      rw [e1, e2]
      refine wg_name ?_
      repeat (walk_at "nh")
      refine c_nearest_integer ?_
      repeat (walk_at "nh")
      refine ⟨⟨h0, sz_mono zn, sz_mono zd⟩, ?_⟩
      repeat (walk_at "nh")
      refine eqD_pair ?_
      repeat (walk_at "nh")
      refine br (fun h => ?_) (fun h => ?_)
      · repeat (walk_at "nh")
        rw [if_pos h.2.symm]
        rfl
      · repeat (walk_at "nh")
        have hd : d ≠ 1 := fun z => h ⟨by rw [z, nearI_one], z.symm⟩
        rw [if_neg hd]
        rfl
    by_cases he : 0 ≤ e
    · have q := key (c' * F.b ^ e.toNat) 1 (by unfold woD; rw [if_pos he, hc]) (by decide) (sz_mono (sz_mul zc (show (F.b ^ e.toNat).natAbs < 2 ^ 2700 by
        have : e.natAbs = e.toNat := by omega
        rw [← this]
        exact zb))) (by decide) (by
          show (if 0 ≤ e then _ else _) = _
          rw [if_pos he, hc]
          rfl)
      exact q
    · have hp : 0 < F.b ^ (-e).toNat := by
        have := pow_pos' (b := F.b) (by omega) (-e).toNat
        omega
      have zb' : (F.b ^ (-e).toNat).natAbs < 2 ^ 2700 := by
        have : e.natAbs = (-e).toNat := by omega
        rw [← this]
        exact zb
      have gp := gd_pos (n := c') hp
      have q := key (c' / gd c' (F.b ^ (-e).toNat)) (F.b ^ (-e).toNat / gd c' (F.b ^ (-e).toNat)) (by unfold woD rdD; rw [if_neg he, hc]) (Int.ediv_pos_of_pos_of_dvd hp (Int.le_of_lt gp) (by
          unfold gd
          exact Int.ofNat_dvd_left.mpr (Nat.gcd_dvd_right _ _))) (sz_mono (sz_div gp zc)) (sz_mono (sz_div gp zb')) (by
          show (if 0 ≤ e then _ else _) = _
          rw [if_neg he, hc])
      exact q
  · repeat (walk_at "nh")
    refine bT ?_
    repeat (walk_at "nh")
    cases v with
    | num s c e => exact absurd rfl (hn s c e)
    | inf s => rfl
    | nan => rfl
end
end Nh
set_option Elab.async false
set_option linter.all false
set_option maxRecDepth 100000
set_option maxHeartbeats 4000000
namespace Nh
open PySem PySem.Spec PyProof.Rows L2
local macro_rules | `(tactic| walk_at "nhe") => `(tactic| first
  | (with_reducible refine wg_name ?_)
  | (with_reducible refine wgs_cons ?_)
  | (with_reducible refine wgs_nil ?_)
  | (with_reducible refine wg_tup ?_; refine ⟨_, rfl, rfl, ?_⟩)
  | (with_reducible refine we_nm ?_; refine ⟨_, rfl, ?_⟩)
  | (with_reducible refine we_int ?_)
  | (with_reducible refine we_str ?_)
  | (with_reducible refine we_non ?_)
  | (with_reducible refine we_bl ?_)
  | (with_reducible refine wAddI ?_)
  | (with_reducible refine wSubI ?_)
  | (with_reducible refine wMulI ?_)
  | (with_reducible refine wDivI ?_)
  | (with_reducible refine wModI ?_)
  | (with_reducible refine wPowI ?_)
  | (with_reducible refine wLtI ?_)
  | (with_reducible refine wLeI ?_)
  | (with_reducible refine wGtI ?_)
  | (with_reducible refine wGeI ?_)
  | (with_reducible refine wNegI ?_)
  | (with_reducible refine we_eq ?_)
  | (with_reducible refine we_ne ?_)
  | (with_reducible refine we_eqD ?_)
  | (with_reducible refine we_neD ?_)
  | (with_reducible refine we_in ?_)
  | (with_reducible refine we_ixT ?_)
  | (with_reducible refine we_ixL ?_)
  | (with_reducible refine we_tup ?_)
  | (with_reducible refine we_lst ?_)
  | (with_reducible refine we_catT ?_)
  | (with_reducible refine we_catL ?_)
  | (with_reducible refine we_subB ?_)
  | (with_reducible refine we_rep01 ?_)
  | (with_reducible refine wIs0 ?_)
  | (with_reducible refine wNot0 ?_)
  | (with_reducible refine wa_cons ?_)
  | (with_reducible refine wa_nil ?_)
  | (with_reducible refine wt_test ?_)
  | (with_reducible refine wt_B ?_)
  | (with_reducible refine wt_and ?_)
  | (with_reducible refine wt_or ?_)
  | (with_reducible refine wt_not ?_)
  | (with_reducible refine we_ifE ?_)
  | (with_reducible refine we_and ?_)
  | (with_reducible refine we_or ?_)
  | (with_reducible refine wChain ?_)
  | (with_reducible refine wAbs ?_)
  | (with_reducible refine wMax2 ?_)
  | (with_reducible refine wMin2 ?_)
  | (with_reducible refine we_min3 ?_)
  | (with_reducible refine we_gcd ?_)
  | (with_reducible refine wInt1 ?_)
  | (with_reducible refine intOf_bl ?_)
  | (with_reducible refine intOf_int ?_)
  | (with_reducible refine wLenL ?_)
  | (with_reducible refine wTupL ?_)
  | (with_reducible refine we_slT ?_)
  | (refine ⟨_, rfl, ?_⟩)
  | (refine ⟨_, _, rfl, rfl, ?_⟩)
  | (refine ⟨_, _, rfl, ?_⟩)
  | (refine ⟨_, _, _, rfl, ?_⟩)
  | (refine ⟨_, _, _, _, rfl, ?_⟩)
  | (refine ⟨_, _, _, _, _, rfl, ?_⟩)
  | (refine ⟨_, _, _, _, _, _, rfl, ?_⟩)
  | (refine ⟨_, EqV.int _ _, ?_⟩)
  | (refine ⟨_, EqV.str _ _, ?_⟩)
  | (refine ⟨_, EqV.bl _ _, ?_⟩)
  | (refine ⟨Nat.le_of_ble_eq_true rfl, ?_⟩))
local macro_rules | `(tactic| walk_at "nh") => `(tactic| first
  | (with_reducible refine ws_seq ?_)
  | (with_reducible refine ws_ret ?_)
  | (with_reducible refine ws_asg ?_)
  | (with_reducible refine ws_if ?_)
  | (with_reducible refine ws_par ?_)
  | (with_reducible refine ws_par3 ?_)
  | (with_reducible refine ws_next ?_)
  | (with_reducible refine ws_drop ?_)
  | (walk_at "nhe"))
section
variable {P : Program} {w : World} {K : PySem.W.Frag} {mg : Str → Option Value} {base : Heap} {f : Addr} {fd : FuncData}
theorem gcd_turn {a b : Int} (ha : 0 ≤ a) (hb : 0 < b) : Nat.gcd b.natAbs (a % b).natAbs = Nat.gcd a.natAbs b.natAbs := by
  have e : (a % b).natAbs = a.natAbs % b.natAbs := by
    have h1 := Int.emod_nonneg a (by omega : b ≠ 0)
    have h2 : ((a.natAbs % b.natAbs : Nat) : Int) = a % b := by
      rw [Int.natCast_emod, Int.natAbs_of_nonneg ha, Int.natAbs_of_nonneg (Int.le_of_lt hb)]
    omega
  rw [e, Nat.gcd_comm a.natAbs, Nat.gcd_rec b.natAbs a.natAbs, Nat.gcd_comm]
theorem iabs_natAbs (a : Int) : (iabs a).natAbs = a.natAbs := by
  unfold iabs
  split <;> omega
theorem ok_L_common (d : Df K mg "_law_common" (topS 30) P_L_common f fd) (m1 : mg "abs" = none) (m2 : mg "int" = none) : Ok P w K mg base 1 "_law_common" P_L_common sp_L_common := by
  refine mk_ok d sc_L_common (fun _ => rfl) fun cdv A outer s H E hr => ⟨_, dv_L_common hr m1 m2, ?_⟩
  rintro ⟨a, b⟩ _
  unfold t_L_common
  repeat (walk_at "nh")
  refine ws_while (fun m ρ => ∃ x y : Int, ρ = [some (.int x), some (.int y)] ∧ 0 ≤ x ∧ 0 ≤ y ∧ Nat.gcd x.natAbs y.natAbs = Nat.gcd a.natAbs b.natAbs ∧ m = y.toNat) (iabs b).toNat
    ⟨iabs a, iabs b, rfl, iabs_nn a, iabs_nn b, by rw [iabs_natAbs, iabs_natAbs], rfl⟩ ?_
  rintro m ρ ⟨x, y, rfl, hx, hy, hg, hm⟩
  repeat (walk_at "nh")
  refine br (fun h => ?_) (fun h => ?_)
  · repeat (walk_at "nh")
    refine ⟨h, ?_⟩
    repeat (walk_at "nh")
    have h1 := Int.emod_nonneg x (by omega : y ≠ 0)
    have h2 := Int.emod_lt_of_pos x h
    exact ⟨(x % y).toNat, by omega, _, _, rfl, hy, h1, (gcd_turn hx h).trans hg, rfl⟩
  · repeat (walk_at "nh")
    have hy0 : y = 0 := by omega
    subst hy0
    show D.int x = D.int (gd a b)
    unfold gd
    rw [← hg]
    have : Nat.gcd x.natAbs (0 : Int).natAbs = x.natAbs := Nat.gcd_zero_right _
    rw [this, Int.natAbs_of_nonneg hx]
theorem ok_L_to (d : Df K mg "_law_to" (topS 31) P_L_to f fd) (m1 : mg "int" = none) : Ok P w K mg base 1 "_law_to" P_L_to spW := by
  refine mk_ok d sc_L_to (fun _ => rfl) fun cdv A outer s H E hr => ⟨_, dv_L_to hr m1, ?_⟩
  rintro ⟨b, e⟩ ⟨hb, hb2, he, he2⟩
  dsimp only at hb hb2 he he2
  unfold t_L_to
  repeat (walk_at "nh")
  refine ws_while (fun m ρ => ∃ x f n, ρ = [some (.int b), some (.int n), some (.int x), some (.int f)] ∧ WInv b e m x f n) e.toNat ⟨1, b, e, rfl, by omega, hb, he, Int.one_mul _, rfl, 1, (Int.pow_one b).symm, by omega, by omega⟩ ?_
  rintro m ρ ⟨x, f', n, rfl, hi⟩
  obtain ⟨z1, z2, z3⟩ := winv_sz hb hb2 he he2 hi
  repeat (walk_at "nh")
  refine br (fun hn => ?_) (fun hn => ?_)
  · have t := winv_turn hb hi hn
    have hf := z2 hn
    repeat (walk_at "nh")
    refine ⟨by decide, ?_⟩
    repeat (walk_at "nh")
    refine br (fun h1 => ?_) (fun h1 => ?_)
    · repeat (walk_at "nh")
      refine ⟨cm z1 hf, ?_⟩
      repeat (walk_at "nh")
      refine ⟨cm hf hf, ?_⟩
      repeat (walk_at "nh")
      refine ⟨cd2, ?_⟩
      repeat (walk_at "nh")
      rw [if_pos h1] at t
      exact ⟨_, t.1, _, _, _, rfl, t.2⟩
    · repeat (walk_at "nh")
      refine ⟨cm hf hf, ?_⟩
      repeat (walk_at "nh")
      refine ⟨cd2, ?_⟩
      repeat (walk_at "nh")
      rw [if_neg h1, Int.mul_one] at t
      exact ⟨_, t.1, _, _, _, rfl, t.2⟩
  · repeat (walk_at "nh")
    exact congrArg D.int (winv_end hi hn)
theorem ok_L_over (d : Df K mg "_law_over" (topS 32) P_L_over f fd) (c1 : Ok P w K mg base 1 "_law_common" P_L_common sp_L_common) (m1 : mg "int" = none) : Ok P w K mg base 2 "_law_over" P_L_over sp_L_over := by
  refine mk_ok d sc_L_over (fun _ => rfl) fun cdv A outer s H E hr => ⟨_, dv_L_over hr c1 m1, ?_⟩
  rintro ⟨n, d⟩ ⟨hd, hz⟩
  unfold t_L_over
  have hg := gd_sz (n := n) hd hz
  repeat (walk_at "nh")
  refine c_L_common ?_
  repeat (walk_at "nh")
  refine ⟨trivial, ?_⟩
  repeat (walk_at "nh")
  refine brT hd ?_
  repeat (walk_at "nh")
  refine ⟨cd (gd_pos hd) hg, ?_⟩
  repeat (walk_at "nh")
  refine ⟨cd (gd_pos hd) hg, ?_⟩
  repeat (walk_at "nh")
  exact rfl
theorem ok_L_lessened (d : Df K mg "_law_lessened" (topS 33) P_L_lessened f fd) (c1 : Ok P w K mg base 2 "_law_over" P_L_over sp_L_over) : Ok P w K mg base 3 "_law_lessened" P_L_lessened sp_L_lessened := by
  refine mk_ok d sc_L_lessened (fun _ => rfl) fun cdv A outer s H E hr => ⟨_, dv_L_lessened hr c1, ?_⟩
  rintro ⟨n, d, m, g⟩ ⟨hd, hg, zn, zm, zd, zg⟩
  unfold t_L_lessened
  repeat (walk_at "nh")
  refine c_L_over ?_
  repeat (walk_at "nh")
  refine ⟨cm zn zg, ?_⟩
  repeat (walk_at "nh")
  refine ⟨cm zm zd, ?_⟩
  repeat (walk_at "nh")
  refine ⟨cm zd zg, ?_⟩
  repeat (walk_at "nh")
  exact ⟨⟨Int.mul_pos hd hg, sz_mono (sz_mul zd zg)⟩, rfl⟩
theorem ok_L_multiplied (d : Df K mg "_law_multiplied" (topS 34) P_L_multiplied f fd) (c1 : Ok P w K mg base 2 "_law_over" P_L_over sp_L_over) : Ok P w K mg base 3 "_law_multiplied" P_L_multiplied sp_L_multiplied := by
  refine mk_ok d sc_L_multiplied (fun _ => rfl) fun cdv A outer s H E hr => ⟨_, dv_L_multiplied hr c1, ?_⟩
  rintro ⟨n, d, m, g⟩ ⟨hd, hg, zn, zm, zd, zg⟩
  unfold t_L_multiplied
  repeat (walk_at "nh")
  refine c_L_over ?_
  repeat (walk_at "nh")
  refine ⟨cm zn zm, ?_⟩
  repeat (walk_at "nh")
  refine ⟨cm zd zg, ?_⟩
  repeat (walk_at "nh")
  exact ⟨⟨Int.mul_pos hd hg, sz_mono (sz_mul zd zg)⟩, rfl⟩
theorem ok_L_is_below (d : Df K mg "_law_is_below" (topS 35) P_L_is_below f fd) : Ok P w K mg base 1 "_law_is_below" P_L_is_below sp_L_is_below := by
  refine mk_ok d sc_L_is_below (fun _ => rfl) fun cdv A outer s H E hr => ⟨_, dv_L_is_below hr, ?_⟩
  rintro ⟨n, d, m, g⟩ ⟨zn, zm, zd, zg⟩
  unfold t_L_is_below
  repeat (walk_at "nh")
  refine ⟨cm zn zg, ?_⟩
  repeat (walk_at "nh")
  refine ⟨cm zm zd, ?_⟩
  repeat (walk_at "nh")
  exact rfl
theorem ok_L_sized (d : Df K mg "_law_sized" (topS 36) P_L_sized f fd) (m : mg "abs" = none) : Ok P w K mg base 1 "_law_sized" P_L_sized sp_L_sized := by
  refine mk_ok d sc_L_sized (fun _ => rfl) fun cdv A outer s H E hr => ⟨_, dv_L_sized hr m, ?_⟩
  rintro ⟨n, d⟩ _
  unfold t_L_sized
  repeat (walk_at "nh")
  exact rfl
theorem ok_L_power (d : Df K mg "_law_power" (topS 37) P_L_power f fd) (c1 : Ok P w K mg base 1 "_law_to" P_L_to spW) : Ok P w K mg base 2 "_law_power" P_L_power sp_L_power := by
  refine mk_ok d sc_L_power (fun _ => rfl) fun cdv A outer s H E hr => ⟨_, dv_L_power hr c1, ?_⟩
  rintro ⟨b, e⟩ ⟨hb, hb2, he, he2⟩
  unfold t_L_power
  repeat (walk_at "nh")
  refine br (fun h => ?_) (fun h => ?_)
  · repeat (walk_at "nh")
    refine c_W ?_
    repeat (walk_at "nh")
    refine ⟨⟨hb, hb2, by omega, by omega⟩, ?_⟩
    repeat (walk_at "nh")
    show D.tup _ = pwD b e
    unfold pwD fr
    have : (-e).toNat = 0 := by omega
    rw [this, Int.pow_zero]
  · repeat (walk_at "nh")
    refine c_W ?_
    repeat (walk_at "nh")
    refine ⟨⟨hb, hb2, by omega, by omega⟩, ?_⟩
    repeat (walk_at "nh")
    show D.tup _ = pwD b e
    unfold pwD fr
    have : e.toNat = 0 := by omega
    rw [this, Int.pow_zero]
theorem ok_L_normal (d : Df K mg "_law_normal" (topS 49) P_L_normal f fd) (c1 : Ok P w K mg base 2 "_law_power" P_L_power sp_L_power) : Ok P w K mg base 3 "_law_normal" P_L_normal sp_L_normal := by
  refine mk_ok d sc_L_normal (fun _ => rfl) fun cdv A outer s H E hr => ⟨_, dv_L_normal hr c1, ?_⟩
  rintro F ok
  have hb := ok.b2
  have hb2 := ok.b36
  have hg := ok.g2
  have hg2 := ok.g120
  have h1 := ok.l1
  have h2 := ok.lh
  have h3 := ok.h1
  unfold t_L_normal
  repeat (walk_at "nh")
  refine c_L_power ?_
  repeat (walk_at "nh")
  exact ⟨⟨by omega, hb2, by omega, by omega⟩, rfl⟩
theorem pwp_sz {F : Fm} (ok : FmOk F) {e : Int} (h1 : F.lo ≤ e) (h2 : e ≤ F.hi) : (F.b ^ e.toNat).natAbs < 2 ^ 2700 ∧ (F.b ^ (-e).toNat).natAbs < 2 ^ 2700 := by
  have hb : 1 ≤ F.b := by have := ok.b2; omega
  have z := bhi_sz ok h1 h2
  have p := pow_pos' hb e.natAbs
  have p1 := pow_pos' hb e.toNat
  have p2 := pow_pos' hb (-e).toNat
  have q1 : F.b ^ e.toNat ≤ F.b ^ e.natAbs := pow_mono hb (by omega)
  have q2 : F.b ^ (-e).toNat ≤ F.b ^ e.natAbs := pow_mono hb (by omega)
  exact ⟨sz_le (by omega) q1 z, sz_le (by omega) q2 z⟩
theorem ok_L_greatest (d : Df K mg "_law_greatest" (topS 48) P_L_greatest f fd) (c1 : Ok P w K mg base 3 "_law_multiplied" P_L_multiplied sp_L_multiplied) (c2 : Ok P w K mg base 2 "_law_power" P_L_power sp_L_power) (c3 : Ok P w K mg base 1 "_law_to" P_L_to spW) :
    Ok P w K mg base 4 "_law_greatest" P_L_greatest sp_L_greatest := by
  refine mk_ok d sc_L_greatest (fun _ => rfl) fun cdv A outer s H E hr => ⟨_, dv_L_greatest hr c1 c2 c3, ?_⟩
  rintro F ok
  have hb := ok.b2
  have hb2 := ok.b36
  have hg := ok.g2
  have hg2 := ok.g120
  have h1 := ok.l1
  have h2 := ok.lh
  have h3 := ok.h1
  unfold t_L_greatest
  repeat (walk_at "nh")
  refine c_L_multiplied ?_
  repeat (walk_at "nh")
  refine c_W ?_
  repeat (walk_at "nh")
  refine ⟨⟨by omega, hb2, by omega, by omega⟩, ?_⟩
  repeat (walk_at "nh")
  refine c_L_power ?_
  repeat (walk_at "nh")
  refine ⟨⟨by omega, hb2, by omega, by omega⟩, ?_⟩
  repeat (walk_at "nh")
  have p1 := pow_pos' (b := F.b) (by omega) F.g.toNat
  have p2 := pow_pos' (b := F.b) (by omega) (-F.hi).toNat
  have z := pwp_sz ok h2 (Int.le_refl F.hi)
  exact ⟨⟨by decide, by omega, sz_mono (sz_le (a := 2700) (by omega) (by omega) (bg_sz ok)), sz_mono z.1, by decide, sz_mono z.2⟩, rfl⟩
theorem ok_L_worth (d : Df K mg "_law_worth" (topS 38) P_L_worth f fd) (c1 : Ok P w K mg base 3 "_law_multiplied" P_L_multiplied sp_L_multiplied) (c2 : Ok P w K mg base 2 "_law_power" P_L_power sp_L_power) : Ok P w K mg base 4 "_law_worth" P_L_worth sp_L_worth := by
  refine mk_ok d sc_L_worth (fun _ => rfl) fun cdv A outer s H E hr => ⟨_, dv_L_worth hr c1 c2, ?_⟩
  rintro ⟨F, s, c, e⟩ ⟨ok, hv⟩
  have hb := ok.b2
  have hb2 := ok.b36
  have h1 := ok.l1
  have h3 := ok.h1
  have v1 := hv.le
  have v2 := hv.hi
  have z := pwp_sz ok v1 v2
  have p2 := pow_pos' (b := F.b) (by omega) (-e).toNat
  unfold t_L_worth
  repeat (walk_at "nh")
  refine c_L_multiplied ?_
  repeat (walk_at "nh")
  refine c_L_power ?_
  repeat (walk_at "nh")
  refine ⟨⟨by omega, hb2, by omega, by omega⟩, ?_⟩
  repeat (walk_at "nh")
  refine ⟨⟨by decide, by omega, sz_mono (sz_le hv.c0 (Int.le_of_lt hv.cT) (bg_sz ok)), sz_mono z.1, by decide, sz_mono z.2⟩, ?_⟩
  repeat (walk_at "nh")
  refine br (fun h => ?_) (fun h => ?_)
  · repeat (walk_at "nh")
    show D.tup _ = lwD F s c e
    unfold lwD
    rw [if_pos h]
    rfl
  · repeat (walk_at "nh")
    show _ = lwD F s c e
    unfold lwD
    rw [if_neg h]
    rfl
theorem ok_L_ways (d : Df K mg "_law_ways" (topS 45) P_L_ways f fd) : Ok P w K mg base 1 "_law_ways" P_L_ways sp_L_ways := by
  refine mk_ok d sc_L_ways (fun _ => rfl) fun cdv A outer s H E hr => ⟨_, dv_L_ways hr, ?_⟩
  rintro _ _
  unfold t_L_ways
  repeat (walk_at "nh")
  exact rfl
end
end Nh
set_option Elab.async false
set_option linter.all false
set_option maxRecDepth 100000
set_option maxHeartbeats 4000000
namespace Nh
open PySem PySem.Spec PyProof.Rows L2
local macro_rules | `(tactic| walk_at "nhe") => `(tactic| first
  | (with_reducible refine wg_name ?_)
  | (with_reducible refine wgs_cons ?_)
  | (with_reducible refine wgs_nil ?_)
  | (with_reducible refine wg_tup ?_; refine ⟨_, rfl, rfl, ?_⟩)
  | (with_reducible refine we_nm ?_; refine ⟨_, rfl, ?_⟩)
  | (with_reducible refine we_int ?_)
  | (with_reducible refine we_str ?_)
  | (with_reducible refine we_non ?_)
  | (with_reducible refine we_bl ?_)
  | (with_reducible refine wAddI ?_)
  | (with_reducible refine wSubI ?_)
  | (with_reducible refine wMulI ?_)
  | (with_reducible refine wDivI ?_)
  | (with_reducible refine wModI ?_)
  | (with_reducible refine wPowI ?_)
  | (with_reducible refine wLtI ?_)
  | (with_reducible refine wLeI ?_)
  | (with_reducible refine wGtI ?_)
  | (with_reducible refine wGeI ?_)
  | (with_reducible refine wNegI ?_)
  | (with_reducible refine we_eq ?_)
  | (with_reducible refine we_ne ?_)
  | (with_reducible refine we_eqD ?_)
  | (with_reducible refine we_neD ?_)
  | (with_reducible refine we_in ?_)
  | (with_reducible refine we_ixT ?_)
  | (with_reducible refine we_ixL ?_)
  | (with_reducible refine we_tup ?_)
  | (with_reducible refine we_lst ?_)
  | (with_reducible refine we_catT ?_)
  | (with_reducible refine we_catL ?_)
  | (with_reducible refine we_subB ?_)
  | (with_reducible refine we_rep01 ?_)
  | (with_reducible refine wIs0 ?_)
  | (with_reducible refine wNot0 ?_)
  | (with_reducible refine wa_cons ?_)
  | (with_reducible refine wa_nil ?_)
  | (with_reducible refine wt_test ?_)
  | (with_reducible refine wt_B ?_)
  | (with_reducible refine wt_and ?_)
  | (with_reducible refine wt_or ?_)
  | (with_reducible refine wt_not ?_)
  | (with_reducible refine we_ifE ?_)
  | (with_reducible refine we_and ?_)
  | (with_reducible refine we_or ?_)
  | (with_reducible refine wChain ?_)
  | (with_reducible refine wAbs ?_)
  | (with_reducible refine wMax2 ?_)
  | (with_reducible refine wMin2 ?_)
  | (with_reducible refine we_min3 ?_)
  | (with_reducible refine we_gcd ?_)
  | (with_reducible refine wInt1 ?_)
  | (with_reducible refine intOf_bl ?_)
  | (with_reducible refine intOf_int ?_)
  | (with_reducible refine wLenL ?_)
  | (with_reducible refine wTupL ?_)
  | (with_reducible refine we_slT ?_)
  | (refine ⟨_, rfl, ?_⟩)
  | (refine ⟨_, _, rfl, rfl, ?_⟩)
  | (refine ⟨_, _, rfl, ?_⟩)
  | (refine ⟨_, _, _, rfl, ?_⟩)
  | (refine ⟨_, _, _, _, rfl, ?_⟩)
  | (refine ⟨_, _, _, _, _, rfl, ?_⟩)
  | (refine ⟨_, _, _, _, _, _, rfl, ?_⟩)
  | (refine ⟨_, EqV.int _ _, ?_⟩)
  | (refine ⟨_, EqV.str _ _, ?_⟩)
  | (refine ⟨_, EqV.bl _ _, ?_⟩)
  | (refine ⟨Nat.le_of_ble_eq_true rfl, ?_⟩))
local macro_rules | `(tactic| walk_at "nh") => `(tactic| first
  | (with_reducible refine ws_seq ?_)
  | (with_reducible refine ws_ret ?_)
  | (with_reducible refine ws_asg ?_)
  | (with_reducible refine ws_if ?_)
  | (with_reducible refine ws_par ?_)
  | (with_reducible refine ws_par3 ?_)
  | (with_reducible refine ws_next ?_)
  | (with_reducible refine ws_drop ?_)
  | (walk_at "nhe"))
section
variable {P : Program} {w : World} {K : PySem.W.Frag} {mg : Str → Option Value} {base : Heap} {f : Addr} {fd : FuncData}
structure GI (F : Fm) (n d B e S : Int) : Prop where
  le : F.lo ≤ e
  eq : B = d * F.b ^ (F.g + (F.lo.toNat : Int) + (e - F.lo)).toNat
  or : e = F.lo ∨ B ≤ S
theorem GI.pos {F : Fm} (ok : FmOk F) {n d B e S : Int} (hd : 0 < d) (h : GI F n d B e S) : 1 ≤ B := by
  have hb : 1 ≤ F.b := by have := ok.b2; omega
  have p := pow_pos' hb (F.g + (F.lo.toNat : Int) + (e - F.lo)).toNat
  rw [h.eq]
  have : 1 * 1 ≤ d * F.b ^ (F.g + (F.lo.toNat : Int) + (e - F.lo)).toNat := Int.mul_le_mul (by omega) p (by omega) (by omega)
  omega
theorem GI.sz {F : Fm} (ok : FmOk F) {n d B e S : Int} (hd : 0 < d) (zd : d.natAbs < 2 ^ 5000) (zS : S.natAbs < 2 ^ 11500) (h : GI F n d B e S) : B.natAbs < 2 ^ 11500 := by
  have hb : 1 ≤ F.b := by have := ok.b2; omega
  have hp := h.pos ok hd
  rcases h.or with z | z
  · have h1 : F.b ^ (F.g + (F.lo.toNat : Int) + (e - F.lo)).toNat ≤ F.b ^ (F.g.toNat + F.lo.natAbs) := pow_mono hb (by have := ok.g2; omega)
    have h2 := pow_pos' hb (F.g + (F.lo.toNat : Int) + (e - F.lo)).toNat
    have h3 := ok.sl
    have e1 : ((2 ^ 2700 : Nat) : Int) = 2 ^ 2700 := by rw [Int.natCast_pow]; rfl
    have h4 : (F.b ^ (F.g + (F.lo.toNat : Int) + (e - F.lo)).toNat).natAbs < 2 ^ 2700 := by
      generalize (2 : Int) ^ 2700 = A at h3 e1
      generalize (2 : Nat) ^ 2700 = B at e1 ⊢
      omega
    rw [h.eq]
    exact sz_mono (sz_mul zd h4)
  · exact sz_le (by omega) z zS
theorem GI.exp {F : Fm} (ok : FmOk F) {n d B e S : Int} (hd : 0 < d) (zS : S.natAbs < 2 ^ 11500) (h : GI F n d B e S) : e ≤ 20000 := by
  have hlo := ok.l1
  have hlh := ok.lh
  have hhi := ok.h1
  rcases h.or with z | z
  · omega
  · by_cases c : e ≤ 20000
    · exact c
    · exfalso
      have h2 : (2 : Int) ^ 11500 ≤ 2 ^ (F.g + (F.lo.toNat : Int) + (e - F.lo)).toNat := pow_mono (by decide) (by have := ok.g2; omega)
      have h3 := two_le_pow ok.b2 (F.g + (F.lo.toNat : Int) + (e - F.lo)).toNat
      have h4 := h.eq
      have h5 := nat_sz zS
      have p := pow_pos' (b := F.b) (by have := ok.b2; omega) (F.g + (F.lo.toNat : Int) + (e - F.lo)).toNat
      have h6 : 1 * F.b ^ (F.g + (F.lo.toNat : Int) + (e - F.lo)).toNat ≤ d * F.b ^ (F.g + (F.lo.toNat : Int) + (e - F.lo)).toNat := Int.mul_le_mul_of_nonneg_right (by omega) (by omega)
      generalize (2 : Int) ^ 11500 = A at h2 h5
      omega
theorem GI.turn {F : Fm} {n d B e S m : Int} (ok : FmOk F) (h : GI F n d B e S) (hm : 0 ≤ m) (hS : B * F.b ^ m.toNat ≤ S) : GI F n d (B * F.b ^ m.toNat) (e + m) S := by
  refine ⟨by have := h.le; omega, ?_, .inr hS⟩
  rw [h.eq, Int.mul_assoc, ← Int.pow_add]
  congr 2
  have := h.le
  have := ok.g2
  omega
theorem max0 (x : Int) : (if x > 0 then x else 0).toNat = x.toNat := by split <;> omega
theorem many_of {i : Nat} {d : D} (h : ([.int 512, .int 64, .int 8, .int 1] : List D)[i]? = some d) : ∃ m : Int, d = .int m ∧ 1 ≤ m ∧ m ≤ 512 ∧ (i + 1 = 4 → m = 1) := by
  rcases i with _ | _ | _ | _ | i
  · cases h; exact ⟨512, rfl, by omega, by omega, by omega⟩
  · cases h; exact ⟨64, rfl, by omega, by omega, by omega⟩
  · cases h; exact ⟨8, rfl, by omega, by omega, by omega⟩
  · cases h; exact ⟨1, rfl, by omega, by omega, by omega⟩
  · cases h
theorem ok_L_grid (d : Df K mg "_law_grid" (topS 46) P_L_grid f fd) (c1 : Ok P w K mg base 1 "_law_to" P_L_to spW) (m1 : mg "max" = none) (m2 : mg "int" = none) : Ok P w K mg base 2 "_law_grid" P_L_grid sp_L_grid := by
  refine mk_ok d sc_L_grid (fun _ => rfl) fun cdv A outer s H E hr => ⟨_, dv_L_grid hr c1 m1 m2, ?_⟩
  rintro ⟨F, n, d⟩ ⟨ok, hn, hd, zn, zd⟩
  have hb := ok.b2
  have hb2 := ok.b36
  have hg := ok.g2
  have hg2 := ok.g120
  have hlo := ok.l1
  have hlh := ok.lh
  have hhi := ok.h1
  have hb1 : 1 ≤ F.b := by omega
  have zlo := pwp_sz ok (Int.le_refl F.lo) hlh
  unfold t_L_grid
  repeat (walk_at "nh")
  refine c_W ?_
  repeat (walk_at "nh")
  refine ⟨⟨hb1, hb2, by split <;> omega, by split <;> omega⟩, ?_⟩
  repeat (walk_at "nh")
  rw [max0]
  refine ⟨cm zn zlo.2, ?_⟩
  repeat (walk_at "nh")
  refine c_W ?_
  repeat (walk_at "nh")
  refine ⟨⟨hb1, hb2, by split <;> omega, by split <;> omega⟩, ?_⟩
  have eg : (F.g + if F.lo > 0 then F.lo else 0).toNat = (F.g + (F.lo.toNat : Int) + (F.lo - F.lo)).toNat := by split <;> omega
  rw [eg]
  repeat (walk_at "nh")
  refine ⟨cm zd (sz_powE (E := 2000) hb1 hb2 (by omega)), ?_⟩
  repeat (walk_at "nh")
  generalize hS : n * F.b ^ (-F.lo).toNat = S
  have zS : S.natAbs < 2 ^ 11500 := by rw [← hS]; exact sz_mul zn zlo.2
  have g0 : GI F n d (d * F.b ^ (F.g + (F.lo.toNat : Int) + (F.lo - F.lo)).toNat) F.lo S := ⟨Int.le_refl _, rfl, .inl rfl⟩
  generalize d * F.b ^ (F.g + (F.lo.toNat : Int) + (F.lo - F.lo)).toNat = B0 at g0
  refine ws_forT (fun i ρ => ∃ (B e : Int) (x y : Option D), ρ = [some F.D, some (fr n d), some (.int F.b), some (.int F.g), some (.int F.lo), some (.int F.hi), some (.int S), some (.int B), some (.int e), x, y] ∧ GI F n d B e S ∧ (i = 4 → S < B * F.b)) ?_
  repeat (walk_at "nh")
  refine ⟨⟨B0, F.lo, none, none, rfl, g0, fun z => (nomatch z)⟩, ?_, ?_⟩
  · rintro i dm ρ hget ⟨B, e, x, y, rfl, gi, _⟩
    obtain ⟨m, rfl, hm1, hm2, hm3⟩ := many_of hget
    repeat (walk_at "nh")
    refine c_W ?_
    repeat (walk_at "nh")
    refine ⟨⟨hb1, hb2, by omega, by omega⟩, ?_⟩
    repeat (walk_at "nh")
    have zst : (F.b ^ m.toNat).natAbs < 2 ^ 3073 := sz_powE (E := 512) hb1 hb2 (by omega)
    have pst : 2 ≤ F.b ^ m.toNat := by
      have := pow_mono hb1 (show 1 ≤ m.toNat by omega)
      rw [Int.pow_one] at this
      omega
    refine ws_while (fun k ρ => ∃ B e : Int, ρ = [some F.D, some (fr n d), some (.int F.b), some (.int F.g), some (.int F.lo), some (.int F.hi), some (.int S), some (.int B), some (.int e), some (.int m), some (.int (F.b ^ m.toNat))] ∧ GI F n d B e S ∧ k = (S - B).toNat) (S - B).toNat
      ⟨B, e, rfl, gi, rfl⟩ ?_
    rintro k ρ ⟨B, e, rfl, gi, hk⟩
    have zB := gi.sz ok hd zd zS
    have pB := gi.pos ok hd
    repeat (walk_at "nh")
    refine ⟨cm zB zst, ?_⟩
    repeat (walk_at "nh")
    refine br (fun h => ?_) (fun h => ?_)
    · repeat (walk_at "nh")
      refine ⟨cm zB zst, ?_⟩
      repeat (walk_at "nh")
      have hlt : B * 2 ≤ B * F.b ^ m.toNat := Int.mul_le_mul_of_nonneg_left pst (by omega)
      exact ⟨(S - B * F.b ^ m.toNat).toNat, by omega, _, _, rfl, gi.turn ok (by omega) h, rfl⟩
    · refine ⟨B, e, _, _, rfl, gi, fun z => ?_⟩
      have := hm3 z
      subst this
      have e1 : F.b ^ (1 : Int).toNat = F.b := Int.pow_one F.b
      rw [e1] at h
      omega
  · rintro ρ ⟨B, e, x, y, rfl, gi, h4⟩
    have h4 := h4 rfl
    have zB := gi.sz ok hd zd zS
    have eb := gi.exp ok hd zS
    have G := Grid.of_scan ok hd gi.le gi.eq hS.symm h4 gi.or
    repeat (walk_at "nh")
    have ee : (e + if decide (B ≤ S) = true then 1 else 0) = (if B ≤ S then e + 1 else e) := by
      by_cases c : B ≤ S
      · rw [if_pos c, if_pos (decide_eq_true c)]
      · rw [if_neg c, decide_eq_false c]
        exact Int.add_zero e
    rw [ee]
    generalize (if B ≤ S then e + 1 else e) = e' at G ee
    have hl' := G.le
    have he' : e' ≤ 20001 := by rw [← ee]; split <;> omega
    refine c_W ?_
    repeat (walk_at "nh")
    refine ⟨⟨hb1, hb2, by split <;> omega, by split <;> omega⟩, ?_⟩
    rw [max0]
    repeat (walk_at "nh")
    refine ⟨cm zn (sz_powE (E := 20001) hb1 hb2 (by omega)), ?_⟩
    repeat (walk_at "nh")
    refine c_W ?_
    repeat (walk_at "nh")
    refine ⟨⟨hb1, hb2, by split <;> omega, by split <;> omega⟩, ?_⟩
    rw [max0]
    repeat (walk_at "nh")
    refine ⟨cm zd (sz_powE (E := 20001) hb1 hb2 (by omega)), ?_⟩
    repeat (walk_at "nh")
    refine ⟨cd (dn_pos hb1 hd) (grid_dn_sz ok hd zn zd G), ?_⟩
    repeat (walk_at "nh")
    exact G
end
end Nh
set_option Elab.async false
set_option linter.all false
set_option maxRecDepth 100000
set_option maxHeartbeats 4000000
namespace Nh
open PySem PySem.Spec PyProof.Rows L2
local macro_rules | `(tactic| walk_at "nhe") => `(tactic| first
  | (with_reducible refine wg_name ?_)
  | (with_reducible refine wgs_cons ?_)
  | (with_reducible refine wgs_nil ?_)
  | (with_reducible refine wg_tup ?_; refine ⟨_, rfl, rfl, ?_⟩)
  | (with_reducible refine we_nm ?_; refine ⟨_, rfl, ?_⟩)
  | (with_reducible refine we_int ?_)
  | (with_reducible refine we_str ?_)
  | (with_reducible refine we_non ?_)
  | (with_reducible refine we_bl ?_)
  | (with_reducible refine wAddI ?_)
  | (with_reducible refine wSubI ?_)
  | (with_reducible refine wMulI ?_)
  | (with_reducible refine wDivI ?_)
  | (with_reducible refine wModI ?_)
  | (with_reducible refine wPowI ?_)
  | (with_reducible refine wLtI ?_)
  | (with_reducible refine wLeI ?_)
  | (with_reducible refine wGtI ?_)
  | (with_reducible refine wGeI ?_)
  | (with_reducible refine wNegI ?_)
  | (with_reducible refine we_eq ?_)
  | (with_reducible refine we_ne ?_)
  | (with_reducible refine we_eqD ?_)
  | (with_reducible refine we_neD ?_)
  | (with_reducible refine we_in ?_)
  | (with_reducible refine we_ixT ?_)
  | (with_reducible refine we_ixL ?_)
  | (with_reducible refine we_tup ?_)
  | (with_reducible refine we_lst ?_)
  | (with_reducible refine we_catT ?_)
  | (with_reducible refine we_catL ?_)
  | (with_reducible refine we_subB ?_)
  | (with_reducible refine we_rep01 ?_)
  | (with_reducible refine wIs0 ?_)
  | (with_reducible refine wNot0 ?_)
  | (with_reducible refine wa_cons ?_)
  | (with_reducible refine wa_nil ?_)
  | (with_reducible refine wt_test ?_)
  | (with_reducible refine wt_B ?_)
  | (with_reducible refine wt_and ?_)
  | (with_reducible refine wt_or ?_)
  | (with_reducible refine wt_not ?_)
  | (with_reducible refine we_ifE ?_)
  | (with_reducible refine we_and ?_)
  | (with_reducible refine we_or ?_)
  | (with_reducible refine wChain ?_)
  | (with_reducible refine wAbs ?_)
  | (with_reducible refine wMax2 ?_)
  | (with_reducible refine wMin2 ?_)
  | (with_reducible refine we_min3 ?_)
  | (with_reducible refine we_gcd ?_)
  | (with_reducible refine wInt1 ?_)
  | (with_reducible refine intOf_bl ?_)
  | (with_reducible refine intOf_int ?_)
  | (with_reducible refine wLenL ?_)
  | (with_reducible refine wTupL ?_)
  | (with_reducible refine we_slT ?_)
  | (refine ⟨_, rfl, ?_⟩)
  | (refine ⟨_, _, rfl, rfl, ?_⟩)
  | (refine ⟨_, _, rfl, ?_⟩)
  | (refine ⟨_, _, _, rfl, ?_⟩)
  | (refine ⟨_, _, _, _, rfl, ?_⟩)
  | (refine ⟨_, _, _, _, _, rfl, ?_⟩)
  | (refine ⟨_, _, _, _, _, _, rfl, ?_⟩)
  | (refine ⟨_, EqV.int _ _, ?_⟩)
  | (refine ⟨_, EqV.str _ _, ?_⟩)
  | (refine ⟨_, EqV.bl _ _, ?_⟩)
  | (refine ⟨Nat.le_of_ble_eq_true rfl, ?_⟩))
local macro_rules | `(tactic| walk_at "nh") => `(tactic| first
  | (with_reducible refine ws_seq ?_)
  | (with_reducible refine ws_ret ?_)
  | (with_reducible refine ws_asg ?_)
  | (with_reducible refine ws_if ?_)
  | (with_reducible refine ws_par ?_)
  | (with_reducible refine ws_par3 ?_)
  | (with_reducible refine ws_next ?_)
  | (with_reducible refine ws_drop ?_)
  | (walk_at "nhe"))
section
variable {P : Program} {w : World} {K : PySem.W.Frag} {mg : Str → Option Value} {base : Heap} {f : Addr} {fd : FuncData}
theorem gd_dvd_n {n d : Int} : gd n d * (n / gd n d) = n := by
  unfold gd
  exact Int.mul_ediv_cancel' (Int.ofNat_dvd_left.mpr (Nat.gcd_dvd_left _ _))
theorem gd_dvd_d {n d : Int} : gd n d * (d / gd n d) = d := by
  unfold gd
  exact Int.mul_ediv_cancel' (Int.ofNat_dvd_left.mpr (Nat.gcd_dvd_right _ _))
theorem rd_pos {n d : Int} (h : 0 < d) : 0 < d / gd n d := by
  have g := gd_pos (n := n) h
  have e := gd_dvd_d (n := n) (d := d)
  by_cases c : 0 < d / gd n d
  · exact c
  · exfalso
    have : gd n d * (d / gd n d) ≤ gd n d * 0 := Int.mul_le_mul_of_nonneg_left (by omega) (by omega)
    omega
theorem rd_cop {n d : Int} (h : 0 < d) : Nat.Coprime (n / gd n d).natAbs (d / gd n d).natAbs := by
  have hg : 0 < Nat.gcd n.natAbs d.natAbs := Nat.gcd_pos_of_pos_right _ (by omega)
  have e1 : (n / gd n d).natAbs = n.natAbs / Nat.gcd n.natAbs d.natAbs := by
    unfold gd
    rw [Int.natAbs_ediv_of_dvd (Int.ofNat_dvd_left.mpr (Nat.gcd_dvd_left _ _))]
    rfl
  have e2 : (d / gd n d).natAbs = d.natAbs / Nat.gcd n.natAbs d.natAbs := by
    unfold gd
    rw [Int.natAbs_ediv_of_dvd (Int.ofNat_dvd_left.mpr (Nat.gcd_dvd_right _ _))]
    rfl
  rw [e1, e2]
  exact Nat.coprime_div_gcd_div_gcd hg
theorem rd_scale {n d m f : Int} : n * f = gd n d * gd m f * (n / gd n d * (f / gd m f)) := by
  have e1 := gd_dvd_n (n := n) (d := d)
  have e2 := gd_dvd_d (n := m) (d := f)
  calc n * f = (gd n d * (n / gd n d)) * (gd m f * (f / gd m f)) := by rw [e1, e2]
    _ = gd n d * gd m f * (n / gd n d * (f / gd m f)) := by ac_rfl
theorem rd_lt_iff {n d m f : Int} (hd : 0 < d) (hf : 0 < f) : n / gd n d * (f / gd m f) < m / gd m f * (d / gd n d) ↔ n * f < m * d := by
  have g1 := gd_pos (n := n) hd
  have g2 := gd_pos (n := m) hf
  have e1 : n * f = gd n d * gd m f * (n / gd n d * (f / gd m f)) := rd_scale
  have e2 : m * d = gd m f * gd n d * (m / gd m f * (d / gd n d)) := rd_scale
  rw [e1, e2, Int.mul_comm (gd m f) (gd n d)]
  have g : 0 < gd n d * gd m f := Int.mul_pos g1 g2
  constructor
  · intro h
    exact Int.mul_lt_mul_of_pos_left h g
  · intro h
    exact Int.lt_of_mul_lt_mul_left h (Int.le_of_lt g)
theorem rd_eq_iff {n d m f : Int} (hd : 0 < d) (hf : 0 < f) : (n / gd n d = m / gd m f ∧ d / gd n d = f / gd m f) ↔ n * f = m * d := by
  have g1 := gd_pos (n := n) hd
  have g2 := gd_pos (n := m) hf
  have e1 : n * f = gd n d * gd m f * (n / gd n d * (f / gd m f)) := rd_scale
  have e2 : m * d = gd m f * gd n d * (m / gd m f * (d / gd n d)) := rd_scale
  have g : gd n d * gd m f ≠ 0 := by
    have : 0 < gd n d * gd m f := Int.mul_pos g1 g2
    omega
  constructor
  · rintro ⟨h1, h2⟩
    rw [e1, e2, h1, h2]
    ac_rfl
  · intro h
    rw [e1, e2, Int.mul_comm (gd m f) (gd n d)] at h
    have h := Int.eq_of_mul_eq_mul_left g h
    have c1 := rd_cop (n := n) hd
    have c2 := rd_cop (n := m) hf
    have p1 := rd_pos (n := n) hd
    have p2 := rd_pos (n := m) hf
    generalize n / gd n d = a at *
    generalize d / gd n d = b at *
    generalize m / gd m f = c at *
    generalize f / gd m f = x at *
    have hN : a.natAbs * x.natAbs = c.natAbs * b.natAbs := by rw [← Int.natAbs_mul, ← Int.natAbs_mul, h]
    have d1 : b.natAbs ∣ x.natAbs := c1.symm.dvd_of_dvd_mul_left ⟨c.natAbs, by rw [hN, Nat.mul_comm]⟩
    have d2 : x.natAbs ∣ b.natAbs := c2.symm.dvd_of_dvd_mul_left ⟨a.natAbs, by rw [← hN, Nat.mul_comm]⟩
    have e : b.natAbs = x.natAbs := Nat.dvd_antisymm d1 d2
    have e' : b = x := by omega
    subst e'
    exact ⟨Int.eq_of_mul_eq_mul_right (by omega) h, rfl⟩
theorem rd_one {n : Int} : rdD n 1 = fr n 1 := by
  have : gd n 1 = 1 := by
    unfold gd
    have : Nat.gcd n.natAbs (1 : Int).natAbs = 1 := Nat.gcd_one_right _
    rw [this]
    rfl
  unfold rdD
  rw [this, Int.ediv_one, Int.ediv_one]
theorem eqD_fr {a b c d : Int} {Φ : Bool → Prop} (h : Φ (decide (a = c ∧ b = d))) : EqD (fr a b) (fr c d) Φ := eqD_pair h
theorem eqD_rd {n d m f : Int} (hd : 0 < d) (hf : 0 < f) {Φ : Bool → Prop} (h : Φ (decide (n * f = m * d))) : EqD (rdD n d) (rdD m f) Φ := by
  refine eqD_fr ?_
  have e : decide (n / gd n d = m / gd m f ∧ d / gd n d = f / gd m f) = decide (n * f = m * d) := decide_eq_decide.mpr (rd_eq_iff hd hf)
  rw [e]
  exact h
theorem grid_e {F : Fm} (ok : FmOk F) {n d c e : Int} (hd : 0 < d) (zn : n.natAbs < 2 ^ 8800) (zd : d.natAbs < 2 ^ 5000) (g : Grid F n d c e) : -1200 ≤ e ∧ e ≤ 9000 := by
  have hb : 1 ≤ F.b := by have := ok.b2; omega
  have hlo := ok.l1
  have hle := g.le
  refine ⟨by omega, ?_⟩
  by_cases hc : e ≤ 9000
  · exact hc
  · exfalso
    have z := grid_dn_sz ok hd zn zd g
    have h2 : (2 : Int) ^ 9000 ≤ 2 ^ e.toNat := pow_mono (by decide) (by omega)
    have h3 := two_le_pow ok.b2 e.toNat
    have h4 : 1 * F.b ^ e.toNat ≤ d * F.b ^ e.toNat := Int.mul_le_mul_of_nonneg_right (by omega) (by have := pow_pos' hb e.toNat; omega)
    have h5 := nat_sz z
    have h6 : (2 : Int) ^ 8800 ≤ 2 ^ 9000 := pow_mono (by decide) (by decide)
    unfold dn at h5
    generalize (2 : Int) ^ 8800 = A at *
    generalize (2 : Int) ^ 9000 = B at *
    omega
theorem grid_pw {F : Fm} (ok : FmOk F) {n d c e : Int} (hn : 0 ≤ n) (hd : 0 < d) (zn : n.natAbs < 2 ^ 8800) (zd : d.natAbs < 2 ^ 5000) (g : Grid F n d c e) : (F.b ^ e.toNat).natAbs < 2 ^ 8800 ∧ (F.b ^ (-e).toNat).natAbs < 2 ^ 2700 ∧ c.natAbs < 2 ^ 2700 ∧ 0 < F.b ^ (-e).toNat := by
  have hb : 1 ≤ F.b := by have := ok.b2; omega
  have hle := g.le
  have p1 := pow_pos' hb e.toNat
  have p2 := pow_pos' hb (-e).toNat
  refine ⟨?_, ?_, ?_, by omega⟩
  · have z := grid_dn_sz ok hd zn zd g
    have h4 : 1 * F.b ^ e.toNat ≤ d * F.b ^ e.toNat := Int.mul_le_mul_of_nonneg_right (by omega) (by omega)
    unfold dn at z
    exact sz_le (by omega) (by omega) z
  · have h1 : F.b ^ (-e).toNat ≤ F.b ^ (-F.lo).toNat := pow_mono hb (by omega)
    exact sz_le (by omega) h1 (pwp_sz ok (Int.le_refl F.lo) ok.lh).2
  · exact sz_le (g.nn ok hn hd) (Int.le_of_lt (g.top ok hd)) (bg_sz ok)
theorem ok_L_form_of (d : Df K mg "_law_form_of" (topS 51) P_L_form_of f fd) (c1 : Ok P w K mg base 2 "_law_grid" P_L_grid sp_L_grid) : Ok P w K mg base 3 "_law_form_of" P_L_form_of sp_L_form_of := by
  refine mk_ok d sc_L_form_of (fun _ => rfl) fun cdv A outer s H E hr => ⟨_, dv_L_form_of hr c1, ?_⟩
  rintro ⟨F, s, n, d⟩ pre
  unfold t_L_form_of
  repeat (walk_at "nh")
  refine c_L_grid ?_
  repeat (walk_at "nh")
  refine ⟨pre, ?_⟩
  rintro _ ⟨c, e, rfl, G⟩
  repeat (walk_at "nh")
  exact G
theorem ok_L_neighbours (d : Df K mg "_law_neighbours" (topS 47) P_L_neighbours f fd) (c1 : Ok P w K mg base 2 "_law_grid" P_L_grid sp_L_grid) (c2 : Ok P w K mg base 2 "_law_power" P_L_power sp_L_power) (c3 : Ok P w K mg base 3 "_law_multiplied" P_L_multiplied sp_L_multiplied) : Ok P w K mg base 4 "_law_neighbours" P_L_neighbours sp_L_neighbours := by
  refine mk_ok d sc_L_neighbours (fun _ => rfl) fun cdv A outer s H E hr => ⟨_, dv_L_neighbours hr (c_L_grid := c1) (c_L_power := c2) (c_L_multiplied := c3), ?_⟩
  rintro ⟨F, n⟩ ⟨ok, hn, zn⟩
  have hb := ok.b2
  have hb2 := ok.b36
  unfold t_L_neighbours
  repeat (walk_at "nh")
  refine c_L_grid ?_
  repeat (walk_at "nh")
  refine ⟨⟨ok, hn, by decide, sz_mono zn, by decide⟩, ?_⟩
  rintro _ ⟨c, e, rfl, G⟩
  obtain ⟨q1, q2⟩ := grid_e ok (by decide) (sz_mono zn) (by decide) G
  obtain ⟨z1, z2, z3, p2⟩ := grid_pw ok hn (by decide) (sz_mono zn) (by decide) G
  have c0 := G.nn ok hn (by decide)
  repeat (walk_at "nh")
  refine c_L_power ?_
  repeat (walk_at "nh")
  refine ⟨⟨by omega, hb2, by omega, by omega⟩, ?_⟩
  repeat (walk_at "nh")
  refine c_L_multiplied ?_
  repeat (walk_at "nh")
  refine ⟨⟨by decide, p2, sz_mono z3, sz_mono z1, by decide, sz_mono z2⟩, ?_⟩
  repeat (walk_at "nh")
  show EqD (rdD _ _) (fr n 1) _
  rw [← rd_one]
  refine eqD_rd (by omega) (by decide) ?_
  repeat (walk_at "nh")
  have ee : (c * F.b ^ e.toNat * 1 = n * (1 * F.b ^ (-e).toNat)) ↔ c * dn F.b e 1 = up F.b e n := by
    unfold dn up
    rw [Int.one_mul, Int.one_mul, Int.mul_one]
  refine br (fun h => ?_) (fun h => ?_)
  · repeat (walk_at "nh")
    refine ⟨c, e, G, ?_⟩
    rw [if_pos (ee.mp h)]
    rfl
  · repeat (walk_at "nh")
    refine c_L_multiplied ?_
    repeat (walk_at "nh")
    have t := G.top ok (by decide)
    refine ⟨⟨by decide, p2, sz_mono (sz_le (i := c + 1) (by omega) (by omega) (bg_sz ok)), sz_mono z1, by decide, sz_mono z2⟩, ?_⟩
    repeat (walk_at "nh")
    refine ⟨c, e, G, ?_⟩
    rw [if_neg (fun z => h (ee.mpr z))]
    rfl
theorem ok_L_nearer (d : Df K mg "_law_nearer" (topS 50) P_L_nearer f fd) (c1 : Ok P w K mg base 3 "_law_lessened" P_L_lessened sp_L_lessened) (c2 : Ok P w K mg base 1 "_law_is_below" P_L_is_below sp_L_is_below) (m : mg "int" = none) : Ok P w K mg base 4 "_law_nearer" P_L_nearer sp_L_nearer := by
  refine mk_ok d sc_L_nearer (fun _ => rfl) fun cdv A outer s H E hr => ⟨_, dv_L_nearer hr (c_L_lessened := c1) (c_L_is_below := c2) (m_int := m), ?_⟩
  rintro ⟨x, n, d, a1, b1, a2, b2, c⟩ ⟨hd, h1, h2, zn, za1, za2, zd, zb1, zb2⟩
  unfold t_L_nearer
  repeat (walk_at "nh")
  refine ⟨["zero", "lower"], rfl, ?_⟩
  rw [any2]
  repeat (walk_at "nh")
  refine br (fun k1 => ?_) (fun k1 => ?_)
  · repeat (walk_at "nh")
    show fr a1 b1 = neD x n d a1 b1 a2 b2 c
    unfold neD
    rw [if_pos k1]
  repeat (walk_at "nh")
  refine br (fun k2 => ?_) (fun k2 => ?_)
  · repeat (walk_at "nh")
    show fr a2 b2 = neD x n d a1 b1 a2 b2 c
    unfold neD
    rw [if_neg k1, if_pos k2]
  repeat (walk_at "nh")
  refine c_L_lessened ?_
  repeat (walk_at "nh")
  refine ⟨⟨hd, h1, sz_mono zn, sz_mono za1, sz_mono zd, sz_mono zb1⟩, ?_⟩
  repeat (walk_at "nh")
  refine c_L_lessened ?_
  repeat (walk_at "nh")
  refine ⟨⟨h2, hd, sz_mono za2, sz_mono zn, sz_mono zb2, sz_mono zd⟩, ?_⟩
  have y1 : 0 < d * b1 := Int.mul_pos hd h1
  have y2 : 0 < b2 * d := Int.mul_pos h2 hd
  have s1 : (n * b1 - a1 * d).natAbs < 2 ^ 7801 := sz_sub (sz_mono (sz_mul zn zb1)) (sz_mono (sz_mul za1 zd))
  have s2 : (a2 * d - n * b2).natAbs < 2 ^ 7801 := sz_sub (sz_mono (sz_mul za2 zd)) (sz_mono (sz_mul zn zb2))
  have s3 : (d * b1).natAbs < 2 ^ 5600 := sz_mul zd zb1
  have s4 : (b2 * d).natAbs < 2 ^ 5600 := sz_mul zb2 zd
  repeat (walk_at "nh")
  refine eqD_rd y1 y2 ?_
  repeat (walk_at "nh")
  refine br (fun k3 => ?_) (fun k3 => ?_)
  · repeat (walk_at "nh")
    refine br (fun k4 => ?_) (fun k4 => ?_)
    · repeat (walk_at "nh")
      refine ⟨by decide, ?_⟩
      repeat (walk_at "nh")
      refine br (fun k5 => ?_) (fun k5 => ?_)
      · repeat (walk_at "nh")
        show fr a1 b1 = neD x n d a1 b1 a2 b2 c
        unfold neD
        rw [if_neg k1, if_neg k2, if_pos k3, if_pos ⟨k4, k5⟩]
      · repeat (walk_at "nh")
        show fr a2 b2 = neD x n d a1 b1 a2 b2 c
        unfold neD
        rw [if_neg k1, if_neg k2, if_pos k3, if_neg fun z => k5 z.2]
    · repeat (walk_at "nh")
      refine bF ?_
      repeat (walk_at "nh")
      show fr a2 b2 = neD x n d a1 b1 a2 b2 c
      unfold neD
      rw [if_neg k1, if_neg k2, if_pos k3, if_neg fun z => k4 z.1]
  · repeat (walk_at "nh")
    refine c_L_is_below ?_
    repeat (walk_at "nh")
    refine ⟨⟨sz_mono (sz_div (gd_pos y1) s1), sz_mono (sz_div (gd_pos y2) s2), sz_mono (sz_div (gd_pos y1) s3), sz_mono (sz_div (gd_pos y2) s4)⟩, ?_⟩
    repeat (walk_at "nh")
    refine br (fun k4 => ?_) (fun k4 => ?_)
    · repeat (walk_at "nh")
      show fr a1 b1 = neD x n d a1 b1 a2 b2 c
      unfold neD
      rw [if_neg k1, if_neg k2, if_neg k3, if_pos ((rd_lt_iff y1 y2).mp k4)]
    · repeat (walk_at "nh")
      show fr a2 b2 = neD x n d a1 b1 a2 b2 c
      unfold neD
      rw [if_neg k1, if_neg k2, if_neg k3, if_neg fun z => k4 ((rd_lt_iff y1 y2).mpr z)]
theorem greatest_ok {F : Fm} (ok : FmOk F) : (F.b ^ F.hi.toNat).natAbs < 2 ^ 2700 ∧ (F.b ^ (-F.hi).toNat).natAbs < 2 ^ 2700 ∧ 0 < F.b ^ (-F.hi).toNat ∧ 0 ≤ F.b ^ F.g.toNat - 1 ∧ (F.b ^ F.g.toNat - 1).natAbs < 2 ^ 2700 := by
  have hb : 1 ≤ F.b := by have := ok.b2; omega
  have p1 := pow_pos' hb F.g.toNat
  have p2 := pow_pos' hb (-F.hi).toNat
  have z := pwp_sz ok ok.lh (Int.le_refl F.hi)
  exact ⟨z.1, z.2, by omega, by omega, sz_le (by omega) (by omega) (bg_sz ok)⟩
theorem ok_L_number_of (d : Df K mg "_law_number_of" (topS 53) P_L_number_of f fd) (c1 : Ok P w K mg base 1 "_law_sized" P_L_sized sp_L_sized) (c2 : Ok P w K mg base 1 "_law_is_below" P_L_is_below sp_L_is_below) (c3 : Ok P w K mg base 3 "_law_multiplied" P_L_multiplied sp_L_multiplied)
    (c4 : Ok P w K mg base 4 "_law_greatest" P_L_greatest sp_L_greatest) (c5 : Ok P w K mg base 2 "_law_grid" P_L_grid sp_L_grid) (c6 : Ok P w K mg base 2 "_law_power" P_L_power sp_L_power) (m : mg "int" = none) : Ok P w K mg base 5 "_law_number_of" P_L_number_of sp_L_number_of := by
  refine mk_ok d sc_L_number_of (fun _ => rfl) fun cdv A outer s H E hr => ⟨_, dv_L_number_of hr (c_L_sized := c1) (c_L_is_below := c2) (c_L_multiplied := c3) (c_L_greatest := c4) (c_L_grid := c5) (c_L_power := c6) (m_int := m), ?_⟩
  rintro ⟨F, n, d⟩ ⟨ok, hd, zn, zd⟩
  have hb := ok.b2
  have hb2 := ok.b36
  obtain ⟨u1, u2, u3, u4, u5⟩ := greatest_ok ok
  have zi := iabs_sz zn
  have i0 := iabs_nn n
  have y1 : 0 < 1 * F.b ^ (-F.hi).toNat := by omega
  have x1 : ((F.b ^ F.g.toNat - 1) * F.b ^ F.hi.toNat).natAbs < 2 ^ 5400 := sz_mul u5 u1
  have x2 : (1 * F.b ^ (-F.hi).toNat).natAbs < 2 ^ 2700 := by rw [Int.one_mul]; exact u2
  have x3 := sz_div (gd_pos (n := (F.b ^ F.g.toNat - 1) * F.b ^ F.hi.toNat) y1) x1
  have x4 := sz_div (gd_pos (n := (F.b ^ F.g.toNat - 1) * F.b ^ F.hi.toNat) y1) x2
  have x5 := rd_pos (n := (F.b ^ F.g.toNat - 1) * F.b ^ F.hi.toNat) y1
  unfold t_L_number_of
  repeat (walk_at "nh")
  refine c_L_sized ?_
  repeat (walk_at "nh")
  refine ⟨trivial, ?_⟩
  repeat (walk_at "nh")
  refine c_L_is_below ?_
  repeat (walk_at "nh")
  refine c_L_multiplied ?_
  repeat (walk_at "nh")
  refine c_L_greatest ?_
  repeat (walk_at "nh")
  refine ⟨ok, ?_⟩
  repeat (walk_at "nh")
  generalize (F.b ^ F.g.toNat - 1) * F.b ^ F.hi.toNat / gd ((F.b ^ F.g.toNat - 1) * F.b ^ F.hi.toNat) (1 * F.b ^ (-F.hi).toNat) = N at *
  generalize 1 * F.b ^ (-F.hi).toNat / gd ((F.b ^ F.g.toNat - 1) * F.b ^ F.hi.toNat) (1 * F.b ^ (-F.hi).toNat) = M at *
  refine ⟨⟨by decide, x5, sz_mono (a := 2) (by decide), sz_mono x3, by decide, sz_mono x4⟩, ?_⟩
  have y2 : 0 < 1 * M := by omega
  have x6 := sz_mul (i := 2) (a := 2) (by decide) x3
  have x7 : (1 * M).natAbs < 2 ^ 2701 := by rw [Int.one_mul]; exact x4
  repeat (walk_at "nh")
  refine ⟨⟨sz_mono zi, sz_mono (sz_div (gd_pos y2) x6), sz_mono zd, sz_mono (sz_div (gd_pos y2) x7)⟩, ?_⟩
  repeat (walk_at "nh")
  refine brN (fun h => ?_) (fun h => ?_)
  · repeat (walk_at "nh")
    exact .inl rfl
  repeat (walk_at "nh")
  refine c_L_grid ?_
  repeat (walk_at "nh")
  refine ⟨⟨ok, i0, hd, sz_mono zi, sz_mono zd⟩, ?_⟩
  rintro _ ⟨c, e, rfl, G⟩
  obtain ⟨q1, q2⟩ := grid_e ok hd (sz_mono zi) (sz_mono zd) G
  obtain ⟨z1, z2, z3, p2⟩ := grid_pw ok i0 hd (sz_mono zi) (sz_mono zd) G
  have c0 := G.nn ok i0 hd
  have ct := G.top ok hd
  repeat (walk_at "nh")
  refine br (fun h => ?_) (fun h => ?_)
  · repeat (walk_at "nh")
    refine bT ?_
    repeat (walk_at "nh")
    exact .inl rfl
  repeat (walk_at "nh")
  refine c_L_multiplied ?_
  repeat (walk_at "nh")
  refine c_L_power ?_
  repeat (walk_at "nh")
  refine ⟨⟨by omega, hb2, by omega, by omega⟩, ?_⟩
  repeat (walk_at "nh")
  refine ⟨⟨by decide, p2, sz_mono z3, sz_mono z1, by decide, sz_mono z2⟩, ?_⟩
  repeat (walk_at "nh")
  refine eqD_fr ?_
  repeat (walk_at "nh")
  refine brN (fun h => ?_) (fun h => ?_)
  · repeat (walk_at "nh")
    exact .inl rfl
  · repeat (walk_at "nh")
    refine .inr ⟨_, _, _, rfl, ?_, c0, ct, G.le, by omega⟩
    split
    · exact .inr rfl
    · exact .inl rfl
theorem half_iff {r d : Int} (hd : 0 < d) : (r / gd r d = 1 ∧ d / gd r d = 2) ↔ 2 * r = d := by
  have h := rd_eq_iff (n := r) (d := d) (m := 1) (f := 2) hd (by decide)
  have e1 : (1 : Int) / gd 1 2 = 1 := by decide
  have e2 : (2 : Int) / gd 1 2 = 2 := by decide
  rw [e1, e2] at h
  rw [h]
  constructor <;> intro z <;> omega
theorem ceil_of {n d : Int} (hd : 0 < d) : -(-n / d) = n / d + (if n - n / d * d = 0 then 0 else 1) := by
  have h1 := Int.emod_add_mul_ediv n d
  have h2 := Int.emod_nonneg n (by omega : d ≠ 0)
  have h3 := Int.emod_lt_of_pos n hd
  have e : n / d * d = d * (n / d) := Int.mul_comm _ _
  rw [e]
  generalize hq : n / d = q at *
  generalize n % d = r at *
  have en : n = r + d * q := by omega
  by_cases c : r = 0
  · rw [if_pos (by omega)]
    have : -n = d * (-q) := by rw [Int.mul_neg]; omega
    rw [this, Int.mul_ediv_cancel_left _ (by omega)]
    omega
  · rw [if_neg (by omega)]
    have : -n = (d - r) + d * (-q - 1) := by
      rw [Int.mul_sub, Int.mul_neg, Int.mul_one]
      omega
    rw [this, Int.add_mul_ediv_left _ _ (by omega), Int.ediv_eq_zero_of_lt (by omega) (by omega)]
    omega
theorem any3 {x a b c : Str} : ([a, b, c] : List Str).any (fun z => decide (z = x)) = decide (x = a ∨ x = b ∨ x = c) := by
  rw [List.any_cons, any2]
  by_cases h : x = a
  · rw [decide_eq_true h.symm, decide_eq_true (.inl h : x = a ∨ x = b ∨ x = c)]
    rfl
  · have h' : ¬ a = x := fun z => h z.symm
    rw [decide_eq_false h', Bool.false_or]
    exact decide_eq_decide.mpr ⟨.inr, fun z => z.elim (fun q => absurd q h) id⟩
theorem ok_L_due_integer (d : Df K mg "_law_due_integer" (topS 54) P_L_due_integer f fd) (c1 : Ok P w K mg base 2 "_law_over" P_L_over sp_L_over) (c2 : Ok P w K mg base 1 "_law_is_below" P_L_is_below sp_L_is_below) (m : mg "int" = none) : Ok P w K mg base 3 "_law_due_integer" P_L_due_integer sp_L_due_integer := by
  refine mk_ok d sc_L_due_integer (fun _ => rfl) fun cdv A outer s H E hr => ⟨_, dv_L_due_integer hr (c_L_over := c1) (c_L_is_below := c2) (m_int := m), ?_⟩
  rintro ⟨x, n, d⟩ ⟨hd, zn, zd, hw⟩
  have hc := ceil_of (n := n) hd
  have hE := Int.emod_add_mul_ediv n d
  have hr1 := Int.emod_nonneg n (by omega : d ≠ 0)
  have hr2 := Int.emod_lt_of_pos n hd
  have hq := sz_div hd zn
  have em : n / d * d = d * (n / d) := Int.mul_comm _ _
  unfold t_L_due_integer
  repeat (walk_at "nh")
  refine ⟨cd hd zd, ?_⟩
  repeat (walk_at "nh")
  refine c_L_over ?_
  repeat (walk_at "nh")
  refine ⟨cd hd zd, ?_⟩
  repeat (walk_at "nh")
  refine ⟨cm hq zd, ?_⟩
  repeat (walk_at "nh")
  refine ⟨⟨hd, sz_mono zd⟩, ?_⟩
  generalize hR : n - n / d * d = R at *
  have hR0 : 0 ≤ R := by omega
  have hRd : R < d := by omega
  have g0 := gd_pos (n := R) hd
  have eN := gd_dvd_n (n := R) (d := d)
  repeat (walk_at "nh")
  refine br (fun h0 => ?_) (fun h0 => ?_)
  · repeat (walk_at "nh")
    have hR' : R = 0 := by
      rw [← eN, h0, Int.mul_zero]
    rw [if_pos hR'] at hc
    show D.int _ = D.int (nearI x n d)
    unfold nearI
    have hx : x = "down" ∨ n / d = -(-n / d) := .inr (by omega)
    rw [if_pos hx]
  have hRn : R ≠ 0 := fun z => h0 (by rw [z, Int.zero_ediv])
  rw [if_neg hRn] at hc
  have hne : ¬ n / d = -(-n / d) := by omega
  have n0 : n ≠ 0 := fun z => by
    rw [z] at hR
    rw [Int.zero_ediv, Int.zero_mul] at hR
    omega
  repeat (walk_at "nh")
  refine ⟨["up", "down", "zero"], rfl, ?_⟩
  rw [any3]
  repeat (walk_at "nh")
  refine br (fun h1 => ?_) (fun h1 => ?_)
  · repeat (walk_at "nh")
    refine br (fun h2 => ?_) (fun h2 => ?_)
    · repeat (walk_at "nh")
      show D.int _ = D.int (nearI x n d)
      unfold nearI
      have hx : ¬ (x = "down" ∨ n / d = -(-n / d)) := fun z => z.elim (fun q => by
        rw [h2] at q
        exact absurd q (by decide)) hne
      rw [if_neg hx, if_pos h2, hc]
      rfl
    repeat (walk_at "nh")
    refine br (fun h3 => ?_) (fun h3 => ?_)
    · repeat (walk_at "nh")
      show D.int _ = D.int (nearI x n d)
      unfold nearI
      have hx : ¬ (x = "down" ∨ n / d = -(-n / d)) := fun z => z.elim (fun q => by
        rw [h3] at q
        exact absurd q (by decide)) hne
      rw [if_neg hx, if_neg h2, if_pos h3, hc]
      by_cases k : n < 0
      · rw [decide_eq_true k, if_neg (show ¬ 0 < n by omega)]
        rfl
      · rw [decide_eq_false k, if_pos (show 0 < n by omega)]
        exact congrArg D.int (Int.add_zero _)
    · repeat (walk_at "nh")
      have h4 : x = "down" := by
        rcases h1 with z | z | z
        · exact absurd z h2
        · exact z
        · exact absurd z h3
      show D.int _ = D.int (nearI x n d)
      unfold nearI
      have hx : x = "down" ∨ n / d = -(-n / d) := .inl h4
      rw [if_pos hx]
      exact congrArg D.int (Int.add_zero _)
  have hlow : nearI x n d = nearerI x n d (n / d) := by
    unfold nearI
    have hx : ¬ (x = "down" ∨ n / d = -(-n / d)) := fun z => z.elim (fun q => h1 (.inr (.inl q))) hne
    have hx2 : ¬ x = "up" := fun z => h1 (.inl z)
    have hx3 : ¬ x = "zero" := fun z => h1 (.inr (.inr z))
    rw [if_neg hx, if_neg hx2, if_neg hx3]
  repeat (walk_at "nh")
  refine eqD_fr ?_
  repeat (walk_at "nh")
  have hh := half_iff (r := R) hd
  refine brN (fun h => ?_) (fun h => ?_)
  · repeat (walk_at "nh")
    refine c_L_is_below ?_
    repeat (walk_at "nh")
    have zR : R.natAbs < 2 ^ 4000 := sz_le hR0 (Int.le_of_lt hRd) zd
    refine ⟨⟨sz_mono (a := 2) (by decide), sz_mono (sz_div g0 zR), sz_mono (a := 2) (by decide), sz_mono (sz_div g0 zd)⟩, ?_⟩
    repeat (walk_at "nh")
    have hl := rd_lt_iff (n := 1) (d := 2) (m := R) (f := d) (by decide) hd
    have e1 : (1 : Int) / gd 1 2 = 1 := by decide
    have e2 : (2 : Int) / gd 1 2 = 2 := by decide
    rw [e1, e2] at hl
    have h' : 2 * R ≠ d := fun z => h (hh.mpr z)
    show D.int _ = D.int (nearI x n d)
    rw [hlow]
    unfold nearerI
    rw [hR, if_pos h']
    by_cases k : d < 2 * R
    · rw [decide_eq_true (hl.mpr (by omega)), if_pos k]
      rfl
    · rw [decide_eq_false fun z => k (by have := hl.mp z; omega), if_neg k]
      rfl
  · have h' := hh.mp h
    repeat (walk_at "nh")
    refine br (fun k => ?_) (fun k => ?_)
    · repeat (walk_at "nh")
      show D.int _ = D.int (nearI x n d)
      rw [hlow]
      unfold nearerI
      have hx : ¬ 2 * R ≠ d := fun z => z h'
      have hx2 : ¬ x = "even" := fun z => by
        rw [k] at z
        exact absurd z (by decide)
      rw [hR, if_neg hx, if_neg hx2]
      by_cases q : 0 < n
      · rw [decide_eq_true q, if_pos q]
        rfl
      · rw [decide_eq_false q, if_neg q]
        rfl
    · repeat (walk_at "nh")
      refine ⟨by decide, ?_⟩
      repeat (walk_at "nh")
      have he : x = "even" := by
        rcases hw with z | z | z | z | z
        · exact z
        · exact absurd z k
        · exact absurd (.inl z) h1
        · exact absurd (.inr (.inl z)) h1
        · exact absurd (.inr (.inr z)) h1
      show D.int _ = D.int (nearI x n d)
      rw [hlow]
      unfold nearerI
      have hx : ¬ 2 * R ≠ d := fun z => z h'
      rw [hR, if_neg hx, if_pos he]
      by_cases q : n / d % 2 = 1
      · rw [decide_eq_true q, q]
        rfl
      · rw [decide_eq_false q]
        have : n / d % 2 = 0 := by omega
        rw [this]
        rfl
end
end Nh
set_option Elab.async false
set_option linter.all false
set_option maxRecDepth 100000
set_option maxHeartbeats 4000000
namespace Nh
open PySem PySem.Spec PyProof.Rows L2
local macro_rules | `(tactic| walk_at "nhe") => `(tactic| first
  | (with_reducible refine wg_name ?_)
  | (with_reducible refine wgs_cons ?_)
  | (with_reducible refine wgs_nil ?_)
  | (with_reducible refine wg_tup ?_; refine ⟨_, rfl, rfl, ?_⟩)
  | (with_reducible refine we_nm ?_; refine ⟨_, rfl, ?_⟩)
  | (with_reducible refine we_int ?_)
  | (with_reducible refine we_str ?_)
  | (with_reducible refine we_non ?_)
  | (with_reducible refine we_bl ?_)
  | (with_reducible refine wAddI ?_)
  | (with_reducible refine wSubI ?_)
  | (with_reducible refine wMulI ?_)
  | (with_reducible refine wDivI ?_)
  | (with_reducible refine wModI ?_)
  | (with_reducible refine wPowI ?_)
  | (with_reducible refine wLtI ?_)
  | (with_reducible refine wLeI ?_)
  | (with_reducible refine wGtI ?_)
  | (with_reducible refine wGeI ?_)
  | (with_reducible refine wNegI ?_)
  | (with_reducible refine we_eq ?_)
  | (with_reducible refine we_ne ?_)
  | (with_reducible refine we_eqD ?_)
  | (with_reducible refine we_neD ?_)
  | (with_reducible refine we_in ?_)
  | (with_reducible refine we_ixT ?_)
  | (with_reducible refine we_ixL ?_)
  | (with_reducible refine we_tup ?_)
  | (with_reducible refine we_lst ?_)
  | (with_reducible refine we_catT ?_)
  | (with_reducible refine we_catL ?_)
  | (with_reducible refine we_subB ?_)
  | (with_reducible refine we_rep01 ?_)
  | (with_reducible refine wIs0 ?_)
  | (with_reducible refine wNot0 ?_)
  | (with_reducible refine wa_cons ?_)
  | (with_reducible refine wa_nil ?_)
  | (with_reducible refine wt_test ?_)
  | (with_reducible refine wt_B ?_)
  | (with_reducible refine wt_and ?_)
  | (with_reducible refine wt_or ?_)
  | (with_reducible refine wt_not ?_)
  | (with_reducible refine we_ifE ?_)
  | (with_reducible refine we_and ?_)
  | (with_reducible refine we_or ?_)
  | (with_reducible refine wChain ?_)
  | (with_reducible refine wAbs ?_)
  | (with_reducible refine wMax2 ?_)
  | (with_reducible refine wMin2 ?_)
  | (with_reducible refine we_min3 ?_)
  | (with_reducible refine we_gcd ?_)
  | (with_reducible refine wInt1 ?_)
  | (with_reducible refine intOf_bl ?_)
  | (with_reducible refine intOf_int ?_)
  | (with_reducible refine wLenL ?_)
  | (with_reducible refine wTupL ?_)
  | (with_reducible refine we_slT ?_)
  | (refine ⟨_, rfl, ?_⟩)
  | (refine ⟨_, _, rfl, rfl, ?_⟩)
  | (refine ⟨_, _, rfl, ?_⟩)
  | (refine ⟨_, _, _, rfl, ?_⟩)
  | (refine ⟨_, _, _, _, rfl, ?_⟩)
  | (refine ⟨_, _, _, _, _, rfl, ?_⟩)
  | (refine ⟨_, _, _, _, _, _, rfl, ?_⟩)
  | (refine ⟨_, EqV.int _ _, ?_⟩)
  | (refine ⟨_, EqV.str _ _, ?_⟩)
  | (refine ⟨_, EqV.bl _ _, ?_⟩)
  | (refine ⟨Nat.le_of_ble_eq_true rfl, ?_⟩))
local macro_rules | `(tactic| walk_at "nh") => `(tactic| first
  | (with_reducible refine ws_seq ?_)
  | (with_reducible refine ws_ret ?_)
  | (with_reducible refine ws_asg ?_)
  | (with_reducible refine ws_if ?_)
  | (with_reducible refine ws_par ?_)
  | (with_reducible refine ws_par3 ?_)
  | (with_reducible refine ws_next ?_)
  | (with_reducible refine ws_drop ?_)
  | (walk_at "nhe"))
section
variable {P : Program} {w : World} {K : PySem.W.Frag} {mg : Str → Option Value} {base : Heap} {f : Addr} {fd : FuncData}
def fmB (F : Fm) : Bool := decide (2 ≤ F.b) && decide (F.b ≤ 36) && decide (F.b % 2 = 0) && decide (2 ≤ F.g) && decide (F.g ≤ 120) && decide (F.lo ≤ F.hi) && decide (-1200 ≤ F.lo) && decide (F.hi ≤ 1200) && decide (F.b ^ (F.g.toNat + F.lo.natAbs) < 2 ^ 2700) && decide (F.b ^ (F.g.toNat + F.hi.natAbs) < 2 ^ 2700)
theorem fm_ok {F : Fm} (h : fmB F = true) : FmOk F := by
  unfold fmB at h
  rw [Bool.and_eq_true, Bool.and_eq_true, Bool.and_eq_true, Bool.and_eq_true, Bool.and_eq_true, Bool.and_eq_true, Bool.and_eq_true, Bool.and_eq_true, Bool.and_eq_true] at h
  obtain ⟨⟨⟨⟨⟨⟨⟨⟨⟨h1, h2⟩, h3⟩, h4⟩, h5⟩, h6⟩, h7⟩, h8⟩, h9⟩, h10⟩ := h
  exact ⟨of_decide_eq_true h1, of_decide_eq_true h2, of_decide_eq_true h3, of_decide_eq_true h4, of_decide_eq_true h5, of_decide_eq_true h6, of_decide_eq_true h7, of_decide_eq_true h8, of_decide_eq_true h9, of_decide_eq_true h10⟩
theorem fm_list (L : List Fm) (h : L.all fmB = true) {x : D} (hx : x ∈ L.map Fm.D) : ∃ F : Fm, FmOk F ∧ x = F.D := by
  obtain ⟨F, hF, rfl⟩ := List.mem_map.mp hx
  exact ⟨F, fm_ok (List.all_eq_true.mp h F hF), rfl⟩
def fms1 : List Fm := [⟨2, 2, 0, 0⟩, ⟨2, 2, -3, 2⟩, ⟨2, 3, -4, 3⟩, ⟨4, 2, -2, 1⟩, ⟨10, 2, -2, 1⟩, ⟨6, 2, -1, 2⟩, ⟨2, 4, -2, 2⟩, ⟨4, 2, 1, 3⟩, ⟨2, 3, 2, 5⟩, ⟨10, 2, -6, -5⟩]
def fms2 : List Fm := [⟨2, 24, -149, 104⟩, ⟨2, 11, -24, 5⟩, ⟨10, 7, -101, 90⟩, ⟨36, 3, -5, 4⟩, ⟨16, 6, -70, 57⟩, ⟨10, 34, -60, 40⟩, ⟨2, 8, -133, 120⟩, ⟨20, 2, 0, 3⟩, ⟨10, 16, -98, 69⟩, ⟨2, 53, -120, 60⟩, ⟨10, 20, 5, 60⟩, ⟨2, 30, -90, -40⟩, ⟨14, 5, -9, 9⟩, ⟨22, 4, 1, 8⟩]
def fms3 : List Fm := [⟨2, 53, -1074, 971⟩, ⟨10, 16, -398, 369⟩, ⟨36, 120, -200, 200⟩, ⟨2, 120, -1200, 1080⟩, ⟨10, 100, -700, 700⟩, ⟨2, 24, -1200, 1200⟩, ⟨2, 40, -300, 300⟩, ⟨10, 16, -300, 300⟩]
theorem fms1_ok : fms1.all fmB = true := by decide +kernel
theorem fms2_ok : fms2.all fmB = true := by decide +kernel
theorem fms3_ok : fms3.all fmB = true := by decide +kernel
theorem lead_ok {F : Fm} (ok : FmOk F) : 2 ≤ F.b ^ (F.g - 1).toNat ∧ F.b ^ F.g.toNat = F.b ^ (F.g - 1).toNat * F.b ∧ 2 * F.b ^ (F.g - 1).toNat ≤ F.b ^ F.g.toNat := by
  have hb := ok.b2
  have hg := ok.g2
  have e : F.g.toNat = (F.g - 1).toNat + 1 := by omega
  have p := pow_mono (b := F.b) (by omega) (show 1 ≤ (F.g - 1).toNat by omega)
  rw [Int.pow_one] at p
  have h2 : F.b ^ F.g.toNat = F.b ^ (F.g - 1).toNat * F.b := by rw [e, Int.pow_succ]
  have h3 : F.b ^ (F.g - 1).toNat * 2 ≤ F.b ^ (F.g - 1).toNat * F.b := Int.mul_le_mul_of_nonneg_left hb (by omega)
  exact ⟨by omega, h2, by omega⟩
theorem ok_L_edges (d : Df K mg "_law_edges" (topS 42) P_L_edges f fd) (c1 : Ok P w K mg base 1 "_law_to" P_L_to spW) : Ok P w K mg base 2 "_law_edges" P_L_edges sp_L_edges := by
  refine mk_ok d sc_L_edges (fun _ => rfl) fun cdv A outer s H E hr => ⟨_, dv_L_edges hr (c_L_to := c1), ?_⟩
  rintro F ok
  have hb := ok.b2
  have hb2 := ok.b36
  have hg := ok.g2
  have hg2 := ok.g120
  have hlh := ok.lh
  obtain ⟨l1, l2, l3⟩ := lead_ok ok
  unfold t_L_edges
  repeat (walk_at "nh")
  refine c_W ?_
  repeat (walk_at "nh")
  refine ⟨⟨by omega, hb2, by omega, by omega⟩, ?_⟩
  repeat (walk_at "nh")
  refine c_W ?_
  repeat (walk_at "nh")
  refine ⟨⟨by omega, hb2, by omega, by omega⟩, ?_⟩
  generalize F.b ^ (F.g - 1).toNat = L at *
  repeat (walk_at "nh")
  refine ⟨cd2, ?_⟩
  repeat (walk_at "nh")
  have key : ∀ c e : Int, 0 ≤ c → c < F.b ^ F.g.toNat → F.lo ≤ e → e ≤ F.hi → ∀ x, x = numD 0 c e → ∃ c e : Int, x = numD 0 c e ∧ NumOk F 0 c e := fun c e a1 a2 a3 a4 x hx => ⟨c, e, hx, .inl rfl, a1, a2, a3, a4⟩
  intro x hx
  have hx : x ∈ [numD 0 0 F.lo, numD 0 1 F.lo, numD 0 (L - 1) F.lo, numD 0 L F.lo, numD 0 (L + 1) F.lo, numD 0 (F.b ^ F.g.toNat - 1) F.lo, numD 0 L F.hi, numD 0 (F.b ^ F.g.toNat - 1) F.hi, numD 0 (F.b ^ F.g.toNat - 1 - 1) F.hi, numD 0 (L + L / 2) F.hi] := hx
  rw [List.mem_cons, List.mem_cons, List.mem_cons, List.mem_cons, List.mem_cons, List.mem_cons, List.mem_cons, List.mem_cons, List.mem_cons, List.mem_cons] at hx
  rcases hx with h | h | h | h | h | h | h | h | h | h | h
  · exact key _ _ (by omega) (by omega) (by omega) (by omega) _ h
  · exact key _ _ (by omega) (by omega) (by omega) (by omega) _ h
  · exact key _ _ (by omega) (by omega) (by omega) (by omega) _ h
  · exact key _ _ (by omega) (by omega) (by omega) (by omega) _ h
  · exact key _ _ (by omega) (by omega) (by omega) (by omega) _ h
  · exact key _ _ (by omega) (by omega) (by omega) (by omega) _ h
  · exact key _ _ (by omega) (by omega) (by omega) (by omega) _ h
  · exact key _ _ (by omega) (by omega) (by omega) (by omega) _ h
  · exact key _ _ (by omega) (by omega) (by omega) (by omega) _ h
  · exact key _ _ (by omega) (by omega) (by omega) (by omega) _ h
  · cases h
end
end Nh
set_option Elab.async false
set_option linter.all false
set_option maxRecDepth 100000
set_option maxHeartbeats 1000000
/-! the same judgements, with the draws from the bag counted -/
namespace Nh
open PySem PySem.Spec PyProof.Rows L2
theorem BagOk.more {m n : Nat} {β : Bag} {H : Hp} (b : BagOk m β H) (h : m ≤ n) : BagOk n β H := by
  obtain ⟨b0, b1, b2, h1, h2⟩ := b
  exact ⟨b0, b1, b2, h1, by omega⟩
def NE (n : Nat) (te : TE) (ρ : Env) (Φ : Nat → D → Prop) : Prop := ∀ β σ H Q, BagOk n β H → RepO β H σ ρ → (∀ m v d H', ExB β H H' → BagOk m β H' → Rep β H' v d → Φ m d → Q v H') → te σ H Q
def NT (n : Nat) (tt : TT) (ρ : Env) (Φ : Nat → Bool → Prop) : Prop := ∀ β σ H (Q : Bool → Hp → Prop), BagOk n β H → RepO β H σ ρ → (∀ m b H', ExB β H H' → BagOk m β H' → Φ m b → Q b H') → tt σ H Q
def NA (n : Nat) (ta : TA) (ρ : Env) (Φ : Nat → List D → Prop) : Prop := ∀ β σ H (Q : List V → Hp → Prop), BagOk n β H → RepO β H σ ρ → (∀ m vs ds H', ExB β H H' → BagOk m β H' → RepL β H' vs ds → Φ m ds → Q vs H') → ta σ H Q
structure EndsN where
  nx : Nat → Env → Prop
  rt : Nat → D → Prop
  bk : Nat → Env → Prop := fun _ _ => False
  ct : Nat → Env → Prop := fun _ _ => False
structure EOkN (β : Bag) (H : Hp) (Φ : EndsN) (E : Ends) : Prop where
  nx : ∀ m σ ρ H', ExB β H H' → BagOk m β H' → RepO β H' σ ρ → Φ.nx m ρ → E.nx σ H'
  rt : ∀ m v d H', ExB β H H' → BagOk m β H' → Rep β H' v d → Φ.rt m d → E.rt v H'
  bk : ∀ m σ ρ H', ExB β H H' → BagOk m β H' → RepO β H' σ ρ → Φ.bk m ρ → E.bk σ H'
  ct : ∀ m σ ρ H', ExB β H H' → BagOk m β H' → RepO β H' σ ρ → Φ.ct m ρ → E.ct σ H'
theorem EOkN.mono {β : Bag} {H H1 : Hp} {Φ : EndsN} {E : Ends} (k : EOkN β H Φ E) (e : ExB β H H1) : EOkN β H1 Φ E :=
  ⟨fun m σ ρ H' a => k.nx m σ ρ H' (e.trans a), fun m v d H' a => k.rt m v d H' (e.trans a), fun m σ ρ H' a => k.bk m σ ρ H' (e.trans a), fun m σ ρ H' a => k.ct m σ ρ H' (e.trans a)⟩
def NS (n : Nat) (ts : TS) (ρ : Env) (Φ : EndsN) : Prop := ∀ β σ H E, BagOk n β H → RepO β H σ ρ → EOkN β H Φ E → ts E σ H
section
variable {n : Nat} {ρ : Env} {Φ : Nat → D → Prop} {ta tb te : TE} {tt uu : TT} {K : PySem.W.Frag} {Ω : EndsN} {ts us : TS}
/-- without a draw -/
theorem n_lift (h : WE te ρ (Φ n)) : NE n te ρ Φ := fun β σ H Q b r q => h n β σ H Q b r fun v d H' e b' r' k => q n v d H' e b' r' k
theorem nt_lift {Ψ : Nat → Bool → Prop} (h : WT tt ρ (Ψ n)) : NT n tt ρ Ψ := fun β σ H Q b r q => h n β σ H Q b r fun c H' e b' k => q n c H' e b' k
theorem n_op {r : R2} {R : D → D → (D → Prop) → Prop} (s : OpS r R) (h : NE n ta ρ fun n x => NE n tb ρ fun n y => R x y (Φ n)) : NE n (tOp r ta tb) ρ Φ := fun β σ H Q b r q =>
  h β σ H _ b r fun m1 x dx H1 e1 b1 r1 k1 => k1 β σ H1 _ b1 (r.mono e1) fun m2 y dy H2 e2 b2 r2 k2 => s m2 β H2 x y dx dy (Φ m2) Q b2 (r1.mono e2) r2 k2 fun v d H' e b r => q m2 v d H' ((e1.trans e2).trans e) b r
theorem nAdd (h : NE n ta ρ fun n x => NE n tb ρ fun n y => ∃ i j, x = .int i ∧ y = .int j ∧ Φ n (.int (i + j))) : NE n (tOp rAddI ta tb) ρ Φ := n_op (os_I0 (f := fun i j => .int (i + j)) fun _ _ _ _ => .int _) h
theorem nSub (h : NE n ta ρ fun n x => NE n tb ρ fun n y => ∃ i j, x = .int i ∧ y = .int j ∧ Φ n (.int (i - j))) : NE n (tOp rSubI ta tb) ρ Φ := n_op (os_I0 (f := fun i j => .int (i - j)) fun _ _ _ _ => .int _) h
theorem nMul (h : NE n ta ρ fun n x => NE n tb ρ fun n y => ∃ i j, x = .int i ∧ y = .int j ∧ CMulW i j ∧ Φ n (.int (i * j))) : NE n (tOp rMulI ta tb) ρ Φ := n_op (os_I (f := fun i j => .int (i * j)) fun _ _ _ _ => .int _) h
theorem nLt (h : NE n ta ρ fun n x => NE n tb ρ fun n y => ∃ i j, x = .int i ∧ y = .int j ∧ Φ n (.bl (decide (i < j)))) : NE n (tOp rLtI ta tb) ρ Φ := n_op (os_I0 (f := fun i j => .bl (decide (i < j))) fun _ _ _ _ => .bl _) h
theorem nGt (h : NE n ta ρ fun n x => NE n tb ρ fun n y => ∃ i j, x = .int i ∧ y = .int j ∧ Φ n (.bl (decide (j < i)))) : NE n (tOp rGtI ta tb) ρ Φ := n_op (os_I0 (f := fun i j => .bl (decide (j < i))) fun _ _ _ _ => .bl _) h
theorem nEq (h : NE n ta ρ fun n x => NE n tb ρ fun n y => ∃ b, EqV x y b ∧ Φ n (.bl b)) : NE n (tOp rEq ta tb) ρ Φ := n_op os_eq h
theorem nIxL (h : NE n ta ρ fun n x => NE n tb ρ fun n y => ∃ ds i d, x = .lst ds ∧ y = .int i ∧ L2.atI ds i = some d ∧ Φ n d) : NE n (tOp (rIxL K) ta tb) ρ Φ :=
  n_op (R := fun x y Φ => ∃ ds i d, x = .lst ds ∧ y = .int i ∧ L2.atI ds i = some d ∧ Φ d) (by
    intro bn β H x y dx dy Φ Q b rx ry ⟨ds, i, d, e1, e2, e3, k⟩ q
    subst e1 e2
    cases ry
    cases rx with
    | lst n n2 hh r =>
      obtain ⟨v, h1, h2⟩ := r.atI e3
      exact ⟨_, _, i, v, rfl, rfl, SqL.of hh, h1, here q b h2 k⟩) h
theorem nCat (h : NE n ta ρ fun n x => NE n tb ρ fun n y => ∃ as bs, x = .lst as ∧ y = .lst bs ∧ as.length + bs.length ≤ 1000 ∧ Φ n (.lst (as ++ bs))) : NE n (tOp rCat ta tb) ρ Φ :=
  n_op (R := fun x y Φ => ∃ as bs, x = .lst as ∧ y = .lst bs ∧ as.length + bs.length ≤ 1000 ∧ Φ (.lst (as ++ bs))) (by
    intro bn β H x y dx dy Φ Q b rx ry ⟨as, bs, e1, e2, hl, k⟩ q
    subst e1 e2
    cases rx with
    | lst na na2 ha rA =>
    cases ry with
    | lst nb nb2 hb rB =>
      refine ⟨_, _, _, _, rfl, rfl, ha, hb, sz100 (by rw [rA.len, rB.len]; exact hl), fun p hp => ?_⟩
      exact here_new q b hp (.lst (b.live hp) (b.live2 hp) upd_same ((rA.append rB).mono (.new hp))) k) h
theorem na_nil {Φ : Nat → List D → Prop} (k : Φ n []) : NA n tNil ρ Φ := fun β σ H Q b r q => q n [] [] H (.refl H) b .nil k
theorem na_cons {Φ : Nat → List D → Prop} {tr : TA} (h : NE n ta ρ fun n x => NA n tr ρ fun n xs => Φ n (x :: xs)) : NA n (tCons ta tr) ρ Φ := fun β σ H Q b r q =>
  h β σ H _ b r fun m1 x dx H1 e1 b1 r1 k1 => k1 β σ H1 _ b1 (r.mono e1) fun m2 xs dxs H2 e2 b2 r2 k2 => q m2 _ _ H2 (e1.trans e2) b2 (.cons (r1.mono e2) r2) k2
theorem n_tup {ta : TA} (h : NA n ta ρ fun n ds => ds.length ≤ 1000 ∧ Φ n (.tup ds)) : NE n (tTup ta) ρ Φ := fun β σ H Q b r q =>
  h β σ H _ b r fun m vs ds H1 e1 b1 r1 ⟨hl, k⟩ => ⟨sz100 (by rw [r1.len]; exact hl), fun p hp => q m _ _ _ (e1.trans (.new hp)) (b1.upd hp) (.tup (b1.live hp) upd_same (r1.mono (.new hp))) k⟩
theorem n_lst {ta : TA} (h : NA n ta ρ fun n ds => ds.length ≤ 1000 ∧ Φ n (.lst ds)) : NE n (tLst ta) ρ Φ := fun β σ H Q b r q =>
  h β σ H _ b r fun m vs ds H1 e1 b1 r1 ⟨hl, k⟩ => ⟨sz100 (by rw [r1.len]; exact hl), fun p hp => q m _ _ _ (e1.trans (.new hp)) (b1.upd hp) (.lst (b1.live hp) (b1.live2 hp) upd_same (r1.mono (.new hp))) k⟩
variable {Ψ : Nat → Bool → Prop}
theorem nt_test (h : NE n te ρ fun n x => ∃ b, x = .bl b ∧ Ψ n b) : NT n (tTest te) ρ Ψ := fun β σ H Q b r q =>
  h β σ H _ b r fun m v dx H1 e1 b1 r1 ⟨c, ec, k⟩ => by
    subst ec
    cases r1
    exact ⟨c, rfl, q m c H1 e1 b1 k⟩
theorem nt_B (h : NE n te ρ fun n x => ∃ b, x = .bl b ∧ Ψ n b) : NT n (tB te) ρ Ψ := fun β σ H Q b r q =>
  h β σ H _ b r fun m v dx H1 e1 b1 r1 ⟨c, ec, k⟩ => by
    subst ec
    cases r1
    exact ⟨c, rfl, q m c H1 e1 b1 k⟩
theorem nt_not (h : NT n tt ρ fun n c => Ψ n (!c)) : NT n (tNot tt) ρ Ψ := fun β σ H Q b r q => h β σ H _ b r fun m c H1 e1 b1 k => q m _ H1 e1 b1 k
theorem nt_and (h : NT n tt ρ fun n c => (c = true → NT n uu ρ Ψ) ∧ (c = false → Ψ n false)) : NT n (tAnd tt uu) ρ Ψ := fun β σ H Q b r q =>
  h β σ H _ b r fun m c H1 e1 b1 ⟨k1, k2⟩ => by
    cases c with
    | true => exact iteT (k1 rfl β σ H1 _ b1 (r.mono e1) fun m' c' H2 e2 b2 k => q m' c' H2 (e1.trans e2) b2 k)
    | false => exact iteF (q m false H1 e1 b1 (k2 rfl))
theorem n_ifE (h : NT n tt ρ fun n c => (c = true → NE n ta ρ Φ) ∧ (c = false → NE n tb ρ Φ)) : NE n (tIf tt ta tb) ρ Φ := fun β σ H Q b r q =>
  h β σ H _ b r fun m c H1 e1 b1 ⟨k1, k2⟩ => by
    cases c with
    | true => exact iteT (k1 rfl β σ H1 _ b1 (r.mono e1) fun m' v d H2 e2 b2 r2 k => q m' v d H2 (e1.trans e2) b2 r2 k)
    | false => exact iteF (k2 rfl β σ H1 _ b1 (r.mono e1) fun m' v d H2 e2 b2 r2 k => q m' v d H2 (e1.trans e2) b2 r2 k)
/-- a call of a def that draws nothing -/
theorem n_call0 {ι : Type} {args : ι → List D} {P : ι → Prop} {R : ι → D → Prop} {E : XK} {ta : TA} (h : NA n ta ρ fun n ds => ∃ i, ds = args i ∧ P i ∧ ∀ d, R i d → Φ n d) :
    NE n (tCall (spA args P R) [] E ta) ρ Φ := fun β σ H Q b r q =>
  h β σ H _ b r fun m vs ds H1 e1 b1 r1 ⟨i, ei, hp, k⟩ => ⟨m, β, i, b1, by rw [List.append_nil, ← ei]; exact r1, hp, fun v d H2 e2 b2 r2 p => q m v d H2 (e1.trans e2) b2 r2 (k d p)⟩
/-- the promise of a def that draws at most c -/
def spT {ι : Type} (c : Nat) (args : ι → List D) (P : ι → Prop) (R : ι → D → Prop) : Sp := fun vs H Q _ => ∃ n β i, BagOk n β H ∧ RepL β H vs (args i) ∧ P i ∧ n + c ≤ 100000 ∧ KE_ (n + c) β H (R i) Q
theorem n_callT {c : Nat} {ι : Type} {args : ι → List D} {P : ι → Prop} {R : ι → D → Prop} {E : XK} {ta : TA} (h : NA n ta ρ fun n ds => ∃ i, ds = args i ∧ (P i ∧ n + c ≤ 100000) ∧ ∀ d, R i d → Φ (n + c) d) :
    NE n (tCall (spT c args P R) [] E ta) ρ Φ := fun β σ H Q b r q =>
  h β σ H _ b r fun m vs ds H1 e1 b1 r1 ⟨i, ei, ⟨hp, hc⟩, k⟩ => ⟨m, β, i, b1, by rw [List.append_nil, ← ei]; exact r1, hp, hc, fun v d H2 e2 b2 r2 p => q _ v d H2 (e1.trans e2) b2 r2 (k d p)⟩
theorem ns_next (k : Ω.nx n ρ) : NS n tNext ρ Ω := fun β σ H E b r q => q.nx n σ ρ H (.refl H) b r k
theorem ns_seq (h : NS n ts ρ { Ω with nx := fun n ρ' => NS n us ρ' Ω }) : NS n (tSeq ts us) ρ Ω := fun β σ H E b r q =>
  h β σ H { E with nx := us E } b r ⟨fun m σ' ρ' H' e b' r' k => k β σ' H' E b' r' (q.mono e), q.rt, q.bk, q.ct⟩
theorem ns_asg {g : TG} (h : NE n te ρ fun n d => WG g d ρ (Ω.nx n)) : NS n (tAsg te g) ρ Ω := fun β σ H E b r q =>
  h β σ H _ b r fun m v d H1 e1 b1 r1 k => k m β σ H1 v _ b1 (r.mono e1) r1 fun σ' ρ' r' k' => q.nx m σ' ρ' H1 e1 b1 r' k'
theorem ns_par {i j : Nat} {ta : TA} (h : NA n ta ρ fun n ds => ∃ x y, ds = [x, y] ∧ Ω.nx n ((ρ.set i (some x)).set j (some y))) : NS n (tPar i j ta) ρ Ω := fun β σ H E b r q =>
  h β σ H _ b r fun m vs ds H1 e1 b1 r1 ⟨x, y, e, k⟩ => by
    subst e
    cases r1 with
    | cons r1 r2 =>
      cases r2 with
      | cons r2 r3 =>
        cases r3
        exact ⟨_, _, rfl, q.nx m _ _ H1 e1 b1 (((r.mono e1).set r1 i).set r2 j) k⟩
theorem ns_ret (h : NE n te ρ Ω.rt) : NS n (tRet te) ρ Ω := fun β σ H E b r q => h β σ H _ b r fun m v d H1 e1 b1 r1 k => q.rt m v d H1 e1 b1 r1 k
theorem ns_if (h : NT n tt ρ fun n c => (c = true → NS n ts ρ Ω) ∧ (c = false → NS n us ρ Ω)) : NS n (tIfS tt ts us) ρ Ω := fun β σ H E b r q =>
  h β σ H _ b r fun m c H1 e1 b1 ⟨k1, k2⟩ => by
    cases c with
    | true => exact iteT (k1 rfl β σ H1 E b1 (r.mono e1) (q.mono e1))
    | false => exact iteF (k2 rfl β σ H1 E b1 (r.mono e1) (q.mono e1))
/-- for over a tuple, over a list -/
theorem ns_forT {g : TG} (I : Nat → Nat → Env → Prop) (h : NE n te ρ fun n x => ∃ ds, x = .tup ds ∧ I 0 n ρ ∧
    (∀ i d n ρ', ds[i]? = some d → I i n ρ' → WG g d ρ' fun ρ2 => NS n ts ρ2 { Ω with nx := I (i + 1), ct := I (i + 1), bk := Ω.nx }) ∧ ∀ n ρ', I ds.length n ρ' → Ω.nx n ρ') : NS n (tFor (iTup K te) g ts) ρ Ω := fun β σ H E b r q =>
  h β σ H _ b r fun m v dx H1 e1 b1 r1 ⟨ds, ex, h0, hs, hd⟩ => by
    subst ex
    cases r1 with
    | tup nn hh rr =>
      rename_i a xs
      refine ⟨a, rfl, ⟨xs, SqT.of hh⟩, for_tup (xs := xs) (fun i σ' H' => ∃ m ρ', ExB β H1 H' ∧ BagOk m β H' ∧ RepO β H' σ' ρ' ∧ I i m ρ') ⟨m, ρ, .refl H1, b1, r.mono e1, h0⟩ (fun i σ' H' hi ⟨m', ρ', e, _⟩ => SqT.of (e _ _ nn hh)) ?_ ?_⟩
      · rintro i x σ' H' hx ⟨m', ρ', e, b', r', hi⟩
        obtain ⟨d, hd1, hd2⟩ := rr.got hx
        refine hs i d m' ρ' hd1 hi m' β σ' H' x _ b' r' (hd2.mono e) fun σ2 ρ2 r2 k => ?_
        have e2 := e1.trans e
        exact k β σ2 H' _ b' r2 ⟨fun m3 σ3 ρ3 H3 e3 b3 r3 k3 => ⟨m3, ρ3, e.trans e3, b3, r3, k3⟩, fun m3 v d H3 e3 b3 r3 k3 => q.rt m3 v d H3 (e2.trans e3) b3 r3 k3, fun m3 σ3 ρ3 H3 e3 b3 r3 k3 => q.nx m3 σ3 ρ3 H3 (e2.trans e3) b3 r3 k3, fun m3 σ3 ρ3 H3 e3 b3 r3 k3 => ⟨m3, ρ3, e.trans e3, b3, r3, k3⟩⟩
      · rintro σ' H' ⟨m', ρ', e, b', r', hi⟩
        exact q.nx m' σ' ρ' H' (e1.trans e) b' r' (hd m' ρ' (by rw [← rr.len]; exact hi))
theorem ns_forL {g : TG} (I : Nat → Nat → Env → Prop) (h : NE n te ρ fun n x => ∃ ds, x = .lst ds ∧ I 0 n ρ ∧
    (∀ i d n ρ', ds[i]? = some d → I i n ρ' → WG g d ρ' fun ρ2 => NS n ts ρ2 { Ω with nx := I (i + 1), ct := I (i + 1), bk := Ω.nx }) ∧ ∀ n ρ', I ds.length n ρ' → Ω.nx n ρ') : NS n (tFor (iList K te) g ts) ρ Ω := fun β σ H E b r q =>
  h β σ H _ b r fun m v dx H1 e1 b1 r1 ⟨ds, ex, h0, hs, hd⟩ => by
    subst ex
    cases r1 with
    | lst nn n2 hh rr =>
      rename_i a xs
      refine ⟨a, rfl, ⟨xs, SqL.of hh⟩, for_list (xs := xs) (fun i σ' H' => ∃ m ρ', ExB β H1 H' ∧ BagOk m β H' ∧ RepO β H' σ' ρ' ∧ I i m ρ') ⟨m, ρ, .refl H1, b1, r.mono e1, h0⟩ (fun i σ' H' hi ⟨m', ρ', e, _⟩ => SqL.of (e _ _ nn hh)) ?_ ?_⟩
      · rintro i x σ' H' hx ⟨m', ρ', e, b', r', hi⟩
        obtain ⟨d, hd1, hd2⟩ := rr.got hx
        refine hs i d m' ρ' hd1 hi m' β σ' H' x _ b' r' (hd2.mono e) fun σ2 ρ2 r2 k => ?_
        have e2 := e1.trans e
        exact k β σ2 H' _ b' r2 ⟨fun m3 σ3 ρ3 H3 e3 b3 r3 k3 => ⟨m3, ρ3, e.trans e3, b3, r3, k3⟩, fun m3 v d H3 e3 b3 r3 k3 => q.rt m3 v d H3 (e2.trans e3) b3 r3 k3, fun m3 σ3 ρ3 H3 e3 b3 r3 k3 => q.nx m3 σ3 ρ3 H3 (e2.trans e3) b3 r3 k3, fun m3 σ3 ρ3 H3 e3 b3 r3 k3 => ⟨m3, ρ3, e.trans e3, b3, r3, k3⟩⟩
      · rintro σ' H' ⟨m', ρ', e, b', r', hi⟩
        exact q.nx m' σ' ρ' H' (e1.trans e) b' r' (hd m' ρ' (by rw [← rr.len]; exact hi))
/-- [e for k in range(z)], each element at c draws at most -/
theorem n_lcR {ta : TA} {j : Nat} (c : Nat) (P : D → Prop) (hP : ∀ d, P d → d.nl = true)
    (h : NA n ta ρ fun n ds => ∃ z : Int, ds = [.int z] ∧ 0 ≤ z ∧ z ≤ 1000 ∧ (∀ (i : Int) (m : Nat), m + c ≤ n + z.toNat * c → NE m te ((ρ.set j none).set j (some (.int i))) fun m' d => m' ≤ m + c ∧ P d) ∧ (∀ (m : Nat) (ds : List D), m ≤ n + z.toNat * c → (ds.length : Int) = z → (∀ d ∈ ds, P d) → Φ m (.lst ds))) :
    NE n (tLc (iRng1 ta) (gName j) tYes te [j]) ρ Φ := fun β σ H Q b r q =>
  h β σ H _ b r fun m vs ds H1 e1 b1 r1 ⟨z, en, h0, h1, hw, hd⟩ => by
    subst en
    cases r1 with
    | cons r1 r2 =>
      cases r1; cases r2
      refine ⟨z, rfl, by omega, by omega, fun L hL => ?_⟩
      refine lc_range (lo := 0) (n := z.toNat) (fun i H' => ∃ m' xs ds, m' ≤ m + i * c ∧ ExB β H1 H' ∧ BagOk m' β H' ∧ H' L = some (.lst xs) ∧ RepL β H' xs ds ∧ D.nlL ds = true ∧ (∀ d ∈ ds, P d) ∧ ds.length = i)
        ⟨m, [], [], by omega, .new hL, b1.upd hL, upd_same, .nil, rfl, fun _ z => absurd z List.not_mem_nil, rfl⟩ ?_ ?_
      · rintro i H' hi ⟨m', xs, ds, hm, e, b', hx, rx, hn, hp, hlen⟩
        show wipe (((σ.set j none).set j _)) [j] = _ ∧ _
        refine ⟨by rw [wipe1, wipe1, List.set_set, List.set_set], ?_⟩
        unfold tYes
        dsimp only
        rw [if_pos rfl]
        have rO : RepO β H' ((σ.set j none).set j (some (.int (0 + (i : Int))))) ((ρ.set j none).set j (some (.int (0 + (i : Int))))) := ((r.mono (e1.trans e)).wipe j).set (.int _) j
        have hic : i * c + c ≤ z.toNat * c := by
          have : (i + 1) * c ≤ z.toNat * c := Nat.mul_le_mul_right c hi
          rw [Nat.succ_mul] at this
          exact this
        refine hw (0 + (i : Int)) m' (by omega) β _ H' _ b' rO fun m4 v d H4 e4 b4 r4 ⟨km, k4⟩ => ?_
        have hx4 : H4 L = some (.lst xs) := e4 _ _ (b1.live hL) hx
        refine ⟨xs, hx4, Nat.lt_of_lt_of_le (show xs.length < 1001 by rw [rx.len]; omega) (by decide), m4, xs ++ [v], ds ++ [d], by rw [Nat.succ_mul]; omega, ?_, b4.write (b1.live hL) (b1.live2 hL), upd_same, ?_, nlL_append hn (nlL_one (hP d k4)), ?_, by rw [List.length_append, hlen]; rfl⟩
        · intro a u na ha
          rw [upd_ne (ne_of_none ha hL)]
          exact e4 a u na (e a u na ha)
        · exact ((rx.mono e4).keep hx4 hn).snoc (r4.keep hx4 (hP d k4))
        · intro d' hd'
          rcases List.mem_append.mp hd' with z | z
          · exact hp d' z
          · rw [List.mem_singleton.mp z]
            exact k4
      · rintro H' ⟨m', xs, ds, hm, e, b', hx, rx, hn, hp, hlen⟩
        exact q m' _ _ H' (e1.trans e) b' (.lst (b1.live hL) (b1.live2 hL) hx rx) (hd m' ds hm (by omega) hp)
end
section
variable {P : Program} {w : World} {K : PySem.W.Frag} {mg : Str → Option Value} {base : Heap} {k c : Nat} {x : Str} {ps N : List Str} {sp : Sp} {st : Stmt} {f : Addr} {fd : FuncData}
theorem mk_okT {ι : Type} {args : ι → List D} {Pre : ι → Prop} {R : ι → D → Prop} (d : Df K mg x st ps f fd) (S : FnScope N ps (defScope st)) (hl : ∀ i, (args i).length = ps.length)
    (body : ∀ (cdv : Value) (A : Around) (outer : List PySem.Env) (s : Shared) (H : Hp) (E : XK), Room k (A.deeper (envOfC x (defScope st) s.heap.objs.size f cdv)) →
      ∃ t, PSs (cxOf CX0 P w K mg base N x (defScope st) f cdv A outer s H E).nox (defBody st) t ∧
        ∀ i n, Pre i → n + c ≤ 100000 → NS n t ((args i).map some ++ List.replicate (N.length - ps.length) none) { nx := fun m _ => m ≤ n + c ∧ R i .non, rt := fun m d => m ≤ n + c ∧ R i d }) :
    Ok P w K mg base (k + 1) x ps (spT c args Pre R) := by
  refine ⟨f, fd, d.F.ok S (fun vs H Q E h => ?_) (fun cdv A outer s H vs Q E hr h => ?_), d.g, d.F.kp, d.b⟩
  · obtain ⟨n, β, i, _, r, _⟩ := h
    rw [r.len, hl]
  · obtain ⟨n, β, i, b, r, p, hc, q⟩ := h
    obtain ⟨t, ht, hw⟩ := body cdv A outer s H E hr
    refine ⟨t, ht, ?_⟩
    have hn : N.length - vs.length = N.length - ps.length := by rw [r.len, hl]
    refine hw i n p hc β (L2.start N vs) H _ b ?_ ⟨fun m σ ρ H' e b' r' k => q .non .non H' e (b'.more k.1) .non k.2, fun m v d H' e b' r' k => q v d H' e (b'.more k.1) r' k.2, fun m σ ρ H' e b' r' k => k.elim, fun m σ ρ H' e b' r' k => k.elim⟩
    unfold L2.start
    rw [hn]
    exact RepO.args r (RepO.blank _)
end
end Nh
set_option Elab.async false
set_option linter.all false
set_option maxRecDepth 100000
set_option maxHeartbeats 2000000
/-! defs that are called where no repr is under way -/
namespace Nh
open PySem PySem.Spec PyProof.Rows L2
/-- a def's promise where nothing is being shown -/
structure FnG (P : Program) (w : World) (K : PySem.W.Frag) (mg : Str → Option Value) (base : Heap) (k : Nat)
    (f : Addr) (fd : FuncData) (ps : List Str) (sp : Sp) : Prop where
  ln : ∀ vs H Q E, sp vs H Q E → vs.length = ps.length
  go : ∀ (A : Around) (outer : List PySem.Env) (s : Shared) (H : Hp) (args : Args) (us : List Value) (vs : List V) (Q : VK) (E : XK),
    A.guards = some [] → Room k A → Env0 P w K mg base A outer s H →
    BindsTo s fd args (ps.zip us) → Vals vs us → sp vs H Q E →
    codeAny (model P w) A (.call (.ref f) args) (CR CX0 outer P w H s Q E) s
structure OkG (P : Program) (w : World) (K : PySem.W.Frag) (mg : Str → Option Value) (base : Heap) (k : Nat) (x : Str) (ps : List Str) (sp : Sp) : Prop where
  ex : ∃ f fd, FnG P w K mg base k f fd ps sp ∧ mg x = some (.ref f) ∧ PySem.W.keepIn K (.ref f) = true ∧ Binds K fd ps []
section
variable {P : Program} {w : World} {K : PySem.W.Frag} {mg : Str → Option Value} {base : Heap} {k : Nat} {x : Str} {ps N : List Str} {sp : Sp} {st : Stmt} {f : Addr} {fd : FuncData}
/-- from the body to the promise -/
theorem mk_fnG (d : Df K mg x st ps f fd) (S : FnScope N ps (defScope st)) (len : ∀ vs H Q E, sp vs H Q E → vs.length = ps.length)
    (body : ∀ (cv : Value) (A : Around) (outer : List PySem.Env) (s : Shared) (H : Hp) (vs : List V) (Q : VK) (E : XK),
      (A.deeper (envOfC x (defScope st) s.heap.objs.size f cv)).guards = some [] → Room k (A.deeper (envOfC x (defScope st) s.heap.objs.size f cv)) → sp vs H Q E →
      ∃ t, PSs (cxOf CX0 P w K mg base N x (defScope st) f cv A outer s H E).nox (defBody st) t ∧ t { nx := fun _ H' => Q .non H', rt := Q } (L2.start N vs) H) :
    FnG P w K mg base (k + 1) f fd ps sp := by
  obtain ⟨oc, od, kV, doc, pm, an, cv, ct, osl, efd, lk, hcd⟩ := d.F.ex
  subst efd
  refine ⟨len, ?_⟩
  intro A outer s H args us vs Q E hG hR e0 hB hV hS
  have hL := len _ _ _ _ hS
  have kin : K.In s.heap := e0.mod.kin.keeps fun a o e => (e0.bs a o e).1
  have noL : s.heap.NoLimit := e0.mod.nolimit.keeps fun a o e => (e0.bs a o e).1
  have kinds : ∀ y ∈ ps.zip us, (defScope st).names.lookup y.1 = some .local ∨
      ((defScope st).names.lookup y.1 = some .cell ∧ ((cellsFrom (s.heap.objs.size + 1) (defScope st).names []).lookup y.1).isSome = true) := by
    rintro ⟨m, v⟩ hy
    exact (S.par m (List.of_mem_zip hy).1).imp id fun z => ⟨z, PySem.W.cellsFrom_some _ _ _ (.inl z)⟩
  refine codeAny_call_function hR.depth (kin _ _ lk) rfl S.co S.gen rfl (PySem.W.codeRec_of kin hcd) (hB _ _ _ _ ?_)
  refine wpAny_newFunctionEnv_cells S.kind kinds fun ev hev s1 made => ?_
  subst hev
  refine ⟨noL.keeps made.toInCall.keep, codeAny_func ?_⟩
  obtain ⟨t, hP, hT⟩ := body cv A outer s H vs Q E hG (hR.deeper _) hS
  have J0 : Inv (cxOf CX0 P w K mg base N x (defScope st) f cv A outer s H E) [] (L2.start N vs) H s1 := inv_start S hR.hd e0 hL hV made
  refine wpAny_mono (hP.nox.run [] s1 (L2.start N vs) H _ J0 hT) (fun fl s' hs => ?_) fun _ _ z => z
  cases fl with
  | brk =>
    obtain ⟨_, _, _, z⟩ := hs
    exact z.elim
  | cont =>
    obtain ⟨_, _, _, z⟩ := hs
    exact z.elim
  | next =>
    obtain ⟨σ', H', J, z⟩ := hs
    exact ⟨.non, H', J.os, J.bare, J.base, J.hok, rfl, z⟩
  | ret u =>
    obtain ⟨v, σ', H', J, rv, z⟩ := hs
    exact ⟨v, H', J.os, J.bare, J.base, J.hok, rv, z⟩
theorem mk_okG {ι : Type} {args : ι → List D} {Pre : ι → Prop} {R : ι → D → Prop} (d : Df K mg x st ps f fd) (S : FnScope N ps (defScope st)) (hl : ∀ i, (args i).length = ps.length)
    (body : ∀ (cdv : Value) (A : Around) (outer : List PySem.Env) (s : Shared) (H : Hp) (E : XK), (A.deeper (envOfC x (defScope st) s.heap.objs.size f cdv)).guards = some [] → Room k (A.deeper (envOfC x (defScope st) s.heap.objs.size f cdv)) →
      ∃ t, PSs (cxOf CX0 P w K mg base N x (defScope st) f cdv A outer s H E).nox (defBody st) t ∧
        ∀ i, Pre i → WS t ((args i).map some ++ List.replicate (N.length - ps.length) none) { nx := fun _ => R i .non, rt := R i }) :
    OkG P w K mg base (k + 1) x ps (spA args Pre R) := by
  refine ⟨f, fd, mk_fnG d S (fun vs H Q E h => ?_) (fun cdv A outer s H vs Q E hg hr h => ?_), d.g, d.F.kp, d.b⟩
  · obtain ⟨bn, β, i, _, r, _⟩ := h
    rw [r.len, hl]
  · obtain ⟨bn, β, i, b, r, p, q⟩ := h
    obtain ⟨t, ht, hw⟩ := body cdv A outer s H E hg hr
    refine ⟨t, ht, ?_⟩
    have hn : N.length - vs.length = N.length - ps.length := by rw [r.len, hl]
    refine hw i p bn β (L2.start N vs) H _ b ?_ ⟨fun σ ρ H' e b' r' k => q .non .non H' e b' .non k, fun v d H' e b' r' k => q v d H' e b' r' k, fun σ ρ H' e b' r' k => k.elim, fun σ ρ H' e b' r' k => k.elim⟩
    unfold L2.start
    rw [hn]
    exact RepO.args r (RepO.blank _)
end
section
variable {X : Cx} {k j : Nat} {x : Str} {ps : List Str} {sp : Sp} {p pos : Pos} {e : Expr} {es : List Expr} {t : TA}
/-- a call of such a def -/
theorem pe_okG (C : OkG X.prog X.w X.K X.mg X.base k x ps sp) (hG : X.A.guards = some []) (hr : Room j X.A) (hg : Gl X x) (ha : PA X (e :: es) t) (hx : Passes CX0 X E0 := by exact pass0) (hk : k ≤ j := by decide) (hdb : (x == ("__debug__" : Str)) = false := by decide)
    (he : starEach (e :: es) X.env = (false, eval e X.env) :: starEach es X.env := by rfl) (hpl : (backTo pos (starEach es X.env)).any (·.1) = false := by rfl) :
    PE X (.Call (.Name x p) (e :: es) [] pos) (tCall sp [] E0 t) := by
  obtain ⟨f, fd, F, m, kp, b⟩ := C.ex
  refine ⟨fun pins s σ H Q I h => wpAny_Call_Name_kw (ld_glob I hg m ?_ hdb)⟩
  refine PySem.W.callWith_K (h₀ := X.base) I.ok.mod.kin kp (thn (ha.run pos pins s σ H _ I h) ?_) he hpl
  intro us s1 ⟨vs, H1, I1, r, q⟩
  refine ⟨I1.kIn, ?_⟩
  have r2 : Vals (vs ++ []) (us ++ []) := r.append .nil
  have hl : (us ++ []).length = ps.length := by
    rw [← r2.length]
    exact F.ln _ _ _ _ q
  refine wpAny_call (codeAny_mono (F.go X.A X.stack s1 H1 ⟨us, []⟩ (us ++ []) (vs ++ []) Q E0 hG (hr.mono hk) I1.env0 (b s1 us I1.kIn hl) r2 q) fun r s' hq => ?_)
  cases r with
  | error e => exact hx pins σ H1 s1 e s' I1 hq
  | ok fl =>
    cases fl with
    | ret u => exact I1.after hq
    | _ => exact hq.elim
end
end Nh
set_option Elab.async false
set_option linter.all false
set_option maxRecDepth 100000
set_option maxHeartbeats 2000000
/-! what an int of many digits, and a tuple of such, shows -/
namespace Nh
open PySem PySem.Spec PyProof.Rows L2
section
variable {prog : Program} {w : World} {A : Around} {E : Value → Shared → Prop} {s : Shared} {K : PySem.W.Frag} {h₀ : Heap}
theorem within_limit {i : Int} {Q : Option Nat → Shared → Prop} (hK : K.In s.heap) (hL : LimOk K) (hz : i.natAbs.log2 < 6000) (q : Q none s) : wpAny (model prog w) A (Builtin.overDigitLimit? i) Q E s := by
  unfold Builtin.overDigitLimit?
  by_cases c : i.natAbs.log2 < 1920
  · rw [if_pos c]
    exact wpAny_pure q
  · rw [if_neg c]
    unfold Builtin.intMaxStrDigits
    refine wpAny_bind (wpAny_bind (PySem.W.looks_nsIn hK hL A _ E s (fun _ _ e => e) ?_))
    refine wpAny_pure ?_
    dsimp only
    rw [if_neg (show ¬ i.natAbs.log2 / 30 + 1 > 1000 by omega)]
    have e : ((4300 : Nat) == 0 || decide (i.natAbs.log2 < 3 * 4300)) = true := by
      rw [decide_eq_true (show i.natAbs.log2 < 3 * 4300 by omega), Bool.or_true]
    rw [if_pos e]
    exact wpAny_pure q
theorem big_text {i : Int} (hz : i.natAbs.log2 < 6000) : (Str.ofString (toString i)).length ≤ 6001 := by
  rw [PySem.ofString_length]
  exact int_text_length_le (by decide) hz
theorem big_repr {i : Int} {t : Tok} {Q : Value → Shared → Prop} (hK : K.In s.heap) (hL : LimOk K) (hz : i.natAbs.log2 < 6000) (q : Q (.str (toString i) s.toks) { s with toks := s.toks + 1 }) :
    wpAny (model prog w) A (call (.builtin "int.__repr__") [.int i t]) Q E s := by
  refine wpAny_call (codeAny_call_builtin F.slot_int_repr.plain F.entry_int_repr (F.slot_int_repr.check _ _ _ _ _ _ _ _ (typeIs_int _ i t) (F.args_int_repr_1 _) ?_))
  unfold Builtin.«int.__repr__»
  show wpAny _ _ (do let r ← Builtin.overDigitLimit? i; _) _ _ s
  exact wpAny_bind (within_limit hK hL hz (wpAny_bind (wpAny_mkStr (wpAny_pure q) (Nat.le_trans (big_text hz) (by decide)))))
theorem big_reprObj {i : Int} {t : Tok} {Q : Value → Shared → Prop} (hK : K.In s.heap) (hL : LimOk K) (hz : i.natAbs.log2 < 6000) (q : Q (.str (toString i) s.toks) { s with toks := s.toks + 1 }) :
    wpAny (model prog w) A (pyReprObj (.int i t)) Q E s := by
  have hv : [Value.int i t].any Value.onHeap = false := rfl
  unfold pyReprObj
  simp only [cRoomFor, hv, Bool.false_eq_true, if_false, pure_bind]
  refine wpAny_bind (wpAny_specialOf (name := Str.ofString "__repr__") (typeIs_int s i t) F.slot_int_repr.lookup ?_)
  refine wpAny_bind (m := callSpecialIfBound? (.int i t) (Str.ofString "__repr__")) (wpAny_callSpecialIfBound?_slot (name := Str.ofString "__repr__") (typeIs_int s i t) F.slot_int_repr (big_repr hK hL hz ?_))
  exact wpAny_bind (wpAny_isInstance (T := "str") (b := true) rfl isSubtype_str_str (wpAny_pure q))
theorem reprK_big {i : Int} {t : Tok} {as : List Addr} {d : Nat} (hK : K.In h₀) (hL : LimOk K) (hz : i.natAbs.log2 < 6000) : ReprK prog w as h₀ d (.int i t) (toString i) := by
  intro n hn A g E s Q hg hc hu hk hq
  have hn' : n ≤ sizeLine := by omega
  rw [pyReprUnder_leaf (v := .int i t) hn' (fun _ e => nomatch e)]
  unfold pyRepr
  exact wpAny_bind (big_reprObj (hK.keeps hk) hL hz (wpAny_pure (hq s.heap _ fun _ _ e => e)))
end
mutual
/-- tuples of ints of some thousand bits, of texts, of nothing -/
def pyBig : PyData → Bool
  | .none => true
  | .int i => decide (i.natAbs.log2 < 6000)
  | .str _ => true
  | .tuple xs => pyBigL xs
  | _ => false
def pyBigL : List PyData → Bool
  | [] => true
  | x :: xs => pyBig x && pyBigL xs
end
section
variable {prog : Program} {w : World} {K : PySem.W.Frag} {h₀ : Heap}
mutual
theorem big_reads (hK : K.In h₀) (hL : LimOk K) : ∀ {v : Value} {d : PyData} {as : List Addr}, Reads h₀ v d as → pyBig d = true → d.shown.length ≤ sizeLine → ∃ bs, ReadAtMost h₀ d.depth bs ∧ ReprK prog w bs h₀ d.depth v d.shown
  | _, _, _, .none, _, _ => ⟨[], (fun _ h => nomatch h), by simp only [PyData.shown]; exact .of_is ReprIs.none _ _ _⟩
  | _, _, _, .int i t, hb, _ => ⟨[], (fun _ h => nomatch h), by simp only [PyData.shown]; exact reprK_big hK hL (by simpa [pyBig] using hb)⟩
  | _, _, _, .str x t, _, hz => ⟨[], (fun _ h => nomatch h), by simp only [PyData.shown] at hz ⊢; exact .of_is (ReprIs.str x t hz) _ _ _⟩
  | _, _, _, .tuple (a := a) (xs := xs) h1 h2 h3 h4, hb, hz => by
    simp only [PyData.shown] at hz
    simp only [pyBig] at hb
    obtain ⟨bs, hm, hk⟩ := big_readsL hK hL h4 hb fun t ht => Nat.le_trans (tupleText_mem_le ht) hz
    have r : Reads h₀ (.ref a) (.tuple xs) _ := .tuple h1 h2 h3 h4
    refine ⟨a :: bs, ReadAtMost.cons r (by simp only [PyData.depth]; omega) hm, ?_⟩
    simp only [PyData.depth, PyData.shown]
    exact ReprK.tuple h1 h2 h3 (not_mem_of_deeper r (by simp only [PyData.depth]; omega) hm) hk
  | _, _, _, .bool _, hb, _ => by simp [pyBig] at hb
  | _, _, _, .list _ _ _ _, hb, _ => by simp [pyBig] at hb
  | _, _, _, .dict _ _ _ _ _, hb, _ => by simp [pyBig] at hb
theorem big_readsL (hK : K.In h₀) (hL : LimOk K) : ∀ {vs : List Value} {ds : List PyData} {as : List Addr}, ReadsAll h₀ vs ds as → pyBigL ds = true → (∀ t ∈ PyData.shownAll ds, t.length ≤ sizeLine) → ∃ bs, ReadAtMost h₀ (PyData.depthAll ds) bs ∧ ReprAllK prog w bs h₀ (PyData.depthAll ds) vs (PyData.shownAll ds)
  | _, _, _, .nil, _, _ => ⟨[], (fun _ h => nomatch h), by simp only [PyData.shownAll]; exact .nil⟩
  | _, _, _, .cons (d := d) (ds := ds) r rs, hb, hz => by
    simp only [pyBigL, Bool.and_eq_true] at hb
    obtain ⟨b1, m1, k1⟩ := big_reads hK hL r hb.1 (hz _ (by simp only [PyData.shownAll]; exact List.mem_cons_self))
    obtain ⟨b2, m2, k2⟩ := big_readsL hK hL rs hb.2 fun t ht => hz t (by simp only [PyData.shownAll]; exact List.mem_cons_of_mem _ ht)
    have l1 : d.depth ≤ PyData.depthAll (d :: ds) := by simp only [PyData.depthAll]; omega
    have l2 : PyData.depthAll ds ≤ PyData.depthAll (d :: ds) := by simp only [PyData.depthAll]; omega
    refine ⟨b1 ++ b2, (m1.mono l1).append (m2.mono l2), ?_⟩
    simp only [PyData.shownAll]
    exact .cons ((k1.more fun _ h => List.mem_append_left _ h).level_le l1) (k2.more_le (fun _ h => List.mem_append_right _ h) l2)
end
end
/-- repr of a tuple of such -/
def rReprD (K : PySem.W.Frag) : List V → Hp → VK → Prop := fun xs H Q => ∃ a d, xs = [.ref a] ∧ Dp K H (.ref a) d ∧ pyBig d = true ∧ d.shown.length ≤ sizeLine ∧ d.depth ≤ 50 ∧ Q (.str d.shown) H
theorem call_reprD {X : Cx} (hg : X.A.guards = some []) (hu : X.A.units + 64 < cLine) (hL : LimOk X.K) : CallR X (.builtin "repr") (rReprD X.K) := by
  intro pins s σ H xs us Q I r h
  obtain ⟨a, d, rfl, hd, hb, hz, hdp, q⟩ := h
  obtain ⟨u, rfl, ru⟩ := vals1 r
  obtain rfl : u = .ref a := ru
  obtain ⟨as, rd⟩ := Dp.reads I d (.ref a) (.ref a) hd rfl
  cases rd with
  | tuple h1 h2 h3 h4 =>
    simp only [PyData.shown] at hz
    simp only [pyBig] at hb
    simp only [PyData.depth] at hdp
    obtain ⟨bs, hm, hk⟩ := big_readsL (prog := X.prog) (w := X.w) I.kIn hL h4 hb fun t ht => Nat.le_trans (tupleText_mem_le ht) hz
    have rr : Reads s.heap (.ref a) (.tuple _) _ := .tuple h1 h2 h3 h4
    refine call_repr_slot (by omega) ⟨_, h1, h2⟩ F.slot_tuple_repr (call_tuple_reprK h1 h2 h3 (not_mem_of_deeper rr (by simp only [PyData.depth]; omega) hm) hk hg (fun b _ => Clear.nil b) (by show X.A.units + 1 + _ < cLine; omega) (fun _ _ e => e) (fun h' u tk hk' => ?_) hz)
    refine ⟨_, _, rfl, .str _, H, I.kept hk', ⟨u, rfl⟩, ?_⟩
    simp only [PyData.shown] at q
    exact q
  | list => simp [pyBig] at hb
  | dict => simp [pyBig] at hb
/-! ### of data -/
def okStr (s : Str) : Bool := decide (s = "num" ∨ s = "inf" ∨ s = "nan" ∨ s = "inexact" ∨ s = "tiny" ∨ s = "over" ∨ s = "invalid")
theorem okStr_len {s : Str} (h : okStr s = true) : (reprText s).length ≤ 100 := by
  rcases of_decide_eq_true h with rfl | rfl | rfl | rfl | rfl | rfl | rfl <;> decide +kernel
theorem okStr_ok {s : Str} (h : okStr s = true) : PyData.canLay0 (.str s) = true := by
  rcases of_decide_eq_true h with rfl | rfl | rfl | rfl | rfl | rfl | rfl <;> decide +kernel
mutual
/-- what the law compares: no list, no bag, ints of at most 6000 bits, the program's texts -/
def D.good : D → Bool
  | .bag => false
  | .lst _ => false
  | .bl _ => false
  | .int i => decide (i.natAbs < 2 ^ 6000)
  | .str s => okStr s
  | .tup ds => D.goodL ds
  | .non => true
def D.goodL : List D → Bool
  | [] => true
  | d :: ds => d.good && D.goodL ds
end
mutual
def D.wt : D → Nat
  | .tup ds => 1 + D.wtL ds
  | _ => 1
def D.wtL : List D → Nat
  | [] => 0
  | d :: ds => d.wt + D.wtL ds
end
theorem log_lt {n : Nat} (h : n < 2 ^ 6000) : n.log2 < 6000 := PySem.Flt.log2_lt_of (by decide) h
mutual
theorem good_ok : ∀ {d : D}, d.good = true → d.ok = true ∧ pyBig d.py = true ∧ d.py.canLay0 = true ∧ PyData.eqv d.py d.py = true
  | .non, _ => by simp [D.ok, D.py, pyBig, PyData.canLay0, PyData.eqv]
  | .int i, h => by
    have := log_lt (of_decide_eq_true (by simpa only [D.good] using h))
    simp [D.ok, D.py, pyBig, PyData.canLay0, PyData.eqv, this]
  | .str s, h => by
    have := okStr_ok (s := s) (by simpa only [D.good] using h)
    simp only [PyData.canLay0] at this
    simp [D.ok, D.py, pyBig, PyData.canLay0, PyData.eqv, this]
  | .tup ds, h => by
    obtain ⟨h1, h2, h3, h4⟩ := goodL_ok (ds := ds) (by simpa only [D.good] using h)
    simp only [D.ok, D.py, pyBig, PyData.canLay0, PyData.eqv]
    exact ⟨h1, h2, h3, h4⟩
  | .bl _, h => by simp [D.good] at h
  | .lst _, h => by simp [D.good] at h
  | .bag, h => by simp [D.good] at h
theorem goodL_ok : ∀ {ds : List D}, D.goodL ds = true → D.okL ds = true ∧ pyBigL (D.pyL ds) = true ∧ PyData.canLayAll0 (D.pyL ds) = true ∧ PyData.eqvAll (D.pyL ds) (D.pyL ds) = true
  | [], _ => by simp [D.okL, D.pyL, pyBigL, PyData.canLayAll0, PyData.eqvAll]
  | d :: ds, h => by
    simp only [D.goodL, Bool.and_eq_true] at h
    obtain ⟨a1, a2, a3, a4⟩ := good_ok h.1
    obtain ⟨b1, b2, b3, b4⟩ := goodL_ok h.2
    simp [D.okL, D.pyL, pyBigL, PyData.canLayAll0, PyData.eqvAll, a1, a2, a3, a4, b1, b2, b3, b4]
end
mutual
theorem good_len : ∀ {d : D}, d.good = true → d.py.shown.length + 2 ≤ 7000 * d.wt ∧ d.py.depth ≤ d.wt
  | .non, _ => by
    simp only [D.py, PyData.shown, PyData.depth, D.wt]
    exact ⟨by decide, by omega⟩
  | .int i, h => by
    have := big_text (log_lt (of_decide_eq_true (by simpa only [D.good] using h)))
    simp only [D.py, PyData.shown, PyData.depth, D.wt]
    exact ⟨by omega, by omega⟩
  | .str s, h => by
    have := okStr_len (s := s) (by simpa only [D.good] using h)
    simp only [D.py, PyData.shown, PyData.depth, D.wt]
    exact ⟨by omega, by omega⟩
  | .tup ds, h => by
    obtain ⟨h1, h2⟩ := goodL_len (ds := ds) (by simpa only [D.good] using h)
    simp only [D.py, PyData.shown, PyData.depth, D.wt]
    refine ⟨?_, by omega⟩
    have hu : (tupleText (PyData.shownAll (D.pyL ds))).length ≤ piled (PyData.shownAll (D.pyL ds)) + 3 := by
      unfold tupleText
      rw [strLen_append, strLen_append]
      have e3 : (if (PyData.shownAll (D.pyL ds)).length == 1 then (",)" : String) else ")").length ≤ 2 := by split <;> decide
      have e4 : ∀ z : String, (Str.ofString z).length = z.length := PySem.ofString_length
      by_cases c : PyData.shownAll (D.pyL ds) = []
      · rw [c]
        decide
      · have := join_length_add _ c
        have e5 := e4 (if (PyData.shownAll (D.pyL ds)).length == 1 then (",)" : String) else ")")
        have e6 : (("(" : Str)).length = 1 := rfl
        show (("(" : Str)).length + _ + (Str.ofString (if (PyData.shownAll (D.pyL ds)).length == 1 then (",)" : String) else ")")).length ≤ _
        omega
    omega
  | .bl _, h => by simp [D.good] at h
  | .lst _, h => by simp [D.good] at h
  | .bag, h => by simp [D.good] at h
theorem goodL_len : ∀ {ds : List D}, D.goodL ds = true → piled (PyData.shownAll (D.pyL ds)) ≤ 7000 * D.wtL ds ∧ PyData.depthAll (D.pyL ds) ≤ D.wtL ds
  | [], _ => by
    simp only [D.pyL, PyData.shownAll, PyData.depthAll, D.wtL, piled_nil]
    exact ⟨by omega, by omega⟩
  | d :: ds, h => by
    simp only [D.goodL, Bool.and_eq_true] at h
    obtain ⟨a1, a2⟩ := good_len h.1
    obtain ⟨b1, b2⟩ := goodL_len h.2
    simp only [D.pyL, PyData.shownAll, PyData.depthAll, D.wtL, piled_cons]
    exact ⟨by omega, by omega⟩
end
section
variable {ρ : Env} {Φ : D → Prop} {K : PySem.W.Frag} {ta : TA}
theorem we_reprD (h : WA ta ρ fun ds => ∃ es, ds = [.tup es] ∧ (D.tup es).good = true ∧ (D.tup es).wt ≤ 40 ∧ Φ (.str (D.tup es).py.shown)) : WE (tCB (rReprD K) ta) ρ Φ :=
  wa_cb (R := fun ds Φ => ∃ es, ds = [.tup es] ∧ (D.tup es).good = true ∧ (D.tup es).wt ≤ 40 ∧ Φ (.str (D.tup es).py.shown)) (by
    intro bn β H vs ds Φ Q b r ⟨es, e, hg, hw, k⟩ q
    subst e
    cases r with
    | cons r1 r2 =>
      cases r2
      obtain ⟨g1, g2, g3, g4⟩ := good_ok hg
      obtain ⟨l1, l2⟩ := good_len hg
      cases r1 with
      | tup n hh rr => exact ⟨_, _, rfl, (Rep.tup n hh rr).dp g1, g2, Nat.le_trans (show _ ≤ 280000 by omega) (by decide), by omega, here q b (.str _) k⟩) h
theorem eqD_good {x : D} {Φ : Bool → Prop} (h : x.good = true) (hw : x.wt ≤ 60) (k : Φ true) : EqD x x Φ := by
  obtain ⟨g1, g2, g3, g4⟩ := good_ok h
  have l2 := (good_len h).2
  have sh : SeqAt.shaped x.py = true := by
    unfold SeqAt.shaped
    rw [g3, decide_eq_true (by omega)]
    rfl
  refine ⟨g1, g1, sh, sh, ?_⟩
  rw [g4]
  exact k
end
end Nh
set_option Elab.async false
set_option linter.all false
set_option maxRecDepth 100000
set_option maxHeartbeats 4000000
namespace Nh
open PySem PySem.Spec PyProof.Rows L2
theorem NA.imp {n : Nat} {ta : TA} {ρ : Env} {Φ Ψ : Nat → List D → Prop} (h : NA n ta ρ Ψ) (k : ∀ m ds, Ψ m ds → Φ m ds) : NA n ta ρ Φ := fun β σ H Q b r q => h β σ H Q b r fun m vs ds H' e b' r' p => q m vs ds H' e b' r' (k m ds p)
def sp_L_alike : Sp := spA (fun (x : List D) => [.tup x, .tup x]) (fun (x : List D) => (D.tup x).good = true ∧ (D.tup x).wt ≤ 40) (fun (x : List D) => fun d_ => d_ = .bl true)
theorem c_L_alike {ta : TA} {ρ : Env} {Φ : D → Prop} {E : XK} (h : WA ta ρ fun ds => ∃ x : List D, ds = [.tup x, .tup x] ∧ ((D.tup x).good = true ∧ (D.tup x).wt ≤ 40) ∧ Φ (.bl true)) : WE (tCall sp_L_alike [] E ta) ρ Φ :=
  we_callA (h.imp fun ds ⟨x, hd_, hp_, k_⟩ => ⟨x, hd_, hp_, fun d_ hd_ => hd_ ▸ k_⟩)
theorem nc_L_alike {n : Nat} {ta : TA} {ρ : Env} {Φ : Nat → D → Prop} {E : XK} (h : NA n ta ρ fun n ds => ∃ x : List D, ds = [.tup x, .tup x] ∧ ((D.tup x).good = true ∧ (D.tup x).wt ≤ 40) ∧ Φ n (.bl true)) : NE n (tCall sp_L_alike [] E ta) ρ Φ :=
  n_call0 (h.imp fun m ds ⟨x, hd_, hp_, k_⟩ => ⟨x, hd_, hp_, fun d_ hd_ => hd_ ▸ k_⟩)
theorem nc_W {n : Nat} {ta : TA} {ρ : Env} {Φ : Nat → D → Prop} {E : XK} (h : NA n ta ρ fun n ds => ∃ b e : Int, ds = [.int b, .int e] ∧ (1 ≤ b ∧ b ≤ 36 ∧ 0 ≤ e ∧ e ≤ 40000) ∧ Φ n (.int (b ^ e.toNat))) : NE n (tCall spW [] E ta) ρ Φ :=
  n_call0 (h.imp fun m ds ⟨b, e, hd_, hp_, k_⟩ => ⟨(b, e), hd_, hp_, fun d_ hd_ => hd_ ▸ k_⟩)
theorem nc_L_over {n_ : Nat} {ta : TA} {ρ : Env} {Φ : Nat → D → Prop} {E : XK} (h : NA n_ ta ρ fun n_ ds => ∃ n d : Int, ds = [.int n, .int d] ∧ (0 < d ∧ d.natAbs < 2 ^ 8900) ∧ Φ n_ (rdD n d)) : NE n_ (tCall sp_L_over [] E ta) ρ Φ :=
  n_call0 (h.imp fun m ds ⟨n, d, hd_, hp_, k_⟩ => ⟨(n, d), hd_, hp_, fun d_ hd_ => hd_ ▸ k_⟩)
theorem nc_integer_of {n : Nat} {ta : TA} {ρ : Env} {Φ : Nat → D → Prop} {E : XK} (h : NA n ta ρ fun n ds => ∃ (F : Fm) (w : Str) (v : Vl), ds = [F.D, .str w, v.D] ∧ (FmOk F ∧ VlOk F v) ∧ Φ n (ioD F w v)) : NE n (tCall sp_integer_of [] E ta) ρ Φ :=
  n_call0 (h.imp fun m ds ⟨F, w, v, hd_, hp_, k_⟩ => ⟨(F, w, v), hd_, hp_, fun d_ hd_ => hd_ ▸ k_⟩)

def sp_L_take : Sp := spT 1 (fun (many : Int) => [.bag, .int many]) (fun (many : Int) => 0 < many ∧ many.natAbs < 2 ^ 8900) (fun (many : Int) => fun d_ => ∃ r : Int, d_ = .int r ∧ 0 ≤ r ∧ r < many)
theorem c_L_take {n_ : Nat} {ta : TA} {ρ : Env} {Φ : Nat → D → Prop} {E : XK} (h : NA n_ ta ρ fun n_ ds => ∃ many : Int, ds = [.bag, .int many] ∧ ((0 < many ∧ many.natAbs < 2 ^ 8900) ∧ n_ + 1 ≤ 100000) ∧ ∀ d_, (∃ r : Int, d_ = .int r ∧ 0 ≤ r ∧ r < many) → Φ (n_ + 1) d_) : NE n_ (tCall sp_L_take [] E ta) ρ Φ :=
  n_callT (h.imp fun m ds ⟨many, hd_, hp_, k_⟩ => ⟨many, hd_, hp_, k_⟩)
def sp_L_some : Sp := spT 1 (fun (es : List D) => [.bag, .lst es]) (fun (es : List D) => 0 < es.length ∧ es.length ≤ 1000) (fun (es : List D) => fun d_ => d_ ∈ es)
theorem c_L_some {n_ : Nat} {ta : TA} {ρ : Env} {Φ : Nat → D → Prop} {E : XK} (h : NA n_ ta ρ fun n_ ds => ∃ es : List D, ds = [.bag, .lst es] ∧ ((0 < es.length ∧ es.length ≤ 1000) ∧ n_ + 1 ≤ 100000) ∧ ∀ d_, (d_ ∈ es) → Φ (n_ + 1) d_) : NE n_ (tCall sp_L_some [] E ta) ρ Φ :=
  n_callT (h.imp fun m ds ⟨es, hd_, hp_, k_⟩ => ⟨es, hd_, hp_, k_⟩)
def sp_L_formats : Sp := spT 1 (fun (u : Unit) => [.bag]) (fun (u : Unit) => True) (fun (u : Unit) => fun d_ => ∃ F : Fm, FmOk F ∧ d_ = F.D)
theorem c_L_formats {n_ : Nat} {ta : TA} {ρ : Env} {Φ : Nat → D → Prop} {E : XK} (h : NA n_ ta ρ fun n_ ds => ∃ u : Unit, ds = [.bag] ∧ ((True) ∧ n_ + 1 ≤ 100000) ∧ ∀ d_, (∃ F : Fm, FmOk F ∧ d_ = F.D) → Φ (n_ + 1) d_) : NE n_ (tCall sp_L_formats [] E ta) ρ Φ :=
  n_callT (h.imp fun m ds ⟨u, hd_, hp_, k_⟩ => ⟨u, hd_, hp_, k_⟩)
def sp_L_wide_format : Sp := spT 2 (fun (u : Unit) => [.bag]) (fun (u : Unit) => True) (fun (u : Unit) => fun d_ => ∃ F : Fm, FmOk F ∧ d_ = F.D)
theorem c_L_wide_format {n_ : Nat} {ta : TA} {ρ : Env} {Φ : Nat → D → Prop} {E : XK} (h : NA n_ ta ρ fun n_ ds => ∃ u : Unit, ds = [.bag] ∧ ((True) ∧ n_ + 2 ≤ 100000) ∧ ∀ d_, (∃ F : Fm, FmOk F ∧ d_ = F.D) → Φ (n_ + 2) d_) : NE n_ (tCall sp_L_wide_format [] E ta) ρ Φ :=
  n_callT (h.imp fun m ds ⟨u, hd_, hp_, k_⟩ => ⟨u, hd_, hp_, k_⟩)
def sp_L_any_format : Sp := spT 3 (fun (u : Unit) => [.bag]) (fun (u : Unit) => True) (fun (u : Unit) => fun d_ => ∃ F : Fm, FmOk F ∧ d_ = F.D)
theorem c_L_any_format {n_ : Nat} {ta : TA} {ρ : Env} {Φ : Nat → D → Prop} {E : XK} (h : NA n_ ta ρ fun n_ ds => ∃ u : Unit, ds = [.bag] ∧ ((True) ∧ n_ + 3 ≤ 100000) ∧ ∀ d_, (∃ F : Fm, FmOk F ∧ d_ = F.D) → Φ (n_ + 3) d_) : NE n_ (tCall sp_L_any_format [] E ta) ρ Φ :=
  n_callT (h.imp fun m ds ⟨u, hd_, hp_, k_⟩ => ⟨u, hd_, hp_, k_⟩)
def sp_L_number : Sp := spT 6 (fun (F : Fm) => [.bag, F.D]) (fun (F : Fm) => FmOk F) (fun (F : Fm) => fun d_ => ∃ s c e : Int, d_ = numD s c e ∧ NumOk F s c e)
theorem c_L_number {n_ : Nat} {ta : TA} {ρ : Env} {Φ : Nat → D → Prop} {E : XK} (h : NA n_ ta ρ fun n_ ds => ∃ F : Fm, ds = [.bag, F.D] ∧ ((FmOk F) ∧ n_ + 6 ≤ 100000) ∧ ∀ d_, (∃ s c e : Int, d_ = numD s c e ∧ NumOk F s c e) → Φ (n_ + 6) d_) : NE n_ (tCall sp_L_number [] E ta) ρ Φ :=
  n_callT (h.imp fun m ds ⟨F, hd_, hp_, k_⟩ => ⟨F, hd_, hp_, k_⟩)
def sp_L_value : Sp := spT 7 (fun (F : Fm) => [.bag, F.D]) (fun (F : Fm) => FmOk F) (fun (F : Fm) => fun d_ => ∃ v : Vl, d_ = v.D ∧ VlOk F v)
theorem c_L_value {n_ : Nat} {ta : TA} {ρ : Env} {Φ : Nat → D → Prop} {E : XK} (h : NA n_ ta ρ fun n_ ds => ∃ F : Fm, ds = [.bag, F.D] ∧ ((FmOk F) ∧ n_ + 7 ≤ 100000) ∧ ∀ d_, (∃ v : Vl, d_ = v.D ∧ VlOk F v) → Φ (n_ + 7) d_) : NE n_ (tCall sp_L_value [] E ta) ρ Φ :=
  n_callT (h.imp fun m ds ⟨F, hd_, hp_, k_⟩ => ⟨F, hd_, hp_, k_⟩)
def sp_L_drawn_integer : Sp := spT 4 (fun (F : Fm) => [.bag, F.D]) (fun (F : Fm) => FmOk F) (fun (F : Fm) => fun d_ => ∃ n : Int, d_ = .int n ∧ n.natAbs < 2 ^ 4000)
theorem c_L_drawn_integer {n_ : Nat} {ta : TA} {ρ : Env} {Φ : Nat → D → Prop} {E : XK} (h : NA n_ ta ρ fun n_ ds => ∃ F : Fm, ds = [.bag, F.D] ∧ ((FmOk F) ∧ n_ + 4 ≤ 100000) ∧ ∀ d_, (∃ n : Int, d_ = .int n ∧ n.natAbs < 2 ^ 4000) → Φ (n_ + 4) d_) : NE n_ (tCall sp_L_drawn_integer [] E ta) ρ Φ :=
  n_callT (h.imp fun m ds ⟨F, hd_, hp_, k_⟩ => ⟨F, hd_, hp_, k_⟩)
def sp_L_near_half : Sp := spT 9 (fun (F : Fm) => [.bag, F.D]) (fun (F : Fm) => FmOk F) (fun (F : Fm) => fun d_ => ∃ v : Vl, d_ = v.D ∧ VlOk F v)
theorem c_L_near_half {n_ : Nat} {ta : TA} {ρ : Env} {Φ : Nat → D → Prop} {E : XK} (h : NA n_ ta ρ fun n_ ds => ∃ F : Fm, ds = [.bag, F.D] ∧ ((FmOk F) ∧ n_ + 9 ≤ 100000) ∧ ∀ d_, (∃ v : Vl, d_ = v.D ∧ VlOk F v) → Φ (n_ + 9) d_) : NE n_ (tCall sp_L_near_half [] E ta) ρ Φ :=
  n_callT (h.imp fun m ds ⟨F, hd_, hp_, k_⟩ => ⟨F, hd_, hp_, k_⟩)
theorem nl_var {n : Nat} {ρ : Env} {Φ : Nat → D → Prop} {i : Nat} (h : WE (tVar i) ρ (Φ n)) : NE n (tVar i) ρ Φ := n_lift h
theorem nl_c {n : Nat} {ρ : Env} {Φ : Nat → D → Prop} {v : V} (h : WE (tC v) ρ (Φ n)) : NE n (tC v) ρ Φ := n_lift h
theorem nl_ixT {n : Nat} {ρ : Env} {Φ : Nat → D → Prop} {K : PySem.W.Frag} {ta tb : TE} (h : WE (tOp (rIxT K) ta tb) ρ (Φ n)) : NE n (tOp (rIxT K) ta tb) ρ Φ := n_lift h
theorem nl_div {n : Nat} {ρ : Env} {Φ : Nat → D → Prop} {ta tb : TE} (h : WE (tOp rDivI ta tb) ρ (Φ n)) : NE n (tOp rDivI ta tb) ρ Φ := n_lift h
theorem nl_mod {n : Nat} {ρ : Env} {Φ : Nat → D → Prop} {ta tb : TE} (h : WE (tOp rModI ta tb) ρ (Φ n)) : NE n (tOp rModI ta tb) ρ Φ := n_lift h
theorem nl_pow {n : Nat} {ρ : Env} {Φ : Nat → D → Prop} {ta tb : TE} (h : WE (tOp rPowI ta tb) ρ (Φ n)) : NE n (tOp rPowI ta tb) ρ Φ := n_lift h
theorem nl_neg {n : Nat} {ρ : Env} {Φ : Nat → D → Prop} {ta : TE} (h : WE (tUn rNegI ta) ρ (Φ n)) : NE n (tUn rNegI ta) ρ Φ := n_lift h
theorem nl_cb {n : Nat} {ρ : Env} {Φ : Nat → D → Prop} {r : List V → Hp → VK → Prop} {ta : TA} (h : WE (tCB r ta) ρ (Φ n)) : NE n (tCB r ta) ρ Φ := n_lift h
theorem nl_eqD {n : Nat} {ρ : Env} {Φ : Nat → D → Prop} {K : PySem.W.Frag} {ta tb : TE} (h : WE (tOp (rEqD K) ta tb) ρ (Φ n)) : NE n (tOp (rEqD K) ta tb) ρ Φ := n_lift h
theorem nl_not0 {n : Nat} {ρ : Env} {Φ : Nat → D → Prop} {ta tb : TE} (h : WE (tOp rNot0 ta tb) ρ (Φ n)) : NE n (tOp rNot0 ta tb) ρ Φ := n_lift h
theorem nl_catT {n : Nat} {ρ : Env} {Φ : Nat → D → Prop} {K : PySem.W.Frag} {ta tb : TE} (h : WE (tOp (rCatT K) ta tb) ρ (Φ n)) : NE n (tOp (rCatT K) ta tb) ρ Φ := n_lift h
theorem nl_rep01 {n : Nat} {ρ : Env} {Φ : Nat → D → Prop} {K : PySem.W.Frag} {ta tb : TE} (h : WE (tOp (rRep01 K) ta tb) ρ (Φ n)) : NE n (tOp (rRep01 K) ta tb) ρ Φ := n_lift h
theorem nl_ne {n : Nat} {ρ : Env} {Φ : Nat → D → Prop} {ta tb : TE} (h : WE (tOp rNe ta tb) ρ (Φ n)) : NE n (tOp rNe ta tb) ρ Φ := n_lift h
theorem nl_chain {n : Nat} {ρ : Env} {Φ : Nat → D → Prop} {r s : R2} {ta tb tc : TE} (h : WE (tChain r s ta tb tc) ρ (Φ n)) : NE n (tChain r s ta tb tc) ρ Φ := n_lift h
end Nh
set_option Elab.async false
set_option linter.all false
set_option maxRecDepth 100000
set_option maxHeartbeats 4000000
namespace Nh
open PySem PySem.Spec PyProof.Rows L2
theorem BagAt.upd {β : Bag} {H : Hp} {b0 b1 b2 : Int} {p : Addr} {o : HO} (h : BagAt β H b0 b1 b2) (hp : H p = none) : BagAt β (L2.upd H p o) b0 b1 b2 :=
  ⟨by rw [upd_ne (ne_of_none h.at_ hp)]; exact h.at_, h.ne, by rw [upd_ne (ne_of_none h.cl hp)]; exact h.cl, h.p0, h.p1, h.q1, h.p2, h.pc, h.lc⟩
theorem BagAt.put {β : Bag} {H : Hp} {b0 b1 b2 c0 c1 c2 : Int} (h : BagAt β H b0 b1 b2) (h0 : 0 ≤ c0) (h1 : 0 ≤ c1) (h2 : c1 < 2147483647) (h3 : 0 ≤ c2) : BagAt β (L2.upd H β.b (.lst [.int c0, .int c1, .int c2, .ref β.l])) c0 c1 c2 :=
  ⟨upd_same, h.ne, by rw [upd_ne h.ne]; exact h.cl, h0, h1, h2, h3, h.pc, h.lc⟩
theorem ExB.put {β : Bag} {H : Hp} {o : HO} : ExB β H (L2.upd H β.b o) := fun a u n e => by rw [upd_ne n]; exact e
section
variable {K : PySem.W.Frag} {β : Bag} {H : Hp} {b0 b1 b2 : Int} {σ : L2.St} {Q : VK}
theorem bag0 (h : BagAt β H b0 b1 b2) (s0 : σ[0]? = some (some (.ref β.b))) (q : Q (.int b0) H) : tOp (rIxL K) (tVar 0) (tC (.int 0)) σ H Q := ⟨_, s0, _, _, _, _, rfl, rfl, SqL.of h.at_, rfl, q⟩
theorem bag1 (h : BagAt β H b0 b1 b2) (s0 : σ[0]? = some (some (.ref β.b))) (q : Q (.int b1) H) : tOp (rIxL K) (tVar 0) (tC (.int 1)) σ H Q := ⟨_, s0, _, _, _, _, rfl, rfl, SqL.of h.at_, rfl, q⟩
theorem bag2 (h : BagAt β H b0 b1 b2) (s0 : σ[0]? = some (some (.ref β.b))) (q : Q (.int b2) H) : tOp (rIxL K) (tVar 0) (tC (.int 2)) σ H Q := ⟨_, s0, _, _, _, _, rfl, rfl, SqL.of h.at_, rfl, q⟩
theorem bag3 (h : BagAt β H b0 b1 b2) (s0 : σ[0]? = some (some (.ref β.b))) (q : Q (.ref β.l) H) : tOp (rIxL K) (tVar 0) (tC (.int 3)) σ H Q := ⟨_, s0, _, _, _, _, rfl, rfl, SqL.of h.at_, rfl, q⟩
theorem put0 {R : L2.St → Hp → Prop} {c : Int} (h : BagAt β H b0 b1 b2) (s0 : σ[0]? = some (some (.ref β.b))) (q : R σ (L2.upd H β.b (.lst [.int c, .int b1, .int b2, .ref β.l]))) : gSub (tVar 0) (tC (.int 0)) rSetL (.int c) σ H R := ⟨_, s0, _, _, _, _, rfl, rfl, h.at_, rfl, q⟩
theorem put1 {R : L2.St → Hp → Prop} {c : Int} (h : BagAt β H b0 b1 b2) (s0 : σ[0]? = some (some (.ref β.b))) (q : R σ (L2.upd H β.b (.lst [.int b0, .int c, .int b2, .ref β.l]))) : gSub (tVar 0) (tC (.int 1)) rSetL (.int c) σ H R := ⟨_, s0, _, _, _, _, rfl, rfl, h.at_, rfl, q⟩
end
theorem int1 {i : Int} {H : Hp} {Q : VK} {σ : L2.St} (q : Q (.int i) H) : tNil σ H (fun xs H2 => rInt1 (V.int i :: xs) H2 Q) := .inl ⟨i, rfl, q⟩
/-- after the first if of _law_take -/
theorem take_rest {K : PySem.W.Frag} {β : Bag} {H : Hp} {b0 b1 b2 many : Int} {x2 x3 x4 x5 x6 : Option V} {D : Ends} (h : BagAt β H b0 b1 b2) (hm : 0 < many) (zm : many.natAbs < 2 ^ 8900)
    (q : ∀ (r : Int) (H' : Hp) (c0 : Int), ExB β H H' → BagAt β H' c0 b1 b2 → 0 ≤ r → r < many → D.rt (.int r) H') :
    (tSeq (tIfS (tTest (tOp rGtI (tOp (rIxL K) (tVar 0) (tC (.int 0))) (tC (.int 0)))) (tSeq (tAsg (tOp rModI (tCB rInt1 (tCons (tOp (rIxL K) (tVar 0) (tC (.int 0))) tNil)) (tVar 1)) (gName 4))
 (tSeq (tAsg (tOp rDivI (tCB rInt1 (tCons (tOp (rIxL K) (tVar 0) (tC (.int 0))) tNil)) (tVar 1)) (gSub (tVar 0) (tC (.int 0)) rSetL))
 (tRet (tVar 4)))) tNext)
 (tSeq (tAsg (tOp rModI (tCB rInt1 (tCons (tOp rMulI (tOp rAddI (tOp (rIxL K) (tVar 0) (tC (.int 1))) (tC (.int 1))) (tC (.int 39373))) tNil)) (tC (.int 1000000007))) (gName 5))
 (tSeq (tAsg (tOp rModI (tCB rInt1 (tCons (tOp rMulI (tOp rModI (tCB rInt1 (tCons (tOp rMulI (tVar 5) (tVar 5)) tNil)) (tC (.int 998244353))) (tC (.int 30011))) tNil)) (tC (.int 998244353))) (gName 6))
 (tRet (tOp rModI (tCB rInt1 (tCons (tOp rDivI (tVar 6) (tC (.int 7))) tNil)) (tVar 1)))))) D [some (.ref β.b), some (.int many), x2, x3, x4, x5, x6] H := by
  have hcd : ∀ i : Int, CDivW i many := fun i => cd hm zm
  refine bag0 h rfl ?_
  refine ⟨_, _, rfl, rfl, _, rfl, ?_⟩
  by_cases c : 0 < b0
  · rw [decide_eq_true c]
    refine iteT ?_
    refine bag0 h rfl ?_
    refine int1 ?_
    refine ⟨_, rfl, _, _, rfl, rfl, hm, ?_⟩
    refine bag0 h rfl ?_
    refine int1 ?_
    refine ⟨_, rfl, _, _, rfl, rfl, hcd _, ?_⟩
    refine put0 h rfl ?_
    refine ⟨_, rfl, ?_⟩
    exact q (b0 % many) _ (b0 / many) .put (h.put (Int.ediv_nonneg h.p0 (Int.le_of_lt hm)) h.p1 h.q1 h.p2) (Int.emod_nonneg _ (by omega)) (Int.emod_lt_of_pos _ hm)
  · rw [decide_eq_false c]
    refine iteF ?_
    have p1 := h.p1
    have q1 := h.q1
    refine bag1 h rfl ?_
    refine ⟨_, _, rfl, rfl, ?_⟩
    refine ⟨_, _, rfl, rfl, cm (a := 40) (b := 20) (by omega) (by decide), ?_⟩
    refine int1 ?_
    refine ⟨_, _, rfl, rfl, (by show (0 : Int) < 1000000007; decide), ?_⟩
    have e1 : (0 : Int) ≤ (b1 + 1) * 39373 % 1000000007 := Int.emod_nonneg _ (by decide)
    have e2 : (b1 + 1) * 39373 % 1000000007 < 1000000007 := Int.emod_lt_of_pos _ (by decide)
    generalize (b1 + 1) * 39373 % 1000000007 = u at e1 e2 ⊢
    refine ⟨_, rfl, _, rfl, ?_⟩
    refine ⟨_, _, rfl, rfl, cm (a := 40) (b := 40) (by omega) (by omega), ?_⟩
    refine int1 ?_
    refine ⟨_, _, rfl, rfl, (by show (0 : Int) < 998244353; decide), ?_⟩
    have e3 : (0 : Int) ≤ u * u % 998244353 := Int.emod_nonneg _ (by decide)
    have e4 : u * u % 998244353 < 998244353 := Int.emod_lt_of_pos _ (by decide)
    generalize u * u % 998244353 = v at e3 e4 ⊢
    refine ⟨_, _, rfl, rfl, cm (a := 40) (b := 20) (by omega) (by decide), ?_⟩
    refine int1 ?_
    refine ⟨_, _, rfl, rfl, (by show (0 : Int) < 998244353; decide), ?_⟩
    refine ⟨_, rfl, ?_⟩
    refine ⟨_, _, rfl, rfl, cd (j := 7) (b := 4) (by decide) (by decide), ?_⟩
    refine int1 ?_
    refine ⟨_, rfl, _, _, rfl, rfl, hm, ?_⟩
    exact q _ _ b0 (.refl H) h (Int.emod_nonneg _ (by omega)) (Int.emod_lt_of_pos _ hm)
theorem take_stir {K : PySem.W.Frag} {β : Bag} {H : Hp} {b0 b1 b2 cell : Int} {x1 x3 x4 x5 x6 : Option V} {D : Ends} (h : BagAt β H b0 b1 b2) (h2 : b2 ≤ 100000)
    (q : ∀ (c1 : Int) (H' : Hp) (y : Option V), ExB β H H' → BagAt β H' b0 c1 b2 → D.nx [some (.ref β.b), x1, some (.int cell), y, x4, x5, x6] H') :
    (tSeq (tAsg (tOp rAddI (tOp rAddI (tOp rMulI (tOp (rIxL K) (tVar 0) (tC (.int 1))) (tC (.int 48271))) (tOp rModI (tCB rInt1 (tCons (tVar 2) tNil)) (tC (.int 2147483647)))) (tOp rMulI (tC (.int 7919)) (tOp (rIxL K) (tVar 0) (tC (.int 2))))) (gName 3))
 (tAsg (tOp rModI (tCB rInt1 (tCons (tVar 3) tNil)) (tC (.int 2147483647))) (gSub (tVar 0) (tC (.int 1)) rSetL))) D [some (.ref β.b), x1, some (.int cell), x3, x4, x5, x6] H := by
  have p1 := h.p1
  have q1 := h.q1
  have p2 := h.p2
  refine bag1 h rfl ?_
  refine ⟨_, _, rfl, rfl, cm (a := 40) (b := 20) (by omega) (by decide), ?_⟩
  refine ⟨_, rfl, ?_⟩
  refine int1 ?_
  refine ⟨_, _, rfl, rfl, (by show (0 : Int) < 2147483647; decide), ?_⟩
  refine ⟨_, _, rfl, rfl, ?_⟩
  refine bag2 h rfl ?_
  refine ⟨_, _, rfl, rfl, cm (a := 20) (b := 40) (by decide) (by omega), ?_⟩
  refine ⟨_, _, rfl, rfl, ?_⟩
  refine ⟨_, rfl, ?_⟩
  refine int1 ?_
  refine ⟨_, _, rfl, rfl, (by show (0 : Int) < 2147483647; decide), ?_⟩
  refine put1 h rfl ?_
  exact q _ _ _ .put (h.put h.p0 (Int.emod_nonneg _ (by decide)) (Int.emod_lt_of_pos _ (by decide)) h.p2)
theorem cutV_at {cells : List Int} {k : Nat} : cutV (cells.map V.int) (some (k : Int)) none = (cells.drop k).map V.int := by
  unfold cutV
  rw [HT.sIx_nat, HT.sIx_none, ← List.map_drop, ← List.map_take, List.length_map]
  congr 1
  by_cases h : k ≤ cells.length
  · rw [Nat.min_eq_left h]
    exact List.take_of_length_le (by rw [List.length_drop]; omega)
  · rw [Nat.min_eq_right (by omega), List.drop_of_length_le (Nat.le_refl _), List.drop_of_length_le (by omega), List.take_nil]
theorem take_run {K : PySem.W.Frag} {β : Bag} {H : Hp} {n : Nat} {many : Int} {D : Ends} (hb : BagOk n β H) (hm : 0 < many) (zm : many.natAbs < 2 ^ 8900) (hn : n + 1 ≤ 100000)
    (q : ∀ (r : Int) (H' : Hp), ExB β H H' → BagOk (n + 1) β H' → 0 ≤ r → r < many → D.rt (.int r) H') : t_L_take K D [some (.ref β.b), some (.int many), none, none, none, none, none] H := by
  obtain ⟨b0, b1, b2, h, hb2⟩ := hb
  unfold t_L_take
  refine bag0 h rfl ?_
  refine ⟨rfl, _, rfl, ?_⟩
  by_cases c : b0 = 0
  · have e : decide (V.int b0 = V.int 0) = true := decide_eq_true (by rw [c])
    rw [e]
    refine iteT ?_
    refine bag3 h rfl ?_
    refine bag2 h rfl ?_
    refine ⟨b2, rfl, ?_⟩
    refine ⟨_, _, rfl, SqL.of h.cl, fun p1 hp1 => ?_⟩
    have p2' := h.p2
    have ek : b2 = ((b2.toNat : Nat) : Int) := by omega
    rw [ek, cutV_at]
    have h1 := h.upd (o := .lst ((β.cells.drop b2.toNat).map V.int)) hp1
    refine ⟨by show 1 ≤ sizeLine; decide, fun p2 hp2 => ?_⟩
    have h2 := h1.upd (o := .lst [.int 0]) hp2
    have hne : p1 ≠ p2 := fun z => by
      rw [← z, upd_same] at hp2
      cases hp2
    refine ⟨_, _, _, _, rfl, rfl, by rw [upd_ne hne]; exact upd_same, upd_same, ?_, fun p3 hp3 => ?_⟩
    · have := h.lc
      rw [List.length_map, List.length_drop]
      exact Nat.le_trans (show β.cells.length - b2.toNat + 1 ≤ 64 by omega) (by decide)
    have h3 := h2.upd (o := .lst ((β.cells.drop b2.toNat).map V.int ++ [V.int 0])) hp3
    generalize hH3 : L2.upd (L2.upd (L2.upd H p1 _) p2 _) p3 _ = H3 at h3
    have e3 : ExB β H H3 := by
      rw [← hH3]
      exact ((ExB.new hp1).trans (.new hp2)).trans (.new hp3)
    have hc : ∃ cell : Int, 0 ≤ cell ∧ L2.atI ((β.cells.drop b2.toNat).map V.int ++ [V.int 0]) 0 = some (.int cell) := by
      cases hd : β.cells.drop b2.toNat with
      | nil => exact ⟨0, by decide, rfl⟩
      | cons a as =>
        refine ⟨a, h.pc a (List.mem_of_mem_drop (i := b2.toNat) (by rw [hd]; exact List.mem_cons_self)), ?_⟩
        exact atI_nat (j := 0) rfl
    obtain ⟨cell, hc0, hc1⟩ := hc
    refine ⟨_, _, _, _, rfl, rfl, SqL.of (by rw [← hH3]; exact upd_same), hc1, ?_⟩
    refine ⟨_, rfl, ?_⟩
    refine ⟨_, _, _, _, rfl, rfl, SqL.of h3.at_, rfl, ?_⟩
    refine ⟨_, _, rfl, rfl, ?_⟩
    refine ⟨_, _, _, _, rfl, rfl, h3.at_, rfl, ?_⟩
    have h4 := h3.put (c2 := b2 + 1) h3.p0 h3.p1 h3.q1 (by omega)
    refine ⟨_, rfl, ?_⟩
    refine ⟨_, _, rfl, rfl, ⟨by decide, by decide, by decide⟩, ?_⟩
    refine ⟨_, _, rfl, rfl, _, rfl, ?_⟩
    by_cases g : (10 : Int) ^ (18 : Int).toNat ≤ cell
    · rw [decide_eq_true g]
      refine iteT ?_
      refine ⟨_, rfl, ?_⟩
      refine put0 h4 rfl ?_
      have h5 := h4.put (c0 := cell) hc0 h4.p1 h4.q1 h4.p2
      refine take_stir h5 (by omega) fun c1 H6 y e6 h6 => ?_
      exact take_rest h6 hm zm fun r H' c0 e' h' r0 r1 => q r H' ((((e3.trans .put).trans .put).trans e6).trans e') ⟨c0, c1, b2 + 1, h', by omega⟩ r0 r1
    · rw [decide_eq_false g]
      refine iteF ?_
      refine take_stir h4 (by omega) fun c1 H6 y e6 h6 => ?_
      exact take_rest h6 hm zm fun r H' c0 e' h' r0 r1 => q r H' (((e3.trans .put).trans e6).trans e') ⟨c0, c1, b2 + 1, h', by omega⟩ r0 r1
  · have e : decide (V.int b0 = V.int 0) = false := decide_eq_false fun z => c (by cases z; rfl)
    rw [e]
    refine iteF ?_
    exact take_rest h hm zm fun r H' c0 e' h' r0 r1 => q r H' e' ⟨c0, b1, b2, h', by omega⟩ r0 r1
section
variable {P : Program} {w : World} {K : PySem.W.Frag} {mg : Str → Option Value} {base : Heap} {f : Addr} {fd : FuncData}
theorem ok_L_take (d : Df K mg "_law_take" (topS 27) P_L_take f fd) (m : mg "int" = none) : Ok P w K mg base 1 "_law_take" P_L_take sp_L_take := by
  refine ⟨f, fd, d.F.ok sc_L_take (fun vs H Q E h => ?_) (fun cdv A outer s H vs Q E hr h => ?_), d.g, d.F.kp, d.b⟩
  · obtain ⟨n, β, i, _, r, _⟩ := h
    exact r.len
  · obtain ⟨n, β, i, b, r, ⟨h0, hz⟩, hc, q⟩ := h
    refine ⟨t_L_take K, dv_L_take hr m, ?_⟩
    cases r with
    | cons r1 r2 =>
      cases r2 with
      | cons r2 r3 =>
        cases r3
        cases r1
        cases r2
        exact take_run b h0 hz hc fun r H' e b' r0 r1 => q _ (.int r) H' e b' (.int r) ⟨r, rfl, r0, r1⟩
end
end Nh
set_option Elab.async false
set_option linter.all false
set_option maxRecDepth 100000
set_option maxHeartbeats 4000000
namespace Nh
open PySem PySem.Spec PyProof.Rows L2
theorem cutV_to {ns : List Int} {k : Nat} : cutV (ns.map V.int) none (some (k : Int)) = (ns.take k).map V.int := by
  unfold cutV
  rw [HT.sIx_nat, HT.sIx_none, List.drop_zero, ← List.map_take, List.length_map]
  congr 1
  by_cases h : k ≤ ns.length
  · rw [Nat.min_eq_left h]
    rfl
  · rw [Nat.min_eq_right (by omega), List.take_of_length_le (by omega), List.take_of_length_le (by omega)]
def sp_L_bag (K : PySem.W.Frag) : Sp := fun vs H Q _ => ∃ (a : Addr) (ns : List Int), vs = [.ref a] ∧ SqL K H a (ns.map V.int) ∧ ∀ β H', BagOk 0 β H' → Q (.ref β.b) H'
theorem bag_run {K : PySem.W.Frag} {a : Addr} {ns : List Int} {H : Hp} {D : Ends} (hS : SqL K H a (ns.map V.int)) (q : ∀ β H', BagOk 0 β H' → D.rt (.ref β.b) H') : t_L_bag K D [some (.ref a), none] H := by
  unfold t_L_bag
  refine ⟨_, rfl, _, rfl, ?_⟩
  refine ⟨_, _, rfl, hS, fun p hp => ?_⟩
  have ec : cutV (ns.map V.int) none (some 63) = (ns.take 63).map V.int := cutV_to (k := 63)
  rw [ec]
  refine ⟨p, rfl, ⟨_, SqL.of upd_same⟩, fun L hL => ?_⟩
  have hne : p ≠ L := fun z => by
    rw [← z, upd_same] at hL
    cases hL
  refine lc_list (xs := (ns.take 63).map V.int) (fun i H' => H' L = some (.lst (((ns.take 63).take i).map fun z => V.int (if z < 0 then -z else z))) ∧ H' p = some (.lst ((ns.take 63).map V.int)))
    ⟨upd_same, by rw [upd_ne hne]; exact upd_same⟩ (fun i H' hi h => SqL.of h.2) ?_ ?_
  · rintro i x H' hx ⟨h1, h2⟩
    rw [List.getElem?_map] at hx
    cases hz : (ns.take 63)[i]? with
    | none =>
      rw [hz] at hx
      cases hx
    | some z =>
      rw [hz] at hx
      have ex : x = V.int z := (Option.some.inj hx).symm
      subst ex
      refine ⟨rfl, ?_⟩
      unfold tYes
      dsimp only
      rw [if_pos rfl]
      refine ⟨_, rfl, z, rfl, _, h1, ?_, ?_, ?_⟩
      · rw [List.length_map, List.length_take, List.length_take]
        exact Nat.lt_of_le_of_lt (show _ ≤ 63 by omega) (by decide)
      · rw [upd_same]
        generalize ns.take 63 = ms at hz
        rw [List.take_add_one (i := i) (l := ms), hz, Option.toList_some, List.map_append]
        rfl
      · rw [upd_ne hne]
        exact h2
  · rintro H' ⟨h1, h2⟩
    refine ⟨by show 4 ≤ sizeLine; decide, fun b hb => ?_⟩
    have hLb : L ≠ b := fun z => by
      rw [z, hb] at h1
      cases h1
    refine q ⟨b, L, (ns.take 63).map fun z => if z < 0 then -z else z⟩ _ ⟨0, 1234567891, 0, ⟨upd_same, hLb, ?_, by decide, by decide, by decide, by decide, ?_, ?_⟩, by decide⟩
    · rw [upd_ne hLb, h1, List.length_map, List.take_length, List.map_map]
      rfl
    · intro c hc
      obtain ⟨z, _, rfl⟩ := List.mem_map.mp hc
      split <;> omega
    · show ((ns.take 63).map _).length ≤ 63
      rw [List.length_map, List.length_take]
      omega
section
variable {P : Program} {w : World} {K : PySem.W.Frag} {mg : Str → Option Value} {base : Heap} {f : Addr} {fd : FuncData}
theorem ok_L_bag (d : Df K mg "_law_bag" (topS 26) P_L_bag f fd) (m : mg "abs" = none) : Ok P w K mg base 1 "_law_bag" P_L_bag (sp_L_bag K) := by
  refine ⟨f, fd, d.F.ok sc_L_bag (fun vs H Q E h => ?_) (fun cdv A outer s H vs Q E hr h => ?_), d.g, d.F.kp, d.b⟩
  · obtain ⟨a, ns, rfl, _⟩ := h
    rfl
  · obtain ⟨a, ns, rfl, hS, q⟩ := h
    exact ⟨t_L_bag K, dv_L_bag hr m, bag_run hS q⟩
end
end Nh
set_option Elab.async false
set_option linter.all false
set_option maxRecDepth 100000
set_option maxHeartbeats 4000000
namespace Nh
open PySem PySem.Spec PyProof.Rows L2
abbrev N_L_alike : List Str := ["_law_found", "_law_due"]
abbrev P_L_alike : List Str := ["_law_found", "_law_due"]
theorem sc_L_alike : FnScope N_L_alike P_L_alike (defScope (topS 29)) := ⟨rfl, rfl, rfl, by decide +kernel, rfl, by decide +kernel, by decide +kernel⟩
def t_L_alike (K : PySem.W.Frag) : TS := (tRet (tAndV (tOp (rEqD K) (tVar 0) (tVar 1)) (tOp rEq (tCB (rReprD K) (tCons (tVar 0) tNil)) (tCB (rReprD K) (tCons (tVar 1) tNil)))))
theorem dv_L_alike {P : Program} {w : World} {K : PySem.W.Frag} {mg : Str → Option Value} {base : Heap} {f : Addr} {cdv : Value} {A : Around} {outer : List PySem.Env} {s : Shared} {H : Hp} {E : XK}
    (hr : Room 0 (A.deeper (envOfC "_law_alike" (defScope (topS 29)) s.heap.objs.size f cdv))) (m_repr : mg "repr" = none) (hg : (A.deeper (envOfC "_law_alike" (defScope (topS 29)) s.heap.objs.size f cdv)).guards = some []) (m_lim : LimOk K) :
    PSs (cxOf CX0 P w K mg base N_L_alike "_law_alike" (defScope (topS 29)) f cdv A outer s H E).nox (defBody (topS 29)) (t_L_alike K) :=
 (pss_one (ps_ret (pe_and (pe_cmpR (op_eqD hr.units) (pv 0) (pv 1) (nomark _)) (pe_one (pe_cmpR op_eq (pe_callB (call_reprD hg hr.units m_lim) (by rfl) m_repr (by decide +kernel) (pa_cons (pv 0) pa_nil)) (pe_callB (call_reprD hg hr.units m_lim) (by rfl) m_repr (by decide +kernel) (pa_cons (pv 1) pa_nil)) (nomark _))))))
end Nh
set_option Elab.async false
set_option linter.all false
set_option maxRecDepth 100000
set_option maxHeartbeats 3200000
/-! sorted(set(list)) of texts -/
namespace Nh
open PySem PySem.Spec PyProof.Rows L2
/-- the text of an entry -/
def entTx (e : Int × Value) : Str := match e.2 with | .str z _ => z | _ => Str.empty
/-- an entry that is a text under its own hash -/
def IsTx (P : Program) (w : World) (e : Int × Value) : Prop := ∃ z u, e.2 = Value.str z u ∧ e.1 = (PySem.strKind P w).hash z
/-- at a stands a set of texts: ss, each once -/
def TxSet (P : Program) (w : World) (h : Heap) (a : Addr) (ss : List Str) : Prop :=
  ∃ o es ep t, h.get? a = some o ∧ o.ExactSet ∧ o.data = .set es ep t ∧ (∀ e ∈ es.toList, IsTx P w e) ∧ (es.toList.map entTx).Perm ss ∧ ss.Nodup ∧
    es.size < scanBound ∧ t.fits es.size = true ∧ Ris t.place.toList ∧ (w.params.followText "set-order" = true ∨ t.led = true)
section
variable {P : Program} {w : World} {A : Around} {E : Value → Shared → Prop} {s : Shared} {a : Addr} {ss : List Str}
theorem TxSet.move {h h' : Heap} (T : TxSet P w h a ss) (k : ∀ o, h.get? a = some o → h'.get? a = some o) : TxSet P w h' a ss := by
  obtain ⟨o, es, ep, t, e, rest⟩ := T
  exact ⟨o, es, ep, t, k o e, rest⟩
theorem tx_elems {l : List (Int × Value)} (g : ∀ e ∈ l, IsTx P w e) : ElemsOf (PySem.strKind P w) l := by
  intro e he
  obtain ⟨z, u, e1, e2⟩ := g e he
  exact ⟨⟨z, by rw [e1]; exact strKind_is P w z u, e2⟩, by rw [e1] <;> rfl⟩
theorem tx_is {e : Int × Value} (g : IsTx P w e) (z : Str) : (PySem.strKind P w).is z e.2 = true ↔ entTx e = z := by
  obtain ⟨y, u, e1, _⟩ := g
  unfold entTx
  rw [e1]
  show ((y == z) = true) ↔ y = z
  exact beq_iff_eq
theorem tx_mem {l : List (Int × Value)} (g : ∀ e ∈ l, IsTx P w e) (z : Str) : z ∈ l.map entTx ↔ ∃ e ∈ l, (PySem.strKind P w).is z e.2 = true := by
  rw [List.mem_map]
  exact ⟨fun ⟨e, he, q⟩ => ⟨e, he, (tx_is (g e he) z).2 q⟩, fun ⟨e, he, q⟩ => ⟨e, he, (tx_is (g e he) z).1 q⟩⟩
/-- a text's table stored, laid anew where it is too full -/
theorem tx_stored {say : Bool → Sem Unit} (quiet : ∀ (b : Bool) (s' : Shared) (Q' : Unit → Shared → Prop), Q' () s' → wpAny (model P w) A (say b) Q' E s')
    {o : Obj} {es fs : Array (Int × Value)} {ep : Nat} {t u : SetTable} (eo : s.heap.get? a = some o) (ex : o.ExactSet) (ed : o.data = .set es ep t)
    (g : ∀ e ∈ fs.toList, IsTx P w e) (pm : (fs.toList.map entTx).Perm ss) (nd : ss.Nodup) (bd : fs.size < scanBound) (ft : u.fits fs.size = true) (ri : Ris u.place.toList)
    (ld : w.params.followText "set-order" = true ∨ u.led = true) {wd : Bool} {R : Option Bool → Shared → Prop}
    (q : ∀ h', Heap.SameBut a s.heap h' → TxSet P w h' a ss → R (some true) { s with heap := h' }) :
    wpAny (model P w) A (storeSet a fs u >>= fun _ => if (!wd && u.tooFull) = true then say (relayAll u fs (SetTable.grown fs.size)).2.2 >>= fun _ => storeSet a (relayAll u fs (SetTable.grown fs.size)).1 (relayAll u fs (SetTable.grown fs.size)).2.1 >>= fun _ => pure (some true)
      else pure (some true)) R E s := by
  refine wpAny_bind (wpAny_storeSet_of eo ed ?_ (fits_of_scanBound bd))
  have e1 := store_at (es' := fs) (t' := u) eo ed
  have k1 := Heap.SameBut.update s.heap a (Obj.putSet fs u)
  split
  · have p2 := relayAll_perm u fs (SetTable.grown fs.size)
    have f2 := relayAll_fits u fs (SetTable.grown fs.size)
    have r2 := relayAll_ris u fs (SetTable.grown fs.size)
    have l2 := relayAll_led u fs (SetTable.grown fs.size)
    generalize relayAll u fs (SetTable.grown fs.size) = Z at p2 f2 r2 l2 ⊢
    obtain ⟨gs, v, b⟩ := Z
    dsimp only at p2 f2 r2 l2 ⊢
    have hz : gs.size = fs.size := by rw [← Array.length_toList, p2.length_eq, Array.length_toList]
    refine wpAny_bind (quiet _ _ _ ?_)
    refine wpAny_bind (wpAny_storeSet_of e1 rfl ?_ (fits_of_scanBound (by rw [hz]; exact bd)))
    refine wpAny_pure (q _ (k1.trans (Heap.SameBut.update _ a _)) ?_)
    exact ⟨_, gs, _, v, store_at (es' := gs) (t' := v) e1 rfl, ex, rfl, fun e he => g e (p2.mem_iff.mp he), (p2.map entTx).trans pm, nd, by rw [hz]; exact bd, f2, r2,
      ld.imp id fun z => l2.trans z⟩
  · exact wpAny_pure (q _ k1 ⟨_, fs, _, u, e1, ex, rfl, g, pm, nd, bd, ft, ri, ld⟩)
/-- one text more, or none -/
def txAdd (ss : List Str) (z : Str) : List Str := if z ∈ ss then ss else z :: ss
theorem tx_add {z : Str} {tk : Tok} {Q : Bool → Shared → Prop} (T : TxSet P w s.heap a ss) (room : ss.length + 1 < scanBound)
    (q : ∀ h' b, Heap.SameBut a s.heap h' → TxSet P w h' a (txAdd ss z) → Q b { s with heap := h' }) :
    wpAny (model P w) A (setAddHashed a (.str z tk) ((PySem.strKind P w).hash z)) Q E s := by
  obtain ⟨o, es, ep, t, eo, ex, ed, g, pm, nd, bd, ft, ri, ld⟩ := T
  have hkey : (PySem.strKind P w).is z (.str z tk) = true := strKind_is P w z tk
  have hsc : (Value.str z tk).scannable = true := rfl
  have hel : ElemsOf (PySem.strKind P w) es.toList := tx_elems g
  unfold setAddHashed setAddHashedIn
  refine wpAny_holding (wpAny_bind (wpAny_setState_of eo ed ft ?_))
  dsimp only
  rw [byScan_of hsc bd hel]
  simp only [↓reduceIte]
  unfold setAddByScan
  refine wpAny_bind (wpAny_bind (wpAny_rule (wpAny_bind (wpAny_setScan_of hkey eo ed ft hel ?_))))
  cases hf : List.findIdx? (fun e => (PySem.strKind P w).is z e.2) es.toList with
  | some j =>
    dsimp only
    obtain ⟨hj, pj, _⟩ := List.findIdx?_eq_some_iff_getElem.mp hf
    have hin : z ∈ ss := pm.mem_iff.mp ((tx_mem g z).2 ⟨es.toList[j], List.getElem_mem hj, pj⟩)
    refine wpAny_pure (wpAny_pure (q s.heap _ (Heap.SameBut.refl a s.heap) ?_))
    unfold txAdd
    rw [if_pos hin]
    exact ⟨o, es, ep, t, eo, ex, ed, g, pm, nd, bd, ft, ri, ld⟩
  | none =>
    dsimp only
    have hout : z ∉ ss := fun hz => by
      obtain ⟨e, he, h1⟩ := (tx_mem g z).1 (pm.mem_iff.mpr hz)
      have h2 := List.findIdx?_eq_none_iff.mp hf e he
      rw [h1] at h2
      cases h2
    have ea : txAdd ss z = z :: ss := if_neg hout
    have say : ∀ (b : Bool) {s' : Shared} {Q' : Unit → Shared → Prop}, Q' () s' → wpAny (model P w) A (match b with | true => rule "set.scan.the-table-gave-way" | false => pure ()) Q' E s' :=
      fun b s' Q' h => by cases b <;> first | exact wpAny_pure h | exact wpAny_rule h
    have p1 := layNew_perm t es ((PySem.strKind P w).hash z) (.str z tk)
    have f1 := layNew_fits t es ((PySem.strKind P w).hash z) (.str z tk)
    have r1 := layNew_ris t es ((PySem.strKind P w).hash z) (.str z tk) ri
    have l1 := layNew_led t es ((PySem.strKind P w).hash z) (.str z tk)
    generalize layNew t es ((PySem.strKind P w).hash z) (.str z tk) = Z at p1 f1 r1 l1 ⊢
    obtain ⟨fs, u, wd, gave⟩ := Z
    dsimp only at p1 f1 r1 l1 ⊢
    rw [Array.toList_push] at p1
    have pc : fs.toList.Perm (((PySem.strKind P w).hash z, Value.str z tk) :: es.toList) := p1.trans (List.perm_append_singleton _ _)
    have pk : (fs.toList.map entTx).Perm (txAdd ss z) := by
      rw [ea]
      exact (pc.map entTx).trans (pm.cons z)
    have g1 : ∀ e ∈ fs.toList, IsTx P w e := fun e he => (List.mem_cons.mp (pc.mem_iff.mp he)).elim (fun h => by rw [h]; exact ⟨z, tk, rfl, rfl⟩) (g e)
    have nd1 : (txAdd ss z).Nodup := by
      rw [ea]
      exact List.nodup_cons.mpr ⟨hout, nd⟩
    have bd1 : fs.size < scanBound := by
      have h1 := pm.length_eq
      rw [List.length_map, Array.length_toList] at h1
      rw [← Array.length_toList, pc.length_eq, List.length_cons, Array.length_toList, h1]
      exact room
    have ld1 : w.params.followText "set-order" = true ∨ u.led = true := ld.imp id fun h => l1.trans h
    refine wpAny_bind (say _ ?_)
    split
    · refine wpAny_bind ?_
      rw [hashByValue_scannable 8 hsc]
      refine wpAny_pure ?_
      refine tx_stored ?_ eo ex ed g1 pk nd1 bd1 ?_ ?_ ?_ ?_
      · intro b s' Q' h; cases b <;> first | exact wpAny_pure h | exact wpAny_rule h
      · first | (split <;> first | exact f1 | exact SetTable.fits_plain_off f1) | exact f1
      · first | (split <;> exact r1) | exact r1
      · first | (split <;> exact ld1) | exact ld1
      · intro h' sb T; dsimp only; exact wpAny_pure (q h' _ sb T)
    · refine wpAny_bind (wpAny_pure ?_)
      simp only [↓reduceIte]
      refine tx_stored ?_ eo ex ed g1 pk nd1 bd1 f1 r1 ld1 ?_
      · intro b s' Q' h; cases b <;> first | exact wpAny_pure h | exact wpAny_rule h
      · intro h' sb T; dsimp only; exact wpAny_pure (q h' _ sb T)
/-- the texts in the order of their coming -/
def txAll (zs : List Str) : List Str := zs.foldl txAdd []
theorem txAdd_len (ss : List Str) (z : Str) : (txAdd ss z).length ≤ ss.length + 1 := by
  unfold txAdd
  split
  · exact Nat.le_succ _
  · exact Nat.le_refl _
theorem tx_loop {I : Addr} {fp wr : List Addr} {G : Array GenState → Array GenState → Prop} {n : Nat} {Pv : Nat → Value → Prop} {St : Nat → Shared → Prop} {R : Result → Shared → Prop}
    (W : WalksS P w A.in1 I fp wr G n Pv St) (S : Addr) (out : S ∉ fp) (zs : List Str) (hn : n = zs.length) (room : zs.length + 1 < scanBound)
    (val : ∀ i v, Pv i v → ∃ z t, zs[i]? = some z ∧ v = .str z t) :
    ∀ (k i : Nat) (s : Shared), n - i = k → i ≤ n → St i s → (txAll (zs.take i)).length ≤ i → TxSet P w s.heap S (txAll (zs.take i)) →
      (∀ s', Moved (S :: wr) G s s' → TxSet P w s'.heap S (txAll zs) → R (.ok (.ret .none)) s') →
      codeAny (model P w) A (.builtin "set.update.loop" ⟨[.ref S, .ref I], []⟩) R s := by
  have nw : S ∉ wr := fun h => out (W.sub _ h)
  have wide : ∀ b ∈ wr, b ∈ S :: wr := fun b h => List.mem_cons_of_mem _ h
  intro k
  induction k with
  | zero =>
    intro i s hk hi st hz T q
    obtain rfl : i = n := by omega
    refine codeAny_builtin PyProof.Rows.F.entry_set_update_loop ?_
    rw [Around.under_plainId PyProof.Rows.F.plain_set_update_loop _]
    show wpAny _ A.in1 (pyNext (.ref I) >>= _) _ _ s
    refine wpAny_bind (W.done s _ _ st fun s' mv => ?_)
    show wpAny _ A.in1 (ret Value.none) _ _ s'
    rw [List.take_of_length_le (Nat.le_of_eq hn.symm)] at T
    exact wpAny_pure (q s' (mv.mono wide) (T.move fun o e => mv.heap S o nw e))
  | succ k ih =>
    intro i s hk hi st hz T q
    have lt : i < n := by omega
    refine codeAny_builtin PyProof.Rows.F.entry_set_update_loop ?_
    rw [Around.under_plainId PyProof.Rows.F.plain_set_update_loop _]
    show wpAny _ A.in1 (pyNext (.ref I) >>= _) _ _ s
    refine wpAny_bind (W.item i s _ _ lt st fun v s' hP st' mv => ?_)
    obtain ⟨z, t, ez, rfl⟩ := val i v hP
    have T' : TxSet P w s'.heap S (txAll (zs.take i)) := T.move fun o e => mv.heap S o nw e
    show wpAny _ A.in1 (holding [Value.str z t] (setAdd S (.str z t)) >>= _) _ _ s'
    refine wpAny_bind (wpAny_holding ?_)
    unfold setAdd
    refine wpAny_holding (wpAny_bind ((PySem.strKind P w).pyHash (k := z) (strKind_is _ _ _ _) ?_))
    refine tx_add (s := { s' with toks := s'.toks + 1 }) T' (by omega) fun h' b sb T2 => ?_
    have et : txAll (zs.take (i + 1)) = txAdd (txAll (zs.take i)) z := by
      unfold txAll
      rw [List.take_add_one, ez, Option.toList_some, List.foldl_append]
      rfl
    have hz2 : (txAll (zs.take (i + 1))).length ≤ i + 1 := by
      rw [et]
      have := txAdd_len (txAll (zs.take i)) z
      omega
    have stay : ∀ b o, b ≠ S → s'.heap.get? b = some o → h'.get? b = some o := fun b o nb e => by rw [sb.2 b nb]; exact e
    refine wpAny_pure ⟨plainId_quiet PyProof.Rows.F.plain_set_update_loop _, ih (i + 1) _ (by omega) lt (W.frame _ s' _ _ st' (Nat.le_succ _) fun b hb o e => stay b o (fun h => out (h ▸ hb)) e) hz2 (by rw [et]; exact T2) fun s2 mv2 T3 => ?_⟩
    exact q s2 (Moved.trans W.gtrans ((mv.mono wide).then_heap (Nat.le_succ _) fun b o hb e => stay b o (fun h => hb (by rw [h]; exact List.mem_cons_self)) e) mv2) T3
end
abbrev newSet (w : World) : Obj := { cls := .type "set", dict := none, data := .set #[] 0 (.fresh 0 0 (!w.params.followText "set-order")) }
theorem tx_none {P : Program} {w : World} {h : Heap} {a : Addr} (e : h.get? a = some (newSet w)) : TxSet P w h a [] := by
  refine ⟨_, #[], 0, _, e, ⟨rfl, rfl, rfl⟩, rfl, (fun x hx => by simp at hx), .nil, .nil, by decide, by rfl, List.Pairwise.nil, ?_⟩
  show _ ∨ (!w.params.followText "set-order") = true
  cases w.params.followText "set-order"
  · exact .inr rfl
  · exact .inl rfl
section
variable {P : Program} {w : World} {A : Around} {E : Value → Shared → Prop} {s : Shared}
theorem tx_at : ∀ {l : List Value} {zs : List Str}, PyProof.Rows.StrsAre l zs → ∀ (i : Nat) (v : Value), l[i]? = some v → ∃ z t, zs[i]? = some z ∧ v = .str z t
  | _, _, .nil, i, v, h => by simp at h
  | _, _, .cons z t r, 0, v, h => by
    simp at h
    exact ⟨z, t, rfl, h.symm⟩
  | _, _, .cons z t r, i + 1, v, h => by
    simp only [List.getElem?_cons_succ] at h ⊢
    exact tx_at r i v h
/-- set(l) of a list of texts -/
theorem tx_make {l : Addr} {items : Array Value} {zs : List Str} {Q : Value → Shared → Prop} (hh : A.handled = none) (isL : s.heap.IsList l items)
    (tx : PyProof.Rows.StrsAre items.toList zs) (room : zs.length + 1 < scanBound)
    (q : ∀ (h' : Heap) (tk : Nat), TxSet P w h' s.heap.objs.size (txAll zs) → (∀ b o, s.heap.get? b = some o → h'.get? b = some o) →
      Q (.ref s.heap.objs.size) { s with heap := h', toks := tk }) :
    wpAny (model P w) A (call (.type "set") [.ref l]) Q E s := by
  have hz : items.size = zs.length := by
    rw [← StrsAre.len_eq tx, Array.length_toList]
  obtain ⟨c, tl, mro⟩ := PySem.F.called_set.mro
  have made := PySem.F.called_set.made
  have sub0 := PySem.F.called_set.sub
  refine wpAny_call (codeAny_of_tree ?_)
  show wpAny _ _ (callAny (.type "set") _) _ _ _
  refine wpAny_pure ⟨Code.quiet_builtin _ (by decide +kernel), codeAny_builtin PySem.F.entry_type_call ?_⟩
  rw [Around.under_plain (weight_type_call_type "set" [.ref l] []) rfl]
  have a1 := PySem.F.called_set.notType
  have a2 := PySem.F.called_set.canCreate
  have a3 := PySem.F.typeCall_set_1 (.ref l)
  repeat (any_goals (first | assumption | wp_step))
  refine codeAny_mono (code_set_led1 (.ref l) (E := E) (Q₁ := fun v z => v = .ref s.heap.objs.size ∧ z = { s with heap := s.heap.push (newSet w) }) ⟨rfl, rfl⟩) fun r z hr => ?_
  cases r with
  | error e => exact hr
  | ok fl =>
    cases fl with
    | ret v =>
      obtain ⟨rfl, rfl⟩ := hr
      have atS : (s.heap.push (newSet w)).get? s.heap.objs.size = some (newSet w) := Heap.get?_push_size _ rfl
      have tyS : Shared.TypeIs { s with heap := s.heap.push (newSet w) } (.ref s.heap.objs.size) "set" := ⟨_, atS, rfl⟩
      have b1 := PySem.F.called_set.init.lookup
      have b2 := PySem.F.called_set.init.bind (.ref s.heap.objs.size)
      repeat (any_goals (first | assumption | wp_step))
      refine codeAny_mono (codeAny_call_builtin (R := wants (fun r z => r = .none ∧ ∃ h' tk, z = { s with heap := h', toks := tk } ∧
          TxSet P w h' s.heap.objs.size (txAll zs) ∧ ∀ b o, s.heap.get? b = some o → h'.get? b = some o) E) PySem.F.called_set.init.plain PySem.F.entry_set_init (check_set_init_1 tyS ?_)) fun r z hr => ?_
      · obtain ⟨ol, eol, ecl, nl, edl⟩ := isL
        obtain ⟨ocls, odict, odata, oslots⟩ := ol
        simp only at ecl edl
        subst ecl; subst edl
        have eol' : (s.heap.push (newSet w)).get? l = some { cls := .type "list", dict := odict, data := .seq items nl, slots := oslots } := Heap.get?_push_of_some _ eol
        have c1 := PySem.F.sub_list_set
        have c2 := PySem.F.sub_list_frozenset
        have c3 : (Value.type "list" == Value.type "dict") = false := by decide
        have isL1 : (s.heap.push (newSet w)).IsList l items := ⟨_, eol', rfl, nl, rfl⟩
        unfold Builtin.«set.__init__» noKeywords Builtin.Frozenset.updateFrom
        generalize hPI : pyIter = PI
        wp_walk
        subst hPI
        refine wpAny_pyIter_list isL1 ?_
        refine wpAny_bind (wpAny_runValue ?_)
        have ltl : l < s.heap.objs.size := Heap.lt_size eol
        have hh3 : A.in1.in1.in1.handled = none := by simp [hh]
        have sz : (s.heap.push (newSet w)).objs.size = s.heap.objs.size + 1 := Heap.size_push ..
        have nl1 : l ≠ (s.heap.push (newSet w)).objs.size := Nat.ne_of_lt (Nat.lt_of_lt_of_le ltl (by rw [sz]; exact Nat.le_succ _))
        have nS : s.heap.objs.size ∉ [(s.heap.push (newSet w)).objs.size, l] := by
          simp only [List.mem_cons, List.not_mem_nil, or_false, not_or]
          exact ⟨Nat.ne_of_lt (by rw [sz]; exact Nat.lt_succ_self _), Nat.ne_of_gt ltl⟩
        have val : ∀ (i : Nat) (v : Value), items[i]? = some v → ∃ z t, zs[i]? = some z ∧ v = .str z t := fun i v hv => by
          exact tx_at tx i v (by rw [Array.getElem?_toList]; exact hv)
        refine tx_loop ((Walks.list hh3 _ l nl1 items).toS) s.heap.objs.size nS zs hz room val (items.size - 0) 0 _ (by omega) (Nat.zero_le _)
          ⟨⟨_, Heap.get?_push_size _ rfl, rfl, rfl⟩, isL1.push _⟩ (Nat.le_refl 0) (tx_none (Heap.get?_push_of_some _ atS)) ?_
        intro s' mv T
        obtain ⟨h', g', d', tk', os'⟩ := s'
        have e1 : g' = s.gens := mv.gens
        have e2 : d' = s.drawn := mv.drawn
        have e3 : os' = s.os := mv.os
        subst e1; subst e2; subst e3
        show wpAny _ _ _ _ _ _
        refine wpAny_pure ?_
        show wpAny _ _ (ret Value.none) _ _ _
        refine wpAny_pure ⟨rfl, h', tk', rfl, T, fun b o e => ?_⟩
        have hb : b < s.heap.objs.size := Heap.lt_size e
        refine mv.heap b o ?_ (Heap.get?_push_of_some _ (Heap.get?_push_of_some _ e))
        simp only [List.mem_cons, List.not_mem_nil, or_false, not_or]
        exact ⟨Nat.ne_of_lt hb, Nat.ne_of_lt (Nat.lt_of_lt_of_le hb (by rw [sz]; exact Nat.le_succ _))⟩
      · cases r with
        | error e => exact hr
        | ok fl =>
          cases fl with
          | ret v =>
            obtain ⟨rfl, h', tk, rfl, T, k⟩ := hr
            repeat (any_goals (first | assumption | wp_step))
            exact q _ _ T k
          | _ => exact hr.elim
    | _ => exact hr.elim
end
end Nh
set_option Elab.async false
set_option linter.all false
set_option maxRecDepth 100000
set_option maxHeartbeats 3200000
namespace Nh
open PySem PySem.Spec PyProof.Rows L2
theorem tx_vals {P : Program} {w : World} : ∀ {l : List (Int × Value)}, (∀ e ∈ l, IsTx P w e) → PyProof.Rows.StrsAre (l.map (·.2)) (l.map entTx)
  | [], _ => .nil
  | e :: l, g => by
    obtain ⟨z, u, e1, _⟩ := g e List.mem_cons_self
    have e2 : entTx e = z := by
      unfold entTx
      rw [e1]
    rw [List.map_cons, List.map_cons, e1, e2]
    exact .cons z u (tx_vals fun x hx => g x (List.mem_cons_of_mem _ hx))
theorem strs_perm : ∀ {vs us : List Value}, vs.Perm us → ∀ {zs : List Str}, PyProof.Rows.StrsAre us zs → ∃ ys, PyProof.Rows.StrsAre vs ys ∧ ys.Perm zs := by
  intro vs us p
  induction p with
  | nil =>
    intro zs h
    cases h
    exact ⟨[], .nil, .nil⟩
  | cons x _ ih =>
    intro zs h
    cases h with
    | cons z t r =>
      obtain ⟨ys, h1, h2⟩ := ih r
      exact ⟨z :: ys, .cons z t h1, h2.cons z⟩
  | swap x y l =>
    intro zs h
    cases h with
    | cons z t r =>
      cases r with
      | cons z2 t2 r =>
        exact ⟨_, .cons z2 t2 (.cons z t r), .swap z z2 _⟩
  | trans _ _ i1 i2 =>
    intro zs h
    obtain ⟨ys, h1, h2⟩ := i2 h
    obtain ⟨xs, h3, h4⟩ := i1 h1
    exact ⟨xs, h3, h4.trans h2⟩
section
variable {P : Program} {w : World} {A : Around} {E : Value → Shared → Prop} {s : Shared}
/-- sorted of such a set -/
theorem tx_sorted {a : Addr} {ss : List Str} {Q : Value → Shared → Prop} (T : TxSet P w s.heap a ss) (hh : A.handled = none) (few : ss.length < 64)
    (q : ∀ s' p (out : Array Value) (c : Nat) (ys : List Str), (∀ b o, s.heap.get? b = some o → s'.heap.get? b = some o) → s'.gens = s.gens → s'.os = s.os → s.heap.objs.size ≤ p →
      s'.heap.get? p = some (seqObj "list" out c) → PyProof.Rows.StrsAre out.toList ys → ys.Perm ss → sortedS ys = true → Q (.ref p) s') :
    wpAny (model P w) A (call (.builtin "sorted") [.ref a]) Q E s := by
  obtain ⟨o, es, ep, t, eo, ex, ed, g, pm, nd, bd, ft, ri, ld⟩ := T
  refine Calls.call_function_entry kind_sorted plain_sorted entry_sorted (args_sorted1 _) ?_
  unfold Builtin.«sorted»
  refine wpAny_bind (m := checkCount "sorted" 1 1 _) (wpAny_pure ?_)
  refine wpAny_bind (collect_set (A := A.in1) hh ⟨o, eo, ex.1, ed⟩ ft bd ri ld fun s1 vs k1 z1 g1 o1 p1 => ?_)
  obtain ⟨zs, sv, pz⟩ := strs_perm p1 (tx_vals g)
  have hl : vs.length < 64 := by
    rw [StrsAre.len_eq sv, (pz.trans pm).length_eq]
    exact few
  refine wpAny_bind (wpAny_newList ?_ (Nat.le_trans (Nat.le_of_lt hl) (by decide)))
  have eL : (s1.heap.push (seqObj "list" vs.toArray 0)).get? s1.heap.objs.size = some (seqObj "list" vs.toArray 0) := Heap.get?_push_size _ rfl
  refine wpAny_bind (wpAny_holding (wpAny_call_entry slot_list_sort ⟨_, eL, rfl⟩ entry_list_sort (list_sort_treeK strKind_oneLt eL sv.keysOf (fun x y r e => keyKind_strs (by rw [← e]; exact sv)) hl fun st hp hs => ⟨_, rfl, ?_⟩) (args_list_sort _)))
  obtain ⟨ys, h1, h2, h3⟩ := sorted_out_str sv hp hs
  obtain ⟨c, ec⟩ := sortedHeap_at (vs := vs) (out := (arrOf st).map (·.2)) eL
  refine wpAny_pure ⟨_, rfl, q _ s1.heap.objs.size _ c ys (fun b u e => ?_) g1 o1 z1 ec h1 (h2.trans (pz.trans pm)) h3⟩
  have e1 := k1 b u e
  have lt := Heap.lt_size e1
  have sz : (s1.heap.push (seqObj "list" vs.toArray 0)).objs.size = s1.heap.objs.size + 1 := Heap.size_push ..
  show (sortedHeap (s1.heap.push (seqObj "list" vs.toArray 0)) s1.heap.objs.size vs _).get? b = some u
  rw [sortedHeap_old (Nat.ne_of_lt lt) (by rw [sz]; exact Nat.lt_succ_of_lt lt)]
  exact Heap.get?_push_of_some _ e1
end
/-! ### as calls -/
def TxO (P : Program) (w : World) (a : Addr) (ss : List Str) : HO := .ext fun h => TxSet P w h a ss
section
variable {X : Cx}
def rSetTx (P : Program) (w : World) (K : PySem.W.Frag) : List V → Hp → VK → Prop := fun xs H Q => ∃ l zs, xs = [.ref l] ∧ SqL K H l (zs.map V.str) ∧ zs.length ≤ 50 ∧ ∀ p, H p = none → Q (.ref p) (upd H p (TxO P w p (txAll zs)))
theorem call_setTx (hc : X.calm = true) : CallR X (.type "set") (rSetTx X.prog X.w X.K) := by
  intro pins s σ H xs us Q I r h
  obtain ⟨l, zs, rfl, hS, hl, q⟩ := h
  rw [Vals.ref1 r]
  obtain ⟨its, rv, pl, hz⟩ := I.list hS
  refine tx_make (zs := zs) (I.ok.hd hc) pl.isList (by simpa using rv.strs) (Nat.lt_of_le_of_lt (show _ ≤ 51 by omega) (by decide)) fun h' tk T k => ?_
  have ob : ObjOk X.prog X.w (upd H s.heap.objs.size (TxO X.prog X.w s.heap.objs.size (txAll zs))) h' s.heap.objs.size (TxO X.prog X.w s.heap.objs.size (txAll zs)) := by
    have ⟨o, _, _, _, eo, _⟩ := T
    exact ⟨T, ⟨o, eo⟩, fun h1 h2 p k => TxSet.move p k⟩
  exact ⟨.ref _, _, I.laid (t' := tk) k (Nat.le_refl _) ob, rfl, q _ (I.hok.fresh (Nat.le_refl _))⟩
def rSortTx (P : Program) (w : World) : List V → Hp → VK → Prop := fun xs H Q => ∃ a ss, xs = [.ref a] ∧ H a = some (TxO P w a ss) ∧ ss.length < 64 ∧
  ∀ ys p, ys.Perm ss → sortedS ys = true → H p = none → Q (.ref p) (upd H p (.lst (ys.map V.str)))
theorem call_sortTx (hc : X.calm = true) : CallR X (.builtin "sorted") (rSortTx X.prog X.w) := by
  intro pins s σ H xs us Q I r h
  obtain ⟨a, ss, rfl, ha, hl, q⟩ := h
  rw [Vals.ref1 r]
  refine tx_sorted (I.hok a _ ha).1 (I.ok.hd hc) hl fun s' p out c ys k g o hp eo hy hm hs => ?_
  have hlen : (ys.map V.str).length ≤ sizeLine := by
    rw [List.length_map, hm.length_eq]
    exact Nat.le_trans (Nat.le_of_lt hl) (by decide)
  have hn : H p = none := I.hok.fresh hp
  have J : Inv X pins σ (upd H p (.lst (ys.map V.str))) { s with heap := s'.heap, gens := s'.gens, drawn := s'.drawn, toks := s'.toks } :=
    I.call (ch := []) (Un.laid k hp hn) (I.hok.laid k hp ⟨hlen, out.toList, c, vals_of_strs hy, eo⟩) (by rw [g]; exact I.bare) (fun _ z => nomatch z)
  have e : s' = { s with heap := s'.heap, gens := s'.gens, drawn := s'.drawn, toks := s'.toks } := by
    cases s'
    cases s
    cases o
    rfl
  rw [e]
  exact ⟨.ref p, _, J, rfl, q ys p hm hs hn⟩
theorem txAll_len : ∀ (zs ss : List Str), (zs.foldl txAdd ss).length ≤ ss.length + zs.length
  | [], ss => Nat.le_refl _
  | z :: zs, ss => by
    have h1 := txAdd_len ss z
    have h2 := txAll_len zs (txAdd ss z)
    rw [List.foldl_cons, List.length_cons]
    omega
/-- sorted(set(e)) of a list of texts -/
def tSortedSet (P : Program) (w : World) (K : PySem.W.Frag) (te : TE) : TE := tCB (rSortTx P w) (tCons (tCB (rSetTx P w K) (tCons te tNil)) tNil)
theorem pe_sortedSet {e : Expr} {te : TE} {p p2 q pos : Pos} (hc : X.calm = true) (g1 : Gl X "sorted") (m1 : X.mg "sorted" = none) (g2 : Gl X "set") (m2 : X.mg "set" = none) (he : PE X e te)
    (hs : starEach [e] X.env = (false, eval e X.env) :: starEach [] X.env := by rfl) : PE X (.Call (.Name "sorted" p) [.Call (.Name "set" p2) [e] [] q] [] pos) (tSortedSet X.prog X.w X.K te) :=
  pe_callB (call_sortTx hc) g1 m1 (by decide +kernel) (pa_cons (pe_callTy (call_setTx hc) g2 m2 (by decide +kernel) (pa_cons he pa_nil hs) (he := hs)) pa_nil)
end
theorem RepL.strs {β : Bag} {H : Hp} : ∀ {vs : List V} {zs : List Str}, RepL β H vs (zs.map D.str) → vs = zs.map V.str
  | _, [], .nil => rfl
  | _, z :: zs, .cons r t => by
    cases r
    rw [List.map_cons, RepL.strs t]
theorem RepL.ofStrs {β : Bag} {H : Hp} : ∀ zs : List Str, RepL β H (zs.map V.str) (zs.map D.str)
  | [] => .nil
  | z :: zs => .cons (.str z) (RepL.ofStrs zs)
theorem we_sortedSet {P : Program} {w : World} {K : PySem.W.Frag} {ρ : Env} {Φ : D → Prop} {te : TE} (h : WE te ρ fun x => ∃ zs, x = .lst (zs.map D.str) ∧ zs.length ≤ 50 ∧ ∀ ys : List Str, ys.Perm (txAll zs) → sortedS ys = true → Φ (.lst (ys.map D.str))) :
    WE (tSortedSet P w K te) ρ Φ := fun bn β σ H Q b r q =>
  h bn β σ H _ b r fun v dx H1 e1 b1 r1 ⟨zs, ex, hl, k⟩ => by
    subst ex
    cases r1 with
    | lst n n2 hh rr =>
      obtain rfl := rr.strs
      refine ⟨_, zs, rfl, SqL.of hh, hl, fun p hp => ?_⟩
      have hle := txAll_len zs []
      refine ⟨p, txAll zs, rfl, upd_same, by unfold txAll; rw [List.length_nil] at hle; omega, fun ys p2 hy hs hp2 => ?_⟩
      have b2 := b1.upd (o := TxO P w p (txAll zs)) hp
      exact q _ _ _ ((e1.trans (.new hp)).trans (.new hp2)) (b2.upd hp2) (.lst (b2.live hp2) (b2.live2 hp2) upd_same (RepL.ofStrs ys)) (k ys hy hs)
theorem two_sorted {ys : List Str} (h : ys.Perm ["over", "inexact"]) (hs : sortedS ys = true) : ys = (["inexact", "over"] : List Str) := by
  have hl := h.length_eq
  match ys, hl with
  | [a, b], _ =>
    have ha : a ∈ (["over", "inexact"] : List Str) := h.mem_iff.mp List.mem_cons_self
    rw [List.mem_cons, List.mem_singleton] at ha
    rcases ha with rfl | rfl
    · have h2 := (List.perm_cons _).mp h
      have e := h2.singleton_eq
      cases e
      exact absurd hs (by decide +kernel)
    · have h3 : ([b] : List Str).Perm ["over"] := (List.perm_cons _).mp (h.trans (.swap _ _ _))
      have e := h3.singleton_eq
      cases e
      rfl
theorem flags_sorted {zs ys : List Str} (hz : zs = (["inexact", "over"] : List Str) ∨ zs = (["inexact", "inexact", "over"] : List Str)) (h : ys.Perm (txAll zs)) (hs : sortedS ys = true) : ys = (["inexact", "over"] : List Str) := by
  have e : txAll zs = (["over", "inexact"] : List Str) := by rcases hz with rfl | rfl <;> decide +kernel
  rw [e] at h
  exact two_sorted h hs
end Nh
set_option Elab.async false
set_option linter.all false
set_option maxRecDepth 100000
set_option maxHeartbeats 4000000
namespace Nh
open PySem PySem.Spec PyProof.Rows L2
abbrev N_L_rounded : List Str := ["_law_form", "_law_way", "_law_x", "_law_s", "_law_size", "_law_its", "_law_lower", "_law_upper", "_law_c", "_law_more", "_law_worth_here", "_law_flags", "_law_is_inf"]
abbrev P_L_rounded : List Str := ["_law_form", "_law_way", "_law_x", "_law_s"]
theorem sc_L_rounded : FnScope N_L_rounded P_L_rounded (defScope (topS 52)) := ⟨rfl, rfl, rfl, by decide +kernel, rfl, by decide +kernel, by decide +kernel⟩
def t_L_rounded (P : Program) (w : World) (K : PySem.W.Frag) (s_L_sized s_L_neighbours s_L_nearer s_L_is_below s_L_normal s_L_greatest s_L_form_of : Sp) : TS := (tSeq (tAsg (tIf (tTest (tOp rEq (tOp (rIxT K) (tVar 2) (tC (.int 0))) (tC (.int 0)))) (tVar 3) (tCB rInt1 (tCons (tOp rLtI (tOp (rIxT K) (tVar 2) (tC (.int 0))) (tC (.int 0))) tNil))) (gName 3))
 (tSeq (tPar 4 5 (tCons (tCall s_L_sized [] E0 (tCons (tVar 2) tNil)) (tCons (tVar 1) tNil)))
 (tSeq (tIfS (tTest (tOp (rIn K false) (tVar 1) (tTup (tCons (tC (.str "up")) (tCons (tC (.str "down")) tNil))))) (tAsg (tIf (tTest (tOp rEq (tOp rEq (tVar 1) (tC (.str "up"))) (tOp rEq (tVar 3) (tC (.int 0))))) (tC (.str "upper")) (tC (.str "lower"))) (gName 5)) tNext)
 (tSeq (tAsg (tCall s_L_neighbours [] E0 (tCons (tVar 0) (tCons (tVar 4) tNil))) (gTup K 4 (gCons (gName 6) (gCons (gName 7) (gCons (gName 8) (gCons (gName 9) gNil))))))
 (tSeq (tAsg (tCall s_L_nearer [] E0 (tCons (tVar 5) (tCons (tVar 4) (tCons (tVar 6) (tCons (tVar 7) (tCons (tVar 8) tNil)))))) (gName 10))
 (tSeq (tAsg (tOp rRep (tLst (tCons (tC (.str "inexact")) tNil)) (tCB rInt1 (tCons (tOp (rNeD K) (tVar 10) (tVar 4)) tNil))) (gName 11))
 (tSeq (tIfS (tAnd (tTest (tOp (rNeD K) (tVar 10) (tVar 4))) (tB (tCall s_L_is_below [] E0 (tCons (tVar 4) (tCons (tCall s_L_normal [] E0 (tCons (tVar 0) tNil)) tNil))))) (tDrop (tBM K "list" rAppend (tVar 11) (tCons (tC (.str "tiny")) tNil))) tNext)
 (tSeq (tIfS (tNot (tB (tCall s_L_is_below [] E0 (tCons (tCall s_L_greatest [] E0 (tCons (tVar 0) tNil)) (tCons (tVar 10) tNil))))) (tRet (tTup (tCons (tCall s_L_form_of [] E0 (tCons (tVar 0) (tCons (tVar 3) (tCons (tVar 10) tNil)))) (tCons (tCB (rTupL K) (tCons (tVar 11) tNil)) tNil)))) tNext)
 (tSeq (tAsg (tOrV (tOp (rIn K false) (tVar 1) (tTup (tCons (tC (.str "even")) (tCons (tC (.str "away")) tNil)))) (tOrV (tAndV (tOp rEq (tVar 1) (tC (.str "up"))) (tOp rEq (tVar 3) (tC (.int 0)))) (tAndV (tOp rEq (tVar 1) (tC (.str "down"))) (tOp rEq (tVar 3) (tC (.int 1)))))) (gName 12))
 (tSeq (tAsg (tCB (rTupL K) (tCons (tSortedSet P w K (tOp rCat (tVar 11) (tLst (tCons (tC (.str "inexact")) (tCons (tC (.str "over")) tNil))))) tNil)) (gName 11))
 (tRet (tTup (tCons (tIf (tB (tVar 12)) (tTup (tCons (tC (.str "inf")) (tCons (tVar 3) tNil))) (tCall s_L_form_of [] E0 (tCons (tVar 0) (tCons (tVar 3) (tCons (tCall s_L_greatest [] E0 (tCons (tVar 0) tNil)) tNil))))) (tCons (tVar 11) tNil))))))))))))))
theorem dv_L_rounded {P : Program} {w : World} {K : PySem.W.Frag} {mg : Str → Option Value} {base : Heap} {f : Addr} {cdv : Value} {A : Around} {outer : List PySem.Env} {s : Shared} {H : Hp} {E : XK} {s_L_sized s_L_neighbours s_L_nearer s_L_is_below s_L_normal s_L_greatest s_L_form_of : Sp}
    (hr : Room 4 (A.deeper (envOfC "_law_rounded" (defScope (topS 52)) s.heap.objs.size f cdv))) (c_L_sized : Ok P w K mg base 1 "_law_sized" P_L_sized s_L_sized) (c_L_neighbours : Ok P w K mg base 4 "_law_neighbours" P_L_neighbours s_L_neighbours) (c_L_nearer : Ok P w K mg base 4 "_law_nearer" P_L_nearer s_L_nearer) (c_L_is_below : Ok P w K mg base 1 "_law_is_below" P_L_is_below s_L_is_below) (c_L_normal : Ok P w K mg base 3 "_law_normal" P_L_normal s_L_normal) (c_L_greatest : Ok P w K mg base 4 "_law_greatest" P_L_greatest s_L_greatest) (c_L_form_of : Ok P w K mg base 3 "_law_form_of" P_L_form_of s_L_form_of) (m_int : mg "int" = none) (m_tuple : mg "tuple" = none) (m_sorted : mg "sorted" = none) (m_set : mg "set" = none) :
    PSs (cxOf CX0 P w K mg base N_L_rounded "_law_rounded" (defScope (topS 52)) f cdv A outer s H E).nox (defBody (topS 52)) (t_L_rounded P w K s_L_sized s_L_neighbours s_L_nearer s_L_is_below s_L_normal s_L_greatest s_L_form_of) :=
 (pss_cons (ps_set (i := 3) sc_L_rounded.nd rfl (.inl rfl) (pe_ifExp (pt_cmpR op_eq (pe_ix ix_tup (pv 2) pe_int (fun _ _ => rfl)) pe_int (nomark _)) (pv 3) (pe_callTy cInt1 (by rfl) m_int (by decide +kernel) (pa_cons (pe_cmpR oLtI (pe_ix ix_tup (pv 2) pe_int (fun _ _ => rfl)) pe_int (nomark _)) pa_nil))))
 (pss_cons (ps_par (i := 4) (j := 5) (by rfl) sc_L_rounded.nd rfl rfl (by decide) rfl rfl (pa_cons (pe_ok c_L_sized hr (by rfl) (pa_cons (pv 2) pa_nil)) (pa_cons (pv 1) pa_nil)) (by rfl))
 (pss_cons (ps_if (pt_cmpR (op_in_seq) (pv 1) (pe_tup (pa_cons pe_str (pa_cons pe_str pa_nil))) rfl) (pss_one (ps_set (i := 5) sc_L_rounded.nd rfl (.inl rfl) (pe_ifExp (pt_cmpR op_eq (pe_cmpR op_eq (pv 1) pe_str (nomark _)) (pe_cmpR op_eq (pv 3) pe_int (nomark _)) (nomark _)) pe_str pe_str))) pss_nil)
 (pss_cons (ps_asg (pe_ok c_L_neighbours hr (by rfl) (pa_cons (pv 0) (pa_cons (pv 4) pa_nil))) (pg_tup rfl (pgs_cons (pg_name (i := 6) sc_L_rounded.nd rfl (.inl rfl)) (pgs_cons (pg_name (i := 7) sc_L_rounded.nd rfl (.inl rfl)) (pgs_cons (pg_name (i := 8) sc_L_rounded.nd rfl (.inl rfl)) (pgs_cons (pg_name (i := 9) sc_L_rounded.nd rfl (.inl rfl)) pgs_nil))))))
 (pss_cons (ps_set (i := 10) sc_L_rounded.nd rfl (.inl rfl) (pe_ok c_L_nearer hr (by rfl) (pa_cons (pv 5) (pa_cons (pv 4) (pa_cons (pv 6) (pa_cons (pv 7) (pa_cons (pv 8) pa_nil)))))))
 (pss_cons (ps_set (i := 11) sc_L_rounded.nd rfl (.inl rfl) (pe_op op_rep (pe_lst (pa_cons pe_str pa_nil)) (pe_callTy cInt1 (by rfl) m_int (by decide +kernel) (pa_cons (pe_cmpR (op_neD hr.units) (pv 10) (pv 4) (nomark _)) pa_nil))))
 (pss_cons (ps_if (PW.pt (pw_and (pt_cmpR (op_neD hr.units) (pv 10) (pv 4) (nomark _)) (pw_and1 (pt_val (pe_ok c_L_is_below hr (by rfl) (pa_cons (pv 4) (pa_cons (pe_ok c_L_normal hr (by rfl) (pa_cons (pv 0) pa_nil)) pa_nil))))))) (pss_one (ps_expr (pe_bm PySem.F.plainAttrs_list PySem.F.slot_list_append PySem.F.type_list_append mt_append (pv 11) (pa_cons pe_str pa_nil)))) pss_nil)
 (pss_cons (ps_if (pt_not (pt_val (pe_ok c_L_is_below hr (by rfl) (pa_cons (pe_ok c_L_greatest hr (by rfl) (pa_cons (pv 0) pa_nil)) (pa_cons (pv 10) pa_nil))))) (pss_one (ps_ret (pe_tup (pa_cons (pe_ok c_L_form_of hr (by rfl) (pa_cons (pv 0) (pa_cons (pv 3) (pa_cons (pv 10) pa_nil)))) (pa_cons (pe_callTy cTupL (by rfl) m_tuple (by decide +kernel) (pa_cons (pv 11) pa_nil)) pa_nil))))) pss_nil)
 (pss_cons (ps_set (i := 12) sc_L_rounded.nd rfl (.inl rfl) (pe_or (pe_cmpR (op_in_seq) (pv 1) (pe_tup (pa_cons pe_str (pa_cons pe_str pa_nil))) rfl) (pe_or (pe_and (pe_cmpR op_eq (pv 1) pe_str (nomark _)) (pe_one (pe_cmpR op_eq (pv 3) pe_int (nomark _)))) (pe_one (pe_and (pe_cmpR op_eq (pv 1) pe_str (nomark _)) (pe_one (pe_cmpR op_eq (pv 3) pe_int (nomark _))))))))
 (pss_cons (ps_set (i := 11) sc_L_rounded.nd rfl (.inl rfl) (pe_callTy cTupL (by rfl) m_tuple (by decide +kernel) (pa_cons (pe_sortedSet rfl (by rfl) m_sorted (by rfl) m_set (pe_op op_cat (pv 11) (pe_lst (pa_cons pe_str (pa_cons pe_str pa_nil))))) pa_nil)))
 (pss_one (ps_ret (pe_tup (pa_cons (pe_ifExp (pt_val (pv 12)) (pe_tup (pa_cons pe_str (pa_cons (pv 3) pa_nil))) (pe_ok c_L_form_of hr (by rfl) (pa_cons (pv 0) (pa_cons (pv 3) (pa_cons (pe_ok c_L_greatest hr (by rfl) (pa_cons (pv 0) pa_nil)) pa_nil))))) (pa_cons (pv 11) pa_nil)))))))))))))))
abbrev N_lawG : List Str := ["_law_script", "_law_bag_here", "_law_form", "_law_n", "_law_way", "_law_told", "_law_value_here", "_law_due", "_law_x", "_law_k"]
abbrev P_lawG : List Str := ["_law_script"]
theorem sc_lawG : FnScope N_lawG P_lawG (defScope (topS 57)) := ⟨rfl, rfl, rfl, by decide +kernel, rfl, by decide +kernel, by decide +kernel⟩
def t_lawG (K : PySem.W.Frag) (s_L_bag s_L_any_format s_L_formats s_L_drawn_integer s_L_ways s_from_integer s_L_alike s_L_rounded s_integer_of s_L_some s_L_near_half s_L_value s_L_worth s_L_due_integer : Sp) : TS := (tSeq (tAsg (tCall s_L_bag [] E0 (tCons (tVar 0) tNil)) (gName 1))
 (tSeq (tFor (iTup K (tTup (tCons (tCall s_L_formats [] E0 (tCons (tVar 1) tNil)) (tCons (tCall s_L_any_format [] E0 (tCons (tVar 1) tNil)) tNil)))) (gName 2) (tSeq (tFor (iList K (tOp rCat (tLc (iRng1 (tCons (tC (.int 3)) tNil)) (gName 9) tYes (tCall s_L_drawn_integer [] E0 (tCons (tVar 1) (tCons (tVar 2) tNil))) [9]) (tLst (tCons (tC (.int 0)) tNil)))) (gName 3) (tFor (iList K (tCall s_L_ways [] E0 tNil)) (gName 4) (tSeq (tAsg (tCall s_from_integer [] E0 (tCons (tVar 2) (tCons (tVar 4) (tCons (tVar 3) tNil)))) (gName 5))
 (tSeq (tIfS (tNot (tB (tCall s_L_alike [] E0 (tCons (tVar 5) (tCons (tCall s_L_rounded [] E0 (tCons (tVar 2) (tCons (tVar 4) (tCons (tTup (tCons (tVar 3) (tCons (tC (.int 1)) tNil))) (tCons (tC (.int 0)) tNil))))) tNil))))) (tRet (tC (.bl false))) tNext)
 (tIfS (tAnd (tTest (tOp (rEqD K) (tOp (rIxT K) (tVar 5) (tC (.int 1))) (tTup tNil))) (tNot (tB (tCall s_L_alike [] E0 (tCons (tCall s_integer_of [] E0 (tCons (tVar 2) (tCons (tCall s_L_some [] E0 (tCons (tVar 1) (tCons (tCall s_L_ways [] E0 tNil) tNil))) (tCons (tOp (rIxT K) (tVar 5) (tC (.int 0))) tNil)))) (tCons (tTup (tCons (tVar 3) (tCons (tTup tNil) tNil))) tNil)))))) (tRet (tC (.bl false))) tNext)))))
 (tFor (iList K (tOp rCat (tLc (iRng1 (tCons (tC (.int 3)) tNil)) (gName 9) tYes (tCall s_L_near_half [] E0 (tCons (tVar 1) (tCons (tVar 2) tNil))) [9]) (tLst (tCons (tCall s_L_value [] E0 (tCons (tVar 1) (tCons (tVar 2) tNil))) (tCons (tTup (tCons (tC (.str "inf")) (tCons (tC (.int 1)) tNil))) (tCons (tTup (tCons (tC (.str "nan")) tNil)) tNil)))))) (gName 6) (tFor (iList K (tCall s_L_ways [] E0 tNil)) (gName 4) (tSeq (tAsg (tTup (tCons (tC .non) (tCons (tTup (tCons (tC (.str "invalid")) tNil)) tNil))) (gName 7))
 (tSeq (tIfS (tTest (tOp rEq (tOp (rIxT K) (tVar 6) (tC (.int 0))) (tC (.str "num")))) (tSeq (tAsg (tCall s_L_worth [] E0 (tCons (tVar 2) (tCons (tVar 6) tNil))) (gName 8))
 (tAsg (tTup (tCons (tCall s_L_due_integer [] E0 (tCons (tVar 4) (tCons (tVar 8) tNil))) (tCons (tOp (rRep01 K) (tTup (tCons (tC (.str "inexact")) tNil)) (tCB rInt1 (tCons (tOp rNe (tOp (rIxT K) (tVar 8) (tC (.int 1))) (tC (.int 1))) tNil))) tNil))) (gName 7))) tNext)
 (tIfS (tNot (tB (tCall s_L_alike [] E0 (tCons (tCall s_integer_of [] E0 (tCons (tVar 2) (tCons (tVar 4) (tCons (tVar 6) tNil)))) (tCons (tVar 7) tNil))))) (tRet (tC (.bl false))) tNext)))))))
 (tRet (tC (.bl true)))))
theorem dv_lawG {P : Program} {w : World} {K : PySem.W.Frag} {mg : Str → Option Value} {base : Heap} {f : Addr} {cdv : Value} {A : Around} {outer : List PySem.Env} {s : Shared} {H : Hp} {E : XK} {s_L_bag s_L_any_format s_L_formats s_L_drawn_integer s_L_ways s_from_integer s_L_alike s_L_rounded s_integer_of s_L_some s_L_near_half s_L_value s_L_worth s_L_due_integer : Sp}
    (hr : Room 6 (A.deeper (envOfC "law" (defScope (topS 57)) s.heap.objs.size f cdv))) (c_L_bag : Ok P w K mg base 1 "_law_bag" P_L_bag s_L_bag) (c_L_any_format : Ok P w K mg base 4 "_law_any_format" P_L_any_format s_L_any_format) (c_L_formats : Ok P w K mg base 3 "_law_formats" P_L_formats s_L_formats) (c_L_drawn_integer : Ok P w K mg base 3 "_law_drawn_integer" P_L_drawn_integer s_L_drawn_integer) (c_L_ways : Ok P w K mg base 1 "_law_ways" P_L_ways s_L_ways) (c_from_integer : Ok P w K mg base 6 "from_integer" P_from_integer s_from_integer) (c_L_alike : OkG P w K mg base 1 "_law_alike" P_L_alike s_L_alike) (c_L_rounded : Ok P w K mg base 5 "_law_rounded" P_L_rounded s_L_rounded) (c_integer_of : Ok P w K mg base 3 "integer_of" P_integer_of s_integer_of) (c_L_some : Ok P w K mg base 2 "_law_some" P_L_some s_L_some) (c_L_near_half : Ok P w K mg base 6 "_law_near_half" P_L_near_half s_L_near_half) (c_L_value : Ok P w K mg base 4 "_law_value" P_L_value s_L_value) (c_L_worth : Ok P w K mg base 4 "_law_worth" P_L_worth s_L_worth) (c_L_due_integer : Ok P w K mg base 3 "_law_due_integer" P_L_due_integer s_L_due_integer) (m_range : mg "range" = none) (m_int : mg "int" = none) (hg : (A.deeper (envOfC "law" (defScope (topS 57)) s.heap.objs.size f cdv)).guards = some []) :
    PSs (cxOf CX0 P w K mg base N_lawG "law" (defScope (topS 57)) f cdv A outer s H E).nox (defBody (topS 57)) (t_lawG K s_L_bag s_L_any_format s_L_formats s_L_drawn_integer s_L_ways s_from_integer s_L_alike s_L_rounded s_integer_of s_L_some s_L_near_half s_L_value s_L_worth s_L_due_integer) :=
 (pss_cons (ps_set (i := 1) sc_lawG.nd rfl (.inr rfl) (pe_ok c_L_bag hr (by rfl) (pa_cons (pv 0) pa_nil)))
 (pss_cons (ps_for PassesOwn.never rfl (pi_tup (pe_tup (pa_cons (pe_ok c_L_formats hr (by rfl) (pa_cons (pv 1) pa_nil)) (pa_cons (pe_ok c_L_any_format hr (by rfl) (pa_cons (pv 1) pa_nil)) pa_nil)))) (pg_name (i := 2) sc_lawG.nd rfl (.inr rfl)) (pss_cons (ps_for PassesOwn.never rfl (pi_list (pe_op op_cat (pe_lc (own := [("_law_k", 9)]) (g := gName 9) (tt := tYes) rfl sc_lawG.nd (pi_range1 (by rfl) m_range (pa_cons pe_int pa_nil)) (blkOk_by (own := [("_law_k", 9)]) (N := N_lawG) (sc := defScope (topS 57)) (by decide +kernel)) (fun _ _ _ _ _ => pg_name (i := 9) sc_lawG.nd rfl (Or.inl rfl)) (fun _ _ _ _ _ => pts_nil) (fun _ _ _ _ _ => (pe_ok c_L_drawn_integer hr (by rfl) (pa_cons (pv 1) (pa_cons (pv 2) pa_nil))))) (pe_lst (pa_cons pe_int pa_nil)))) (pg_name (i := 3) sc_lawG.nd rfl (.inl rfl)) (pss_one (ps_for PassesOwn.never rfl (pi_list (pe_ok0 c_L_ways hr (by rfl))) (pg_name (i := 4) sc_lawG.nd rfl (.inl rfl)) (pss_cons (ps_set (i := 5) sc_lawG.nd rfl (.inl rfl) (pe_ok c_from_integer hr (by rfl) (pa_cons (pv 2) (pa_cons (pv 4) (pa_cons (pv 3) pa_nil)))))
 (pss_cons (ps_if (pt_not (pt_val (pe_okG c_L_alike hg hr (by rfl) (pa_cons (pv 5) (pa_cons (pe_ok c_L_rounded hr (by rfl) (pa_cons (pv 2) (pa_cons (pv 4) (pa_cons (pe_tup (pa_cons (pv 3) (pa_cons pe_int pa_nil))) (pa_cons pe_int pa_nil))))) pa_nil))))) (pss_one (ps_ret pe_bl)) pss_nil)
 (pss_one (ps_if (PW.pt (pw_and (pt_cmpR (op_eqD hr.units) (pe_ix ix_tup (pv 5) pe_int (fun _ _ => rfl)) (pe_tup pa_nil) (nomark _)) (pw_and1 (pt_not (pt_val (pe_okG c_L_alike hg hr (by rfl) (pa_cons (pe_ok c_integer_of hr (by rfl) (pa_cons (pv 2) (pa_cons (pe_ok c_L_some hr (by rfl) (pa_cons (pv 1) (pa_cons (pe_ok0 c_L_ways hr (by rfl)) pa_nil))) (pa_cons (pe_ix ix_tup (pv 5) pe_int (fun _ _ => rfl)) pa_nil)))) (pa_cons (pe_tup (pa_cons (pv 3) (pa_cons (pe_tup pa_nil) pa_nil))) pa_nil)))))))) (pss_one (ps_ret pe_bl)) pss_nil)))))))
 (pss_one (ps_for PassesOwn.never rfl (pi_list (pe_op op_cat (pe_lc (own := [("_law_k", 9)]) (g := gName 9) (tt := tYes) rfl sc_lawG.nd (pi_range1 (by rfl) m_range (pa_cons pe_int pa_nil)) (blkOk_by (own := [("_law_k", 9)]) (N := N_lawG) (sc := defScope (topS 57)) (by decide +kernel)) (fun _ _ _ _ _ => pg_name (i := 9) sc_lawG.nd rfl (Or.inl rfl)) (fun _ _ _ _ _ => pts_nil) (fun _ _ _ _ _ => (pe_ok c_L_near_half hr (by rfl) (pa_cons (pv 1) (pa_cons (pv 2) pa_nil))))) (pe_lst (pa_cons (pe_ok c_L_value hr (by rfl) (pa_cons (pv 1) (pa_cons (pv 2) pa_nil))) (pa_cons (pe_tup (pa_cons pe_str (pa_cons pe_int pa_nil))) (pa_cons (pe_tup (pa_cons pe_str pa_nil)) pa_nil)))))) (pg_name (i := 6) sc_lawG.nd rfl (.inl rfl)) (pss_one (ps_for PassesOwn.never rfl (pi_list (pe_ok0 c_L_ways hr (by rfl))) (pg_name (i := 4) sc_lawG.nd rfl (.inl rfl)) (pss_cons (ps_set (i := 7) sc_lawG.nd rfl (.inl rfl) (pe_tup (pa_cons pe_non (pa_cons (pe_tup (pa_cons pe_str pa_nil)) pa_nil))))
 (pss_cons (ps_if (pt_cmpR op_eq (pe_ix ix_tup (pv 6) pe_int (fun _ _ => rfl)) pe_str (nomark _)) (pss_cons (ps_set (i := 8) sc_lawG.nd rfl (.inl rfl) (pe_ok c_L_worth hr (by rfl) (pa_cons (pv 2) (pa_cons (pv 6) pa_nil))))
 (pss_one (ps_set (i := 7) sc_lawG.nd rfl (.inl rfl) (pe_tup (pa_cons (pe_ok c_L_due_integer hr (by rfl) (pa_cons (pv 4) (pa_cons (pv 8) pa_nil))) (pa_cons (pe_op op_rep01 (pe_tup (pa_cons pe_str pa_nil)) (pe_callTy cInt1 (by rfl) m_int (by decide +kernel) (pa_cons (pe_cmpR op_ne (pe_ix ix_tup (pv 8) pe_int (fun _ _ => rfl)) pe_int (nomark _)) pa_nil))) pa_nil)))))) pss_nil)
 (pss_one (ps_if (pt_not (pt_val (pe_okG c_L_alike hg hr (by rfl) (pa_cons (pe_ok c_integer_of hr (by rfl) (pa_cons (pv 2) (pa_cons (pv 4) (pa_cons (pv 6) pa_nil)))) (pa_cons (pv 7) pa_nil))))) (pss_one (ps_ret pe_bl)) pss_nil))))))))))
 (pss_one (ps_ret pe_bl))))
end Nh
set_option Elab.async false
set_option linter.all false
set_option maxRecDepth 100000
set_option maxHeartbeats 4000000
namespace Nh
open PySem PySem.Spec PyProof.Rows L2
local macro_rules | `(tactic| walk_at "nhe") => `(tactic| first
  | (with_reducible refine wg_name ?_)
  | (with_reducible refine wgs_cons ?_)
  | (with_reducible refine wgs_nil ?_)
  | (with_reducible refine wg_tup ?_; refine ⟨_, rfl, rfl, ?_⟩)
  | (with_reducible refine we_nm ?_; refine ⟨_, rfl, ?_⟩)
  | (with_reducible refine we_int ?_)
  | (with_reducible refine we_str ?_)
  | (with_reducible refine we_non ?_)
  | (with_reducible refine we_bl ?_)
  | (with_reducible refine wAddI ?_)
  | (with_reducible refine wSubI ?_)
  | (with_reducible refine wMulI ?_)
  | (with_reducible refine wDivI ?_)
  | (with_reducible refine wModI ?_)
  | (with_reducible refine wPowI ?_)
  | (with_reducible refine wLtI ?_)
  | (with_reducible refine wLeI ?_)
  | (with_reducible refine wGtI ?_)
  | (with_reducible refine wGeI ?_)
  | (with_reducible refine wNegI ?_)
  | (with_reducible refine we_eq ?_)
  | (with_reducible refine we_ne ?_)
  | (with_reducible refine we_eqD ?_)
  | (with_reducible refine we_neD ?_)
  | (with_reducible refine we_in ?_)
  | (with_reducible refine we_ixT ?_)
  | (with_reducible refine we_ixL ?_)
  | (with_reducible refine we_tup ?_)
  | (with_reducible refine we_lst ?_)
  | (with_reducible refine we_catT ?_)
  | (with_reducible refine we_catL ?_)
  | (with_reducible refine we_subB ?_)
  | (with_reducible refine we_rep01 ?_)
  | (with_reducible refine wIs0 ?_)
  | (with_reducible refine wNot0 ?_)
  | (with_reducible refine wa_cons ?_)
  | (with_reducible refine wa_nil ?_)
  | (with_reducible refine wt_test ?_)
  | (with_reducible refine wt_B ?_)
  | (with_reducible refine wt_and ?_)
  | (with_reducible refine wt_or ?_)
  | (with_reducible refine wt_not ?_)
  | (with_reducible refine we_ifE ?_)
  | (with_reducible refine we_and ?_)
  | (with_reducible refine we_or ?_)
  | (with_reducible refine wChain ?_)
  | (with_reducible refine wAbs ?_)
  | (with_reducible refine wMax2 ?_)
  | (with_reducible refine wMin2 ?_)
  | (with_reducible refine we_min3 ?_)
  | (with_reducible refine we_gcd ?_)
  | (with_reducible refine wInt1 ?_)
  | (with_reducible refine intOf_bl ?_)
  | (with_reducible refine intOf_int ?_)
  | (with_reducible refine wLenL ?_)
  | (with_reducible refine wTupL ?_)
  | (with_reducible refine we_slT ?_)
  | (refine ⟨_, rfl, ?_⟩)
  | (refine ⟨_, _, rfl, rfl, ?_⟩)
  | (refine ⟨_, _, rfl, ?_⟩)
  | (refine ⟨_, _, _, rfl, ?_⟩)
  | (refine ⟨_, _, _, _, rfl, ?_⟩)
  | (refine ⟨_, _, _, _, _, rfl, ?_⟩)
  | (refine ⟨_, _, _, _, _, _, rfl, ?_⟩)
  | (refine ⟨_, EqV.int _ _, ?_⟩)
  | (refine ⟨_, EqV.str _ _, ?_⟩)
  | (refine ⟨_, EqV.bl _ _, ?_⟩)
  | (refine ⟨Nat.le_of_ble_eq_true rfl, ?_⟩))
local macro_rules | `(tactic| walk_at "nh") => `(tactic| first
  | (with_reducible refine ws_seq ?_)
  | (with_reducible refine ws_ret ?_)
  | (with_reducible refine ws_asg ?_)
  | (with_reducible refine ws_if ?_)
  | (with_reducible refine ws_par ?_)
  | (with_reducible refine ws_par3 ?_)
  | (with_reducible refine ws_next ?_)
  | (with_reducible refine ws_drop ?_)
  | (walk_at "nhe"))
section
variable {P : Program} {w : World} {K : PySem.W.Frag} {mg : Str → Option Value} {base : Heap} {f : Addr} {fd : FuncData}
/-! ### the law's rounding, in plain integers -/
theorem pw_cross {b e1 e2 : Int} (h : e1 ≤ e2) : b ^ e2.toNat * b ^ (-e1).toNat = b ^ e1.toNat * b ^ (-e2).toNat * b ^ (e2 - e1).toNat := by
  rw [← Int.pow_add, ← Int.pow_add, ← Int.pow_add]
  congr 1
  omega
/-- x * b ^ e1 below y * b ^ e2 -/
theorem lt_up {b e1 e2 x y : Int} (hb : 1 ≤ b) (h : e1 ≤ e2) : x * b ^ e1.toNat * (1 * b ^ (-e2).toNat) < y * b ^ e2.toNat * (1 * b ^ (-e1).toNat) ↔ x < y * b ^ (e2 - e1).toNat := by
  have p1 := pow_pos' hb e1.toNat
  have p2 := pow_pos' hb (-e2).toNat
  have pos : 0 < b ^ e1.toNat * b ^ (-e2).toNat := Int.mul_pos (by omega) (by omega)
  have l : x * b ^ e1.toNat * (1 * b ^ (-e2).toNat) = x * (b ^ e1.toNat * b ^ (-e2).toNat) := by rw [Int.one_mul]; ac_rfl
  have r : y * b ^ e2.toNat * (1 * b ^ (-e1).toNat) = y * b ^ (e2 - e1).toNat * (b ^ e1.toNat * b ^ (-e2).toNat) := by
    rw [Int.one_mul]
    calc y * b ^ e2.toNat * b ^ (-e1).toNat = y * (b ^ e2.toNat * b ^ (-e1).toNat) := by ac_rfl
      _ = y * (b ^ e1.toNat * b ^ (-e2).toNat * b ^ (e2 - e1).toNat) := by rw [pw_cross h]
      _ = y * b ^ (e2 - e1).toNat * (b ^ e1.toNat * b ^ (-e2).toNat) := by ac_rfl
  rw [l, r]
  exact ⟨fun z => Int.lt_of_mul_lt_mul_right z (Int.le_of_lt pos), fun z => Int.mul_lt_mul_of_pos_right z pos⟩
theorem lt_down {b e1 e2 x y : Int} (hb : 1 ≤ b) (h : e2 ≤ e1) : x * b ^ e1.toNat * (1 * b ^ (-e2).toNat) < y * b ^ e2.toNat * (1 * b ^ (-e1).toNat) ↔ x * b ^ (e1 - e2).toNat < y := by
  have p1 := pow_pos' hb e2.toNat
  have p2 := pow_pos' hb (-e1).toNat
  have pos : 0 < b ^ e2.toNat * b ^ (-e1).toNat := Int.mul_pos (by omega) (by omega)
  have r : y * b ^ e2.toNat * (1 * b ^ (-e1).toNat) = y * (b ^ e2.toNat * b ^ (-e1).toNat) := by rw [Int.one_mul]; ac_rfl
  have l : x * b ^ e1.toNat * (1 * b ^ (-e2).toNat) = x * b ^ (e1 - e2).toNat * (b ^ e2.toNat * b ^ (-e1).toNat) := by
    rw [Int.one_mul]
    calc x * b ^ e1.toNat * b ^ (-e2).toNat = x * (b ^ e1.toNat * b ^ (-e2).toNat) := by ac_rfl
      _ = x * (b ^ e2.toNat * b ^ (-e1).toNat * b ^ (e1 - e2).toNat) := by rw [pw_cross h]
      _ = x * b ^ (e1 - e2).toNat * (b ^ e2.toNat * b ^ (-e1).toNat) := by ac_rfl
  rw [l, r]
  exact ⟨fun z => Int.lt_of_mul_lt_mul_right z (Int.le_of_lt pos), fun z => Int.mul_lt_mul_of_pos_right z pos⟩
def cnN (F : Fm) (v e : Int) : Int := v * F.b ^ e.toNat / gd (v * F.b ^ e.toNat) (1 * F.b ^ (-e).toNat)
def cnD (F : Fm) (v e : Int) : Int := 1 * F.b ^ (-e).toNat / gd (v * F.b ^ e.toNat) (1 * F.b ^ (-e).toNat)
theorem cu_eq (F : Fm) (v e : Int) : cuD F v e = fr (cnN F v e) (cnD F v e) := rfl
theorem cnD_pos {F : Fm} (ok : FmOk F) (v e : Int) : 0 < cnD F v e := by
  have p := pow_pos' (b := F.b) (by have := ok.b2; omega) (-e).toNat
  exact rd_pos (by omega)
/-- the pair against c * b ^ e as it stands -/
theorem cn_cross {F : Fm} (v e : Int) : cnN F v e * F.b ^ (-e).toNat = v * F.b ^ e.toNat * cnD F v e := by
  have h1 := gd_dvd_n (n := v * F.b ^ e.toNat) (d := 1 * F.b ^ (-e).toNat)
  have h2 := gd_dvd_d (n := v * F.b ^ e.toNat) (d := 1 * F.b ^ (-e).toNat)
  unfold cnN cnD
  generalize v * F.b ^ e.toNat = N at *
  generalize F.b ^ (-e).toNat = M at *
  rw [Int.one_mul] at *
  generalize gd N M = g at *
  generalize N / g = x at *
  generalize M / g = y at *
  rw [← h1, ← h2]
  ac_rfl
/-- the way that the law goes -/
def itsW (w : Str) (s : Int) : Str := if w = "up" ∨ w = "down" then (if decide (w = "up") = decide (s = 0) then "upper" else "lower") else w
theorem near_same (x : Str) (m a b c : Int) : neD x m 1 a b a b c = fr a b := by
  unfold neD
  split
  · rfl
  split
  · rfl
  split
  · split <;> rfl
  · split <;> rfl
theorem near_two {F : Fm} (ok : FmOk F) {m c e : Int} (w : Str) (s : Int) (hw : WayOk w) (hne : ¬ c * dn F.b e 1 = up F.b e m) :
    neD (itsW w s) m 1 (cnN F c e) (cnD F c e) (cnN F (c + 1) e) (cnD F (c + 1) e) c = if isR w s c (sideOf (up F.b e m) (dn F.b e 1) c) = true then cuD F (c + 1) e else cuD F c e := by
  have hb : 1 ≤ F.b := by have := ok.b2; omega
  have pM := dn_pos (b := F.b) (e := e) (d := 1) hb (by decide)
  have d1 := cnD_pos ok c e
  have d2 := cnD_pos ok (c + 1) e
  have x1 := cn_cross (F := F) c e
  have x2 := cn_cross (F := F) (c + 1) e
  have pe := pow_pos' hb (-e).toNat
  have hN : up F.b e m = m * F.b ^ (-e).toNat := rfl
  have hM : dn F.b e 1 = F.b ^ e.toNat := by unfold dn; rw [Int.one_mul]
  have es : sideOf (up F.b e m) (dn F.b e 1) c = some (sgn (2 * (up F.b e m - c * dn F.b e 1) - dn F.b e 1)) := by
    unfold sideOf
    rw [if_neg hne]
  rw [es]
  rw [← hM] at x1 x2
  generalize dn F.b e 1 = M at *
  generalize hNN : up F.b e m = N at *
  have l1 : ((m * cnD F c e - cnN F c e * 1) * (cnD F (c + 1) e * 1)) * F.b ^ (-e).toNat = (N - c * M) * (cnD F c e * cnD F (c + 1) e) := by
    calc ((m * cnD F c e - cnN F c e * 1) * (cnD F (c + 1) e * 1)) * F.b ^ (-e).toNat = (m * F.b ^ (-e).toNat * cnD F c e - cnN F c e * F.b ^ (-e).toNat) * cnD F (c + 1) e := by
          rw [Int.mul_one, Int.mul_one, Int.sub_mul, Int.sub_mul, Int.sub_mul]; congr 1 <;> ac_rfl
      _ = (N * cnD F c e - c * M * cnD F c e) * cnD F (c + 1) e := by rw [← hN, x1]
      _ = (N - c * M) * (cnD F c e * cnD F (c + 1) e) := by rw [← Int.sub_mul]; ac_rfl
  have l2 : ((cnN F (c + 1) e * 1 - m * cnD F (c + 1) e) * (1 * cnD F c e)) * F.b ^ (-e).toNat = ((c + 1) * M - N) * (cnD F c e * cnD F (c + 1) e) := by
    calc ((cnN F (c + 1) e * 1 - m * cnD F (c + 1) e) * (1 * cnD F c e)) * F.b ^ (-e).toNat = (cnN F (c + 1) e * F.b ^ (-e).toNat - m * F.b ^ (-e).toNat * cnD F (c + 1) e) * cnD F c e := by
          rw [Int.mul_one, Int.one_mul, Int.sub_mul, Int.sub_mul, Int.sub_mul]; congr 1 <;> ac_rfl
      _ = ((c + 1) * M * cnD F (c + 1) e - N * cnD F (c + 1) e) * cnD F c e := by rw [← hN, x2]
      _ = ((c + 1) * M - N) * (cnD F c e * cnD F (c + 1) e) := by rw [← Int.sub_mul]; ac_rfl
  have pD : 0 < cnD F c e * cnD F (c + 1) e := Int.mul_pos d1 d2
  have hq : (m * cnD F c e - cnN F c e * 1) * (cnD F (c + 1) e * 1) = (cnN F (c + 1) e * 1 - m * cnD F (c + 1) e) * (1 * cnD F c e) ↔ 2 * (N - c * M) - M = 0 := by
    have e3 : (c + 1) * M = c * M + M := by rw [Int.add_mul, Int.one_mul]
    constructor
    · intro h
      have h' : (N - c * M) * (cnD F c e * cnD F (c + 1) e) = ((c + 1) * M - N) * (cnD F c e * cnD F (c + 1) e) := by rw [← l1, ← l2, h]
      have := Int.eq_of_mul_eq_mul_right (by omega) h'
      omega
    · intro h
      refine Int.eq_of_mul_eq_mul_right (a := F.b ^ (-e).toNat) (by omega) ?_
      rw [l1, l2]
      congr 1
      omega
  have hl : (m * cnD F c e - cnN F c e * 1) * (cnD F (c + 1) e * 1) < (cnN F (c + 1) e * 1 - m * cnD F (c + 1) e) * (1 * cnD F c e) ↔ 2 * (N - c * M) - M < 0 := by
    have e3 : (c + 1) * M = c * M + M := by rw [Int.add_mul, Int.one_mul]
    constructor
    · intro h
      have h' : (N - c * M) * (cnD F c e * cnD F (c + 1) e) < ((c + 1) * M - N) * (cnD F c e * cnD F (c + 1) e) := by
        rw [← l1, ← l2]
        exact Int.mul_lt_mul_of_pos_right h (by omega)
      have := Int.lt_of_mul_lt_mul_right h' (Int.le_of_lt pD)
      omega
    · intro h
      refine Int.lt_of_mul_lt_mul_right (a := F.b ^ (-e).toNat) ?_ (by omega)
      rw [l1, l2]
      exact Int.mul_lt_mul_of_pos_right (by omega) pD
  rw [cu_eq, cu_eq]
  have key : ∀ x : Str, x = "even" ∨ x = "away" → neD x m 1 (cnN F c e) (cnD F c e) (cnN F (c + 1) e) (cnD F (c + 1) e) c = if isR x s c (some (sgn (2 * (N - c * M) - M))) = true then fr (cnN F (c + 1) e) (cnD F (c + 1) e) else fr (cnN F c e) (cnD F c e) := by
    intro x hx
    have n1 : ¬ (x = "zero" ∨ x = "lower") := by rcases hx with rfl | rfl <;> decide
    have n2 : ¬ x = "upper" := by rcases hx with rfl | rfl <;> decide
    have n3 : ¬ x = "zero" := by rcases hx with rfl | rfl <;> decide
    have n4 : ¬ (x = "up" ∨ x = "down") := by rcases hx with rfl | rfl <;> decide
    have er : ∀ z : Int, isR x s c (some z) = if z = 0 then decide (x = "away") || decide (c % 2 = 1) else decide (0 < z) := fun z => by
      unfold isR
      dsimp only
      rw [if_neg n3, if_neg n4]
    unfold neD
    rw [if_neg n1, if_neg n2, er]
    by_cases q : 2 * (N - c * M) - M = 0
    · have hs : sgn (2 * (N - c * M) - M) = 0 := by rw [q]; rfl
      rw [if_pos (hq.mpr q), if_pos hs]
      rcases hx with rfl | rfl
      · by_cases p : c % 2 = 0
        · have hc : ¬ ((decide (("even" : Str) = "away") || decide (c % 2 = 1)) = true) := by
            rw [decide_eq_false (show ¬ (("even" : Str) = "away") by decide), decide_eq_false (show ¬ c % 2 = 1 by omega)]
            decide
          rw [if_pos ⟨rfl, p⟩, if_neg hc]
        · have hc : (decide (("even" : Str) = "away") || decide (c % 2 = 1)) = true := by
            rw [decide_eq_true (show c % 2 = 1 by omega), Bool.or_true]
          rw [if_neg fun z => p z.2, if_pos hc]
      · have hn : ¬ (("away" : Str) = "even" ∧ c % 2 = 0) := fun z => absurd z.1 (by decide)
        rw [if_neg hn]
        rfl
    · rw [if_neg fun z => q (hq.mp z)]
      by_cases p : 2 * (N - c * M) - M < 0
      · have hs : sgn (2 * (N - c * M) - M) = -1 := by
          unfold sgn
          rw [if_neg (by omega), if_pos p]
          rfl
        rw [if_pos (hl.mpr p), hs]
        rfl
      · have hs : sgn (2 * (N - c * M) - M) = 1 := by
          unfold sgn
          rw [if_pos (by omega), if_neg p]
          rfl
        rw [if_neg fun z => p (hl.mp z), hs]
        rfl
  have lowr : neD "lower" m 1 (cnN F c e) (cnD F c e) (cnN F (c + 1) e) (cnD F (c + 1) e) c = fr (cnN F c e) (cnD F c e) := by
    unfold neD
    rw [if_pos (show ("lower" : Str) = "zero" ∨ ("lower" : Str) = "lower" from .inr rfl)]
  have uppr : neD "upper" m 1 (cnN F c e) (cnD F c e) (cnN F (c + 1) e) (cnD F (c + 1) e) c = fr (cnN F (c + 1) e) (cnD F (c + 1) e) := by
    unfold neD
    rw [if_neg (show ¬ (("upper" : Str) = "zero" ∨ ("upper" : Str) = "lower") by decide), if_pos (show ("upper" : Str) = "upper" from rfl)]
  rcases hw with rfl | rfl | rfl | rfl | rfl
  · exact key "even" (.inl rfl)
  · exact key "away" (.inr rfl)
  · by_cases h0 : s = 0
    · subst h0
      exact uppr
    · have e1 : itsW "up" s = "lower" := by
        unfold itsW
        rw [if_pos (show ("up" : Str) = "up" ∨ ("up" : Str) = "down" from .inl rfl), decide_eq_false h0]
        rfl
      have e2 : isR "up" s c (some (sgn (2 * (N - c * M) - M))) = false := by
        unfold isR
        dsimp only
        rw [decide_eq_false h0]
        rfl
      rw [e1, e2, lowr]
      rfl
  · by_cases h0 : s = 0
    · subst h0
      exact lowr
    · have e1 : itsW "down" s = "upper" := by
        unfold itsW
        rw [if_pos (show ("down" : Str) = "up" ∨ ("down" : Str) = "down" from .inr rfl), decide_eq_false h0]
        rfl
      have e2 : isR "down" s c (some (sgn (2 * (N - c * M) - M))) = true := by
        unfold isR
        dsimp only
        rw [decide_eq_false h0]
        rfl
      rw [e1, e2, uppr]
      rfl
  · unfold neD
    rw [if_pos (show itsW "zero" s = "zero" ∨ itsW "zero" s = "lower" from .inl rfl)]
    rfl
end
end Nh
set_option Elab.async false
set_option linter.all false
set_option maxRecDepth 100000
set_option maxHeartbeats 4000000
namespace Nh
open PySem PySem.Spec PyProof.Rows L2
local macro_rules | `(tactic| walk_at "nhe") => `(tactic| first
  | (with_reducible refine wg_name ?_)
  | (with_reducible refine wgs_cons ?_)
  | (with_reducible refine wgs_nil ?_)
  | (with_reducible refine wg_tup ?_; refine ⟨_, rfl, rfl, ?_⟩)
  | (with_reducible refine we_nm ?_; refine ⟨_, rfl, ?_⟩)
  | (with_reducible refine we_int ?_)
  | (with_reducible refine we_str ?_)
  | (with_reducible refine we_non ?_)
  | (with_reducible refine we_bl ?_)
  | (with_reducible refine wAddI ?_)
  | (with_reducible refine wSubI ?_)
  | (with_reducible refine wMulI ?_)
  | (with_reducible refine wDivI ?_)
  | (with_reducible refine wModI ?_)
  | (with_reducible refine wPowI ?_)
  | (with_reducible refine wLtI ?_)
  | (with_reducible refine wLeI ?_)
  | (with_reducible refine wGtI ?_)
  | (with_reducible refine wGeI ?_)
  | (with_reducible refine wNegI ?_)
  | (with_reducible refine we_eq ?_)
  | (with_reducible refine we_ne ?_)
  | (with_reducible refine we_eqD ?_)
  | (with_reducible refine we_neD ?_)
  | (with_reducible refine we_in ?_)
  | (with_reducible refine we_ixT ?_)
  | (with_reducible refine we_ixL ?_)
  | (with_reducible refine we_tup ?_)
  | (with_reducible refine we_lst ?_)
  | (with_reducible refine we_catT ?_)
  | (with_reducible refine we_catL ?_)
  | (with_reducible refine we_subB ?_)
  | (with_reducible refine we_rep01 ?_)
  | (with_reducible refine wIs0 ?_)
  | (with_reducible refine wNot0 ?_)
  | (with_reducible refine wa_cons ?_)
  | (with_reducible refine wa_nil ?_)
  | (with_reducible refine wt_test ?_)
  | (with_reducible refine wt_B ?_)
  | (with_reducible refine wt_and ?_)
  | (with_reducible refine wt_or ?_)
  | (with_reducible refine wt_not ?_)
  | (with_reducible refine we_ifE ?_)
  | (with_reducible refine we_and ?_)
  | (with_reducible refine we_or ?_)
  | (with_reducible refine wChain ?_)
  | (with_reducible refine wAbs ?_)
  | (with_reducible refine wMax2 ?_)
  | (with_reducible refine wMin2 ?_)
  | (with_reducible refine we_min3 ?_)
  | (with_reducible refine we_gcd ?_)
  | (with_reducible refine wInt1 ?_)
  | (with_reducible refine intOf_bl ?_)
  | (with_reducible refine intOf_int ?_)
  | (with_reducible refine wLenL ?_)
  | (with_reducible refine wTupL ?_)
  | (with_reducible refine we_slT ?_)
  | (refine ⟨_, rfl, ?_⟩)
  | (refine ⟨_, _, rfl, rfl, ?_⟩)
  | (refine ⟨_, _, rfl, ?_⟩)
  | (refine ⟨_, _, _, rfl, ?_⟩)
  | (refine ⟨_, _, _, _, rfl, ?_⟩)
  | (refine ⟨_, _, _, _, _, rfl, ?_⟩)
  | (refine ⟨_, _, _, _, _, _, rfl, ?_⟩)
  | (refine ⟨_, EqV.int _ _, ?_⟩)
  | (refine ⟨_, EqV.str _ _, ?_⟩)
  | (refine ⟨_, EqV.bl _ _, ?_⟩)
  | (refine ⟨Nat.le_of_ble_eq_true rfl, ?_⟩))
local macro_rules | `(tactic| walk_at "nh") => `(tactic| first
  | (with_reducible refine ws_seq ?_)
  | (with_reducible refine ws_ret ?_)
  | (with_reducible refine ws_asg ?_)
  | (with_reducible refine ws_if ?_)
  | (with_reducible refine ws_par ?_)
  | (with_reducible refine ws_par3 ?_)
  | (with_reducible refine ws_next ?_)
  | (with_reducible refine ws_drop ?_)
  | (walk_at "nhe"))
section
variable {P : Program} {w : World} {K : PySem.W.Frag} {mg : Str → Option Value} {base : Heap} {f : Addr} {fd : FuncData}
def vOf (w : Str) (s c : Int) (sd : Option Int) : Int := if isR w s c sd = true then c + 1 else c
def ceOf (F : Fm) (w : Str) (s c e : Int) (sd : Option Int) : Int × Int := if isR w s c sd = true then rs F c e else (c, e)
theorem side_none {N M c : Int} : sideOf N M c = none ↔ c * M = N := by
  unfold sideOf
  by_cases h : c * M = N
  · rw [if_pos h]
    exact ⟨fun _ => h, fun _ => rfl⟩
  · rw [if_neg h]
    exact ⟨fun z => (nomatch z), fun z => absurd z h⟩
theorem isR_none {w : Str} {s c : Int} : isR w s c none = false := rfl
/-- the value that was found is the one that was asked for -/
theorem val_same {F : Fm} (ok : FmOk F) {m c e : Int} (G : Grid F m 1 c e) (w : Str) (s : Int) :
    vOf w s c (sideOf (up F.b e m) (dn F.b e 1) c) * F.b ^ e.toNat * 1 = m * (1 * F.b ^ (-e).toNat) ↔ sideOf (up F.b e m) (dn F.b e 1) c = none := by
  have h1 := G.low ok (by decide)
  have h2 := G.high ok (by decide)
  have eM : F.b ^ e.toNat = dn F.b e 1 := by unfold dn; rw [Int.one_mul]
  have eN : m * (1 * F.b ^ (-e).toNat) = up F.b e m := by unfold up; rw [Int.one_mul]
  rw [eN, eM, Int.mul_one]
  generalize dn F.b e 1 = M at *
  generalize up F.b e m = N at *
  rw [side_none]
  unfold vOf
  by_cases x : c * M = N
  · have : sideOf N M c = none := side_none.mpr x
    rw [this, isR_none, if_neg Bool.false_ne_true]
  · split
    · exact ⟨fun z => by omega, fun z => absurd z x⟩
    · exact Iff.rfl
/-- below the least normal one -/
theorem tiny_iff {F : Fm} (ok : FmOk F) {m c e : Int} (hm : 0 ≤ m) (G : Grid F m 1 c e) :
    m * F.b ^ (-(F.lo + F.g - 1)).toNat < F.b ^ (F.lo + F.g - 1).toNat * 1 ↔ c < F.b ^ (F.g.toNat - 1) := by
  have hb : 1 ≤ F.b := by have := ok.b2; omega
  have hg := ok.g2
  have eg : F.g.toNat - 1 = (F.g - 1).toNat := by omega
  have h0 : m * F.b ^ (-(F.lo + F.g - 1)).toNat < F.b ^ (F.lo + F.g - 1).toNat * 1 ↔ up F.b (F.lo + F.g - 1) m < dn F.b (F.lo + F.g - 1) 1 := by
    unfold up dn
    rw [Int.one_mul, Int.mul_one]
  rw [h0]
  have pd := dn_pos (b := F.b) (e := e) (d := 1) hb (by decide)
  constructor
  · intro h
    have h1 := up_lt (e := e) (g := F.g - 1) hb (by decide) hm (by omega) h (by have := G.le; omega)
    rw [G.eq, eg]
    exact Int.ediv_lt_of_lt_mul pd h1
  · intro h
    have he : e = F.lo := (G.norm ok (by decide)).elim id fun z => by omega
    by_cases q : up F.b (F.lo + F.g - 1) m < dn F.b (F.lo + F.g - 1) 1
    · exact q
    · exfalso
      have h1 := up_ge (e := F.lo) (k := F.lo + F.g - 1) hb (d := 1) (n := m) (by decide) (by omega) (by omega)
      have h2 := G.high ok (by decide)
      rw [he] at h2
      have e3 : (F.lo + F.g - 1 - F.lo).toNat = F.g.toNat - 1 := by omega
      rw [e3] at h1
      have pd' := dn_pos (b := F.b) (e := F.lo) (d := 1) hb (by decide)
      have h3 : (c + 1) * dn F.b F.lo 1 ≤ F.b ^ (F.g.toNat - 1) * dn F.b F.lo 1 := Int.mul_le_mul_of_nonneg_right (by omega) (by omega)
      omega
/-- the number as it is written -/
structure Wr (F : Fm) (v e v' e' : Int) : Prop where
  c0 : 0 ≤ v'
  cT : v' < F.b ^ F.g.toNat
  le : F.lo ≤ e'
  nm : e' = F.lo ∨ F.b ^ (F.g.toNat - 1) ≤ v'
  sh : (v' = v ∧ e' = e) ∨ (v = v' * F.b ∧ e' = e + 1)
theorem top_eq {F : Fm} (ok : FmOk F) : F.b ^ F.g.toNat = F.b ^ (F.g.toNat - 1) * F.b ∧ 1 ≤ F.b ^ (F.g.toNat - 1) ∧ F.b ^ (F.g.toNat - 1) < F.b ^ F.g.toNat := by
  have hb := ok.b2
  have hg := ok.g2
  have e : F.g.toNat = F.g.toNat - 1 + 1 := by omega
  have p := pow_pos' (b := F.b) (by omega) (F.g.toNat - 1)
  have h1 : F.b ^ F.g.toNat = F.b ^ (F.g.toNat - 1) * F.b := by
    have : F.b ^ (F.g.toNat - 1 + 1) = F.b ^ (F.g.toNat - 1) * F.b := Int.pow_succ ..
    rw [← this, ← e]
  have h2 : F.b ^ (F.g.toNat - 1) * 2 ≤ F.b ^ (F.g.toNat - 1) * F.b := Int.mul_le_mul_of_nonneg_left hb (by omega)
  exact ⟨h1, p, by omega⟩
theorem wr_of {F : Fm} (ok : FmOk F) {m c e : Int} (hm : 0 ≤ m) (G : Grid F m 1 c e) (w : Str) (s : Int) (sd : Option Int) : Wr F (vOf w s c sd) e (ceOf F w s c e sd).1 (ceOf F w s c e sd).2 := by
  have c0 := G.nn ok hm (by decide)
  have cT := G.top ok (by decide)
  have nm := G.norm ok (by decide)
  have le := G.le
  obtain ⟨t1, t2, t3⟩ := top_eq ok
  unfold vOf ceOf
  by_cases h : isR w s c sd = true
  · rw [if_pos h, if_pos h]
    unfold rs
    by_cases k : c + 1 = F.b ^ F.g.toNat
    · rw [if_pos k]
      exact ⟨by dsimp only; omega, by dsimp only; omega, by dsimp only; omega, .inr (Int.le_refl _), .inr ⟨by dsimp only; omega, rfl⟩⟩
    · rw [if_neg k]
      exact ⟨by dsimp only; omega, by dsimp only; omega, le, nm.imp id fun z => by dsimp only; omega, .inl ⟨rfl, rfl⟩⟩
  · rw [if_neg h, if_neg h]
    exact ⟨c0, cT, le, nm, .inl ⟨rfl, rfl⟩⟩
theorem pw_step {b e : Int} : b ^ (e + 1).toNat * b ^ (-e).toNat = b * (b ^ e.toNat * b ^ (-(e + 1)).toNat) := by
  have h := pw_cross (b := b) (e1 := e) (e2 := e + 1) (by omega)
  have e1 : (e + 1 - e).toNat = 1 := by omega
  rw [e1, Int.pow_one] at h
  rw [h]
  ac_rfl
/-- the same value, both ways -/
theorem Wr.val {F : Fm} {v e v' e' : Int} (h : Wr F v e v' e') : v' * F.b ^ e'.toNat * (1 * F.b ^ (-e).toNat) = v * F.b ^ e.toNat * (1 * F.b ^ (-e').toNat) := by
  rcases h.sh with ⟨rfl, rfl⟩ | ⟨rfl, rfl⟩
  · rfl
  · have p := pw_step (b := F.b) (e := e)
    rw [Int.one_mul, Int.one_mul]
    calc v' * F.b ^ (e + 1).toNat * F.b ^ (-e).toNat = v' * (F.b ^ (e + 1).toNat * F.b ^ (-e).toNat) := by ac_rfl
      _ = v' * (F.b * (F.b ^ e.toNat * F.b ^ (-(e + 1)).toNat)) := by rw [p]
      _ = v' * F.b * F.b ^ e.toNat * F.b ^ (-(e + 1)).toNat := by ac_rfl
/-- its grid, from its reduced pair -/
theorem Wr.grid {F : Fm} (ok : FmOk F) {v e v' e' : Int} (h : Wr F v e v' e') : Grid F (cnN F v e) (cnD F v e) v' e' := by
  have hb : 1 ≤ F.b := by have := ok.b2; omega
  have g := Grid.own ok h.c0 h.cT h.le h.nm
  have p1 := pow_pos' hb (-e').toNat
  have p2 := pow_pos' hb (-e).toNat
  refine g.congr ok (by omega) (cnD_pos ok v e) ?_
  have x := cn_cross (F := F) v e
  have y := h.val
  rw [Int.one_mul, Int.one_mul] at y
  refine Int.eq_of_mul_eq_mul_right (a := F.b ^ (-e).toNat) (by omega) ?_
  calc v' * F.b ^ e'.toNat * cnD F v e * F.b ^ (-e).toNat = v' * F.b ^ e'.toNat * F.b ^ (-e).toNat * cnD F v e := by ac_rfl
    _ = v * F.b ^ e.toNat * F.b ^ (-e').toNat * cnD F v e := by rw [y]
    _ = v * F.b ^ e.toNat * cnD F v e * F.b ^ (-e').toNat := by ac_rfl
    _ = cnN F v e * F.b ^ (-e).toNat * F.b ^ (-e').toNat := by rw [x]
    _ = cnN F v e * F.b ^ (-e').toNat * F.b ^ (-e).toNat := by ac_rfl
/-- above the greatest one -/
theorem Wr.over {F : Fm} (ok : FmOk F) {v e v' e' : Int} (h : Wr F v e v' e') :
    (F.b ^ F.g.toNat - 1) * F.b ^ F.hi.toNat * (1 * F.b ^ (-e').toNat) < v' * F.b ^ e'.toNat * (1 * F.b ^ (-F.hi).toNat) ↔ F.hi < e' := by
  have hb : 1 ≤ F.b := by have := ok.b2; omega
  obtain ⟨t1, t2, t3⟩ := top_eq ok
  have c0 := h.c0
  have cT := h.cT
  by_cases k : F.hi < e'
  · rw [lt_up hb (by omega)]
    refine ⟨fun _ => k, fun _ => ?_⟩
    have nm : F.b ^ (F.g.toNat - 1) ≤ v' := h.nm.elim (fun z => by have := ok.lh; omega) id
    have p := pow_mono hb (show 1 ≤ (e' - F.hi).toNat by omega)
    rw [Int.pow_one] at p
    have q1 : F.b ^ (F.g.toNat - 1) * F.b ≤ F.b ^ (F.g.toNat - 1) * F.b ^ (e' - F.hi).toNat := Int.mul_le_mul_of_nonneg_left p (by omega)
    have q2 : F.b ^ (F.g.toNat - 1) * F.b ^ (e' - F.hi).toNat ≤ v' * F.b ^ (e' - F.hi).toNat := Int.mul_le_mul_of_nonneg_right nm (by omega)
    omega
  · rw [lt_down hb (by omega)]
    refine ⟨fun z => ?_, fun z => absurd z k⟩
    exfalso
    have p := pow_pos' hb (F.hi - e').toNat
    have q : (F.b ^ F.g.toNat - 1) * 1 ≤ (F.b ^ F.g.toNat - 1) * F.b ^ (F.hi - e').toNat := Int.mul_le_mul_of_nonneg_left p (by omega)
    omega
theorem Wr.over' {F : Fm} (ok : FmOk F) {v e v' e' : Int} (h : Wr F v e v' e') :
    (F.b ^ F.g.toNat - 1) * F.b ^ F.hi.toNat * (1 * F.b ^ (-e).toNat) < v * F.b ^ e.toNat * (1 * F.b ^ (-F.hi).toNat) ↔ F.hi < e' := by
  rw [← h.over ok]
  have hb : 1 ≤ F.b := by have := ok.b2; omega
  have y := h.val
  have p1 := pow_pos' hb (-e).toNat
  have p2 := pow_pos' hb (-e').toNat
  have p3 := pow_pos' hb (-F.hi).toNat
  rw [Int.one_mul] at *
  rw [Int.one_mul] at *
  rw [Int.one_mul] at *
  generalize (F.b ^ F.g.toNat - 1) * F.b ^ F.hi.toNat = X at *
  generalize v * F.b ^ e.toNat = Y at *
  generalize v' * F.b ^ e'.toNat = Z at *
  generalize F.b ^ (-e).toNat = A at *
  generalize F.b ^ (-e').toNat = B at *
  generalize F.b ^ (-F.hi).toNat = C at *
  -- Z * A = Y * B
  have l1 : X * A * B = X * B * A := by ac_rfl
  have l2 : Z * C * A = Y * C * B := by
    calc Z * C * A = Z * A * C := by ac_rfl
      _ = Y * B * C := by rw [y]
      _ = Y * C * B := by ac_rfl
  constructor
  · intro z
    have q : X * A * B < Y * C * B := Int.mul_lt_mul_of_pos_right z (by omega)
    rw [l1, ← l2] at q
    exact Int.lt_of_mul_lt_mul_right q (by omega)
  · intro z
    have q : X * B * A < Z * C * A := Int.mul_lt_mul_of_pos_right z (by omega)
    rw [← l1, l2] at q
    exact Int.lt_of_mul_lt_mul_right q (by omega)
/-- one that is tiny is not above the greatest -/
theorem tiny_low {F : Fm} (ok : FmOk F) {m c e : Int} (G : Grid F m 1 c e) (w : Str) (s : Int) (sd : Option Int) (h : c < F.b ^ (F.g.toNat - 1)) : ¬ F.hi < (ceOf F w s c e sd).2 := by
  obtain ⟨t1, t2, t3⟩ := top_eq ok
  have he : e = F.lo := (G.norm ok (by decide)).elim id fun z => by omega
  have lh := ok.lh
  unfold ceOf
  split
  · unfold rs
    rw [if_neg (show ¬ c + 1 = F.b ^ F.g.toNat by omega)]
    dsimp only
    omega
  · dsimp only
    omega
/-- the greatest one's grid -/
theorem top_grid {F : Fm} (ok : FmOk F) : Grid F (cnN F (F.b ^ F.g.toNat - 1) F.hi) (cnD F (F.b ^ F.g.toNat - 1) F.hi) (F.b ^ F.g.toNat - 1) F.hi := by
  obtain ⟨t1, t2, t3⟩ := top_eq ok
  exact Wr.grid (v := F.b ^ F.g.toNat - 1) (e := F.hi) ok ⟨by omega, by omega, ok.lh, .inr (by omega), .inl ⟨rfl, rfl⟩⟩
/-- sizes -/
theorem vb_sz {F : Fm} (ok : FmOk F) {m c e : Int} (hm : 0 ≤ m) (zm : m.natAbs < 2 ^ 4000) (G : Grid F m 1 c e) {v : Int} (h0 : 0 ≤ v) (h1 : v ≤ c + 1) : (v * F.b ^ e.toNat).natAbs < 2 ^ 4001 := by
  have hb : 1 ≤ F.b := by have := ok.b2; omega
  have c0 := G.nn ok hm (by decide)
  have cT := G.top ok (by decide)
  have pe := pow_pos' hb e.toNat
  have hle : v * F.b ^ e.toNat ≤ (c + 1) * F.b ^ e.toNat := Int.mul_le_mul_of_nonneg_right h1 (by omega)
  have h3 : 0 ≤ v * F.b ^ e.toNat := Int.mul_nonneg h0 (by omega)
  refine sz_le h3 hle ?_
  by_cases he : 0 < e
  · have lo := G.low ok (by decide)
    have eN : up F.b e m = m := by
      unfold up
      rw [show (-e).toNat = 0 by omega, Int.pow_zero, Int.mul_one]
    have eM : dn F.b e 1 = F.b ^ e.toNat := by unfold dn; rw [Int.one_mul]
    rw [eN, eM] at lo
    have zb : (F.b ^ e.toNat).natAbs < 2 ^ 4000 := by
      rcases G.dn_le ok (by decide) he with z | z
      · rw [eM, Int.one_mul] at z
        exact sz_mono (sz_le (by omega) z (blo_sz ok))
      · rw [eM] at z
        exact sz_le (by omega) z zm
    have e3 : (c + 1) * F.b ^ e.toNat = c * F.b ^ e.toNat + F.b ^ e.toNat := by rw [Int.add_mul, Int.one_mul]
    rw [e3]
    have h4 : 0 ≤ c * F.b ^ e.toNat := Int.mul_nonneg c0 (by omega)
    exact sz_add (sz_le h4 lo zm) zb
  · have e3 : F.b ^ e.toNat = 1 := by rw [show e.toNat = 0 by omega, Int.pow_zero]
    rw [e3, Int.mul_one]
    exact sz_mono (sz_le (i := c + 1) (by omega) (by omega) (bg_sz ok))
theorem cn_sz {F : Fm} (ok : FmOk F) {m c e : Int} (hm : 0 ≤ m) (zm : m.natAbs < 2 ^ 4000) (G : Grid F m 1 c e) {v : Int} (h0 : 0 ≤ v) (h1 : v ≤ c + 1) : (cnN F v e).natAbs < 2 ^ 4002 ∧ (cnD F v e).natAbs < 2 ^ 2701 := by
  have hb : 1 ≤ F.b := by have := ok.b2; omega
  have p := pow_pos' hb (-e).toNat
  obtain ⟨z1, z2, z3, p2⟩ := grid_pw ok hm (by decide) (sz_mono zm) (by decide) G
  have g := gd_pos (n := v * F.b ^ e.toNat) (d := 1 * F.b ^ (-e).toNat) (by omega)
  exact ⟨sz_div g (vb_sz ok hm zm G h0 h1), sz_div g (by rw [Int.one_mul]; exact z2)⟩
end
end Nh
set_option Elab.async false
set_option linter.all false
set_option maxRecDepth 100000
set_option maxHeartbeats 4000000
namespace Nh
open PySem PySem.Spec PyProof.Rows L2
local macro_rules | `(tactic| walk_at "nhe") => `(tactic| first
  | (with_reducible refine wg_name ?_)
  | (with_reducible refine wgs_cons ?_)
  | (with_reducible refine wgs_nil ?_)
  | (with_reducible refine wg_tup ?_; refine ⟨_, rfl, rfl, ?_⟩)
  | (with_reducible refine we_nm ?_; refine ⟨_, rfl, ?_⟩)
  | (with_reducible refine we_int ?_)
  | (with_reducible refine we_str ?_)
  | (with_reducible refine we_non ?_)
  | (with_reducible refine we_bl ?_)
  | (with_reducible refine wAddI ?_)
  | (with_reducible refine wSubI ?_)
  | (with_reducible refine wMulI ?_)
  | (with_reducible refine wDivI ?_)
  | (with_reducible refine wModI ?_)
  | (with_reducible refine wPowI ?_)
  | (with_reducible refine wLtI ?_)
  | (with_reducible refine wLeI ?_)
  | (with_reducible refine wGtI ?_)
  | (with_reducible refine wGeI ?_)
  | (with_reducible refine wNegI ?_)
  | (with_reducible refine we_eq ?_)
  | (with_reducible refine we_ne ?_)
  | (with_reducible refine we_eqD ?_)
  | (with_reducible refine we_neD ?_)
  | (with_reducible refine we_in ?_)
  | (with_reducible refine we_ixT ?_)
  | (with_reducible refine we_ixL ?_)
  | (with_reducible refine we_tup ?_)
  | (with_reducible refine we_lst ?_)
  | (with_reducible refine we_catT ?_)
  | (with_reducible refine we_catL ?_)
  | (with_reducible refine we_subB ?_)
  | (with_reducible refine we_rep01 ?_)
  | (with_reducible refine wIs0 ?_)
  | (with_reducible refine wNot0 ?_)
  | (with_reducible refine wa_cons ?_)
  | (with_reducible refine wa_nil ?_)
  | (with_reducible refine wt_test ?_)
  | (with_reducible refine wt_B ?_)
  | (with_reducible refine wt_and ?_)
  | (with_reducible refine wt_or ?_)
  | (with_reducible refine wt_not ?_)
  | (with_reducible refine we_ifE ?_)
  | (with_reducible refine we_and ?_)
  | (with_reducible refine we_or ?_)
  | (with_reducible refine wChain ?_)
  | (with_reducible refine wAbs ?_)
  | (with_reducible refine wMax2 ?_)
  | (with_reducible refine wMin2 ?_)
  | (with_reducible refine we_min3 ?_)
  | (with_reducible refine we_gcd ?_)
  | (with_reducible refine wInt1 ?_)
  | (with_reducible refine intOf_bl ?_)
  | (with_reducible refine intOf_int ?_)
  | (with_reducible refine wLenL ?_)
  | (with_reducible refine wTupL ?_)
  | (with_reducible refine we_slT ?_)
  | (refine ⟨_, rfl, ?_⟩)
  | (refine ⟨_, _, rfl, rfl, ?_⟩)
  | (refine ⟨_, _, rfl, ?_⟩)
  | (refine ⟨_, _, _, rfl, ?_⟩)
  | (refine ⟨_, _, _, _, rfl, ?_⟩)
  | (refine ⟨_, _, _, _, _, rfl, ?_⟩)
  | (refine ⟨_, _, _, _, _, _, rfl, ?_⟩)
  | (refine ⟨_, EqV.int _ _, ?_⟩)
  | (refine ⟨_, EqV.str _ _, ?_⟩)
  | (refine ⟨_, EqV.bl _ _, ?_⟩)
  | (refine ⟨Nat.le_of_ble_eq_true rfl, ?_⟩))
local macro_rules | `(tactic| walk_at "nh") => `(tactic| first
  | (with_reducible refine ws_seq ?_)
  | (with_reducible refine ws_ret ?_)
  | (with_reducible refine ws_asg ?_)
  | (with_reducible refine ws_if ?_)
  | (with_reducible refine ws_par ?_)
  | (with_reducible refine ws_par3 ?_)
  | (with_reducible refine ws_next ?_)
  | (with_reducible refine ws_drop ?_)
  | (walk_at "nhe"))
local macro_rules | `(tactic| walk_at "nn") => `(tactic| first
  | (with_reducible refine ns_seq ?_)
  | (with_reducible refine ns_ret ?_)
  | (with_reducible refine ns_asg ?_)
  | (with_reducible refine ns_if ?_)
  | (with_reducible refine ns_par ?_)
  | (with_reducible refine ns_next ?_)
  | (with_reducible refine nl_var ?_)
  | (with_reducible refine nl_c ?_)
  | (with_reducible refine na_cons ?_)
  | (with_reducible refine na_nil ?_)
  | (with_reducible refine n_tup ?_)
  | (with_reducible refine n_lst ?_)
  | (with_reducible refine nAdd ?_)
  | (with_reducible refine nSub ?_)
  | (with_reducible refine nMul ?_)
  | (with_reducible refine nLt ?_)
  | (with_reducible refine nGt ?_)
  | (with_reducible refine nEq ?_)
  | (with_reducible refine nIxL ?_)
  | (with_reducible refine nCat ?_)
  | (with_reducible refine n_ifE ?_)
  | (with_reducible refine nt_test ?_)
  | (with_reducible refine nt_B ?_)
  | (with_reducible refine nt_not ?_)
  | (with_reducible refine nt_and ?_)
  | (with_reducible refine nl_ixT ?_)
  | (with_reducible refine nl_div ?_)
  | (with_reducible refine nl_mod ?_)
  | (with_reducible refine nl_pow ?_)
  | (with_reducible refine nl_neg ?_)
  | (with_reducible refine nl_cb ?_)
  | (with_reducible refine nl_eqD ?_)
  | (with_reducible refine nl_not0 ?_)
  | (with_reducible refine nl_catT ?_)
  | (with_reducible refine nl_rep01 ?_)
  | (with_reducible refine nl_ne ?_)
  | (with_reducible refine nl_chain ?_)
  | (walk_at "nh"))
section
variable {P : Program} {w : World} {K : PySem.W.Frag} {mg : Str → Option Value} {base : Heap} {f : Addr} {fd : FuncData}
theorem ok_L_some (d : Df K mg "_law_some" (topS 28) P_L_some f fd) (c1 : Ok P w K mg base 1 "_law_take" P_L_take sp_L_take) (m : mg "len" = none) : Ok P w K mg base 2 "_law_some" P_L_some sp_L_some := by
  refine mk_okT d sc_L_some (fun _ => rfl) fun cdv A outer s H E hr => ⟨_, dv_L_some hr c1 m, ?_⟩
  rintro es n_ ⟨h0, h1⟩ hN
  unfold t_L_some
  repeat (walk_at "nn")
  refine c_L_take ?_
  repeat (walk_at "nn")
  refine ⟨⟨⟨by omega, ?_⟩, hN⟩, ?_⟩
  · exact Nat.lt_of_lt_of_le (show ((es.length : Int)).natAbs < 2 ^ 10 by omega) (Nat.pow_le_pow_right (by decide) (by decide))
  rintro _ ⟨r, rfl, hr0, hr1⟩
  have hl : r.toNat < es.length := by omega
  have e : r = ((r.toNat : Nat) : Int) := by omega
  have q := atI_nat (List.getElem?_eq_getElem hl)
  rw [← e] at q
  exact ⟨es, r, es[r.toNat], rfl, rfl, q, Nat.le_refl _, List.getElem_mem hl⟩
theorem ok_L_formats (d : Df K mg "_law_formats" (topS 39) P_L_formats f fd) (c1 : Ok P w K mg base 2 "_law_some" P_L_some sp_L_some) : Ok P w K mg base 3 "_law_formats" P_L_formats sp_L_formats := by
  refine mk_okT d sc_L_formats (fun _ => rfl) fun cdv A outer s H E hr => ⟨_, dv_L_formats hr (c_L_some := c1), ?_⟩
  rintro _ n_ _ hN
  unfold t_L_formats
  repeat (walk_at "nn")
  refine c_L_some ?_
  repeat (walk_at "nn")
  exact ⟨⟨⟨by decide, by decide⟩, by omega⟩, fun x hx => ⟨by omega, fm_list fms1 fms1_ok hx⟩⟩
theorem ok_L_wide_format (d : Df K mg "_law_wide_format" (topS 40) P_L_wide_format f fd) (c1 : Ok P w K mg base 2 "_law_some" P_L_some sp_L_some) (c2 : Ok P w K mg base 1 "_law_take" P_L_take sp_L_take) : Ok P w K mg base 3 "_law_wide_format" P_L_wide_format sp_L_wide_format := by
  refine mk_okT d sc_L_wide_format (fun _ => rfl) fun cdv A outer s H E hr => ⟨_, dv_L_wide_format hr (c_L_some := c1) (c_L_take := c2), ?_⟩
  rintro _ n_ _ hN
  unfold t_L_wide_format
  repeat (walk_at "nn")
  refine c_L_some ?_
  repeat (walk_at "nn")
  refine c_L_take ?_
  repeat (walk_at "nn")
  refine ⟨⟨⟨by decide, by decide⟩, by omega⟩, ?_⟩
  rintro _ ⟨r, rfl, -, -⟩
  repeat (walk_at "nn")
  refine br (fun h => ?_) (fun h => ?_)
  · repeat (walk_at "nn")
    exact ⟨⟨⟨by decide, by decide⟩, by omega⟩, fun x hx => ⟨by omega, fm_list fms2 fms2_ok hx⟩⟩
  · repeat (walk_at "nn")
    exact ⟨⟨⟨by decide, by decide⟩, by omega⟩, fun x hx => ⟨by omega, fm_list fms3 fms3_ok hx⟩⟩
theorem ok_L_any_format (d : Df K mg "_law_any_format" (topS 41) P_L_any_format f fd) (c1 : Ok P w K mg base 1 "_law_take" P_L_take sp_L_take) (c2 : Ok P w K mg base 3 "_law_formats" P_L_formats sp_L_formats) (c3 : Ok P w K mg base 3 "_law_wide_format" P_L_wide_format sp_L_wide_format) : Ok P w K mg base 4 "_law_any_format" P_L_any_format sp_L_any_format := by
  refine mk_okT d sc_L_any_format (fun _ => rfl) fun cdv A outer s H E hr => ⟨_, dv_L_any_format hr (c_L_take := c1) (c_L_formats := c2) (c_L_wide_format := c3), ?_⟩
  rintro _ n_ _ hN
  unfold t_L_any_format
  repeat (walk_at "nn")
  refine c_L_take ?_
  repeat (walk_at "nn")
  refine ⟨⟨⟨by decide, by decide⟩, by omega⟩, ?_⟩
  rintro _ ⟨r, rfl, -, -⟩
  repeat (walk_at "nn")
  refine br (fun h => ?_) (fun h => ?_)
  · repeat (walk_at "nn")
    refine c_L_formats ?_
    repeat (walk_at "nn")
    exact ⟨(), rfl, ⟨trivial, by omega⟩, fun _ hd => ⟨by omega, hd⟩⟩
  · repeat (walk_at "nn")
    refine c_L_wide_format ?_
    repeat (walk_at "nn")
    exact ⟨(), rfl, ⟨trivial, by omega⟩, fun _ hd => ⟨by omega, hd⟩⟩
theorem ok_L_value (d : Df K mg "_law_value" (topS 44) P_L_value f fd) (c1 : Ok P w K mg base 1 "_law_take" P_L_take sp_L_take) (c2 : Ok P w K mg base 3 "_law_number" P_L_number sp_L_number) : Ok P w K mg base 4 "_law_value" P_L_value sp_L_value := by
  refine mk_okT d sc_L_value (fun _ => rfl) fun cdv A outer s H E hr => ⟨_, dv_L_value hr (c_L_take := c1) (c_L_number := c2), ?_⟩
  rintro F n_ ok hN
  unfold t_L_value
  repeat (walk_at "nn")
  refine c_L_take ?_
  repeat (walk_at "nn")
  refine ⟨⟨⟨by decide, by decide⟩, by omega⟩, ?_⟩
  rintro _ ⟨r, rfl, -, -⟩
  repeat (walk_at "nn")
  refine br (fun h => ?_) (fun h => ?_)
  · repeat (walk_at "nn")
    exact ⟨by omega, .nan, rfl, trivial⟩
  repeat (walk_at "nn")
  refine br (fun h => ?_) (fun h => ?_)
  · repeat (walk_at "nn")
    refine c_L_take ?_
    repeat (walk_at "nn")
    refine ⟨⟨⟨by decide, by decide⟩, by omega⟩, ?_⟩
    rintro _ ⟨r, rfl, -, -⟩
    repeat (walk_at "nn")
    exact ⟨by omega, .inf r, rfl, trivial⟩
  · repeat (walk_at "nn")
    refine c_L_number ?_
    repeat (walk_at "nn")
    refine ⟨⟨ok, by omega⟩, ?_⟩
    rintro _ ⟨s, c, e, rfl, hv⟩
    exact ⟨by omega, .num s c e, rfl, hv⟩
theorem ok_L_near_half (d : Df K mg "_law_near_half" (topS 56) P_L_near_half f fd) (c1 : Ok P w K mg base 2 "_law_over" P_L_over sp_L_over) (c2 : Ok P w K mg base 2 "_law_some" P_L_some sp_L_some) (c3 : Ok P w K mg base 1 "_law_take" P_L_take sp_L_take) (c4 : Ok P w K mg base 5 "_law_number_of" P_L_number_of sp_L_number_of) (c5 : Ok P w K mg base 4 "_law_value" P_L_value sp_L_value) : Ok P w K mg base 6 "_law_near_half" P_L_near_half sp_L_near_half := by
  refine mk_okT d sc_L_near_half (fun _ => rfl) fun cdv A outer s H E hr => ⟨_, dv_L_near_half hr (c_L_over := c1) (c_L_some := c2) (c_L_take := c3) (c_L_number_of := c4) (c_L_value := c5), ?_⟩
  rintro F n_ ok hN
  unfold t_L_near_half
  repeat (walk_at "nn")
  refine nc_L_over ?_
  repeat (walk_at "nn")
  refine c_L_take ?_
  repeat (walk_at "nn")
  refine ⟨⟨⟨by decide, by decide⟩, by omega⟩, ?_⟩
  rintro _ ⟨r, rfl, r0, r1⟩
  repeat (walk_at "nn")
  refine ⟨cm (a := 3) (b := 6) (by decide) (by omega), ?_⟩
  repeat (walk_at "nn")
  refine c_L_some ?_
  repeat (walk_at "nn")
  refine ⟨⟨⟨by decide, by decide⟩, by omega⟩, ?_⟩
  intro x hx
  have hx : ∃ q : Int, x = .int q ∧ 0 < q ∧ q ≤ 4 := by
    rw [List.mem_cons, List.mem_cons, List.mem_cons] at hx
    rcases hx with h | h | h | h
    · exact ⟨2, h, by decide, by decide⟩
    · exact ⟨1, h, by decide, by decide⟩
    · exact ⟨4, h, by decide, by decide⟩
    · cases h
  obtain ⟨q, rfl, q0, q4⟩ := hx
  have zq : q.natAbs < 2 ^ 8 := by omega
  repeat (walk_at "nn")
  refine ⟨⟨q0, sz_mono zq⟩, ?_⟩
  have g0 := gd_pos (n := 2 * r - 29) q0
  have zr : (2 * r - 29).natAbs < 2 ^ 8 := by omega
  repeat (walk_at "nn")
  refine n_lift (c_L_number_of ?_)
  repeat (walk_at "nn")
  refine ⟨⟨ok, rd_pos q0, sz_mono (sz_div g0 zr), sz_mono (sz_div g0 zq)⟩, ?_⟩
  rintro _ (rfl | ⟨s, c, e, rfl, hv⟩)
  · repeat (walk_at "nn")
    refine ⟨true, .inl ⟨rfl, rfl⟩, ?_⟩
    repeat (walk_at "nn")
    refine bF ?_
    repeat (walk_at "nn")
    refine c_L_value ?_
    repeat (walk_at "nn")
    exact ⟨⟨ok, by omega⟩, fun _ hd => ⟨by omega, hd⟩⟩
  · repeat (walk_at "nn")
    refine ⟨false, .inr ⟨rfl, fun z => (nomatch z)⟩, ?_⟩
    repeat (walk_at "nn")
    refine bT ?_
    repeat (walk_at "nn")
    exact ⟨by omega, .num s c e, rfl, hv⟩
end
end Nh
set_option Elab.async false
set_option linter.all false
set_option maxRecDepth 100000
set_option maxHeartbeats 4000000
namespace Nh
open PySem PySem.Spec PyProof.Rows L2
local macro_rules | `(tactic| walk_at "nhe") => `(tactic| first
  | (with_reducible refine wg_name ?_)
  | (with_reducible refine wgs_cons ?_)
  | (with_reducible refine wgs_nil ?_)
  | (with_reducible refine wg_tup ?_; refine ⟨_, rfl, rfl, ?_⟩)
  | (with_reducible refine we_nm ?_; refine ⟨_, rfl, ?_⟩)
  | (with_reducible refine we_int ?_)
  | (with_reducible refine we_str ?_)
  | (with_reducible refine we_non ?_)
  | (with_reducible refine we_bl ?_)
  | (with_reducible refine wAddI ?_)
  | (with_reducible refine wSubI ?_)
  | (with_reducible refine wMulI ?_)
  | (with_reducible refine wDivI ?_)
  | (with_reducible refine wModI ?_)
  | (with_reducible refine wPowI ?_)
  | (with_reducible refine wLtI ?_)
  | (with_reducible refine wLeI ?_)
  | (with_reducible refine wGtI ?_)
  | (with_reducible refine wGeI ?_)
  | (with_reducible refine wNegI ?_)
  | (with_reducible refine we_eq ?_)
  | (with_reducible refine we_ne ?_)
  | (with_reducible refine we_eqD ?_)
  | (with_reducible refine we_neD ?_)
  | (with_reducible refine we_in ?_)
  | (with_reducible refine we_ixT ?_)
  | (with_reducible refine we_ixL ?_)
  | (with_reducible refine we_tup ?_)
  | (with_reducible refine we_lst ?_)
  | (with_reducible refine we_catT ?_)
  | (with_reducible refine we_catL ?_)
  | (with_reducible refine we_subB ?_)
  | (with_reducible refine we_rep01 ?_)
  | (with_reducible refine wIs0 ?_)
  | (with_reducible refine wNot0 ?_)
  | (with_reducible refine wa_cons ?_)
  | (with_reducible refine wa_nil ?_)
  | (with_reducible refine wt_test ?_)
  | (with_reducible refine wt_B ?_)
  | (with_reducible refine wt_and ?_)
  | (with_reducible refine wt_or ?_)
  | (with_reducible refine wt_not ?_)
  | (with_reducible refine we_ifE ?_)
  | (with_reducible refine we_and ?_)
  | (with_reducible refine we_or ?_)
  | (with_reducible refine wChain ?_)
  | (with_reducible refine wAbs ?_)
  | (with_reducible refine wMax2 ?_)
  | (with_reducible refine wMin2 ?_)
  | (with_reducible refine we_min3 ?_)
  | (with_reducible refine we_gcd ?_)
  | (with_reducible refine wInt1 ?_)
  | (with_reducible refine intOf_bl ?_)
  | (with_reducible refine intOf_int ?_)
  | (with_reducible refine wLenL ?_)
  | (with_reducible refine wTupL ?_)
  | (with_reducible refine we_slT ?_)
  | (refine ⟨_, rfl, ?_⟩)
  | (refine ⟨_, _, rfl, rfl, ?_⟩)
  | (refine ⟨_, _, rfl, ?_⟩)
  | (refine ⟨_, _, _, rfl, ?_⟩)
  | (refine ⟨_, _, _, _, rfl, ?_⟩)
  | (refine ⟨_, _, _, _, _, rfl, ?_⟩)
  | (refine ⟨_, _, _, _, _, _, rfl, ?_⟩)
  | (refine ⟨_, EqV.int _ _, ?_⟩)
  | (refine ⟨_, EqV.str _ _, ?_⟩)
  | (refine ⟨_, EqV.bl _ _, ?_⟩)
  | (refine ⟨Nat.le_of_ble_eq_true rfl, ?_⟩))
local macro_rules | `(tactic| walk_at "nh") => `(tactic| first
  | (with_reducible refine ws_seq ?_)
  | (with_reducible refine ws_ret ?_)
  | (with_reducible refine ws_asg ?_)
  | (with_reducible refine ws_if ?_)
  | (with_reducible refine ws_par ?_)
  | (with_reducible refine ws_par3 ?_)
  | (with_reducible refine ws_next ?_)
  | (with_reducible refine ws_drop ?_)
  | (walk_at "nhe"))
local macro_rules | `(tactic| walk_at "nn") => `(tactic| first
  | (with_reducible refine ns_seq ?_)
  | (with_reducible refine ns_ret ?_)
  | (with_reducible refine ns_asg ?_)
  | (with_reducible refine ns_if ?_)
  | (with_reducible refine ns_par ?_)
  | (with_reducible refine ns_next ?_)
  | (with_reducible refine nl_var ?_)
  | (with_reducible refine nl_c ?_)
  | (with_reducible refine na_cons ?_)
  | (with_reducible refine na_nil ?_)
  | (with_reducible refine n_tup ?_)
  | (with_reducible refine n_lst ?_)
  | (with_reducible refine nAdd ?_)
  | (with_reducible refine nSub ?_)
  | (with_reducible refine nMul ?_)
  | (with_reducible refine nLt ?_)
  | (with_reducible refine nGt ?_)
  | (with_reducible refine nEq ?_)
  | (with_reducible refine nIxL ?_)
  | (with_reducible refine nCat ?_)
  | (with_reducible refine n_ifE ?_)
  | (with_reducible refine nt_test ?_)
  | (with_reducible refine nt_B ?_)
  | (with_reducible refine nt_not ?_)
  | (with_reducible refine nt_and ?_)
  | (with_reducible refine nl_ixT ?_)
  | (with_reducible refine nl_div ?_)
  | (with_reducible refine nl_mod ?_)
  | (with_reducible refine nl_pow ?_)
  | (with_reducible refine nl_neg ?_)
  | (with_reducible refine nl_cb ?_)
  | (with_reducible refine nl_eqD ?_)
  | (with_reducible refine nl_not0 ?_)
  | (with_reducible refine nl_catT ?_)
  | (with_reducible refine nl_rep01 ?_)
  | (with_reducible refine nl_ne ?_)
  | (with_reducible refine nl_chain ?_)
  | (walk_at "nh"))
section
variable {P : Program} {w : World} {K : PySem.W.Frag} {mg : Str → Option Value} {base : Heap} {f : Addr} {fd : FuncData}
theorem ok_L_number (d : Df K mg "_law_number" (topS 43) P_L_number f fd) (c1 : Ok P w K mg base 1 "_law_take" P_L_take sp_L_take) (c2 : Ok P w K mg base 2 "_law_some" P_L_some sp_L_some) (c3 : Ok P w K mg base 2 "_law_edges" P_L_edges sp_L_edges) (c4 : Ok P w K mg base 1 "_law_to" P_L_to spW) (m1 : mg "min" = none) (m2 : mg "max" = none) : Ok P w K mg base 3 "_law_number" P_L_number sp_L_number := by
  refine mk_okT d sc_L_number (fun _ => rfl) fun cdv A outer s H E hr => ⟨_, dv_L_number hr (c_L_take := c1) (c_L_some := c2) (c_L_edges := c3) (c_L_to := c4) (m_min := m1) (m_max := m2), ?_⟩
  rintro F n_ ok hN
  have hb := ok.b2
  have hb2 := ok.b36
  have hg := ok.g2
  have hg2 := ok.g120
  have hlh := ok.lh
  have h1 := ok.l1
  have h2 := ok.h1
  obtain ⟨l1, l2, l3⟩ := lead_ok ok
  have zg := bg_sz ok
  have hW : 1 ≤ F.b ∧ F.b ≤ 36 ∧ 0 ≤ F.g - 1 ∧ F.g - 1 ≤ 40000 := ⟨by omega, hb2, by omega, by omega⟩
  have hW2 : 1 ≤ F.b ∧ F.b ≤ 36 ∧ 0 ≤ F.g ∧ F.g ≤ 40000 := ⟨by omega, hb2, by omega, by omega⟩
  unfold t_L_number
  repeat (walk_at "nn")
  refine c_L_take ?_
  repeat (walk_at "nn")
  refine ⟨⟨⟨by decide, by decide⟩, by omega⟩, ?_⟩
  rintro _ ⟨wy, rfl, -, -⟩
  repeat (walk_at "nn")
  refine c_L_take ?_
  repeat (walk_at "nn")
  refine ⟨⟨⟨by decide, by decide⟩, by omega⟩, ?_⟩
  rintro _ ⟨s', rfl, s0, s1⟩
  have hs : s' = 0 ∨ s' = 1 := by omega
  repeat (walk_at "nn")
  refine br (fun k1 => ?_) (fun k1 => ?_)
  · repeat (walk_at "nn")
    refine c_L_some ?_
    repeat (walk_at "nn")
    refine n_lift (c_L_edges ?_)
    repeat (walk_at "nn")
    refine ⟨ok, ?_⟩
    rintro _ ⟨ds, rfl, d0, d1, hds⟩
    repeat (walk_at "nn")
    refine ⟨⟨⟨d0, d1⟩, by omega⟩, ?_⟩
    intro x hx
    obtain ⟨c, e, rfl, hv⟩ := hds x hx
    repeat (walk_at "nn")
    refine ⟨fun z => (nomatch z), ?_⟩
    refine we_slT (k := 2) ?_
    repeat (walk_at "nn")
    exact ⟨by omega, _, _, _, rfl, hs, hv.c0, hv.cT, hv.le, hv.hi⟩
  repeat (walk_at "nn")
  refine c_L_some ?_
  repeat (walk_at "nn")
  refine c_L_take ?_
  repeat (walk_at "nn")
  refine ⟨⟨⟨by omega, Nat.lt_of_lt_of_le (show (F.hi - F.lo + 1).natAbs < 2 ^ 14 by omega) (Nat.pow_le_pow_right (by decide) (by decide))⟩, by omega⟩, ?_⟩
  rintro _ ⟨r, rfl, r0, r1⟩
  repeat (walk_at "nn")
  refine ⟨cd2, ?_⟩
  repeat (walk_at "nn")
  refine ⟨⟨⟨by show 0 < 4; decide, by show 4 ≤ 1000; decide⟩, by omega⟩, ?_⟩
  intro x hx
  have hx : ∃ e : Int, x = .int e ∧ F.lo ≤ e ∧ e ≤ F.hi := by
    rw [List.mem_cons, List.mem_cons, List.mem_cons, List.mem_cons] at hx
    rcases hx with h | h | h | h | h
    · exact ⟨_, h, by omega, by omega⟩
    · exact ⟨_, h, by omega, by omega⟩
    · exact ⟨_, h, by omega, by omega⟩
    · refine ⟨_, h, ?_, ?_⟩ <;> (repeat' split) <;> omega
    · cases h
  obtain ⟨e, rfl, e0, e1⟩ := hx
  repeat (walk_at "nn")
  refine n_lift (c_W ?_)
  repeat (walk_at "nn")
  refine ⟨hW, ?_⟩
  repeat (walk_at "nn")
  refine c_L_take ?_
  repeat (walk_at "nn")
  refine n_lift (c_W ?_)
  repeat (walk_at "nn")
  refine ⟨hW2, ?_⟩
  repeat (walk_at "nn")
  generalize F.b ^ (F.g - 1).toNat = L at *
  refine ⟨⟨⟨by omega, sz_mono (sz_le (i := F.b ^ F.g.toNat - L) (by omega) (by omega) zg)⟩, by omega⟩, ?_⟩
  rintro _ ⟨c, rfl, c0, c1⟩
  repeat (walk_at "nn")
  have fin : ∀ c : Int, 0 ≤ c → c < F.b ^ F.g.toNat → ∃ s c' e' : Int, D.tup [.str "num", .int s', .int c, .int e] = numD s c' e' ∧ NumOk F s c' e' := fun c a1 a2 => ⟨s', c, e, rfl, hs, a1, a2, e0, e1⟩
  have zL : L.natAbs < 2 ^ 8900 := sz_mono (sz_le (i := L) (by omega) (by omega) zg)
  have hLb : L * (F.b - 1) < F.b ^ F.g.toNat ∧ 0 ≤ L * (F.b - 1) := by
    refine ⟨?_, Int.mul_nonneg (by omega) (by omega)⟩
    rw [Int.mul_sub, Int.mul_one]
    omega
  refine br (fun k2 => ?_) (fun k2 => ?_)
  · repeat (walk_at "nn")
    refine c_L_some ?_
    repeat (walk_at "nn")
    refine ⟨cm zL (show (F.b - 1).natAbs < 2 ^ 8 by omega), ?_⟩
    repeat (walk_at "nn")
    refine n_lift (c_W ?_)
    repeat (walk_at "nn")
    refine ⟨hW2, ?_⟩
    repeat (walk_at "nn")
    refine ⟨⟨⟨by show 0 < 4; decide, by show 4 ≤ 1000; decide⟩, by omega⟩, ?_⟩
    intro x hx
    have hx : ∃ c : Int, x = .int c ∧ 0 ≤ c ∧ c < F.b ^ F.g.toNat := by
      rw [List.mem_cons, List.mem_cons, List.mem_cons, List.mem_cons] at hx
      rcases hx with h | h | h | h | h
      · exact ⟨_, h, by omega, by omega⟩
      · exact ⟨_, h, hLb.2, hLb.1⟩
      · exact ⟨_, h, by omega, by omega⟩
      · exact ⟨_, h, by omega, by omega⟩
      · cases h
    obtain ⟨c', rfl, g0, g1⟩ := hx
    repeat (walk_at "nn")
    refine br (fun k3 => ?_) (fun k3 => ?_)
    · repeat (walk_at "nn")
      refine brF (by omega) ?_
      repeat (walk_at "nn")
      refine ⟨fun z => (nomatch z), ?_⟩
      refine we_slT (k := 2) ?_
      repeat (walk_at "nn")
      exact ⟨by omega, _, _, _, rfl, hs, g0, g1, e0, e1⟩
    · repeat (walk_at "nn")
      refine bF ?_
      repeat (walk_at "nn")
      refine ⟨fun z => (nomatch z), ?_⟩
      refine we_slT (k := 2) ?_
      repeat (walk_at "nn")
      exact ⟨by omega, _, _, _, rfl, hs, g0, g1, e0, e1⟩
  · repeat (walk_at "nn")
    refine br (fun k3 => ?_) (fun k3 => ?_)
    · repeat (walk_at "nn")
      refine br (fun k4 => ?_) (fun k4 => ?_)
      · repeat (walk_at "nn")
        refine c_L_take ?_
        repeat (walk_at "nn")
        refine ⟨⟨⟨by omega, zL⟩, by omega⟩, ?_⟩
        rintro _ ⟨c', rfl, g0, g1⟩
        repeat (walk_at "nn")
        refine ⟨fun z => (nomatch z), ?_⟩
        refine we_slT (k := 2) ?_
        repeat (walk_at "nn")
        exact ⟨by omega, _, _, _, rfl, hs, g0, (by omega), e0, e1⟩
      · repeat (walk_at "nn")
        refine ⟨fun z => (nomatch z), ?_⟩
        refine we_slT (k := 2) ?_
        repeat (walk_at "nn")
        exact ⟨by omega, _, _, _, rfl, hs, by omega, by omega, e0, e1⟩
    · repeat (walk_at "nn")
      refine bF ?_
      repeat (walk_at "nn")
      refine ⟨fun z => (nomatch z), ?_⟩
      refine we_slT (k := 2) ?_
      repeat (walk_at "nn")
      exact ⟨by omega, _, _, _, rfl, hs, by omega, by omega, e0, e1⟩
theorem zero_one {x : D} (h : x ∈ [D.int 0, .int 1, .int (-1)]) : ∃ i : Int, x = .int i ∧ i.natAbs ≤ 1 := by
  rw [List.mem_cons, List.mem_cons, List.mem_cons] at h
  rcases h with h | h | h | h
  · exact ⟨_, h, by decide⟩
  · exact ⟨_, h, by decide⟩
  · exact ⟨_, h, by decide⟩
  · cases h
theorem ok_L_drawn_integer (d : Df K mg "_law_drawn_integer" (topS 55) P_L_drawn_integer f fd) (c1 : Ok P w K mg base 1 "_law_take" P_L_take sp_L_take) (c2 : Ok P w K mg base 1 "_law_to" P_L_to spW) (c3 : Ok P w K mg base 2 "_law_some" P_L_some sp_L_some) (m1 : mg "max" = none) (m2 : mg "min" = none) : Ok P w K mg base 3 "_law_drawn_integer" P_L_drawn_integer sp_L_drawn_integer := by
  refine mk_okT d sc_L_drawn_integer (fun _ => rfl) fun cdv A outer s H E hr => ⟨_, dv_L_drawn_integer hr (c_L_take := c1) (c_L_to := c2) (c_L_some := c3) (m_max := m1) (m_min := m2), ?_⟩
  rintro F n_ ok hN
  have hb := ok.b2
  have hb2 := ok.b36
  have hg := ok.g2
  have hg2 := ok.g120
  have hlh := ok.lh
  have h1 := ok.l1
  have h2 := ok.h1
  have zg := bg_sz ok
  have pg := pow_pos' (b := F.b) (by omega) F.g.toNat
  have hW2 : 1 ≤ F.b ∧ F.b ≤ 36 ∧ 0 ≤ F.g ∧ F.g ≤ 40000 := ⟨by omega, hb2, by omega, by omega⟩
  unfold t_L_drawn_integer
  repeat (walk_at "nn")
  refine c_L_take ?_
  repeat (walk_at "nn")
  refine ⟨⟨⟨by decide, by decide⟩, by omega⟩, ?_⟩
  rintro _ ⟨wy, rfl, w0, w1⟩
  have five : F.b ^ F.hi.toNat * F.b ^ F.g.toNat < 2 ^ 2700 ∨ ¬ 0 < F.hi := by
    by_cases h : 0 < F.hi
    · left
      have := ok.sh
      have e : F.hi.natAbs = F.hi.toNat := by omega
      rw [e, Nat.add_comm, Int.pow_add] at this
      exact this
    · exact .inr h
  repeat (walk_at "nn")
  refine br (fun k5 => ?_) (fun k5 => ?_)
  · repeat (walk_at "nn")
    refine ⟨fun h0 => ?_, fun h0 => ?_⟩
    · repeat (walk_at "nn")
      refine br (fun k3 => ?_) (fun k3 => ?_)
      · repeat (walk_at "nn")
        refine n_lift (c_W ?_)
        repeat (walk_at "nn")
        refine ⟨⟨by omega, hb2, by omega, by omega⟩, ?_⟩
        repeat (walk_at "nn")
        refine n_lift (c_W ?_)
        repeat (walk_at "nn")
        refine ⟨hW2, ?_⟩
        repeat (walk_at "nn")
        have zt := (greatest_ok ok).2.2.2.2
        have zh := (greatest_ok ok).1
        have ph := pow_pos' (b := F.b) (by omega) F.hi.toNat
        refine ⟨cm zt zh, ?_⟩
        repeat (walk_at "nn")
        refine ⟨cd2, ?_⟩
        repeat (walk_at "nn")
        have zz : ((F.b ^ F.g.toNat - 1) * F.b ^ F.hi.toNat).natAbs < 2 ^ 2701 := by
          rcases five with z | z
          · have e1 : ((2 ^ 2700 : Nat) : Int) = 2 ^ 2700 := by rw [Int.natCast_pow]; rfl
            have e2 : (F.b ^ F.g.toNat - 1) * F.b ^ F.hi.toNat = F.b ^ F.hi.toNat * F.b ^ F.g.toNat - F.b ^ F.hi.toNat := by
              rw [Int.sub_mul, Int.one_mul, Int.mul_comm]
            have e3 : 0 ≤ (F.b ^ F.g.toNat - 1) * F.b ^ F.hi.toNat := Int.mul_nonneg (by omega) (by omega)
            refine sz_mono (a := 2700) ?_
            rw [e2] at e3 ⊢
            generalize F.b ^ F.hi.toNat * F.b ^ F.g.toNat = X at *
            generalize (2 : Int) ^ 2700 = A at *
            generalize (2 : Nat) ^ 2700 = B at *
            omega
          · exact absurd h0 z
        have zd := sz_div (d := 2) (by decide) zh
        refine c_L_some ?_
        repeat (walk_at "nn")
        refine ⟨⟨⟨by decide, by decide⟩, by omega⟩, ?_⟩
        intro x hx
        obtain ⟨i, rfl, hi⟩ := zero_one hx
        repeat (walk_at "nn")
        have hz : ((F.b ^ F.g.toNat - 1) * F.b ^ F.hi.toNat + F.b ^ F.hi.toNat / 2 + i).natAbs < 2 ^ 4000 := sz_mono (sz_add (sz_add zz zd) (sz_mono (a := 1) (show i.natAbs < 2 ^ 1 by omega)))
        refine c_L_take ?_
        repeat (walk_at "nn")
        refine ⟨⟨⟨by decide, by decide⟩, by omega⟩, ?_⟩
        rintro _ ⟨r, rfl, -, -⟩
        repeat (walk_at "nn")
        refine br (fun h => ?_) (fun h => ?_)
        · repeat (walk_at "nn")
          exact ⟨by omega, _, rfl, hz⟩
        · repeat (walk_at "nn")
          exact ⟨by omega, _, rfl, by rw [Int.natAbs_neg]; exact hz⟩
      · skip
        repeat (walk_at "nn")
        refine br (fun q0 => ?_) (fun q0 => ?_)
        · repeat (walk_at "nn")
          refine c_L_take ?_
          repeat (walk_at "nn")
          refine ⟨⟨by decide, by decide, by decide⟩, ?_⟩
          repeat (walk_at "nn")
          refine ⟨⟨⟨by decide, by decide⟩, by omega⟩, ?_⟩
          rintro _ ⟨r, rfl, r0, r1⟩
          have r1 : r < 1000000000000 := r1
          repeat (walk_at "nn")
          have hz : r.natAbs < 2 ^ 4000 := sz_mono (a := 41) (by omega)
          refine c_L_take ?_
          repeat (walk_at "nn")
          refine ⟨⟨⟨by decide, by decide⟩, by omega⟩, ?_⟩
          rintro _ ⟨r, rfl, -, -⟩
          repeat (walk_at "nn")
          refine br (fun h => ?_) (fun h => ?_)
          · repeat (walk_at "nn")
            exact ⟨by omega, _, rfl, hz⟩
          · repeat (walk_at "nn")
            exact ⟨by omega, _, rfl, by rw [Int.natAbs_neg]; exact hz⟩
        repeat (walk_at "nn")
        refine br (fun q1 => ?_) (fun q1 => ?_)
        · repeat (walk_at "nn")
          refine nc_W ?_
          repeat (walk_at "nn")
          refine c_L_take ?_
          repeat (walk_at "nn")
          refine ⟨⟨⟨by omega, sz_mono (a := 8) (show (F.g + 3).natAbs < 2 ^ 8 by omega)⟩, by omega⟩, ?_⟩
          rintro _ ⟨r, rfl, r0, r1⟩
          repeat (walk_at "nn")
          refine ⟨⟨by omega, hb2, by omega, by omega⟩, ?_⟩
          have zr : (F.b ^ r.toNat).natAbs < 2 ^ (6 * 123 + 1) := sz_powE (by omega) hb2 (by omega)
          repeat (walk_at "nn")
          refine c_L_some ?_
          repeat (walk_at "nn")
          refine ⟨⟨⟨by decide, by decide⟩, by omega⟩, ?_⟩
          intro x hx
          obtain ⟨i, rfl, hi⟩ := zero_one hx
          repeat (walk_at "nn")
          have hz : (F.b ^ r.toNat + i).natAbs < 2 ^ 4000 := sz_mono (sz_add zr (sz_mono (a := 1) (show i.natAbs < 2 ^ 1 by omega)))
          refine c_L_take ?_
          repeat (walk_at "nn")
          refine ⟨⟨⟨by decide, by decide⟩, by omega⟩, ?_⟩
          rintro _ ⟨r, rfl, -, -⟩
          repeat (walk_at "nn")
          refine br (fun h => ?_) (fun h => ?_)
          · repeat (walk_at "nn")
            exact ⟨by omega, _, rfl, hz⟩
          · repeat (walk_at "nn")
            exact ⟨by omega, _, rfl, by rw [Int.natAbs_neg]; exact hz⟩
        repeat (walk_at "nn")
        refine br (fun q2 => ?_) (fun q2 => ?_)
        · repeat (walk_at "nn")
          refine n_lift (c_W ?_)
          repeat (walk_at "nn")
          refine ⟨hW2, ?_⟩
          repeat (walk_at "nn")
          refine c_L_take ?_
          repeat (walk_at "nn")
          refine ⟨cm (a := 3) (b := 8) (by decide) (by omega), ?_⟩
          repeat (walk_at "nn")
          refine ⟨⟨⟨by omega, sz_mono (a := 8) (show (2 * F.b).natAbs < 2 ^ 8 by omega)⟩, by omega⟩, ?_⟩
          rintro _ ⟨r, rfl, r0, r1⟩
          repeat (walk_at "nn")
          have hz : (F.b ^ F.g.toNat + r).natAbs < 2 ^ 4000 := sz_mono (sz_add zg (sz_mono (a := 8) (show r.natAbs < 2 ^ 8 by omega)))
          refine c_L_take ?_
          repeat (walk_at "nn")
          refine ⟨⟨⟨by decide, by decide⟩, by omega⟩, ?_⟩
          rintro _ ⟨r, rfl, -, -⟩
          repeat (walk_at "nn")
          refine br (fun h => ?_) (fun h => ?_)
          · repeat (walk_at "nn")
            exact ⟨by omega, _, rfl, hz⟩
          · repeat (walk_at "nn")
            exact ⟨by omega, _, rfl, by rw [Int.natAbs_neg]; exact hz⟩
        repeat (walk_at "nn")
        refine br (fun q3 => ?_) (fun q3 => ?_)
        · repeat (walk_at "nn")
          refine c_L_some ?_
          repeat (walk_at "nn")
          refine ⟨⟨⟨by decide, by decide⟩, by omega⟩, ?_⟩
          intro x hx
          have hx : ∃ i : Int, x = .int i ∧ i.natAbs ≤ 10 := by
            rw [List.mem_cons, List.mem_cons, List.mem_cons, List.mem_cons, List.mem_cons] at hx
            rcases hx with h | h | h | h | h | h
            · exact ⟨_, h, by decide⟩
            · exact ⟨_, h, by decide⟩
            · exact ⟨_, h, by decide⟩
            · exact ⟨_, h, by decide⟩
            · exact ⟨_, h, by decide⟩
            · cases h
          obtain ⟨i, rfl, hi⟩ := hx
          repeat (walk_at "nn")
          have hz : i.natAbs < 2 ^ 4000 := sz_mono (a := 5) (by omega)
          refine c_L_take ?_
          repeat (walk_at "nn")
          refine ⟨⟨⟨by decide, by decide⟩, by omega⟩, ?_⟩
          rintro _ ⟨r, rfl, -, -⟩
          repeat (walk_at "nn")
          refine br (fun h => ?_) (fun h => ?_)
          · repeat (walk_at "nn")
            exact ⟨by omega, _, rfl, hz⟩
          · repeat (walk_at "nn")
            exact ⟨by omega, _, rfl, by rw [Int.natAbs_neg]; exact hz⟩
        repeat (walk_at "nn")
        refine n_lift (c_W ?_)
        repeat (walk_at "nn")
        refine ⟨hW2, ?_⟩
        repeat (walk_at "nn")
        refine n_lift (c_W ?_)
        repeat (walk_at "nn")
        refine ⟨⟨by omega, hb2, by (repeat' split) <;> omega, by (repeat' split) <;> omega⟩, ?_⟩
        repeat (walk_at "nn")
        have zt := (greatest_ok ok).2.2.2.2
        have hK : (if min (min F.hi 20) (120 - F.g) > 0 then min (min F.hi 20) (120 - F.g) else 0).toNat ≤ 20 := by split <;> omega
        generalize (if min (min F.hi 20) (120 - F.g) > 0 then min (min F.hi 20) (120 - F.g) else 0) = k at hK
        have zk : (F.b ^ k.toNat).natAbs < 2 ^ (6 * 20 + 1) := sz_powE (by omega) hb2 hK
        refine ⟨cm zt zk, ?_⟩
        repeat (walk_at "nn")
        refine c_L_some ?_
        repeat (walk_at "nn")
        refine ⟨⟨⟨by decide, by decide⟩, by omega⟩, ?_⟩
        intro x hx
        obtain ⟨i, rfl, hi⟩ := zero_one hx
        repeat (walk_at "nn")
        have hz : ((F.b ^ F.g.toNat - 1) * F.b ^ k.toNat + i).natAbs < 2 ^ 4000 := sz_mono (sz_add (sz_mul zt zk) (sz_mono (a := 1) (show i.natAbs < 2 ^ 1 by omega)))
        refine c_L_take ?_
        repeat (walk_at "nn")
        refine ⟨⟨⟨by decide, by decide⟩, by omega⟩, ?_⟩
        rintro _ ⟨r, rfl, -, -⟩
        repeat (walk_at "nn")
        refine br (fun h => ?_) (fun h => ?_)
        · repeat (walk_at "nn")
          exact ⟨by omega, _, rfl, hz⟩
        · repeat (walk_at "nn")
          exact ⟨by omega, _, rfl, by rw [Int.natAbs_neg]; exact hz⟩
    · skip
      repeat (walk_at "nn")
      refine bF ?_
      repeat (walk_at "nn")
      refine br (fun q0 => ?_) (fun q0 => ?_)
      · repeat (walk_at "nn")
        refine c_L_take ?_
        repeat (walk_at "nn")
        refine ⟨⟨by decide, by decide, by decide⟩, ?_⟩
        repeat (walk_at "nn")
        refine ⟨⟨⟨by decide, by decide⟩, by omega⟩, ?_⟩
        rintro _ ⟨r, rfl, r0, r1⟩
        have r1 : r < 1000000000000 := r1
        repeat (walk_at "nn")
        have hz : r.natAbs < 2 ^ 4000 := sz_mono (a := 41) (by omega)
        refine c_L_take ?_
        repeat (walk_at "nn")
        refine ⟨⟨⟨by decide, by decide⟩, by omega⟩, ?_⟩
        rintro _ ⟨r, rfl, -, -⟩
        repeat (walk_at "nn")
        refine br (fun h => ?_) (fun h => ?_)
        · repeat (walk_at "nn")
          exact ⟨by omega, _, rfl, hz⟩
        · repeat (walk_at "nn")
          exact ⟨by omega, _, rfl, by rw [Int.natAbs_neg]; exact hz⟩
      repeat (walk_at "nn")
      refine br (fun q1 => ?_) (fun q1 => ?_)
      · repeat (walk_at "nn")
        refine nc_W ?_
        repeat (walk_at "nn")
        refine c_L_take ?_
        repeat (walk_at "nn")
        refine ⟨⟨⟨by omega, sz_mono (a := 8) (show (F.g + 3).natAbs < 2 ^ 8 by omega)⟩, by omega⟩, ?_⟩
        rintro _ ⟨r, rfl, r0, r1⟩
        repeat (walk_at "nn")
        refine ⟨⟨by omega, hb2, by omega, by omega⟩, ?_⟩
        have zr : (F.b ^ r.toNat).natAbs < 2 ^ (6 * 123 + 1) := sz_powE (by omega) hb2 (by omega)
        repeat (walk_at "nn")
        refine c_L_some ?_
        repeat (walk_at "nn")
        refine ⟨⟨⟨by decide, by decide⟩, by omega⟩, ?_⟩
        intro x hx
        obtain ⟨i, rfl, hi⟩ := zero_one hx
        repeat (walk_at "nn")
        have hz : (F.b ^ r.toNat + i).natAbs < 2 ^ 4000 := sz_mono (sz_add zr (sz_mono (a := 1) (show i.natAbs < 2 ^ 1 by omega)))
        refine c_L_take ?_
        repeat (walk_at "nn")
        refine ⟨⟨⟨by decide, by decide⟩, by omega⟩, ?_⟩
        rintro _ ⟨r, rfl, -, -⟩
        repeat (walk_at "nn")
        refine br (fun h => ?_) (fun h => ?_)
        · repeat (walk_at "nn")
          exact ⟨by omega, _, rfl, hz⟩
        · repeat (walk_at "nn")
          exact ⟨by omega, _, rfl, by rw [Int.natAbs_neg]; exact hz⟩
      repeat (walk_at "nn")
      refine br (fun q2 => ?_) (fun q2 => ?_)
      · repeat (walk_at "nn")
        refine n_lift (c_W ?_)
        repeat (walk_at "nn")
        refine ⟨hW2, ?_⟩
        repeat (walk_at "nn")
        refine c_L_take ?_
        repeat (walk_at "nn")
        refine ⟨cm (a := 3) (b := 8) (by decide) (by omega), ?_⟩
        repeat (walk_at "nn")
        refine ⟨⟨⟨by omega, sz_mono (a := 8) (show (2 * F.b).natAbs < 2 ^ 8 by omega)⟩, by omega⟩, ?_⟩
        rintro _ ⟨r, rfl, r0, r1⟩
        repeat (walk_at "nn")
        have hz : (F.b ^ F.g.toNat + r).natAbs < 2 ^ 4000 := sz_mono (sz_add zg (sz_mono (a := 8) (show r.natAbs < 2 ^ 8 by omega)))
        refine c_L_take ?_
        repeat (walk_at "nn")
        refine ⟨⟨⟨by decide, by decide⟩, by omega⟩, ?_⟩
        rintro _ ⟨r, rfl, -, -⟩
        repeat (walk_at "nn")
        refine br (fun h => ?_) (fun h => ?_)
        · repeat (walk_at "nn")
          exact ⟨by omega, _, rfl, hz⟩
        · repeat (walk_at "nn")
          exact ⟨by omega, _, rfl, by rw [Int.natAbs_neg]; exact hz⟩
      repeat (walk_at "nn")
      refine br (fun q3 => ?_) (fun q3 => ?_)
      · repeat (walk_at "nn")
        refine c_L_some ?_
        repeat (walk_at "nn")
        refine ⟨⟨⟨by decide, by decide⟩, by omega⟩, ?_⟩
        intro x hx
        have hx : ∃ i : Int, x = .int i ∧ i.natAbs ≤ 10 := by
          rw [List.mem_cons, List.mem_cons, List.mem_cons, List.mem_cons, List.mem_cons] at hx
          rcases hx with h | h | h | h | h | h
          · exact ⟨_, h, by decide⟩
          · exact ⟨_, h, by decide⟩
          · exact ⟨_, h, by decide⟩
          · exact ⟨_, h, by decide⟩
          · exact ⟨_, h, by decide⟩
          · cases h
        obtain ⟨i, rfl, hi⟩ := hx
        repeat (walk_at "nn")
        have hz : i.natAbs < 2 ^ 4000 := sz_mono (a := 5) (by omega)
        refine c_L_take ?_
        repeat (walk_at "nn")
        refine ⟨⟨⟨by decide, by decide⟩, by omega⟩, ?_⟩
        rintro _ ⟨r, rfl, -, -⟩
        repeat (walk_at "nn")
        refine br (fun h => ?_) (fun h => ?_)
        · repeat (walk_at "nn")
          exact ⟨by omega, _, rfl, hz⟩
        · repeat (walk_at "nn")
          exact ⟨by omega, _, rfl, by rw [Int.natAbs_neg]; exact hz⟩
      repeat (walk_at "nn")
      refine n_lift (c_W ?_)
      repeat (walk_at "nn")
      refine ⟨hW2, ?_⟩
      repeat (walk_at "nn")
      refine n_lift (c_W ?_)
      repeat (walk_at "nn")
      refine ⟨⟨by omega, hb2, by (repeat' split) <;> omega, by (repeat' split) <;> omega⟩, ?_⟩
      repeat (walk_at "nn")
      have zt := (greatest_ok ok).2.2.2.2
      have hK : (if min (min F.hi 20) (120 - F.g) > 0 then min (min F.hi 20) (120 - F.g) else 0).toNat ≤ 20 := by split <;> omega
      generalize (if min (min F.hi 20) (120 - F.g) > 0 then min (min F.hi 20) (120 - F.g) else 0) = k at hK
      have zk : (F.b ^ k.toNat).natAbs < 2 ^ (6 * 20 + 1) := sz_powE (by omega) hb2 hK
      refine ⟨cm zt zk, ?_⟩
      repeat (walk_at "nn")
      refine c_L_some ?_
      repeat (walk_at "nn")
      refine ⟨⟨⟨by decide, by decide⟩, by omega⟩, ?_⟩
      intro x hx
      obtain ⟨i, rfl, hi⟩ := zero_one hx
      repeat (walk_at "nn")
      have hz : ((F.b ^ F.g.toNat - 1) * F.b ^ k.toNat + i).natAbs < 2 ^ 4000 := sz_mono (sz_add (sz_mul zt zk) (sz_mono (a := 1) (show i.natAbs < 2 ^ 1 by omega)))
      refine c_L_take ?_
      repeat (walk_at "nn")
      refine ⟨⟨⟨by decide, by decide⟩, by omega⟩, ?_⟩
      rintro _ ⟨r, rfl, -, -⟩
      repeat (walk_at "nn")
      refine br (fun h => ?_) (fun h => ?_)
      · repeat (walk_at "nn")
        exact ⟨by omega, _, rfl, hz⟩
      · repeat (walk_at "nn")
        exact ⟨by omega, _, rfl, by rw [Int.natAbs_neg]; exact hz⟩
  · repeat (walk_at "nn")
    refine bF ?_
    repeat (walk_at "nn")
    refine br (fun q0 => ?_) (fun q0 => ?_)
    · repeat (walk_at "nn")
      refine c_L_take ?_
      repeat (walk_at "nn")
      refine ⟨⟨by decide, by decide, by decide⟩, ?_⟩
      repeat (walk_at "nn")
      refine ⟨⟨⟨by decide, by decide⟩, by omega⟩, ?_⟩
      rintro _ ⟨r, rfl, r0, r1⟩
      have r1 : r < 1000000000000 := r1
      repeat (walk_at "nn")
      have hz : r.natAbs < 2 ^ 4000 := sz_mono (a := 41) (by omega)
      refine c_L_take ?_
      repeat (walk_at "nn")
      refine ⟨⟨⟨by decide, by decide⟩, by omega⟩, ?_⟩
      rintro _ ⟨r, rfl, -, -⟩
      repeat (walk_at "nn")
      refine br (fun h => ?_) (fun h => ?_)
      · repeat (walk_at "nn")
        exact ⟨by omega, _, rfl, hz⟩
      · repeat (walk_at "nn")
        exact ⟨by omega, _, rfl, by rw [Int.natAbs_neg]; exact hz⟩
    repeat (walk_at "nn")
    refine br (fun q1 => ?_) (fun q1 => ?_)
    · repeat (walk_at "nn")
      refine nc_W ?_
      repeat (walk_at "nn")
      refine c_L_take ?_
      repeat (walk_at "nn")
      refine ⟨⟨⟨by omega, sz_mono (a := 8) (show (F.g + 3).natAbs < 2 ^ 8 by omega)⟩, by omega⟩, ?_⟩
      rintro _ ⟨r, rfl, r0, r1⟩
      repeat (walk_at "nn")
      refine ⟨⟨by omega, hb2, by omega, by omega⟩, ?_⟩
      have zr : (F.b ^ r.toNat).natAbs < 2 ^ (6 * 123 + 1) := sz_powE (by omega) hb2 (by omega)
      repeat (walk_at "nn")
      refine c_L_some ?_
      repeat (walk_at "nn")
      refine ⟨⟨⟨by decide, by decide⟩, by omega⟩, ?_⟩
      intro x hx
      obtain ⟨i, rfl, hi⟩ := zero_one hx
      repeat (walk_at "nn")
      have hz : (F.b ^ r.toNat + i).natAbs < 2 ^ 4000 := sz_mono (sz_add zr (sz_mono (a := 1) (show i.natAbs < 2 ^ 1 by omega)))
      refine c_L_take ?_
      repeat (walk_at "nn")
      refine ⟨⟨⟨by decide, by decide⟩, by omega⟩, ?_⟩
      rintro _ ⟨r, rfl, -, -⟩
      repeat (walk_at "nn")
      refine br (fun h => ?_) (fun h => ?_)
      · repeat (walk_at "nn")
        exact ⟨by omega, _, rfl, hz⟩
      · repeat (walk_at "nn")
        exact ⟨by omega, _, rfl, by rw [Int.natAbs_neg]; exact hz⟩
    repeat (walk_at "nn")
    refine br (fun q2 => ?_) (fun q2 => ?_)
    · repeat (walk_at "nn")
      refine n_lift (c_W ?_)
      repeat (walk_at "nn")
      refine ⟨hW2, ?_⟩
      repeat (walk_at "nn")
      refine c_L_take ?_
      repeat (walk_at "nn")
      refine ⟨cm (a := 3) (b := 8) (by decide) (by omega), ?_⟩
      repeat (walk_at "nn")
      refine ⟨⟨⟨by omega, sz_mono (a := 8) (show (2 * F.b).natAbs < 2 ^ 8 by omega)⟩, by omega⟩, ?_⟩
      rintro _ ⟨r, rfl, r0, r1⟩
      repeat (walk_at "nn")
      have hz : (F.b ^ F.g.toNat + r).natAbs < 2 ^ 4000 := sz_mono (sz_add zg (sz_mono (a := 8) (show r.natAbs < 2 ^ 8 by omega)))
      refine c_L_take ?_
      repeat (walk_at "nn")
      refine ⟨⟨⟨by decide, by decide⟩, by omega⟩, ?_⟩
      rintro _ ⟨r, rfl, -, -⟩
      repeat (walk_at "nn")
      refine br (fun h => ?_) (fun h => ?_)
      · repeat (walk_at "nn")
        exact ⟨by omega, _, rfl, hz⟩
      · repeat (walk_at "nn")
        exact ⟨by omega, _, rfl, by rw [Int.natAbs_neg]; exact hz⟩
    repeat (walk_at "nn")
    refine br (fun q3 => ?_) (fun q3 => ?_)
    · repeat (walk_at "nn")
      refine c_L_some ?_
      repeat (walk_at "nn")
      refine ⟨⟨⟨by decide, by decide⟩, by omega⟩, ?_⟩
      intro x hx
      have hx : ∃ i : Int, x = .int i ∧ i.natAbs ≤ 10 := by
        rw [List.mem_cons, List.mem_cons, List.mem_cons, List.mem_cons, List.mem_cons] at hx
        rcases hx with h | h | h | h | h | h
        · exact ⟨_, h, by decide⟩
        · exact ⟨_, h, by decide⟩
        · exact ⟨_, h, by decide⟩
        · exact ⟨_, h, by decide⟩
        · exact ⟨_, h, by decide⟩
        · cases h
      obtain ⟨i, rfl, hi⟩ := hx
      repeat (walk_at "nn")
      have hz : i.natAbs < 2 ^ 4000 := sz_mono (a := 5) (by omega)
      refine c_L_take ?_
      repeat (walk_at "nn")
      refine ⟨⟨⟨by decide, by decide⟩, by omega⟩, ?_⟩
      rintro _ ⟨r, rfl, -, -⟩
      repeat (walk_at "nn")
      refine br (fun h => ?_) (fun h => ?_)
      · repeat (walk_at "nn")
        exact ⟨by omega, _, rfl, hz⟩
      · repeat (walk_at "nn")
        exact ⟨by omega, _, rfl, by rw [Int.natAbs_neg]; exact hz⟩
    repeat (walk_at "nn")
    refine n_lift (c_W ?_)
    repeat (walk_at "nn")
    refine ⟨hW2, ?_⟩
    repeat (walk_at "nn")
    refine n_lift (c_W ?_)
    repeat (walk_at "nn")
    refine ⟨⟨by omega, hb2, by (repeat' split) <;> omega, by (repeat' split) <;> omega⟩, ?_⟩
    repeat (walk_at "nn")
    have zt := (greatest_ok ok).2.2.2.2
    have hK : (if min (min F.hi 20) (120 - F.g) > 0 then min (min F.hi 20) (120 - F.g) else 0).toNat ≤ 20 := by split <;> omega
    generalize (if min (min F.hi 20) (120 - F.g) > 0 then min (min F.hi 20) (120 - F.g) else 0) = k at hK
    have zk : (F.b ^ k.toNat).natAbs < 2 ^ (6 * 20 + 1) := sz_powE (by omega) hb2 hK
    refine ⟨cm zt zk, ?_⟩
    repeat (walk_at "nn")
    refine c_L_some ?_
    repeat (walk_at "nn")
    refine ⟨⟨⟨by decide, by decide⟩, by omega⟩, ?_⟩
    intro x hx
    obtain ⟨i, rfl, hi⟩ := zero_one hx
    repeat (walk_at "nn")
    have hz : ((F.b ^ F.g.toNat - 1) * F.b ^ k.toNat + i).natAbs < 2 ^ 4000 := sz_mono (sz_add (sz_mul zt zk) (sz_mono (a := 1) (show i.natAbs < 2 ^ 1 by omega)))
    refine c_L_take ?_
    repeat (walk_at "nn")
    refine ⟨⟨⟨by decide, by decide⟩, by omega⟩, ?_⟩
    rintro _ ⟨r, rfl, -, -⟩
    repeat (walk_at "nn")
    refine br (fun h => ?_) (fun h => ?_)
    · repeat (walk_at "nn")
      exact ⟨by omega, _, rfl, hz⟩
    · repeat (walk_at "nn")
      exact ⟨by omega, _, rfl, by rw [Int.natAbs_neg]; exact hz⟩
end
end Nh
set_option Elab.async false
set_option linter.all false
set_option maxRecDepth 100000
set_option maxHeartbeats 4000000
namespace Nh
open PySem PySem.Spec PyProof.Rows L2
local macro_rules | `(tactic| walk_at "nhe") => `(tactic| first
  | (with_reducible refine wg_name ?_)
  | (with_reducible refine wgs_cons ?_)
  | (with_reducible refine wgs_nil ?_)
  | (with_reducible refine wg_tup ?_; refine ⟨_, rfl, rfl, ?_⟩)
  | (with_reducible refine we_nm ?_; refine ⟨_, rfl, ?_⟩)
  | (with_reducible refine we_int ?_)
  | (with_reducible refine we_str ?_)
  | (with_reducible refine we_non ?_)
  | (with_reducible refine we_bl ?_)
  | (with_reducible refine wAddI ?_)
  | (with_reducible refine wSubI ?_)
  | (with_reducible refine wMulI ?_)
  | (with_reducible refine wDivI ?_)
  | (with_reducible refine wModI ?_)
  | (with_reducible refine wPowI ?_)
  | (with_reducible refine wLtI ?_)
  | (with_reducible refine wLeI ?_)
  | (with_reducible refine wGtI ?_)
  | (with_reducible refine wGeI ?_)
  | (with_reducible refine wNegI ?_)
  | (with_reducible refine we_eq ?_)
  | (with_reducible refine we_ne ?_)
  | (with_reducible refine we_eqD ?_)
  | (with_reducible refine we_neD ?_)
  | (with_reducible refine we_in ?_)
  | (with_reducible refine we_ixT ?_)
  | (with_reducible refine we_ixL ?_)
  | (with_reducible refine we_tup ?_)
  | (with_reducible refine we_lst ?_)
  | (with_reducible refine we_catT ?_)
  | (with_reducible refine we_catL ?_)
  | (with_reducible refine we_subB ?_)
  | (with_reducible refine we_rep01 ?_)
  | (with_reducible refine wIs0 ?_)
  | (with_reducible refine wNot0 ?_)
  | (with_reducible refine wa_cons ?_)
  | (with_reducible refine wa_nil ?_)
  | (with_reducible refine wt_test ?_)
  | (with_reducible refine wt_B ?_)
  | (with_reducible refine wt_and ?_)
  | (with_reducible refine wt_or ?_)
  | (with_reducible refine wt_not ?_)
  | (with_reducible refine we_ifE ?_)
  | (with_reducible refine we_and ?_)
  | (with_reducible refine we_or ?_)
  | (with_reducible refine wChain ?_)
  | (with_reducible refine wAbs ?_)
  | (with_reducible refine wMax2 ?_)
  | (with_reducible refine wMin2 ?_)
  | (with_reducible refine we_min3 ?_)
  | (with_reducible refine we_gcd ?_)
  | (with_reducible refine wInt1 ?_)
  | (with_reducible refine intOf_bl ?_)
  | (with_reducible refine intOf_int ?_)
  | (with_reducible refine wLenL ?_)
  | (with_reducible refine wTupL ?_)
  | (with_reducible refine we_slT ?_)
  | (refine ⟨_, rfl, ?_⟩)
  | (refine ⟨_, _, rfl, rfl, ?_⟩)
  | (refine ⟨_, _, rfl, ?_⟩)
  | (refine ⟨_, _, _, rfl, ?_⟩)
  | (refine ⟨_, _, _, _, rfl, ?_⟩)
  | (refine ⟨_, _, _, _, _, rfl, ?_⟩)
  | (refine ⟨_, _, _, _, _, _, rfl, ?_⟩)
  | (refine ⟨_, EqV.int _ _, ?_⟩)
  | (refine ⟨_, EqV.str _ _, ?_⟩)
  | (refine ⟨_, EqV.bl _ _, ?_⟩)
  | (refine ⟨Nat.le_of_ble_eq_true rfl, ?_⟩))
local macro_rules | `(tactic| walk_at "nh") => `(tactic| first
  | (with_reducible refine ws_seq ?_)
  | (with_reducible refine ws_ret ?_)
  | (with_reducible refine ws_asg ?_)
  | (with_reducible refine ws_if ?_)
  | (with_reducible refine ws_par ?_)
  | (with_reducible refine ws_par3 ?_)
  | (with_reducible refine ws_next ?_)
  | (with_reducible refine ws_drop ?_)
  | (walk_at "nhe"))
section
variable {P : Program} {w : World} {K : PySem.W.Frag} {mg : Str → Option Value} {base : Heap} {f : Addr} {fd : FuncData}
theorem ok_L_alike (d : Df K mg "_law_alike" (topS 29) P_L_alike f fd) (m : mg "repr" = none) (hL : LimOk K) : OkG P w K mg base 1 "_law_alike" P_L_alike sp_L_alike := by
  refine mk_okG d sc_L_alike (fun _ => rfl) fun cdv A outer s H E hg hr => ⟨_, dv_L_alike hr m hg hL, ?_⟩
  rintro es ⟨h1, h2⟩
  unfold t_L_alike
  repeat (walk_at "nh")
  refine eqD_good h1 (by omega) ?_
  repeat (walk_at "nh")
  refine bT ?_
  repeat (walk_at "nh")
  refine we_reprD ?_
  repeat (walk_at "nh")
  refine ⟨h1, h2, ?_⟩
  repeat (walk_at "nh")
  refine we_reprD ?_
  repeat (walk_at "nh")
  refine ⟨h1, h2, ?_⟩
  repeat (walk_at "nh")
  exact congrArg D.bl (decide_eq_true rfl)
end
end Nh
set_option Elab.async false
set_option linter.all false
set_option maxRecDepth 100000
set_option maxHeartbeats 4000000
namespace Nh
open PySem PySem.Spec PyProof.Rows L2
local macro_rules | `(tactic| walk_at "nhe") => `(tactic| first
  | (with_reducible refine wg_name ?_)
  | (with_reducible refine wgs_cons ?_)
  | (with_reducible refine wgs_nil ?_)
  | (with_reducible refine wg_tup ?_; refine ⟨_, rfl, rfl, ?_⟩)
  | (with_reducible refine we_nm ?_; refine ⟨_, rfl, ?_⟩)
  | (with_reducible refine we_int ?_)
  | (with_reducible refine we_str ?_)
  | (with_reducible refine we_non ?_)
  | (with_reducible refine we_bl ?_)
  | (with_reducible refine wAddI ?_)
  | (with_reducible refine wSubI ?_)
  | (with_reducible refine wMulI ?_)
  | (with_reducible refine wDivI ?_)
  | (with_reducible refine wModI ?_)
  | (with_reducible refine wPowI ?_)
  | (with_reducible refine wLtI ?_)
  | (with_reducible refine wLeI ?_)
  | (with_reducible refine wGtI ?_)
  | (with_reducible refine wGeI ?_)
  | (with_reducible refine wNegI ?_)
  | (with_reducible refine we_eq ?_)
  | (with_reducible refine we_ne ?_)
  | (with_reducible refine we_eqD ?_)
  | (with_reducible refine we_neD ?_)
  | (with_reducible refine we_in ?_)
  | (with_reducible refine we_ixT ?_)
  | (with_reducible refine we_ixL ?_)
  | (with_reducible refine we_tup ?_)
  | (with_reducible refine we_lst ?_)
  | (with_reducible refine we_catT ?_)
  | (with_reducible refine we_catL ?_)
  | (with_reducible refine we_subB ?_)
  | (with_reducible refine we_rep01 ?_)
  | (with_reducible refine wIs0 ?_)
  | (with_reducible refine wNot0 ?_)
  | (with_reducible refine wa_cons ?_)
  | (with_reducible refine wa_nil ?_)
  | (with_reducible refine wt_test ?_)
  | (with_reducible refine wt_B ?_)
  | (with_reducible refine wt_and ?_)
  | (with_reducible refine wt_or ?_)
  | (with_reducible refine wt_not ?_)
  | (with_reducible refine we_ifE ?_)
  | (with_reducible refine we_and ?_)
  | (with_reducible refine we_or ?_)
  | (with_reducible refine wChain ?_)
  | (with_reducible refine wAbs ?_)
  | (with_reducible refine wMax2 ?_)
  | (with_reducible refine wMin2 ?_)
  | (with_reducible refine we_min3 ?_)
  | (with_reducible refine we_gcd ?_)
  | (with_reducible refine wInt1 ?_)
  | (with_reducible refine intOf_bl ?_)
  | (with_reducible refine intOf_int ?_)
  | (with_reducible refine wLenL ?_)
  | (with_reducible refine wTupL ?_)
  | (with_reducible refine we_slT ?_)
  | (refine ⟨_, rfl, ?_⟩)
  | (refine ⟨_, _, rfl, rfl, ?_⟩)
  | (refine ⟨_, _, rfl, ?_⟩)
  | (refine ⟨_, _, _, rfl, ?_⟩)
  | (refine ⟨_, _, _, _, rfl, ?_⟩)
  | (refine ⟨_, _, _, _, _, rfl, ?_⟩)
  | (refine ⟨_, _, _, _, _, _, rfl, ?_⟩)
  | (refine ⟨_, EqV.int _ _, ?_⟩)
  | (refine ⟨_, EqV.str _ _, ?_⟩)
  | (refine ⟨_, EqV.bl _ _, ?_⟩)
  | (refine ⟨Nat.le_of_ble_eq_true rfl, ?_⟩))
local macro_rules | `(tactic| walk_at "nh") => `(tactic| first
  | (with_reducible refine ws_seq ?_)
  | (with_reducible refine ws_ret ?_)
  | (with_reducible refine ws_asg ?_)
  | (with_reducible refine ws_if ?_)
  | (with_reducible refine ws_par ?_)
  | (with_reducible refine ws_par3 ?_)
  | (with_reducible refine ws_next ?_)
  | (with_reducible refine ws_drop ?_)
  | (walk_at "nhe"))
section
variable {P : Program} {w : World} {K : PySem.W.Frag} {mg : Str → Option Value} {base : Heap} {f : Addr} {fd : FuncData}
theorem eqD_rd1 {n d m : Int} (hd : 0 < d) {Φ : Bool → Prop} (h : Φ (decide (n * 1 = m * d))) : EqD (rdD n d) (fr m 1) Φ := by
  rw [← rd_one]
  exact eqD_rd hd (by decide) h
def nlO (ρ : Env) : Bool := ρ.all fun o => match o with | some d => d.nl | none => true
theorem nlO_at {ρ : Env} (h : nlO ρ = true) (j : Nat) (d : D) (e : ρ[j]? = some (some d)) : d.nl = true := by
  have := List.all_eq_true.mp h _ (List.mem_of_getElem? e)
  exact this
def sg (n : Int) : Int := if n = 0 then 0 else if n < 0 then 1 else 0
theorem sg01 (n : Int) : sg n = 0 ∨ sg n = 1 := by
  unfold sg
  split
  · exact .inl rfl
  · split
    · exact .inr rfl
    · exact .inl rfl
/-- what the law rounds to, for any sign -/
theorem law_fin {F : Fm} (ok : FmOk F) {w : Str} {n c e : Int} (G : Grid F (iabs n) 1 c e) {d : D} (h : d = finD F w (sg n) c e (sideOf (up F.b e (iabs n)) (dn F.b e 1) c)) :
    (n = 0 ∧ d = .tup [numD 0 0 F.lo, fl0]) ∨ (n ≠ 0 ∧ ∃ c e : Int, Grid F (iabs n) 1 c e ∧ d = finD F w (if n < 0 then 1 else 0) c e (sideOf (up F.b e (iabs n)) (dn F.b e 1) c)) := by
  by_cases h0 : n = 0
  · left
    refine ⟨h0, ?_⟩
    subst h0
    have e0 : iabs 0 = 0 := rfl
    rw [e0] at G h
    obtain ⟨rfl, rfl⟩ := grid_eq ok (by decide) G (Grid.zero ok (by decide))
    have hs : sideOf (up F.b F.lo 0) (dn F.b F.lo 1) 0 = none := side_none.mpr (by rw [Int.zero_mul]; exact (Int.zero_mul _).symm)
    rw [hs] at h
    rw [h]
    unfold finD
    have lh := ok.lh
    rw [isR_none]
    dsimp only
    rw [if_neg Bool.false_ne_true]
    dsimp only
    rw [if_neg (show ¬ F.hi < F.lo by omega), if_neg (show ¬ ((none : Option Int) ≠ none ∧ (0 : Int) < F.b ^ (F.g.toNat - 1)) from fun z => z.1 rfl)]
    rfl
  · right
    refine ⟨h0, c, e, G, ?_⟩
    rw [h]
    have : sg n = if n < 0 then 1 else 0 := if_neg h0
    rw [this]
theorem fin_low {F : Fm} {w : Str} {s c e : Int} {sd : Option Int} (h : ¬ F.hi < (ceOf F w s c e sd).2) : finD F w s c e sd = .tup [numD s (ceOf F w s c e sd).1 (ceOf F w s c e sd).2, if sd ≠ none ∧ c < F.b ^ (F.g.toNat - 1) then flT else if sd = none then fl0 else fl1] := by
  unfold finD
  unfold ceOf at h ⊢
  dsimp only
  rw [if_neg h]
theorem fin_over {F : Fm} {w : Str} {s c e : Int} {sd : Option Int} (h : F.hi < (ceOf F w s c e sd).2) : finD F w s c e sd = .tup [if infB w s = true then infD s else numD s (F.b ^ F.g.toNat - 1) F.hi, flO] := by
  unfold finD
  unfold ceOf at h
  dsimp only
  rw [if_pos h]
theorem ok_L_rounded (d : Df K mg "_law_rounded" (topS 52) P_L_rounded f fd) (c1 : Ok P w K mg base 1 "_law_sized" P_L_sized sp_L_sized) (c2 : Ok P w K mg base 4 "_law_neighbours" P_L_neighbours sp_L_neighbours) (c3 : Ok P w K mg base 4 "_law_nearer" P_L_nearer sp_L_nearer)
    (c4 : Ok P w K mg base 1 "_law_is_below" P_L_is_below sp_L_is_below) (c5 : Ok P w K mg base 3 "_law_normal" P_L_normal sp_L_normal) (c6 : Ok P w K mg base 4 "_law_greatest" P_L_greatest sp_L_greatest) (c7 : Ok P w K mg base 3 "_law_form_of" P_L_form_of sp_L_form_of)
    (m1 : mg "int" = none) (m2 : mg "tuple" = none) (m3 : mg "sorted" = none) (m4 : mg "set" = none) : Ok P w K mg base 5 "_law_rounded" P_L_rounded sp_L_rounded := by
  refine mk_ok d sc_L_rounded (fun _ => rfl) fun cdv A outer s H E hr => ⟨_, dv_L_rounded hr (c_L_sized := c1) (c_L_neighbours := c2) (c_L_nearer := c3) (c_L_is_below := c4) (c_L_normal := c5) (c_L_greatest := c6) (c_L_form_of := c7) (m_int := m1) (m_tuple := m2) (m_sorted := m3) (m_set := m4), ?_⟩
  rintro ⟨F, x, n⟩ ⟨ok, zn, hw⟩
  have zm := iabs_sz zn
  have hm := iabs_nn n
  have hs := sg01 n
  have hb1 : 1 ≤ F.b := by have := ok.b2; omega
  unfold t_L_rounded
  refine ws_seq ?_
  refine ws_asg ?_
  refine WE.imp (Ψ := fun d => d = .int (sg n)) ?_ ?_
  · repeat (walk_at "nh")
    refine br (fun h => ?_) (fun h => ?_)
    · repeat (walk_at "nh")
      show D.int 0 = D.int (sg n)
      unfold sg
      rw [if_pos h]
    · repeat (walk_at "nh")
      show D.int _ = D.int (sg n)
      unfold sg
      rw [if_neg h]
      by_cases k : n < 0
      · rw [decide_eq_true k, if_pos k]
        rfl
      · rw [decide_eq_false k, if_neg k]
        rfl
  rintro _ rfl
  generalize hsn : sg n = s at hs
  refine wg_name ?_
  refine ws_seq ?_
  repeat (walk_at "nh")
  refine c_L_sized ?_
  repeat (walk_at "nh")
  refine ⟨trivial, ?_⟩
  refine wa_cons ?_
  refine we_nm ?_
  refine ⟨_, rfl, ?_⟩
  refine wa_nil ?_
  refine ⟨_, _, rfl, ?_⟩
  generalize hmm : iabs n = m at *
  refine ws_seq ?_
  refine WS.imp (Ω := { nx := fun ρ' => ρ' = [some F.D, some (.str x), some (fr n 1), some (.int s), some (fr m 1), some (.str (itsW x s)), none, none, none, none, none, none, none], rt := fun _ => False }) ?_ ?_ (fun _ h => h.elim) (fun _ h => h.elim) (fun _ h => h.elim)
  · repeat (walk_at "nh")
    refine ⟨["up", "down"], rfl, ?_⟩
    rw [any2]
    repeat (walk_at "nh")
    refine br (fun h => ?_) (fun h => ?_)
    · repeat (walk_at "nh")
      refine br (fun k => ?_) (fun k => ?_)
      · repeat (walk_at "nh")
        unfold itsW
        rw [if_pos h, if_pos k]
        rfl
      · repeat (walk_at "nh")
        unfold itsW
        rw [if_pos h, if_neg k]
        rfl
    · repeat (walk_at "nh")
      unfold itsW
      rw [if_neg h]
      rfl
  rintro _ rfl
  repeat (walk_at "nh")
  refine c_L_neighbours ?_
  repeat (walk_at "nh")
  refine ⟨⟨ok, hm, zm⟩, ?_⟩
  rintro d_ ⟨c, e, G, hd⟩
  have c0 := G.nn ok hm (by decide)
  have z0 := cn_sz ok hm zm G (v := c) c0 (by omega)
  have z1 := cn_sz ok hm zm G (v := c + 1) (by omega) (by omega)
  generalize hsd : sideOf (up F.b e m) (dn F.b e 1) c = sd at *
  have two : ∃ a2 b2 mr : Int, d_ = .tup [cuD F c e, fr a2 b2, .int c, .int mr] ∧ 0 < b2 ∧ a2.natAbs < 2 ^ 4002 ∧ b2.natAbs < 2 ^ 2701 ∧ neD (itsW x s) m 1 (cnN F c e) (cnD F c e) a2 b2 c = cuD F (vOf x s c sd) e := by
    by_cases q : c * dn F.b e 1 = up F.b e m
    · rw [if_pos q] at hd
      refine ⟨_, _, _, hd, cnD_pos ok c e, z0.1, z0.2, ?_⟩
      have : sd = none := by rw [← hsd]; exact side_none.mpr q
      rw [this]
      exact near_same _ _ _ _ _
    · rw [if_neg q] at hd
      refine ⟨_, _, _, hd, cnD_pos ok (c + 1) e, z1.1, z1.2, ?_⟩
      have h1 := near_two ok x s hw q
      rw [hsd] at h1
      refine h1.trans ?_
      unfold vOf
      split <;> rfl
  obtain ⟨a2, b2, mr, rfl, pb, za, zb, hN⟩ := two
  repeat (walk_at "nh")
  refine c_L_nearer ?_
  repeat (walk_at "nh")
  refine ⟨itsW x s, m, 1, cnN F c e, cnD F c e, a2, b2, c, rfl, ⟨by decide, cnD_pos ok c e, pb, sz_mono zm, sz_mono z0.1, sz_mono za, by decide, sz_mono z0.2, sz_mono zb⟩, ?_⟩
  show WG (gName 10) (neD (itsW x s) m 1 (cnN F c e) (cnD F c e) a2 b2 c) _ _
  rw [hN]
  have hv0 : 0 ≤ vOf x s c sd := by unfold vOf; split <;> omega
  have hv1 : vOf x s c sd ≤ c + 1 := by unfold vOf; split <;> omega
  have W := wr_of ok hm G x s sd
  have same := val_same ok G x s
  rw [hsd] at same
  have zv := cn_sz ok hm zm G hv0 hv1
  have pv := cnD_pos ok (vOf x s c sd) e
  have pe := pow_pos' hb1 (-e).toNat
  generalize hv : vOf x s c sd = v at *
  have nn : 0 ≤ cnN F v e := by
    unfold cnN
    exact Int.ediv_nonneg (Int.mul_nonneg hv0 (by have := pow_pos' hb1 e.toNat; omega)) (Int.le_of_lt (gd_pos (by omega)))
  have hdec : decide (v * F.b ^ e.toNat * 1 = m * (1 * F.b ^ (-e).toNat)) = decide (sd = none) := decide_eq_decide.mpr same
  refine wg_name ?_
  refine ws_flags (by show 11 < 13; decide) (nlO_at (by rfl)) ?_
  repeat (walk_at "nhe")
  refine eqD_rd1 (by omega) ?_
  rw [hdec]
  repeat (walk_at "nhe")
  refine ⟨by split <;> decide, by split <;> decide, ?_⟩
  refine WT.imp (Ψ' := fun b => b = decide (sd ≠ none ∧ c < F.b ^ (F.g.toNat - 1))) ?_ ?_
  · repeat (walk_at "nhe")
    refine eqD_rd1 (by omega) ?_
    rw [hdec]
    repeat (walk_at "nhe")
    refine brN (fun h => ?_) (fun h => ?_)
    · repeat (walk_at "nhe")
      refine c_L_is_below ?_
      repeat (walk_at "nhe")
      refine c_L_normal ?_
      repeat (walk_at "nhe")
      refine ⟨ok, ?_⟩
      have hg := ok.g120
      have hg2 := ok.g2
      have h1 := ok.l1
      have h2 := ok.lh
      have h3 := ok.h1
      have y1 : (F.b ^ (F.lo + F.g - 1).toNat).natAbs < 2 ^ (6 * 2000 + 1) := sz_powE hb1 ok.b36 (by omega)
      have y2 : (F.b ^ (-(F.lo + F.g - 1)).toNat).natAbs < 2 ^ (6 * 2000 + 1) := sz_powE hb1 ok.b36 (by omega)
      repeat (walk_at "nhe")
      refine ⟨⟨sz_mono zm, sz_mono y1, sz_mono (a := 2) (by decide), sz_mono y2⟩, ?_⟩
      repeat (walk_at "nhe")
      refine decide_eq_decide.mpr ?_
      rw [tiny_iff ok hm G]
      exact ⟨fun z => ⟨h, z⟩, fun z => z.2⟩
    · repeat (walk_at "nhe")
      exact (decide_eq_false fun z => z.1 h).symm
  rintro _ rfl
  obtain ⟨zs, hz, hzs⟩ : ∃ zs : List Str, ((if (if (!decide (sd = none)) = true then (1 : Int) else 0) = 1 then [D.str "inexact"] else []) ++ if decide (sd ≠ none ∧ c < F.b ^ (F.g.toNat - 1)) = true then [D.str "tiny"] else []) = zs.map D.str ∧
      ((zs = [] ∧ sd = none) ∨ (zs = [("inexact" : Str)] ∧ sd ≠ none ∧ ¬ c < F.b ^ (F.g.toNat - 1)) ∨ (zs = [("inexact" : Str), "tiny"] ∧ sd ≠ none ∧ c < F.b ^ (F.g.toNat - 1))) := by
    by_cases k1 : sd = none
    · refine ⟨[], ?_, .inl ⟨rfl, k1⟩⟩
      rw [decide_eq_true k1, decide_eq_false (fun z => z.1 k1)]
      rfl
    · by_cases k2 : c < F.b ^ (F.g.toNat - 1)
      · refine ⟨["inexact", "tiny"], ?_, .inr (.inr ⟨rfl, k1, k2⟩)⟩
        rw [decide_eq_false k1, decide_eq_true (⟨k1, k2⟩ : sd ≠ none ∧ c < F.b ^ (F.g.toNat - 1))]
        rfl
      · refine ⟨["inexact"], ?_, .inr (.inl ⟨rfl, k1, k2⟩)⟩
        rw [decide_eq_false k1, decide_eq_false (fun z => k2 z.2)]
        rfl
  rw [hz]
  have flags : D.tup (zs.map D.str) = if sd ≠ none ∧ c < F.b ^ (F.g.toNat - 1) then flT else if sd = none then fl0 else fl1 := by
    rcases hzs with ⟨rfl, k1⟩ | ⟨rfl, k1, k2⟩ | ⟨rfl, k1, k2⟩
    · rw [if_neg fun z => z.1 k1, if_pos k1]
      rfl
    · rw [if_neg fun z => k2 z.2, if_neg k1]
      rfl
    · rw [if_pos ⟨k1, k2⟩]
      rfl
  obtain ⟨u1, u2, u3, u4, u5⟩ := greatest_ok ok
  have y1 : 0 < 1 * F.b ^ (-F.hi).toNat := by omega
  have tN : (cnN F (F.b ^ F.g.toNat - 1) F.hi).natAbs < 2 ^ (2700 + 2700 + 1) := sz_div (gd_pos y1) (sz_mul u5 u1)
  have tD : (cnD F (F.b ^ F.g.toNat - 1) F.hi).natAbs < 2 ^ 2701 := sz_div (gd_pos y1) (by rw [Int.one_mul]; exact u2)
  have tp := cnD_pos ok (F.b ^ F.g.toNat - 1) F.hi
  have tG := top_grid ok
  have tn : 0 ≤ cnN F (F.b ^ F.g.toNat - 1) F.hi := by
    unfold cnN
    exact Int.ediv_nonneg (Int.mul_nonneg u4 (by have := pow_pos' hb1 F.hi.toNat; omega)) (Int.le_of_lt (gd_pos y1))
  have hov : cnN F (F.b ^ F.g.toNat - 1) F.hi * cnD F v e < cnN F v e * cnD F (F.b ^ F.g.toNat - 1) F.hi ↔ F.hi < (ceOf F x s c e sd).2 := by
    have r := rd_lt_iff (n := (F.b ^ F.g.toNat - 1) * F.b ^ F.hi.toNat) (d := 1 * F.b ^ (-F.hi).toNat) (m := v * F.b ^ e.toNat) (f := 1 * F.b ^ (-e).toNat) y1 (by omega)
    exact r.trans (W.over' ok)
  refine ws_seq ?_
  refine ws_if ?_
  refine wt_not ?_
  refine wt_B ?_
  refine c_L_is_below ?_
  refine wa_cons ?_
  refine c_L_greatest ?_
  repeat (walk_at "nhe")
  refine ⟨ok, ?_⟩
  repeat (walk_at "nhe")
  refine ⟨⟨sz_mono tN, sz_mono zv.1, sz_mono tD, sz_mono zv.2⟩, _, rfl, ?_⟩
  have hod : decide (cnN F (F.b ^ F.g.toNat - 1) F.hi * cnD F v e < cnN F v e * cnD F (F.b ^ F.g.toNat - 1) F.hi) = decide (F.hi < (ceOf F x s c e sd).2) := decide_eq_decide.mpr hov
  show ((!decide (cnN F (F.b ^ F.g.toNat - 1) F.hi * cnD F v e < cnN F v e * cnD F (F.b ^ F.g.toNat - 1) F.hi)) = true → _) ∧ ((!decide (cnN F (F.b ^ F.g.toNat - 1) F.hi * cnD F v e < cnN F v e * cnD F (F.b ^ F.g.toNat - 1) F.hi)) = false → _)
  rw [hod]
  refine brN (fun h => ?_) (fun h => ?_)
  · repeat (walk_at "nh")
    refine c_L_form_of ?_
    repeat (walk_at "nh")
    refine ⟨⟨ok, nn, pv, sz_mono zv.1, sz_mono zv.2⟩, ?_⟩
    rintro _ ⟨c2, e2, rfl, G2⟩
    obtain ⟨h1, h2⟩ := grid_eq ok pv G2 (W.grid ok)
    rw [h1, h2]
    repeat (walk_at "nh")
    refine law_fin ok (c := c) (e := e) (by rw [hmm]; exact G) ?_
    rw [hsn, hmm, hsd, fin_low h, ← flags]
  · refine ws_next ?_
    refine ws_seq ?_
    refine ws_asg ?_
    refine WE.imp (Ψ := fun d => d = .bl (infB x s)) ?_ ?_
    · repeat (walk_at "nh")
      refine ⟨["even", "away"], rfl, ?_⟩
      rw [any2]
      repeat (walk_at "nh")
      refine br (fun k0 => ?_) (fun k0 => ?_)
      · repeat (walk_at "nh")
        unfold infB
        rw [decide_eq_true k0]
        rfl
      repeat (walk_at "nh")
      refine br (fun k1 => ?_) (fun k1 => ?_)
      · repeat (walk_at "nh")
        refine br (fun k2 => ?_) (fun k2 => ?_)
        · repeat (walk_at "nh")
          unfold infB
          rw [if_pos k2, decide_eq_true k1, Bool.or_true]
        · repeat (walk_at "nh")
          refine br (fun k3 => ?_) (fun k3 => ?_)
          · exact absurd (k1.symm.trans k3) (by decide)
          · repeat (walk_at "nh")
            unfold infB
            rw [if_neg k2, decide_eq_false k0, decide_eq_false k3]
            rfl
      · repeat (walk_at "nh")
        refine bF ?_
        repeat (walk_at "nh")
        refine br (fun k3 => ?_) (fun k3 => ?_)
        · repeat (walk_at "nh")
          unfold infB
          rw [decide_eq_false k0]
          rcases hs with h0 | h0
          · rw [if_pos h0, decide_eq_false k1, decide_eq_false (show ¬ s = 1 by omega)]
            rfl
          · rw [if_neg (show ¬ s = 0 by omega), decide_eq_true k3, decide_eq_true h0]
            rfl
        · repeat (walk_at "nh")
          unfold infB
          rw [decide_eq_false k0]
          rcases hs with h0 | h0
          · rw [if_pos h0, decide_eq_false k1]
            rfl
          · rw [if_neg (show ¬ s = 0 by omega), decide_eq_false k3]
            rfl
    rintro _ rfl
    have hzz : zs = [] ∨ zs = [("inexact" : Str)] := by
      rcases hzs with ⟨q, _⟩ | ⟨q, _, _⟩ | ⟨_, _, q⟩
      · exact .inl q
      · exact .inr q
      · exact absurd h (tiny_low ok G x s sd q)
    have hz2 : zs ++ [("inexact" : Str), "over"] = [("inexact" : Str), "over"] ∨ zs ++ [("inexact" : Str), "over"] = [("inexact" : Str), "inexact", "over"] := by
      rcases hzz with rfl | rfl
      · exact .inl rfl
      · exact .inr rfl
    have hzl : (zs ++ [("inexact" : Str), "over"]).length ≤ 50 := by rcases hz2 with q | q <;> rw [q] <;> decide
    have hzl2 : (zs.map D.str).length + 2 ≤ 1000 := by rcases hzz with rfl | rfl <;> decide
    repeat (walk_at "nh")
    refine we_sortedSet ?_
    repeat (walk_at "nh")
    refine ⟨hzl2, zs ++ [("inexact" : Str), "over"], by rw [List.map_append]; rfl, hzl, fun ys hy hys => ?_⟩
    obtain rfl := flags_sorted hz2 hy hys
    repeat (walk_at "nh")
    refine bb (fun k => ?_) (fun k => ?_)
    · repeat (walk_at "nh")
      refine law_fin ok (c := c) (e := e) (by rw [hmm]; exact G) ?_
      rw [hsn, hmm, hsd, fin_over h, if_pos k]
      rfl
    · repeat (walk_at "nh")
      refine c_L_form_of ?_
      repeat (walk_at "nh")
      refine c_L_greatest ?_
      repeat (walk_at "nh")
      refine ⟨ok, ?_⟩
      repeat (walk_at "nh")
      refine ⟨⟨ok, tn, tp, sz_mono tN, sz_mono tD⟩, ?_⟩
      rintro _ ⟨c2, e2, rfl, G2⟩
      obtain ⟨h1, h2⟩ := grid_eq ok tp G2 tG
      rw [h1, h2]
      repeat (walk_at "nh")
      refine law_fin ok (c := c) (e := e) (by rw [hmm]; exact G) ?_
      rw [hsn, hmm, hsd, fin_over h, if_neg (by rw [k]; exact Bool.false_ne_true)]
      rfl
end
end Nh
set_option Elab.async false
set_option linter.all false
set_option maxRecDepth 100000
set_option maxHeartbeats 4000000
namespace Nh
open PySem PySem.Spec PyProof.Rows L2
local macro_rules | `(tactic| walk_at "nhe") => `(tactic| first
  | (with_reducible refine wg_name ?_)
  | (with_reducible refine wgs_cons ?_)
  | (with_reducible refine wgs_nil ?_)
  | (with_reducible refine wg_tup ?_; refine ⟨_, rfl, rfl, ?_⟩)
  | (with_reducible refine we_nm ?_; refine ⟨_, rfl, ?_⟩)
  | (with_reducible refine we_int ?_)
  | (with_reducible refine we_str ?_)
  | (with_reducible refine we_non ?_)
  | (with_reducible refine we_bl ?_)
  | (with_reducible refine wAddI ?_)
  | (with_reducible refine wSubI ?_)
  | (with_reducible refine wMulI ?_)
  | (with_reducible refine wDivI ?_)
  | (with_reducible refine wModI ?_)
  | (with_reducible refine wPowI ?_)
  | (with_reducible refine wLtI ?_)
  | (with_reducible refine wLeI ?_)
  | (with_reducible refine wGtI ?_)
  | (with_reducible refine wGeI ?_)
  | (with_reducible refine wNegI ?_)
  | (with_reducible refine we_eq ?_)
  | (with_reducible refine we_ne ?_)
  | (with_reducible refine we_eqD ?_)
  | (with_reducible refine we_neD ?_)
  | (with_reducible refine we_in ?_)
  | (with_reducible refine we_ixT ?_)
  | (with_reducible refine we_ixL ?_)
  | (with_reducible refine we_tup ?_)
  | (with_reducible refine we_lst ?_)
  | (with_reducible refine we_catT ?_)
  | (with_reducible refine we_catL ?_)
  | (with_reducible refine we_subB ?_)
  | (with_reducible refine we_rep01 ?_)
  | (with_reducible refine wIs0 ?_)
  | (with_reducible refine wNot0 ?_)
  | (with_reducible refine wa_cons ?_)
  | (with_reducible refine wa_nil ?_)
  | (with_reducible refine wt_test ?_)
  | (with_reducible refine wt_B ?_)
  | (with_reducible refine wt_and ?_)
  | (with_reducible refine wt_or ?_)
  | (with_reducible refine wt_not ?_)
  | (with_reducible refine we_ifE ?_)
  | (with_reducible refine we_and ?_)
  | (with_reducible refine we_or ?_)
  | (with_reducible refine wChain ?_)
  | (with_reducible refine wAbs ?_)
  | (with_reducible refine wMax2 ?_)
  | (with_reducible refine wMin2 ?_)
  | (with_reducible refine we_min3 ?_)
  | (with_reducible refine we_gcd ?_)
  | (with_reducible refine wInt1 ?_)
  | (with_reducible refine intOf_bl ?_)
  | (with_reducible refine intOf_int ?_)
  | (with_reducible refine wLenL ?_)
  | (with_reducible refine wTupL ?_)
  | (with_reducible refine we_slT ?_)
  | (refine ⟨_, rfl, ?_⟩)
  | (refine ⟨_, _, rfl, rfl, ?_⟩)
  | (refine ⟨_, _, rfl, ?_⟩)
  | (refine ⟨_, _, _, rfl, ?_⟩)
  | (refine ⟨_, _, _, _, rfl, ?_⟩)
  | (refine ⟨_, _, _, _, _, rfl, ?_⟩)
  | (refine ⟨_, _, _, _, _, _, rfl, ?_⟩)
  | (refine ⟨_, EqV.int _ _, ?_⟩)
  | (refine ⟨_, EqV.str _ _, ?_⟩)
  | (refine ⟨_, EqV.bl _ _, ?_⟩)
  | (refine ⟨Nat.le_of_ble_eq_true rfl, ?_⟩))
local macro_rules | `(tactic| walk_at "nh") => `(tactic| first
  | (with_reducible refine ws_seq ?_)
  | (with_reducible refine ws_ret ?_)
  | (with_reducible refine ws_asg ?_)
  | (with_reducible refine ws_if ?_)
  | (with_reducible refine ws_par ?_)
  | (with_reducible refine ws_par3 ?_)
  | (with_reducible refine ws_next ?_)
  | (with_reducible refine ws_drop ?_)
  | (walk_at "nhe"))
section
variable {P : Program} {w : World} {K : PySem.W.Frag} {mg : Str → Option Value} {base : Heap} {f : Addr} {fd : FuncData}
/-! ### there and back; the law's own worth -/
theorem gd_one (n : Int) : gd n 1 = 1 := by
  unfold gd
  have : Nat.gcd n.natAbs (1 : Int).natAbs = 1 := Nat.gcd_one_right _
  rw [this]
  rfl
theorem gd_neg (n d : Int) : gd (-n) d = gd n d := by
  unfold gd
  rw [Int.natAbs_neg]
theorem gd_mul {n d : Int} (h : 0 < d) : gd (n * d) d = d := by
  unfold gd
  have e : Nat.gcd (n * d).natAbs d.natAbs = d.natAbs := by
    rw [Int.natAbs_mul]
    exact Nat.gcd_mul_left_left ..
  rw [e]
  omega
theorem gd_dvd (n d : Int) : gd n d ∣ n := by
  unfold gd
  exact Int.ofNat_dvd_left.mpr (Nat.gcd_dvd_left _ _)
theorem io_back {F : Fm} (ok : FmOk F) (w : Str) {N c e : Int} {s : Int} (hs : s = if N < 0 then 1 else 0) (hx : c * dn F.b e 1 = up F.b e (iabs N)) : ioD F w (.num s c e) = .tup [.int N, fl0] := by
  have hb : 1 ≤ F.b := by have := ok.b2; omega
  have hc : (if s = 1 then -c else c) * F.b ^ e.toNat = N * F.b ^ (-e).toNat := by
    unfold dn up iabs at hx
    rw [Int.one_mul] at hx
    by_cases h : N < 0
    · rw [if_pos h] at hs hx
      rw [hs, if_pos rfl, Int.neg_mul, hx, Int.neg_mul]
      omega
    · rw [if_neg h] at hs hx
      rw [hs, if_neg (by decide), hx]
  show (if 0 ≤ e then _ else _) = _
  by_cases he : 0 ≤ e
  · rw [if_pos he, hc, show (-e).toNat = 0 by omega, Int.pow_zero, Int.mul_one, nearI_one]
  · rw [if_neg he]
    have p : 0 < F.b ^ (-e).toNat := by have := pow_pos' hb (-e).toNat; omega
    rw [show e.toNat = 0 by omega, Int.pow_zero, Int.mul_one] at hc
    rw [hc, gd_mul p, Int.mul_ediv_cancel _ (by omega), Int.ediv_self (by omega), nearI_one, if_pos rfl]
theorem lw_io {F : Fm} (ok : FmOk F) (w : Str) {s c e : Int} (hv : NumOk F s c e) : ∃ p q : Int, lwD F s c e = fr p q ∧ 0 < q ∧ p.natAbs < 2 ^ 5402 ∧ q.natAbs < 2 ^ 2702 ∧ ioD F w (.num s c e) = .tup [.int (nearI w p q), if q = 1 then fl0 else fl1] := by
  have hb : 1 ≤ F.b := by have := ok.b2; omega
  have zc : c.natAbs < 2 ^ 2700 := sz_le hv.c0 (Int.le_of_lt hv.cT) (bg_sz ok)
  have zb := pwp_sz ok hv.le hv.hi
  have pe := pow_pos' hb (-e).toNat
  have g0 := gd_pos (n := c * F.b ^ e.toNat) (d := 1 * F.b ^ (-e).toNat) (by omega)
  have z1 := sz_div g0 (sz_mul zc zb.1)
  have z2 := sz_div (n := 1 * F.b ^ (-e).toNat) (a := 2700) g0 (by rw [Int.one_mul]; exact zb.2)
  have dv : gd (c * F.b ^ e.toNat) (1 * F.b ^ (-e).toNat) ∣ c * F.b ^ e.toNat := gd_dvd _ _
  have pq : 0 < 1 * F.b ^ (-e).toNat / gd (c * F.b ^ e.toNat) (1 * F.b ^ (-e).toNat) := rd_pos (by omega)
  have h1 : lwD F s c e = fr ((if s = 1 then -(c * F.b ^ e.toNat) else c * F.b ^ e.toNat) / gd (c * F.b ^ e.toNat) (1 * F.b ^ (-e).toNat)) (1 * F.b ^ (-e).toNat / gd (c * F.b ^ e.toNat) (1 * F.b ^ (-e).toNat)) := by
    unfold lwD
    by_cases h : s = 1
    · rw [if_pos h, if_pos h, Int.neg_ediv_of_dvd dv]
    · rw [if_neg h, if_neg h]
      rfl
  refine ⟨_, _, h1, pq, ?_, sz_mono z2, ?_⟩
  · by_cases h : s = 1
    · rw [if_pos h, Int.neg_ediv_of_dvd dv, Int.natAbs_neg]
      exact sz_mono z1
    · rw [if_neg h]
      exact sz_mono z1
  · show (if 0 ≤ e then _ else _) = _
    by_cases he : 0 ≤ e
    · rw [if_pos he, show (-e).toNat = 0 by omega, Int.pow_zero, Int.mul_one, gd_one, Int.ediv_one, Int.ediv_one, if_pos rfl]
      by_cases h : s = 1
      · rw [if_pos h, if_pos h, Int.neg_mul]
      · rw [if_neg h, if_neg h]
    · rw [if_neg he, show e.toNat = 0 by omega, Int.pow_zero, Int.mul_one, Int.one_mul]
      by_cases h : s = 1
      · rw [if_pos h, gd_neg]
      · rw [if_neg h]
theorem near_sz {w : Str} {n d : Int} {a : Nat} (hd : 0 < d) (z : n.natAbs < 2 ^ a) : (nearI w n d).natAbs < 2 ^ (a + 2) := by
  have h1 := sz_div hd z
  have hc := ceil_of (n := n) hd
  have key : nearI w n d = n / d ∨ nearI w n d = n / d + 1 := by
    unfold nearI
    split
    · exact .inl rfl
    split
    · rw [hc]
      split
      · exact .inl (Int.add_zero _)
      · exact .inr rfl
    split
    · split
      · exact .inl rfl
      · rw [hc]
        split
        · exact .inl (Int.add_zero _)
        · exact .inr rfl
    · unfold nearerI
      split
      · split
        · exact .inr rfl
        · exact .inl (Int.add_zero _)
      split
      · have : n / d % 2 = 0 ∨ n / d % 2 = 1 := by omega
        rcases this with h | h
        · rw [h]
          exact .inl (Int.add_zero _)
        · rw [h]
          exact .inr rfl
      · split
        · exact .inr rfl
        · exact .inl (Int.add_zero _)
  have e : 2 ^ (a + 2) = 2 * 2 ^ (a + 1) := by rw [Nat.pow_succ, Nat.mul_comm]
  have p : 1 ≤ 2 ^ (a + 1) := Nat.one_le_two_pow
  rw [e]
  rcases key with h | h <;> rw [h] <;> omega
/-- what the law compares is fit to be shown -/
theorem good_tup2 {a b : D} (ha : a.good = true) (hb : b.good = true) : (D.tup [a, b]).good = true := by
  simp only [D.good, D.goodL, ha, hb, Bool.and_self]
theorem good_num {s c e : Int} (hs : s = 0 ∨ s = 1) (hc : c.natAbs < 2 ^ 6000) (he : e.natAbs < 2 ^ 6000) : (numD s c e).good = true := by
  have h1 : okStr "num" = true := by decide +kernel
  have h2 : decide (s.natAbs < 2 ^ 6000) = true := decide_eq_true (Nat.lt_of_le_of_lt (show s.natAbs ≤ 1 by omega) (Nat.one_lt_two_pow (by decide)))
  unfold numD
  simp only [D.good, D.goodL, h1, h2, decide_eq_true hc, decide_eq_true he, Bool.and_self]
theorem good_fl : fl0.good = true ∧ fl1.good = true ∧ flT.good = true ∧ flO.good = true := by
  refine ⟨by rfl, ?_, ?_, ?_⟩ <;> decide +kernel
theorem fin_good {F : Fm} (ok : FmOk F) {w : Str} {N : Int} {d : D} (h : (N = 0 ∧ d = .tup [numD 0 0 F.lo, fl0]) ∨ (N ≠ 0 ∧ ∃ c e : Int, Grid F (iabs N) 1 c e ∧ d = finD F w (if N < 0 then 1 else 0) c e (sideOf (up F.b e (iabs N)) (dn F.b e 1) c))) :
    ∃ (v : Vl) (fl : D), d = .tup [v.D, fl] ∧ VlOk F v ∧ fl.ok = true ∧ SeqAt.shaped fl.py = true ∧ (D.tup [v.D, fl]).good = true ∧ (D.tup [v.D, fl]).wt ≤ 40 ∧ (fl = fl0 ∨ PyData.eqv fl.py fl0.py = false) ∧ (fl = fl0 → ∀ w2, ioD F w2 v = .tup [.int N, fl0]) := by
  have hlo := ok.l1
  have hhi := ok.h1
  have hlh := ok.lh
  have e6 : ∀ e : Int, F.lo ≤ e → e ≤ F.hi → e.natAbs < 2 ^ 6000 := fun e a b => Nat.lt_of_lt_of_le (show e.natAbs < 2 ^ 12 by omega) (Nat.pow_le_pow_right (by decide) (by decide))
  have s01 : (if N < 0 then (1 : Int) else 0) = 0 ∨ (if N < 0 then (1 : Int) else 0) = 1 := by split <;> omega
  obtain ⟨t1, t2, t3⟩ := top_eq ok
  have zt := bg_sz ok
  obtain ⟨g0, g1, gT, gO⟩ := good_fl
  have inf_good : ∀ s : Int, s = 0 ∨ s = 1 → (infD s).good = true := fun s hs => by
    rcases hs with rfl | rfl <;> decide +kernel
  rcases h with ⟨rfl, rfl⟩ | ⟨hN, c, e, G, rfl⟩
  · refine ⟨.num 0 0 F.lo, fl0, rfl, ⟨.inl rfl, Int.le_refl _, by show (0 : Int) < F.b ^ F.g.toNat; omega, Int.le_refl _, hlh⟩, by decide +kernel, by decide +kernel, good_tup2 (good_num (.inl rfl) (by decide) (e6 _ (Int.le_refl _) hlh)) g0, Nat.le_of_ble_eq_true rfl, .inl rfl, fun _ w2 => ?_⟩
    exact io_back ok w2 rfl (by
      rw [Int.zero_mul]
      exact (Int.zero_mul _).symm)
  · have hm := iabs_nn N
    generalize hsd : sideOf (up F.b e (iabs N)) (dn F.b e 1) c = sd
    by_cases hov : F.hi < (ceOf F w (if N < 0 then 1 else 0) c e sd).2
    · rw [fin_over hov]
      by_cases hi : infB w (if N < 0 then 1 else 0) = true
      · rw [if_pos hi]
        exact ⟨.inf _, flO, rfl, trivial, by decide +kernel, by decide +kernel, good_tup2 (inf_good _ s01) gO, Nat.le_of_ble_eq_true rfl, .inr (by decide +kernel), fun z => by cases z⟩
      · rw [if_neg hi]
        exact ⟨.num _ _ _, flO, rfl, ⟨s01, by omega, by omega, hlh, Int.le_refl _⟩, by decide +kernel, by decide +kernel, good_tup2 (good_num s01 (sz_mono (sz_le (i := F.b ^ F.g.toNat - 1) (by omega) (by omega) zt)) (e6 _ hlh (Int.le_refl _))) gO, Nat.le_of_ble_eq_true rfl, .inr (by decide +kernel), fun z => by cases z⟩
    · rw [fin_low hov]
      have W := wr_of ok hm G w (if N < 0 then 1 else 0) sd
      have num : VlOk F (.num (if N < 0 then 1 else 0) (ceOf F w (if N < 0 then 1 else 0) c e sd).1 (ceOf F w (if N < 0 then 1 else 0) c e sd).2) := ⟨s01, W.c0, W.cT, W.le, by omega⟩
      have gn := good_num s01 (sz_mono (sz_le W.c0 (Int.le_of_lt W.cT) zt)) (e6 _ W.le (by omega))
      by_cases k1 : sd = none
      · have ef : (if sd ≠ none ∧ c < F.b ^ (F.g.toNat - 1) then flT else if sd = none then fl0 else fl1) = fl0 := by rw [if_neg fun z => z.1 k1, if_pos k1]
        rw [ef]
        refine ⟨.num _ _ _, fl0, rfl, num, by decide +kernel, by decide +kernel, good_tup2 gn g0, Nat.le_of_ble_eq_true rfl, .inl rfl, fun _ w2 => ?_⟩
        have ec : ceOf F w (if N < 0 then 1 else 0) c e sd = (c, e) := by
          unfold ceOf
          rw [k1, isR_none, if_neg Bool.false_ne_true]
        rw [ec]
        exact io_back ok w2 rfl (side_none.mp (hsd.trans k1))
      · by_cases k2 : c < F.b ^ (F.g.toNat - 1)
        · have ef : (if sd ≠ none ∧ c < F.b ^ (F.g.toNat - 1) then flT else if sd = none then fl0 else fl1) = flT := if_pos ⟨k1, k2⟩
          rw [ef]
          exact ⟨.num _ _ _, flT, rfl, num, by decide +kernel, by decide +kernel, good_tup2 gn gT, Nat.le_of_ble_eq_true rfl, .inr (by decide +kernel), fun z => by cases z⟩
        · have ef : (if sd ≠ none ∧ c < F.b ^ (F.g.toNat - 1) then flT else if sd = none then fl0 else fl1) = fl1 := by rw [if_neg fun z => k2 z.2, if_neg k1]
          rw [ef]
          exact ⟨.num _ _ _, fl1, rfl, num, by decide +kernel, by decide +kernel, good_tup2 gn g1, Nat.le_of_ble_eq_true rfl, .inr (by decide +kernel), fun z => by cases z⟩
end
end Nh
set_option Elab.async false
set_option linter.all false
set_option maxRecDepth 100000
set_option maxHeartbeats 4000000
namespace Nh
open PySem PySem.Spec PyProof.Rows L2
local macro_rules | `(tactic| walk_at "nhe") => `(tactic| first
  | (with_reducible refine wg_name ?_)
  | (with_reducible refine wgs_cons ?_)
  | (with_reducible refine wgs_nil ?_)
  | (with_reducible refine wg_tup ?_; refine ⟨_, rfl, rfl, ?_⟩)
  | (with_reducible refine we_nm ?_; refine ⟨_, rfl, ?_⟩)
  | (with_reducible refine we_int ?_)
  | (with_reducible refine we_str ?_)
  | (with_reducible refine we_non ?_)
  | (with_reducible refine we_bl ?_)
  | (with_reducible refine wAddI ?_)
  | (with_reducible refine wSubI ?_)
  | (with_reducible refine wMulI ?_)
  | (with_reducible refine wDivI ?_)
  | (with_reducible refine wModI ?_)
  | (with_reducible refine wPowI ?_)
  | (with_reducible refine wLtI ?_)
  | (with_reducible refine wLeI ?_)
  | (with_reducible refine wGtI ?_)
  | (with_reducible refine wGeI ?_)
  | (with_reducible refine wNegI ?_)
  | (with_reducible refine we_eq ?_)
  | (with_reducible refine we_ne ?_)
  | (with_reducible refine we_eqD ?_)
  | (with_reducible refine we_neD ?_)
  | (with_reducible refine we_in ?_)
  | (with_reducible refine we_ixT ?_)
  | (with_reducible refine we_ixL ?_)
  | (with_reducible refine we_tup ?_)
  | (with_reducible refine we_lst ?_)
  | (with_reducible refine we_catT ?_)
  | (with_reducible refine we_catL ?_)
  | (with_reducible refine we_subB ?_)
  | (with_reducible refine we_rep01 ?_)
  | (with_reducible refine wIs0 ?_)
  | (with_reducible refine wNot0 ?_)
  | (with_reducible refine wa_cons ?_)
  | (with_reducible refine wa_nil ?_)
  | (with_reducible refine wt_test ?_)
  | (with_reducible refine wt_B ?_)
  | (with_reducible refine wt_and ?_)
  | (with_reducible refine wt_or ?_)
  | (with_reducible refine wt_not ?_)
  | (with_reducible refine we_ifE ?_)
  | (with_reducible refine we_and ?_)
  | (with_reducible refine we_or ?_)
  | (with_reducible refine wChain ?_)
  | (with_reducible refine wAbs ?_)
  | (with_reducible refine wMax2 ?_)
  | (with_reducible refine wMin2 ?_)
  | (with_reducible refine we_min3 ?_)
  | (with_reducible refine we_gcd ?_)
  | (with_reducible refine wInt1 ?_)
  | (with_reducible refine intOf_bl ?_)
  | (with_reducible refine intOf_int ?_)
  | (with_reducible refine wLenL ?_)
  | (with_reducible refine wTupL ?_)
  | (with_reducible refine we_slT ?_)
  | (refine ⟨_, rfl, ?_⟩)
  | (refine ⟨_, _, rfl, rfl, ?_⟩)
  | (refine ⟨_, _, rfl, ?_⟩)
  | (refine ⟨_, _, _, rfl, ?_⟩)
  | (refine ⟨_, _, _, _, rfl, ?_⟩)
  | (refine ⟨_, _, _, _, _, rfl, ?_⟩)
  | (refine ⟨_, _, _, _, _, _, rfl, ?_⟩)
  | (refine ⟨_, EqV.int _ _, ?_⟩)
  | (refine ⟨_, EqV.str _ _, ?_⟩)
  | (refine ⟨_, EqV.bl _ _, ?_⟩)
  | (refine ⟨Nat.le_of_ble_eq_true rfl, ?_⟩))
local macro_rules | `(tactic| walk_at "nh") => `(tactic| first
  | (with_reducible refine ws_seq ?_)
  | (with_reducible refine ws_ret ?_)
  | (with_reducible refine ws_asg ?_)
  | (with_reducible refine ws_if ?_)
  | (with_reducible refine ws_par ?_)
  | (with_reducible refine ws_par3 ?_)
  | (with_reducible refine ws_next ?_)
  | (with_reducible refine ws_drop ?_)
  | (walk_at "nhe"))
local macro_rules | `(tactic| walk_at "nn") => `(tactic| first
  | (with_reducible refine ns_seq ?_)
  | (with_reducible refine ns_ret ?_)
  | (with_reducible refine ns_asg ?_)
  | (with_reducible refine ns_if ?_)
  | (with_reducible refine ns_par ?_)
  | (with_reducible refine ns_next ?_)
  | (with_reducible refine nl_var ?_)
  | (with_reducible refine nl_c ?_)
  | (with_reducible refine na_cons ?_)
  | (with_reducible refine na_nil ?_)
  | (with_reducible refine n_tup ?_)
  | (with_reducible refine n_lst ?_)
  | (with_reducible refine nAdd ?_)
  | (with_reducible refine nSub ?_)
  | (with_reducible refine nMul ?_)
  | (with_reducible refine nLt ?_)
  | (with_reducible refine nGt ?_)
  | (with_reducible refine nEq ?_)
  | (with_reducible refine nIxL ?_)
  | (with_reducible refine nCat ?_)
  | (with_reducible refine n_ifE ?_)
  | (with_reducible refine nt_test ?_)
  | (with_reducible refine nt_B ?_)
  | (with_reducible refine nt_not ?_)
  | (with_reducible refine nt_and ?_)
  | (with_reducible refine nl_ixT ?_)
  | (with_reducible refine nl_div ?_)
  | (with_reducible refine nl_mod ?_)
  | (with_reducible refine nl_pow ?_)
  | (with_reducible refine nl_neg ?_)
  | (with_reducible refine nl_cb ?_)
  | (with_reducible refine nl_eqD ?_)
  | (with_reducible refine nl_not0 ?_)
  | (with_reducible refine nl_catT ?_)
  | (with_reducible refine nl_rep01 ?_)
  | (with_reducible refine nl_ne ?_)
  | (with_reducible refine nl_chain ?_)
  | (walk_at "nh"))
section
variable {P : Program} {w : World} {K : PySem.W.Frag} {mg : Str → Option Value} {base : Heap} {f : Addr} {fd : FuncData}
theorem ns_run {n : Nat} {ρ : Env} {Ω : EndsN} {ts : TS} {β : Bag} {σ : L2.St} {H : Hp} {E : Ends} (h : NS n ts ρ Ω) (b : BagOk n β H) (r : RepO β H σ ρ) (q : EOkN β H Ω E) : ts E σ H := h β σ H E b r q
theorem nl_ways {n : Nat} {ρ : Env} {Φ : Nat → D → Prop} {E : XK} (h : Φ n (.lst [.str "even", .str "away", .str "up", .str "down", .str "zero"])) : NE n (tCall sp_L_ways [] E tNil) ρ Φ :=
  n_lift (c_L_ways (wa_nil ⟨(), rfl, trivial, h⟩))
theorem way_at {i : Nat} {d : D} (h : ([.str "even", .str "away", .str "up", .str "down", .str "zero"] : List D)[i]? = some d) : ∃ w, d = .str w ∧ WayOk w := by
  rcases i with _ | _ | _ | _ | _ | i
  · cases h; exact ⟨_, rfl, .inl rfl⟩
  · cases h; exact ⟨_, rfl, .inr (.inl rfl)⟩
  · cases h; exact ⟨_, rfl, .inr (.inr (.inl rfl))⟩
  · cases h; exact ⟨_, rfl, .inr (.inr (.inr (.inl rfl)))⟩
  · cases h; exact ⟨_, rfl, .inr (.inr (.inr (.inr rfl)))⟩
  · cases h
theorem way_mem {d : D} (h : d ∈ ([.str "even", .str "away", .str "up", .str "down", .str "zero"] : List D)) : ∃ w, d = .str w ∧ WayOk w := by
  obtain ⟨i, hi⟩ := List.getElem?_of_mem h
  exact way_at hi
theorem mem_at {α : Type} {l : List α} {i : Nat} {x : α} (h : l[i]? = some x) : x ∈ l := List.mem_of_getElem? h
theorem inv_good : (D.tup [.non, .tup [.str "invalid"]]).good = true := by decide +kernel
theorem vl_nl (v : Vl) : v.D.nl = true := by
  cases v <;> rfl
def sp_law (K : PySem.W.Frag) : Sp := fun vs H Q _ => ∃ (a : Addr) (ns : List Int), vs = [.ref a] ∧ SqL K H a (ns.map V.int) ∧ ∀ H', Q (.bl true) H'
theorem ok_law (d : Df K mg "law" (topS 57) P_lawG f fd) (c1 : Ok P w K mg base 1 "_law_bag" P_L_bag (sp_L_bag K)) (c2 : Ok P w K mg base 4 "_law_any_format" P_L_any_format sp_L_any_format) (c3 : Ok P w K mg base 3 "_law_formats" P_L_formats sp_L_formats)
    (c4 : Ok P w K mg base 3 "_law_drawn_integer" P_L_drawn_integer sp_L_drawn_integer) (c5 : Ok P w K mg base 1 "_law_ways" P_L_ways sp_L_ways) (c6 : Ok P w K mg base 6 "from_integer" P_from_integer sp_from_integer) (c7 : OkG P w K mg base 1 "_law_alike" P_L_alike sp_L_alike)
    (c8 : Ok P w K mg base 5 "_law_rounded" P_L_rounded sp_L_rounded) (c9 : Ok P w K mg base 3 "integer_of" P_integer_of sp_integer_of) (c10 : Ok P w K mg base 2 "_law_some" P_L_some sp_L_some) (c11 : Ok P w K mg base 6 "_law_near_half" P_L_near_half sp_L_near_half)
    (c12 : Ok P w K mg base 4 "_law_value" P_L_value sp_L_value) (c13 : Ok P w K mg base 4 "_law_worth" P_L_worth sp_L_worth) (c14 : Ok P w K mg base 3 "_law_due_integer" P_L_due_integer sp_L_due_integer) (m1 : mg "range" = none) (m2 : mg "int" = none) :
    FnG P w K mg base 7 f fd P_lawG (sp_law K) := by
  refine mk_fnG d sc_lawG (fun vs H Q E h => ?_) fun cdv A outer s H vs Q E hg hr h => ?_
  · obtain ⟨a, ns, rfl, _⟩ := h
    rfl
  obtain ⟨a, ns, rfl, hS, q⟩ := h
  refine ⟨_, dv_lawG hr (c_L_bag := c1) (c_L_any_format := c2) (c_L_formats := c3) (c_L_drawn_integer := c4) (c_L_ways := c5) (c_from_integer := c6) (c_L_alike := c7) (c_L_rounded := c8) (c_integer_of := c9) (c_L_some := c10) (c_L_near_half := c11) (c_L_value := c12) (c_L_worth := c13) (c_L_due_integer := c14) (m_range := m1) (m_int := m2) (hg := hg), ?_⟩
  unfold t_lawG
  refine ⟨_, rfl, a, ns, rfl, hS, fun β H' hb => ?_⟩
  dsimp only [gName]
  refine ns_run (n := 0) (ρ := [none, some .bag, none, none, none, none, none, none, none, none]) (Ω := { nx := fun _ _ => False, rt := fun _ d => d = .bl true }) ?_ hb ?_ ?_
  rotate_left
  · exact .cons (fun d e => nomatch e) (.cons (fun d e => by cases e; exact ⟨_, rfl, .bag⟩) (RepO.blank 8))
  · exact ⟨fun m σ ρ H' e b r k => k.elim, fun m v d H' e b r k => by
      subst k
      cases r
      exact q H', fun m σ ρ H' e b r k => k.elim, fun m σ ρ H' e b r k => k.elim⟩
  refine ns_seq ?_
  refine ns_forT (fun i n ρ => n ≤ 4 + i * 70 ∧ ∃ x0 x2 x3 x4 x5 x6 x7 x8 x9 : Option D, ρ = [x0, some .bag, x2, x3, x4, x5, x6, x7, x8, x9]) ?_
  repeat (walk_at "nn")
  refine c_L_formats ?_
  repeat (walk_at "nn")
  refine ⟨(), rfl, ⟨trivial, by omega⟩, ?_⟩
  rintro _ ⟨F1, ok1, rfl⟩
  repeat (walk_at "nn")
  refine c_L_any_format ?_
  repeat (walk_at "nn")
  refine ⟨(), rfl, ⟨trivial, by omega⟩, ?_⟩
  rintro _ ⟨F2, ok2, rfl⟩
  repeat (walk_at "nn")
  refine ⟨⟨by omega, _, _, _, _, _, _, _, _, _, rfl⟩, ?_, ?_⟩
  rotate_left
  · intro n' ρ' _
    repeat (walk_at "nn")
    exact rfl
  intro i dF n1 ρ1 hget ⟨hn1, x0, x2, x3, x4, x5, x6, x7, x8, x9, hρ⟩
  subst hρ
  obtain ⟨F, ok, rfl⟩ : ∃ F : Fm, FmOk F ∧ dF = F.D := by
    rcases i with _ | _ | i
    · cases hget; exact ⟨F1, ok1, rfl⟩
    · cases hget; exact ⟨F2, ok2, rfl⟩
    · cases hget
  have hi : i ≤ 1 := by
    rcases i with _ | _ | i
    · omega
    · omega
    · cases hget
  clear hget
  repeat (walk_at "nn")
  refine ns_forL (fun i n ρ => n ≤ n1 + 12 + i * 5 ∧ ∃ x0 x3 x4 x5 x6 x7 x8 x9 : Option D, ρ = [x0, some .bag, some F.D, x3, x4, x5, x6, x7, x8, x9]) ?_
  refine nCat ?_
  refine n_lcR 4 (fun d => ∃ n : Int, d = .int n ∧ n.natAbs < 2 ^ 4000) (fun d ⟨n, e, _⟩ => by rw [e]; rfl) ?_
  repeat (walk_at "nn")
  refine ⟨by decide, by decide, fun i3 m hm => ?_, fun m ds hm hl hp => ?_⟩
  · refine c_L_drawn_integer ?_
    repeat (walk_at "nn")
    refine ⟨⟨ok, by omega⟩, ?_⟩
    rintro d_ hd_
    exact ⟨Nat.le_refl _, hd_⟩
  have hl3 : ds.length = 3 := by omega
  repeat (walk_at "nn")
  refine ⟨by rw [hl3]; decide, ?_⟩
  have hp' : ∀ d ∈ ds ++ [D.int 0], ∃ n : Int, d = .int n ∧ n.natAbs < 2 ^ 4000 := by
    intro d hd
    rcases List.mem_append.mp hd with h | h
    · exact hp d h
    · rw [List.mem_singleton.mp h]
      exact ⟨0, rfl, Nat.lt_of_lt_of_le Nat.zero_lt_one Nat.one_le_two_pow⟩
  have hl4 : (ds ++ [D.int 0]).length = 4 := by rw [List.length_append, hl3]; rfl
  generalize ds ++ [D.int 0] = ns at hp' hl4
  refine ⟨ns, rfl, ⟨by omega, _, _, _, _, _, _, _, _, rfl⟩, ?_, ?_⟩
  · intro i2 dN n2 ρ2 hget2 ⟨hn2, y0, y3, y4, y5, y6, y7, y8, y9, hρ⟩
    subst hρ
    obtain ⟨N, rfl, zN⟩ := hp' _ (mem_at hget2)
    have hi2 : i2 < 4 := by
      rw [← hl4]
      exact (List.getElem?_eq_some_iff.mp hget2).1
    clear hget2
    refine wg_name ?_
    refine ns_forL (fun i n ρ => n ≤ n2 + i ∧ ∃ x0 x4 x5 x6 x7 x8 x9 : Option D, ρ = [x0, some .bag, some F.D, some (.int N), x4, x5, x6, x7, x8, x9]) ?_
    refine nl_ways ?_
    refine ⟨_, rfl, ⟨by omega, _, _, _, _, _, _, _, rfl⟩, ?_, ?_⟩
    rotate_left
    · rintro n' ρ' ⟨hn', z0, z4, z5, z6, z7, z8, z9, rfl⟩
      have hn5 : n' ≤ n2 + 5 := hn'
      exact ⟨by omega, _, _, _, _, _, _, _, _, rfl⟩
    intro i3 dw n3 ρ3 hget3 ⟨hn3, z0, z4, z5, z6, z7, z8, z9, hρ⟩
    subst hρ
    obtain ⟨x, rfl, hw⟩ := way_at hget3
    have hi3 : i3 < 5 := (List.getElem?_eq_some_iff.mp hget3).1
    clear hget3
    refine wg_name ?_
    refine ns_seq ?_
    refine ns_asg ?_
    refine n_lift (c_from_integer ?_)
    repeat (walk_at "nh")
    refine ⟨⟨ok, sz_mono zN⟩, ?_⟩
    intro told hT
    obtain ⟨v, fl, rfl, hv, f1, f2, g1, g2, f3, f4⟩ := fin_good ok hT
    refine wg_name ?_
    refine ns_seq ?_
    refine ns_if ?_
    refine nt_not ?_
    refine nt_B ?_
    refine n_lift (c_L_alike ?_)
    repeat (walk_at "nh")
    refine c_L_rounded ?_
    repeat (walk_at "nh")
    refine ⟨⟨ok, zN, hw⟩, ?_⟩
    intro d2 hT2
    have e2 : d2 = .tup [v.D, fl] := by
      rcases hT with ⟨h0, h1⟩ | ⟨h0, c, e, G, h1⟩
      · rcases hT2 with ⟨_, h2⟩ | ⟨h2, _⟩
        · rw [h1, h2]
        · exact absurd h0 h2
      · rcases hT2 with ⟨h2, _⟩ | ⟨_, c', e', G', h2⟩
        · exact absurd h2 h0
        · obtain ⟨rfl, rfl⟩ := grid_eq ok (by decide) G G'
          rw [h1, h2]
    subst e2
    repeat (walk_at "nh")
    refine ⟨⟨g1, g2⟩, _, rfl, ?_⟩
    refine bF ?_
    refine ns_next ?_
    refine ns_if ?_
    refine nt_and ?_
    refine nt_test ?_
    refine nl_eqD ?_
    repeat (walk_at "nh")
    refine ⟨f1, by rfl, f2, by decide +kernel, ?_⟩
    rcases f3 with rfl | hne
    · have e3 : PyData.eqv (fl0).py (D.tup []).py = true := by decide +kernel
      rw [e3]
      refine ⟨_, rfl, ?_⟩
      refine bT ?_
      refine nt_not ?_
      refine nt_B ?_
      refine nc_L_alike ?_
      refine na_cons ?_
      refine nc_integer_of ?_
      repeat (walk_at "nn")
      refine c_L_some ?_
      repeat (walk_at "nn")
      refine nl_ways ?_
      repeat (walk_at "nn")
      refine ⟨⟨⟨by decide, by decide⟩, by omega⟩, ?_⟩
      intro dw2 hw2
      obtain ⟨x2, rfl, _⟩ := way_mem hw2
      repeat (walk_at "nn")
      refine ⟨⟨ok, hv⟩, ?_⟩
      rw [f4 rfl x2]
      repeat (walk_at "nn")
      have gN : (D.tup [.int N, fl0]).good = true := good_tup2 (by simp only [D.good]; exact decide_eq_true (sz_mono zN)) (by rfl)
      refine ⟨⟨gN, Nat.le_of_ble_eq_true rfl⟩, _, rfl, ?_⟩
      refine bF ?_
      refine ns_next ?_
      exact ⟨by omega, _, _, _, _, _, _, _, rfl⟩
    · have e3 : PyData.eqv fl.py (D.tup []).py = false := hne
      rw [e3]
      refine ⟨_, rfl, ?_⟩
      refine bF ?_
      refine bF ?_
      refine ns_next ?_
      exact ⟨by omega, _, _, _, _, _, _, _, rfl⟩
  · rintro n' ρ' ⟨hn', z0, z3, z4, z5, z6, z7, z8, z9, rfl⟩
    rw [hl4] at hn'
    clear hp' hl hl3 hl4 hp
    refine ns_forL (fun i n ρ => n ≤ n' + 34 ∧ ∃ x0 x3 x4 x5 x6 x7 x8 x9 : Option D, ρ = [x0, some .bag, some F.D, x3, x4, x5, x6, x7, x8, x9]) ?_
    refine nCat ?_
    refine n_lcR 9 (fun d => ∃ v : Vl, d = v.D ∧ VlOk F v) (fun d ⟨v, e, _⟩ => by rw [e]; exact vl_nl v) ?_
    repeat (walk_at "nn")
    refine ⟨by decide, by decide, fun i3 m hm => ?_, fun m ds hm hl hp => ?_⟩
    · refine c_L_near_half ?_
      repeat (walk_at "nn")
      refine ⟨⟨ok, by omega⟩, ?_⟩
      rintro d_ hd_
      exact ⟨Nat.le_refl _, hd_⟩
    have hl3 : ds.length = 3 := by omega
    repeat (walk_at "nn")
    refine c_L_value ?_
    repeat (walk_at "nn")
    refine ⟨⟨ok, by omega⟩, ?_⟩
    rintro _ ⟨v0, rfl, hv0⟩
    repeat (walk_at "nn")
    refine ⟨by rw [hl3]; exact Nat.le_of_ble_eq_true rfl, ?_⟩
    have hp' : ∀ d ∈ ds ++ [v0.D, D.tup [D.str "inf", D.int 1], D.tup [D.str "nan"]], ∃ v : Vl, d = v.D ∧ VlOk F v := by
      intro d hd
      rcases List.mem_append.mp hd with h | h
      · exact hp d h
      · rw [List.mem_cons, List.mem_cons, List.mem_singleton] at h
        rcases h with h | h | h
        · exact ⟨v0, h, hv0⟩
        · exact ⟨.inf 1, h, trivial⟩
        · exact ⟨.nan, h, trivial⟩
    generalize ds ++ [v0.D, D.tup [D.str "inf", D.int 1], D.tup [D.str "nan"]] = vs at hp'
    refine ⟨vs, rfl, ⟨by omega, _, _, _, _, _, _, _, _, rfl⟩, ?_, ?_⟩
    rotate_left
    · rintro n2 ρ2 ⟨hn2, y0, y3, y4, y5, y6, y7, y8, y9, rfl⟩
      exact ⟨by omega, _, _, _, _, _, _, _, _, _, rfl⟩
    intro i2 dV n2 ρ2 hget2 ⟨hn2, y0, y3, y4, y5, y6, y7, y8, y9, hρ⟩
    subst hρ
    obtain ⟨v, rfl, hv⟩ := hp' _ (mem_at hget2)
    clear hget2
    refine wg_name ?_
    refine ns_forL (fun i n ρ => n ≤ n' + 34 ∧ ∃ x0 x3 x4 x5 x7 x8 x9 : Option D, ρ = [x0, some .bag, some F.D, x3, x4, x5, some v.D, x7, x8, x9]) ?_
    refine nl_ways ?_
    refine ⟨_, rfl, ⟨hn2, _, _, _, _, _, _, _, rfl⟩, ?_, ?_⟩
    rotate_left
    · rintro n3 ρ3 ⟨hn3, z0, z3, z4, z5, z7, z8, z9, rfl⟩
      exact ⟨hn3, _, _, _, _, _, _, _, _, rfl⟩
    intro i3 dw n3 ρ3 hget3 ⟨hn3, u0, u3, u4, u5, u7, u8, u9, hρ⟩
    subst hρ
    obtain ⟨x, rfl, hw⟩ := way_at hget3
    clear hget3
    cases v with
    | num s c e =>
      obtain ⟨p, q, e1, hq, zp, zq, e2⟩ := lw_io ok x hv
      repeat (walk_at "nn")
      refine brT rfl ?_
      repeat (walk_at "nn")
      refine n_lift (c_L_worth ?_)
      repeat (walk_at "nh")
      refine ⟨⟨ok, hv⟩, ?_⟩
      rw [e1]
      repeat (walk_at "nn")
      refine n_lift (c_L_due_integer ?_)
      repeat (walk_at "nh")
      refine ⟨⟨hq, sz_mono zp, sz_mono zq, hw⟩, ?_⟩
      repeat (walk_at "nn")
      refine ⟨fun z => (nomatch z), ?_⟩
      repeat (walk_at "nh")
      refine ⟨by split <;> decide, by split <;> decide, ?_⟩
      have he : D.tup (if (if (!decide (q = 1)) = true then (1 : Int) else 0) = 1 then [D.str "inexact"] else []) = if q = 1 then fl0 else fl1 := by
        by_cases k : q = 1
        · rw [decide_eq_true k, if_pos k]
          rfl
        · rw [decide_eq_false k, if_neg k]
          rfl
      rw [he]
      have gd1 : (if q = 1 then fl0 else fl1).good = true := by
        split
        · exact good_fl.1
        · exact good_fl.2.1
      have gw : (if q = 1 then fl0 else fl1).wt ≤ 2 := by split <;> decide
      have gi : (D.int (nearI x p q)).good = true := by
        simp only [D.good]
        exact decide_eq_true (sz_mono (near_sz hq zp))
      repeat (walk_at "nn")
      refine n_lift (c_L_alike ?_)
      repeat (walk_at "nh")
      refine c_integer_of ?_
      repeat (walk_at "nh")
      refine ⟨⟨ok, hv⟩, ?_⟩
      rw [e2]
      repeat (walk_at "nh")
      refine ⟨⟨good_tup2 gi gd1, by simp only [D.wt, D.wtL]; omega⟩, _, rfl, ?_⟩
      refine bF ?_
      refine ns_next ?_
      exact ⟨hn3, _, _, _, _, _, _, _, rfl⟩
    | inf s =>
      repeat (walk_at "nn")
      refine brF (by decide) ?_
      repeat (walk_at "nn")
      refine n_lift (c_L_alike ?_)
      repeat (walk_at "nh")
      refine c_integer_of ?_
      repeat (walk_at "nh")
      refine ⟨⟨ok, hv⟩, ?_⟩
      repeat (walk_at "nh")
      refine ⟨⟨inv_good, Nat.le_of_ble_eq_true rfl⟩, _, rfl, ?_⟩
      refine bF ?_
      refine ns_next ?_
      exact ⟨hn3, _, _, _, _, _, _, _, rfl⟩
    | nan =>
      repeat (walk_at "nn")
      refine brF (by decide) ?_
      repeat (walk_at "nn")
      refine n_lift (c_L_alike ?_)
      repeat (walk_at "nh")
      refine c_integer_of ?_
      repeat (walk_at "nh")
      refine ⟨⟨ok, hv⟩, ?_⟩
      repeat (walk_at "nh")
      refine ⟨⟨inv_good, Nat.le_of_ble_eq_true rfl⟩, _, rfl, ?_⟩
      refine bF ?_
      refine ns_next ?_
      exact ⟨hn3, _, _, _, _, _, _, _, rfl⟩
end
end Nh
set_option Elab.async false
set_option linter.all false
set_option maxRecDepth 100000
set_option maxHeartbeats 2000000
/-! the law called, nothing being shown -/
namespace Nh
open PySem PySem.Spec PyProof.Rows L2
theorem call_lawG {P : Program} {w : World} {K : PySem.W.Frag} {mg mb : Str → Option Value} {k : Nat} {fa l : Addr} {fd : FuncData} {x : Str} {sp : Sp} {s : Shared} {its : List Value} {ns : List Int}
    (kin : K.In s.heap) (isG : s.heap.Ns mainGlobals mg) (isB : s.heap.Ns builtinsNs mb) (boot : ∀ y : Str, y ≠ "__name__" → mb y = bootBuiltins y) (noL : s.heap.NoLimit) (noG : s.gens = #[])
    (atl : s.heap.get? l = some { cls := .type "list", data := .seq its.toArray }) (nums : IntsAre its ns) (short : ns.length ≤ sizeLine) (room : Room k callerA) (bare : callerA.guards = some [])
    (F : ∀ base : Heap, K.In base → base.Ns mainGlobals mg → FnG P w K mg base k fa fd [x] sp)
    (binds : Binds K fd [x] [])
    (promise : ∀ H : Hp, SqL K H l (ns.map V.int) → sp [.ref l] H (fun v _ => v = .bl true) E0)
    (quiet : ∀ H e s', ¬ CX0 [] H s E0 e s') :
    codeAny (model P w) callerA (.call (.ref fa) ⟨[.ref l], []⟩) (fun r s' => r = .ok (.ret (.bool true)) ∧ OldK s.heap s'.heap ∧ s'.os = s.os ∧ AllBare s'.gens) s := by
  have rel := vals_ints nums
  have len := nums.length
  have main : ∀ H : Hp, (∀ b, H b = none ∨ ∃ o u, H b = some (.frz o u)) → SqL K H l (ns.map V.int) → HOk P w H s.heap → (∀ b, H b ≠ none → b = l) → (H l ≠ none → K.lookup l = none) →
      codeAny (model P w) callerA (.call (.ref fa) ⟨[.ref l], []⟩) (fun r s' => r = .ok (.ret (.bool true)) ∧ OldK s.heap s'.heap ∧ s'.os = s.os ∧ AllBare s'.gens) s := by
    intro H fro sq hok only out
    have keep : ∀ {b : Addr} {o : Obj}, s.heap.get? b = some o → H b = none → (hidT s.heap H).get? b = some o := fun e n => hidT_get e n
    have notL : ∀ {b : Addr} {o : Obj} {es : Array DictEntry} {ep : Nat}, s.heap.get? b = some o → o.data = .dict es ep → H b = none := by
      intro b o es ep e d
      by_cases z : H b = none
      · exact z
      · have eb := only b z
        rw [eb, atl] at e
        cases e
        have d' : Data.seq its.toArray _ = Data.dict es ep := d
        cases d'
    have names : ∀ {b : Addr} {m : Str → Option Value}, s.heap.Ns b m → (hidT s.heap H).Ns b m := by
      intro b m h
      obtain ⟨o, es, ep, e, d, r⟩ := h
      exact ⟨o, es, ep, keep e (notL e d), d, r⟩
    have kin' : K.In (hidT s.heap H) := by
      intro b o e
      refine keep (kin b o e) ?_
      by_cases z : H b = none
      · exact z
      · exfalso
        have eb := only b z
        rw [eb] at e z
        rw [out z] at e
        cases e
    have modul : Mod K mg (hidT s.heap H) := by
      obtain ⟨mc, n1, n2⟩ := noL
      exact ⟨kin', names isG, ⟨mb, names isB, boot⟩, mc, names n1, n2⟩
    have env : Env0 P w K mg (hidT s.heap H) callerA [] s H :=
      ⟨rfl, modul, fun b o e => of_hidT e, Nat.le_of_eq (hidT_size _ _), trivial, (fun b hb => by cases hb), hok, .of_eq noG⟩
    refine codeAny_mono ((F _ kin' (names isG)).go callerA [] s H ⟨[.ref l], []⟩ [.ref l] [.ref l] _ _ bare room env (binds s [.ref l] kin rfl) (.cons rfl .nil) (promise H sq)) ?_
    intro r s' h
    cases r with
    | error e => exact (quiet H e s' h).elim
    | ok fl =>
      cases fl with
      | ret u =>
        obtain ⟨v, H', eo, eb, un, hok', ru, ev⟩ := h
        have ev' : v = .bl true := ev
        subst ev'
        obtain rfl : u = Value.bool true := ru
        refine ⟨rfl, OldK.of_keep ?_, eo, eb⟩
        intro b o e
        by_cases z : H b = none
        · exact un.keep b o e z (fun y => by cases y) (by simp)
        · rcases fro b with y | ⟨ob, u, y⟩
          · exact absurd y z
          · have y2 := un.frzs b ob _ y
            have e1 := (hok b _ y).1
            have e2 := (hok' b _ y2).1
            rw [e] at e1
            cases e1
            exact e2
      | next => exact h.elim
      | brk => exact h.elim
      | cont => exact h.elim
  cases hk : K.lookup l with
  | some o =>
    have e := kin l o hk
    rw [atl] at e
    cases e
    refine main (fun _ => none) (fun _ => .inl rfl) (.inr ⟨_, its.toArray, _, hk, rfl, rfl, rfl, by rw [List.size_toArray, len]; exact short, by simpa using rel⟩) ?_ (fun b z => absurd rfl z) (fun z => absurd rfl z)
    intro b u z
    have z' : (none : Option HO) = some u := z
    cases z'
  | none =>
    refine main (fun b => if b = l then some (.frz { cls := .type "list", data := .seq its.toArray } (.lst (ns.map V.int))) else none) ?_ (.inl (.inr ⟨{ cls := .type "list", data := .seq its.toArray }, if_pos rfl⟩)) ?_ ?_ (fun _ => hk)
    · intro b
      by_cases hb : b = l
      · exact .inr ⟨_, _, if_pos hb⟩
      · exact .inl (if_neg hb)
    · intro b u z
      by_cases hb : b = l
      · have z' := (if_pos hb).symm.trans z
        cases z'
        subst hb
        exact ⟨atl, by rw [List.length_map]; exact short, its, _, rel, atl⟩
      · have z' := (if_neg hb).symm.trans z
        cases z'
    · intro b z
      by_cases hb : b = l
      · exact hb
      · exact absurd (if_neg hb) z
theorem walk_G {l : PySem.W.OpenLaw} {n k : Nat} {q : Program} {loose : List Str} {XP : (Str → Option Value) → Heap → Prop} {YP : World → Heap → Prop} {d : DefRec} {K : Params → PySem.W.Frag} {sp : World → Sp} {x : Str}
    (most : l.most = some n) (few : n ≤ sizeLine) (plain : d.params.defaults = []) (room : Room k callerA) (bare : callerA.guards = some [])
    (hY : ∀ (w : World) (h : Heap), YP w h → (K w.params).In h)
    (F : ∀ (w : World) (mg : Str → Option Value) (fa : Addr) (h : Heap), (K w.params).In h → h.Ns mainGlobals mg → mg d.name = some (.ref fa) →
      ∃ fd : FuncData, Binds (K w.params) fd [x] [] ∧ ∀ base : Heap, (K w.params).In base → base.Ns mainGlobals mg → FnG l.prog w (K w.params) mg base k fa fd [x] (sp w))
    (promise : ∀ (w : World) (H : Hp) (a : Addr) (ns : List Int), SqL (K w.params) H a (ns.map V.int) → sp w [.ref a] H (fun v _ => v = .bl true) E0)
    (quiet : ∀ (H : Hp) (s : Shared) (e : Value) (s' : Shared), ¬ CX0 [] H s E0 e s') :
    PySem.W.WalkO q loose XP YP l.row.toRowW d [] (fun f vs => PySem.call f vs) := by
  refine Att.attach_call most plain ?_
  intro w s0 s1 mg mb fa o pm cd doc a its ns G Y _ _ _ isF atl nums short noG
  have kin := hY w _ Y
  obtain ⟨fd, hb, hF⟩ := F w mg fa _ kin G.T.g isF
  exact call_lawG kin G.T.g G.T.b G.T.builtins G.T.nolimit noG atl nums (Nat.le_trans short few) room bare hF hb (fun H hS => promise w H a ns hS) fun H e s' => quiet H s1 e s'
end Nh
set_option Elab.async false
set_option linter.all false
set_option maxRecDepth 100000
set_option maxHeartbeats 4000000
namespace Nh
open PySem PySem.Spec PyProof.Rows L2
theorem df_mk {K : PySem.W.Frag} {h : Heap} {mg : Str → Option Value} {x : Str} {st : Stmt} {ps : List Str} {f : Addr} {od an : Option Addr} {sl : Array (Option Value)} {oc kV dc pm cd ct : Value} (X : K.In h) (G : h.Ns mainGlobals mg)
    (a : PySem.W.nsIn K mainGlobals x = some (some (.ref f))) (l : K.lookup f = some ⟨oc, od, .func (PySem.W.fnOf x x (defArgs st) (defBody st) (defScope st) .none kV dc pm an cd ct), sl⟩) (c : PySem.W.codeIn K cd x = true) (k : PySem.W.keepIn K (.ref f) = true)
    (b : ∀ (kV doc pm : Value) (an : Option Addr) (cdv ct : Value) (us : List Value), us.length = ps.length → bindArgs (PySem.W.fnOf x x (defArgs st) (defBody st) (defScope st) .none kV doc pm an cdv ct) ⟨us, []⟩ = pure (ps.zip us)) : ∃ f fd, Df K mg x st ps f fd := by
  have F := fun_mk (st := st) l c k
  exact ⟨f, _, F, PySem.W.mg_of X G a, F.binds b⟩
theorem with_df {K : PySem.W.Frag} {h : Heap} {mg : Str → Option Value} {C : Prop} {x : Str} {st : Stmt} {ps : List Str} {f : Addr} {od an : Option Addr} {sl : Array (Option Value)} {oc kV dc pm cd ct : Value} (X : K.In h) (G : h.Ns mainGlobals mg)
    (a : PySem.W.nsIn K mainGlobals x = some (some (.ref f))) (l : K.lookup f = some ⟨oc, od, .func (PySem.W.fnOf x x (defArgs st) (defBody st) (defScope st) .none kV dc pm an cd ct), sl⟩) (c : PySem.W.codeIn K cd x = true) (k : PySem.W.keepIn K (.ref f) = true)
    (b : ∀ (kV doc pm : Value) (an : Option Addr) (cdv ct : Value) (us : List Value), us.length = ps.length → bindArgs (PySem.W.fnOf x x (defArgs st) (defBody st) (defScope st) .none kV doc pm an cdv ct) ⟨us, []⟩ = pure (ps.zip us))
    (next : (∃ f fd, Df K mg x st ps f fd) → C) : C := next (df_mk X G a l c k b)
theorem lim_mk {K : PySem.W.Frag} {h : Heap} (X : K.In h) (e : PySem.W.nsIn K cStatics "sys.int_max_str_digits" = some none) : LimOk K := e
theorem bd_L_bag (kV doc pm : Value) (an : Option Addr) (cdv ct : Value) (us : List Value) (hl : us.length = P_L_bag.length) : bindArgs (PySem.W.fnOf "_law_bag" "_law_bag" (defArgs (topS 26)) (defBody (topS 26)) (defScope (topS 26)) .none kV doc pm an cdv ct) ⟨us, []⟩ = pure (P_L_bag.zip us) :=
  match us, hl with | [_], _ => rfl
theorem bd_L_take (kV doc pm : Value) (an : Option Addr) (cdv ct : Value) (us : List Value) (hl : us.length = P_L_take.length) : bindArgs (PySem.W.fnOf "_law_take" "_law_take" (defArgs (topS 27)) (defBody (topS 27)) (defScope (topS 27)) .none kV doc pm an cdv ct) ⟨us, []⟩ = pure (P_L_take.zip us) :=
  match us, hl with | [_, _], _ => rfl
theorem bd_L_some (kV doc pm : Value) (an : Option Addr) (cdv ct : Value) (us : List Value) (hl : us.length = P_L_some.length) : bindArgs (PySem.W.fnOf "_law_some" "_law_some" (defArgs (topS 28)) (defBody (topS 28)) (defScope (topS 28)) .none kV doc pm an cdv ct) ⟨us, []⟩ = pure (P_L_some.zip us) :=
  match us, hl with | [_, _], _ => rfl
theorem bd_L_formats (kV doc pm : Value) (an : Option Addr) (cdv ct : Value) (us : List Value) (hl : us.length = P_L_formats.length) : bindArgs (PySem.W.fnOf "_law_formats" "_law_formats" (defArgs (topS 39)) (defBody (topS 39)) (defScope (topS 39)) .none kV doc pm an cdv ct) ⟨us, []⟩ = pure (P_L_formats.zip us) :=
  match us, hl with | [_], _ => rfl
theorem bd_L_wide_format (kV doc pm : Value) (an : Option Addr) (cdv ct : Value) (us : List Value) (hl : us.length = P_L_wide_format.length) : bindArgs (PySem.W.fnOf "_law_wide_format" "_law_wide_format" (defArgs (topS 40)) (defBody (topS 40)) (defScope (topS 40)) .none kV doc pm an cdv ct) ⟨us, []⟩ = pure (P_L_wide_format.zip us) :=
  match us, hl with | [_], _ => rfl
theorem bd_L_any_format (kV doc pm : Value) (an : Option Addr) (cdv ct : Value) (us : List Value) (hl : us.length = P_L_any_format.length) : bindArgs (PySem.W.fnOf "_law_any_format" "_law_any_format" (defArgs (topS 41)) (defBody (topS 41)) (defScope (topS 41)) .none kV doc pm an cdv ct) ⟨us, []⟩ = pure (P_L_any_format.zip us) :=
  match us, hl with | [_], _ => rfl
theorem bd_L_to (kV doc pm : Value) (an : Option Addr) (cdv ct : Value) (us : List Value) (hl : us.length = P_L_to.length) : bindArgs (PySem.W.fnOf "_law_to" "_law_to" (defArgs (topS 31)) (defBody (topS 31)) (defScope (topS 31)) .none kV doc pm an cdv ct) ⟨us, []⟩ = pure (P_L_to.zip us) :=
  match us, hl with | [_, _], _ => rfl
theorem bd_L_drawn_integer (kV doc pm : Value) (an : Option Addr) (cdv ct : Value) (us : List Value) (hl : us.length = P_L_drawn_integer.length) : bindArgs (PySem.W.fnOf "_law_drawn_integer" "_law_drawn_integer" (defArgs (topS 55)) (defBody (topS 55)) (defScope (topS 55)) .none kV doc pm an cdv ct) ⟨us, []⟩ = pure (P_L_drawn_integer.zip us) :=
  match us, hl with | [_, _], _ => rfl
theorem bd_L_ways (kV doc pm : Value) (an : Option Addr) (cdv ct : Value) (us : List Value) (hl : us.length = P_L_ways.length) : bindArgs (PySem.W.fnOf "_law_ways" "_law_ways" (defArgs (topS 45)) (defBody (topS 45)) (defScope (topS 45)) .none kV doc pm an cdv ct) ⟨us, []⟩ = pure (P_L_ways.zip us) :=
  match us, hl with | [], _ => rfl
theorem bd_whole_power (kV doc pm : Value) (an : Option Addr) (cdv ct : Value) (us : List Value) (hl : us.length = P_whole_power.length) : bindArgs (PySem.W.fnOf "whole_power" "whole_power" (defArgs (topS 2)) (defBody (topS 2)) (defScope (topS 2)) .none kV doc pm an cdv ct) ⟨us, []⟩ = pure (P_whole_power.zip us) :=
  match us, hl with | [_, _], _ => rfl
theorem bd_is_power_below (kV doc pm : Value) (an : Option Addr) (cdv ct : Value) (us : List Value) (hl : us.length = P_is_power_below.length) : bindArgs (PySem.W.fnOf "is_power_below" "is_power_below" (defArgs (topS 10)) (defBody (topS 10)) (defScope (topS 10)) .none kV doc pm an cdv ct) ⟨us, []⟩ = pure (P_is_power_below.zip us) :=
  match us, hl with | [_, _, _], _ => rfl
theorem bd_power_below (kV doc pm : Value) (an : Option Addr) (cdv ct : Value) (us : List Value) (hl : us.length = P_power_below.length) : bindArgs (PySem.W.fnOf "power_below" "power_below" (defArgs (topS 11)) (defBody (topS 11)) (defScope (topS 11)) .none kV doc pm an cdv ct) ⟨us, []⟩ = pure (P_power_below.zip us) :=
  match us, hl with | [_, _], _ => rfl
theorem bd_scaled (kV doc pm : Value) (an : Option Addr) (cdv ct : Value) (us : List Value) (hl : us.length = P_scaled.length) : bindArgs (PySem.W.fnOf "scaled" "scaled" (defArgs (topS 12)) (defBody (topS 12)) (defScope (topS 12)) .none kV doc pm an cdv ct) ⟨us, []⟩ = pure (P_scaled.zip us) :=
  match us, hl with | [_, _, _], _ => rfl
theorem bd_parted (kV doc pm : Value) (an : Option Addr) (cdv ct : Value) (us : List Value) (hl : us.length = P_parted.length) : bindArgs (PySem.W.fnOf "parted" "parted" (defArgs (topS 13)) (defBody (topS 13)) (defScope (topS 13)) .none kV doc pm an cdv ct) ⟨us, []⟩ = pure (P_parted.zip us) :=
  match us, hl with | [_, _], _ => rfl
theorem bd_is_raised (kV doc pm : Value) (an : Option Addr) (cdv ct : Value) (us : List Value) (hl : us.length = P_is_raised.length) : bindArgs (PySem.W.fnOf "is_raised" "is_raised" (defArgs (topS 15)) (defBody (topS 15)) (defScope (topS 15)) .none kV doc pm an cdv ct) ⟨us, []⟩ = pure (P_is_raised.zip us) :=
  match us, hl with | [_, _, _, _], _ => rfl
theorem bd_raised (kV doc pm : Value) (an : Option Addr) (cdv ct : Value) (us : List Value) (hl : us.length = P_raised.length) : bindArgs (PySem.W.fnOf "raised" "raised" (defArgs (topS 14)) (defBody (topS 14)) (defScope (topS 14)) .none kV doc pm an cdv ct) ⟨us, []⟩ = pure (P_raised.zip us) :=
  match us, hl with | [_, _, _], _ => rfl
theorem bd_finished (kV doc pm : Value) (an : Option Addr) (cdv ct : Value) (us : List Value) (hl : us.length = P_finished.length) : bindArgs (PySem.W.fnOf "finished" "finished" (defArgs (topS 16)) (defBody (topS 16)) (defScope (topS 16)) .none kV doc pm an cdv ct) ⟨us, []⟩ = pure (P_finished.zip us) :=
  match us, hl with | [_, _, _, _], _ => rfl
theorem bd_without_sign (kV doc pm : Value) (an : Option Addr) (cdv ct : Value) (us : List Value) (hl : us.length = P_without_sign.length) : bindArgs (PySem.W.fnOf "without_sign" "without_sign" (defArgs (topS 17)) (defBody (topS 17)) (defScope (topS 17)) .none kV doc pm an cdv ct) ⟨us, []⟩ = pure (P_without_sign.zip us) :=
  match us, hl with | [_], _ => rfl
theorem bd_rounded (kV doc pm : Value) (an : Option Addr) (cdv ct : Value) (us : List Value) (hl : us.length = P_rounded.length) : bindArgs (PySem.W.fnOf "rounded" "rounded" (defArgs (topS 18)) (defBody (topS 18)) (defScope (topS 18)) .none kV doc pm an cdv ct) ⟨us, []⟩ = pure (P_rounded.zip us) :=
  match us, hl with | [_, _, _, _], _ => rfl
theorem bd_from_integer (kV doc pm : Value) (an : Option Addr) (cdv ct : Value) (us : List Value) (hl : us.length = P_from_integer.length) : bindArgs (PySem.W.fnOf "from_integer" "from_integer" (defArgs (topS 23)) (defBody (topS 23)) (defScope (topS 23)) .none kV doc pm an cdv ct) ⟨us, []⟩ = pure (P_from_integer.zip us) :=
  match us, hl with | [_, _, _], _ => rfl
theorem bd_L_alike (kV doc pm : Value) (an : Option Addr) (cdv ct : Value) (us : List Value) (hl : us.length = P_L_alike.length) : bindArgs (PySem.W.fnOf "_law_alike" "_law_alike" (defArgs (topS 29)) (defBody (topS 29)) (defScope (topS 29)) .none kV doc pm an cdv ct) ⟨us, []⟩ = pure (P_L_alike.zip us) :=
  match us, hl with | [_, _], _ => rfl
theorem bd_L_sized (kV doc pm : Value) (an : Option Addr) (cdv ct : Value) (us : List Value) (hl : us.length = P_L_sized.length) : bindArgs (PySem.W.fnOf "_law_sized" "_law_sized" (defArgs (topS 36)) (defBody (topS 36)) (defScope (topS 36)) .none kV doc pm an cdv ct) ⟨us, []⟩ = pure (P_L_sized.zip us) :=
  match us, hl with | [_], _ => rfl
theorem bd_L_grid (kV doc pm : Value) (an : Option Addr) (cdv ct : Value) (us : List Value) (hl : us.length = P_L_grid.length) : bindArgs (PySem.W.fnOf "_law_grid" "_law_grid" (defArgs (topS 46)) (defBody (topS 46)) (defScope (topS 46)) .none kV doc pm an cdv ct) ⟨us, []⟩ = pure (P_L_grid.zip us) :=
  match us, hl with | [_, _], _ => rfl
theorem bd_L_power (kV doc pm : Value) (an : Option Addr) (cdv ct : Value) (us : List Value) (hl : us.length = P_L_power.length) : bindArgs (PySem.W.fnOf "_law_power" "_law_power" (defArgs (topS 37)) (defBody (topS 37)) (defScope (topS 37)) .none kV doc pm an cdv ct) ⟨us, []⟩ = pure (P_L_power.zip us) :=
  match us, hl with | [_, _], _ => rfl
theorem bd_L_common (kV doc pm : Value) (an : Option Addr) (cdv ct : Value) (us : List Value) (hl : us.length = P_L_common.length) : bindArgs (PySem.W.fnOf "_law_common" "_law_common" (defArgs (topS 30)) (defBody (topS 30)) (defScope (topS 30)) .none kV doc pm an cdv ct) ⟨us, []⟩ = pure (P_L_common.zip us) :=
  match us, hl with | [_, _], _ => rfl
theorem bd_L_over (kV doc pm : Value) (an : Option Addr) (cdv ct : Value) (us : List Value) (hl : us.length = P_L_over.length) : bindArgs (PySem.W.fnOf "_law_over" "_law_over" (defArgs (topS 32)) (defBody (topS 32)) (defScope (topS 32)) .none kV doc pm an cdv ct) ⟨us, []⟩ = pure (P_L_over.zip us) :=
  match us, hl with | [_, _], _ => rfl
theorem bd_L_multiplied (kV doc pm : Value) (an : Option Addr) (cdv ct : Value) (us : List Value) (hl : us.length = P_L_multiplied.length) : bindArgs (PySem.W.fnOf "_law_multiplied" "_law_multiplied" (defArgs (topS 34)) (defBody (topS 34)) (defScope (topS 34)) .none kV doc pm an cdv ct) ⟨us, []⟩ = pure (P_L_multiplied.zip us) :=
  match us, hl with | [_, _], _ => rfl
theorem bd_L_neighbours (kV doc pm : Value) (an : Option Addr) (cdv ct : Value) (us : List Value) (hl : us.length = P_L_neighbours.length) : bindArgs (PySem.W.fnOf "_law_neighbours" "_law_neighbours" (defArgs (topS 47)) (defBody (topS 47)) (defScope (topS 47)) .none kV doc pm an cdv ct) ⟨us, []⟩ = pure (P_L_neighbours.zip us) :=
  match us, hl with | [_, _], _ => rfl
theorem bd_L_lessened (kV doc pm : Value) (an : Option Addr) (cdv ct : Value) (us : List Value) (hl : us.length = P_L_lessened.length) : bindArgs (PySem.W.fnOf "_law_lessened" "_law_lessened" (defArgs (topS 33)) (defBody (topS 33)) (defScope (topS 33)) .none kV doc pm an cdv ct) ⟨us, []⟩ = pure (P_L_lessened.zip us) :=
  match us, hl with | [_, _], _ => rfl
theorem bd_L_is_below (kV doc pm : Value) (an : Option Addr) (cdv ct : Value) (us : List Value) (hl : us.length = P_L_is_below.length) : bindArgs (PySem.W.fnOf "_law_is_below" "_law_is_below" (defArgs (topS 35)) (defBody (topS 35)) (defScope (topS 35)) .none kV doc pm an cdv ct) ⟨us, []⟩ = pure (P_L_is_below.zip us) :=
  match us, hl with | [_, _], _ => rfl
theorem bd_L_nearer (kV doc pm : Value) (an : Option Addr) (cdv ct : Value) (us : List Value) (hl : us.length = P_L_nearer.length) : bindArgs (PySem.W.fnOf "_law_nearer" "_law_nearer" (defArgs (topS 50)) (defBody (topS 50)) (defScope (topS 50)) .none kV doc pm an cdv ct) ⟨us, []⟩ = pure (P_L_nearer.zip us) :=
  match us, hl with | [_, _, _, _, _], _ => rfl
theorem bd_L_normal (kV doc pm : Value) (an : Option Addr) (cdv ct : Value) (us : List Value) (hl : us.length = P_L_normal.length) : bindArgs (PySem.W.fnOf "_law_normal" "_law_normal" (defArgs (topS 49)) (defBody (topS 49)) (defScope (topS 49)) .none kV doc pm an cdv ct) ⟨us, []⟩ = pure (P_L_normal.zip us) :=
  match us, hl with | [_], _ => rfl
theorem bd_L_greatest (kV doc pm : Value) (an : Option Addr) (cdv ct : Value) (us : List Value) (hl : us.length = P_L_greatest.length) : bindArgs (PySem.W.fnOf "_law_greatest" "_law_greatest" (defArgs (topS 48)) (defBody (topS 48)) (defScope (topS 48)) .none kV doc pm an cdv ct) ⟨us, []⟩ = pure (P_L_greatest.zip us) :=
  match us, hl with | [_], _ => rfl
theorem bd_L_form_of (kV doc pm : Value) (an : Option Addr) (cdv ct : Value) (us : List Value) (hl : us.length = P_L_form_of.length) : bindArgs (PySem.W.fnOf "_law_form_of" "_law_form_of" (defArgs (topS 51)) (defBody (topS 51)) (defScope (topS 51)) .none kV doc pm an cdv ct) ⟨us, []⟩ = pure (P_L_form_of.zip us) :=
  match us, hl with | [_, _, _], _ => rfl
theorem bd_L_rounded (kV doc pm : Value) (an : Option Addr) (cdv ct : Value) (us : List Value) (hl : us.length = P_L_rounded.length) : bindArgs (PySem.W.fnOf "_law_rounded" "_law_rounded" (defArgs (topS 52)) (defBody (topS 52)) (defScope (topS 52)) .none kV doc pm an cdv ct) ⟨us, []⟩ = pure (P_L_rounded.zip us) :=
  match us, hl with | [_, _, _, _], _ => rfl
theorem bd_is_finite (kV doc pm : Value) (an : Option Addr) (cdv ct : Value) (us : List Value) (hl : us.length = P_is_finite.length) : bindArgs (PySem.W.fnOf "is_finite" "is_finite" (defArgs (topS 21)) (defBody (topS 21)) (defScope (topS 21)) .none kV doc pm an cdv ct) ⟨us, []⟩ = pure (P_is_finite.zip us) :=
  match us, hl with | [_], _ => rfl
theorem bd_reduced (kV doc pm : Value) (an : Option Addr) (cdv ct : Value) (us : List Value) (hl : us.length = P_reduced.length) : bindArgs (PySem.W.fnOf "reduced" "reduced" (defArgs (topS 4)) (defBody (topS 4)) (defScope (topS 4)) .none kV doc pm an cdv ct) ⟨us, []⟩ = pure (P_reduced.zip us) :=
  match us, hl with | [_, _], _ => rfl
theorem bd_worth (kV doc pm : Value) (an : Option Addr) (cdv ct : Value) (us : List Value) (hl : us.length = P_worth.length) : bindArgs (PySem.W.fnOf "worth" "worth" (defArgs (topS 20)) (defBody (topS 20)) (defScope (topS 20)) .none kV doc pm an cdv ct) ⟨us, []⟩ = pure (P_worth.zip us) :=
  match us, hl with | [_, _], _ => rfl
theorem bd_floor_of (kV doc pm : Value) (an : Option Addr) (cdv ct : Value) (us : List Value) (hl : us.length = P_floor_of.length) : bindArgs (PySem.W.fnOf "floor_of" "floor_of" (defArgs (topS 5)) (defBody (topS 5)) (defScope (topS 5)) .none kV doc pm an cdv ct) ⟨us, []⟩ = pure (P_floor_of.zip us) :=
  match us, hl with | [_], _ => rfl
theorem bd_ceiling_of (kV doc pm : Value) (an : Option Addr) (cdv ct : Value) (us : List Value) (hl : us.length = P_ceiling_of.length) : bindArgs (PySem.W.fnOf "ceiling_of" "ceiling_of" (defArgs (topS 6)) (defBody (topS 6)) (defScope (topS 6)) .none kV doc pm an cdv ct) ⟨us, []⟩ = pure (P_ceiling_of.zip us) :=
  match us, hl with | [_], _ => rfl
theorem bd_nearer_integer (kV doc pm : Value) (an : Option Addr) (cdv ct : Value) (us : List Value) (hl : us.length = P_nearer_integer.length) : bindArgs (PySem.W.fnOf "nearer_integer" "nearer_integer" (defArgs (topS 7)) (defBody (topS 7)) (defScope (topS 7)) .none kV doc pm an cdv ct) ⟨us, []⟩ = pure (P_nearer_integer.zip us) :=
  match us, hl with | [_, _, _], _ => rfl
theorem bd_nearest_integer (kV doc pm : Value) (an : Option Addr) (cdv ct : Value) (us : List Value) (hl : us.length = P_nearest_integer.length) : bindArgs (PySem.W.fnOf "nearest_integer" "nearest_integer" (defArgs (topS 8)) (defBody (topS 8)) (defScope (topS 8)) .none kV doc pm an cdv ct) ⟨us, []⟩ = pure (P_nearest_integer.zip us) :=
  match us, hl with | [_, _], _ => rfl
theorem bd_integer_of (kV doc pm : Value) (an : Option Addr) (cdv ct : Value) (us : List Value) (hl : us.length = P_integer_of.length) : bindArgs (PySem.W.fnOf "integer_of" "integer_of" (defArgs (topS 24)) (defBody (topS 24)) (defScope (topS 24)) .none kV doc pm an cdv ct) ⟨us, []⟩ = pure (P_integer_of.zip us) :=
  match us, hl with | [_, _, _], _ => rfl
theorem bd_L_number_of (kV doc pm : Value) (an : Option Addr) (cdv ct : Value) (us : List Value) (hl : us.length = P_L_number_of.length) : bindArgs (PySem.W.fnOf "_law_number_of" "_law_number_of" (defArgs (topS 53)) (defBody (topS 53)) (defScope (topS 53)) .none kV doc pm an cdv ct) ⟨us, []⟩ = pure (P_L_number_of.zip us) :=
  match us, hl with | [_, _], _ => rfl
theorem bd_L_edges (kV doc pm : Value) (an : Option Addr) (cdv ct : Value) (us : List Value) (hl : us.length = P_L_edges.length) : bindArgs (PySem.W.fnOf "_law_edges" "_law_edges" (defArgs (topS 42)) (defBody (topS 42)) (defScope (topS 42)) .none kV doc pm an cdv ct) ⟨us, []⟩ = pure (P_L_edges.zip us) :=
  match us, hl with | [_], _ => rfl
theorem bd_L_number (kV doc pm : Value) (an : Option Addr) (cdv ct : Value) (us : List Value) (hl : us.length = P_L_number.length) : bindArgs (PySem.W.fnOf "_law_number" "_law_number" (defArgs (topS 43)) (defBody (topS 43)) (defScope (topS 43)) .none kV doc pm an cdv ct) ⟨us, []⟩ = pure (P_L_number.zip us) :=
  match us, hl with | [_, _], _ => rfl
theorem bd_L_value (kV doc pm : Value) (an : Option Addr) (cdv ct : Value) (us : List Value) (hl : us.length = P_L_value.length) : bindArgs (PySem.W.fnOf "_law_value" "_law_value" (defArgs (topS 44)) (defBody (topS 44)) (defScope (topS 44)) .none kV doc pm an cdv ct) ⟨us, []⟩ = pure (P_L_value.zip us) :=
  match us, hl with | [_, _], _ => rfl
theorem bd_L_near_half (kV doc pm : Value) (an : Option Addr) (cdv ct : Value) (us : List Value) (hl : us.length = P_L_near_half.length) : bindArgs (PySem.W.fnOf "_law_near_half" "_law_near_half" (defArgs (topS 56)) (defBody (topS 56)) (defScope (topS 56)) .none kV doc pm an cdv ct) ⟨us, []⟩ = pure (P_L_near_half.zip us) :=
  match us, hl with | [_, _], _ => rfl
theorem bd_L_worth (kV doc pm : Value) (an : Option Addr) (cdv ct : Value) (us : List Value) (hl : us.length = P_L_worth.length) : bindArgs (PySem.W.fnOf "_law_worth" "_law_worth" (defArgs (topS 38)) (defBody (topS 38)) (defScope (topS 38)) .none kV doc pm an cdv ct) ⟨us, []⟩ = pure (P_L_worth.zip us) :=
  match us, hl with | [_, _], _ => rfl
theorem bd_L_due_integer (kV doc pm : Value) (an : Option Addr) (cdv ct : Value) (us : List Value) (hl : us.length = P_L_due_integer.length) : bindArgs (PySem.W.fnOf "_law_due_integer" "_law_due_integer" (defArgs (topS 54)) (defBody (topS 54)) (defScope (topS 54)) .none kV doc pm an cdv ct) ⟨us, []⟩ = pure (P_L_due_integer.zip us) :=
  match us, hl with | [_, _], _ => rfl
theorem bd_law (kV doc pm : Value) (an : Option Addr) (cdv ct : Value) (us : List Value) (hl : us.length = P_lawG.length) : bindArgs (PySem.W.fnOf "law" "law" (defArgs (topS 57)) (defBody (topS 57)) (defScope (topS 57)) .none kV doc pm an cdv ct) ⟨us, []⟩ = pure (P_lawG.zip us) :=
  match us, hl with | [_], _ => rfl
theorem all_law {P : Program} {w : World} {K : PySem.W.Frag} {mg : Str → Option Value} {base : Heap} {f : Addr} {fd : FuncData}
    (D_L_bag : ∃ f fd, Df K mg "_law_bag" (topS 26) P_L_bag f fd)
    (D_L_take : ∃ f fd, Df K mg "_law_take" (topS 27) P_L_take f fd)
    (D_L_some : ∃ f fd, Df K mg "_law_some" (topS 28) P_L_some f fd)
    (D_L_formats : ∃ f fd, Df K mg "_law_formats" (topS 39) P_L_formats f fd)
    (D_L_wide_format : ∃ f fd, Df K mg "_law_wide_format" (topS 40) P_L_wide_format f fd)
    (D_L_any_format : ∃ f fd, Df K mg "_law_any_format" (topS 41) P_L_any_format f fd)
    (D_L_to : ∃ f fd, Df K mg "_law_to" (topS 31) P_L_to f fd)
    (D_L_drawn_integer : ∃ f fd, Df K mg "_law_drawn_integer" (topS 55) P_L_drawn_integer f fd)
    (D_L_ways : ∃ f fd, Df K mg "_law_ways" (topS 45) P_L_ways f fd)
    (D_whole_power : ∃ f fd, Df K mg "whole_power" (topS 2) P_whole_power f fd)
    (D_is_power_below : ∃ f fd, Df K mg "is_power_below" (topS 10) P_is_power_below f fd)
    (D_power_below : ∃ f fd, Df K mg "power_below" (topS 11) P_power_below f fd)
    (D_scaled : ∃ f fd, Df K mg "scaled" (topS 12) P_scaled f fd)
    (D_parted : ∃ f fd, Df K mg "parted" (topS 13) P_parted f fd)
    (D_is_raised : ∃ f fd, Df K mg "is_raised" (topS 15) P_is_raised f fd)
    (D_raised : ∃ f fd, Df K mg "raised" (topS 14) P_raised f fd)
    (D_finished : ∃ f fd, Df K mg "finished" (topS 16) P_finished f fd)
    (D_without_sign : ∃ f fd, Df K mg "without_sign" (topS 17) P_without_sign f fd)
    (D_rounded : ∃ f fd, Df K mg "rounded" (topS 18) P_rounded f fd)
    (D_from_integer : ∃ f fd, Df K mg "from_integer" (topS 23) P_from_integer f fd)
    (D_L_alike : ∃ f fd, Df K mg "_law_alike" (topS 29) P_L_alike f fd)
    (D_L_sized : ∃ f fd, Df K mg "_law_sized" (topS 36) P_L_sized f fd)
    (D_L_grid : ∃ f fd, Df K mg "_law_grid" (topS 46) P_L_grid f fd)
    (D_L_power : ∃ f fd, Df K mg "_law_power" (topS 37) P_L_power f fd)
    (D_L_common : ∃ f fd, Df K mg "_law_common" (topS 30) P_L_common f fd)
    (D_L_over : ∃ f fd, Df K mg "_law_over" (topS 32) P_L_over f fd)
    (D_L_multiplied : ∃ f fd, Df K mg "_law_multiplied" (topS 34) P_L_multiplied f fd)
    (D_L_neighbours : ∃ f fd, Df K mg "_law_neighbours" (topS 47) P_L_neighbours f fd)
    (D_L_lessened : ∃ f fd, Df K mg "_law_lessened" (topS 33) P_L_lessened f fd)
    (D_L_is_below : ∃ f fd, Df K mg "_law_is_below" (topS 35) P_L_is_below f fd)
    (D_L_nearer : ∃ f fd, Df K mg "_law_nearer" (topS 50) P_L_nearer f fd)
    (D_L_normal : ∃ f fd, Df K mg "_law_normal" (topS 49) P_L_normal f fd)
    (D_L_greatest : ∃ f fd, Df K mg "_law_greatest" (topS 48) P_L_greatest f fd)
    (D_L_form_of : ∃ f fd, Df K mg "_law_form_of" (topS 51) P_L_form_of f fd)
    (D_L_rounded : ∃ f fd, Df K mg "_law_rounded" (topS 52) P_L_rounded f fd)
    (D_is_finite : ∃ f fd, Df K mg "is_finite" (topS 21) P_is_finite f fd)
    (D_reduced : ∃ f fd, Df K mg "reduced" (topS 4) P_reduced f fd)
    (D_worth : ∃ f fd, Df K mg "worth" (topS 20) P_worth f fd)
    (D_floor_of : ∃ f fd, Df K mg "floor_of" (topS 5) P_floor_of f fd)
    (D_ceiling_of : ∃ f fd, Df K mg "ceiling_of" (topS 6) P_ceiling_of f fd)
    (D_nearer_integer : ∃ f fd, Df K mg "nearer_integer" (topS 7) P_nearer_integer f fd)
    (D_nearest_integer : ∃ f fd, Df K mg "nearest_integer" (topS 8) P_nearest_integer f fd)
    (D_integer_of : ∃ f fd, Df K mg "integer_of" (topS 24) P_integer_of f fd)
    (D_L_number_of : ∃ f fd, Df K mg "_law_number_of" (topS 53) P_L_number_of f fd)
    (D_L_edges : ∃ f fd, Df K mg "_law_edges" (topS 42) P_L_edges f fd)
    (D_L_number : ∃ f fd, Df K mg "_law_number" (topS 43) P_L_number f fd)
    (D_L_value : ∃ f fd, Df K mg "_law_value" (topS 44) P_L_value f fd)
    (D_L_near_half : ∃ f fd, Df K mg "_law_near_half" (topS 56) P_L_near_half f fd)
    (D_L_worth : ∃ f fd, Df K mg "_law_worth" (topS 38) P_L_worth f fd)
    (D_L_due_integer : ∃ f fd, Df K mg "_law_due_integer" (topS 54) P_L_due_integer f fd)
    (m_abs : mg "abs" = none) (m_gcd : mg "gcd" = some (.builtin "math.gcd")) (m_int : mg "int" = none) (m_len : mg "len" = none) (m_max : mg "max" = none) (m_min : mg "min" = none) (m_range : mg "range" = none) (m_repr : mg "repr" = none) (m_set : mg "set" = none) (m_sorted : mg "sorted" = none) (m_tuple : mg "tuple" = none) (hL : LimOk K) (dl : Df K mg "law" (topS 57) P_lawG f fd) : FnG P w K mg base 7 f fd P_lawG (sp_law K) := by
  obtain ⟨_, _, d_L_bag⟩ := D_L_bag
  obtain ⟨_, _, d_L_take⟩ := D_L_take
  obtain ⟨_, _, d_L_some⟩ := D_L_some
  obtain ⟨_, _, d_L_formats⟩ := D_L_formats
  obtain ⟨_, _, d_L_wide_format⟩ := D_L_wide_format
  obtain ⟨_, _, d_L_any_format⟩ := D_L_any_format
  obtain ⟨_, _, d_L_to⟩ := D_L_to
  obtain ⟨_, _, d_L_drawn_integer⟩ := D_L_drawn_integer
  obtain ⟨_, _, d_L_ways⟩ := D_L_ways
  obtain ⟨_, _, d_whole_power⟩ := D_whole_power
  obtain ⟨_, _, d_is_power_below⟩ := D_is_power_below
  obtain ⟨_, _, d_power_below⟩ := D_power_below
  obtain ⟨_, _, d_scaled⟩ := D_scaled
  obtain ⟨_, _, d_parted⟩ := D_parted
  obtain ⟨_, _, d_is_raised⟩ := D_is_raised
  obtain ⟨_, _, d_raised⟩ := D_raised
  obtain ⟨_, _, d_finished⟩ := D_finished
  obtain ⟨_, _, d_without_sign⟩ := D_without_sign
  obtain ⟨_, _, d_rounded⟩ := D_rounded
  obtain ⟨_, _, d_from_integer⟩ := D_from_integer
  obtain ⟨_, _, d_L_alike⟩ := D_L_alike
  obtain ⟨_, _, d_L_sized⟩ := D_L_sized
  obtain ⟨_, _, d_L_grid⟩ := D_L_grid
  obtain ⟨_, _, d_L_power⟩ := D_L_power
  obtain ⟨_, _, d_L_common⟩ := D_L_common
  obtain ⟨_, _, d_L_over⟩ := D_L_over
  obtain ⟨_, _, d_L_multiplied⟩ := D_L_multiplied
  obtain ⟨_, _, d_L_neighbours⟩ := D_L_neighbours
  obtain ⟨_, _, d_L_lessened⟩ := D_L_lessened
  obtain ⟨_, _, d_L_is_below⟩ := D_L_is_below
  obtain ⟨_, _, d_L_nearer⟩ := D_L_nearer
  obtain ⟨_, _, d_L_normal⟩ := D_L_normal
  obtain ⟨_, _, d_L_greatest⟩ := D_L_greatest
  obtain ⟨_, _, d_L_form_of⟩ := D_L_form_of
  obtain ⟨_, _, d_L_rounded⟩ := D_L_rounded
  obtain ⟨_, _, d_is_finite⟩ := D_is_finite
  obtain ⟨_, _, d_reduced⟩ := D_reduced
  obtain ⟨_, _, d_worth⟩ := D_worth
  obtain ⟨_, _, d_floor_of⟩ := D_floor_of
  obtain ⟨_, _, d_ceiling_of⟩ := D_ceiling_of
  obtain ⟨_, _, d_nearer_integer⟩ := D_nearer_integer
  obtain ⟨_, _, d_nearest_integer⟩ := D_nearest_integer
  obtain ⟨_, _, d_integer_of⟩ := D_integer_of
  obtain ⟨_, _, d_L_number_of⟩ := D_L_number_of
  obtain ⟨_, _, d_L_edges⟩ := D_L_edges
  obtain ⟨_, _, d_L_number⟩ := D_L_number
  obtain ⟨_, _, d_L_value⟩ := D_L_value
  obtain ⟨_, _, d_L_near_half⟩ := D_L_near_half
  obtain ⟨_, _, d_L_worth⟩ := D_L_worth
  obtain ⟨_, _, d_L_due_integer⟩ := D_L_due_integer
  have o_L_bag := ok_L_bag (P := P) (w := w) (base := base) d_L_bag m_abs
  have o_L_take := ok_L_take (P := P) (w := w) (base := base) d_L_take m_int
  have o_L_some := ok_L_some (P := P) (w := w) (base := base) d_L_some o_L_take m_len
  have o_L_formats := ok_L_formats (P := P) (w := w) (base := base) d_L_formats o_L_some
  have o_L_wide_format := ok_L_wide_format (P := P) (w := w) (base := base) d_L_wide_format o_L_some o_L_take
  have o_L_any_format := ok_L_any_format (P := P) (w := w) (base := base) d_L_any_format o_L_take o_L_formats o_L_wide_format
  have o_L_to := ok_L_to (P := P) (w := w) (base := base) d_L_to m_int
  have o_L_drawn_integer := ok_L_drawn_integer (P := P) (w := w) (base := base) d_L_drawn_integer o_L_take o_L_to o_L_some m_max m_min
  have o_L_ways := ok_L_ways (P := P) (w := w) (base := base) d_L_ways 
  have o_whole_power := ok_whole_power (P := P) (w := w) (base := base) d_whole_power 
  have o_is_power_below := ok_is_power_below (P := P) (w := w) (base := base) d_is_power_below o_whole_power
  have o_power_below := ok_power_below (P := P) (w := w) (base := base) d_power_below o_is_power_below
  have o_scaled := ok_scaled (P := P) (w := w) (base := base) d_scaled o_whole_power
  have o_parted := ok_parted (P := P) (w := w) (base := base) d_parted o_power_below o_scaled m_max
  have o_is_raised := ok_is_raised (P := P) (w := w) (base := base) d_is_raised 
  have o_raised := ok_raised (P := P) (w := w) (base := base) d_raised o_whole_power
  have o_finished := ok_finished (P := P) (w := w) (base := base) d_finished o_whole_power o_is_raised o_raised
  have o_without_sign := ok_without_sign (P := P) (w := w) (base := base) d_without_sign m_abs
  have o_rounded := ok_rounded (P := P) (w := w) (base := base) d_rounded o_parted o_finished o_without_sign m_int
  have o_from_integer := ok_from_integer (P := P) (w := w) (base := base) d_from_integer o_rounded
  have o_L_alike := ok_L_alike (P := P) (w := w) (base := base) d_L_alike m_repr hL
  have o_L_sized := ok_L_sized (P := P) (w := w) (base := base) d_L_sized m_abs
  have o_L_grid := ok_L_grid (P := P) (w := w) (base := base) d_L_grid o_L_to m_max m_int
  have o_L_power := ok_L_power (P := P) (w := w) (base := base) d_L_power o_L_to
  have o_L_common := ok_L_common (P := P) (w := w) (base := base) d_L_common m_abs m_int
  have o_L_over := ok_L_over (P := P) (w := w) (base := base) d_L_over o_L_common m_int
  have o_L_multiplied := ok_L_multiplied (P := P) (w := w) (base := base) d_L_multiplied o_L_over
  have o_L_neighbours := ok_L_neighbours (P := P) (w := w) (base := base) d_L_neighbours o_L_grid o_L_power o_L_multiplied
  have o_L_lessened := ok_L_lessened (P := P) (w := w) (base := base) d_L_lessened o_L_over
  have o_L_is_below := ok_L_is_below (P := P) (w := w) (base := base) d_L_is_below 
  have o_L_nearer := ok_L_nearer (P := P) (w := w) (base := base) d_L_nearer o_L_lessened o_L_is_below m_int
  have o_L_normal := ok_L_normal (P := P) (w := w) (base := base) d_L_normal o_L_power
  have o_L_greatest := ok_L_greatest (P := P) (w := w) (base := base) d_L_greatest o_L_multiplied o_L_power o_L_to
  have o_L_form_of := ok_L_form_of (P := P) (w := w) (base := base) d_L_form_of o_L_grid
  have o_L_rounded := ok_L_rounded (P := P) (w := w) (base := base) d_L_rounded o_L_sized o_L_neighbours o_L_nearer o_L_is_below o_L_normal o_L_greatest o_L_form_of m_int m_tuple m_sorted m_set
  have o_is_finite := ok_is_finite (P := P) (w := w) (base := base) d_is_finite 
  have o_reduced := ok_reduced (P := P) (w := w) (base := base) d_reduced m_gcd
  have o_worth := ok_worth (P := P) (w := w) (base := base) d_worth o_whole_power o_reduced
  have o_floor_of := ok_floor_of (P := P) (w := w) (base := base) d_floor_of 
  have o_ceiling_of := ok_ceiling_of (P := P) (w := w) (base := base) d_ceiling_of 
  have o_nearer_integer := ok_nearer_integer (P := P) (w := w) (base := base) d_nearer_integer m_int
  have o_nearest_integer := ok_nearest_integer (P := P) (w := w) (base := base) d_nearest_integer o_floor_of o_ceiling_of o_nearer_integer
  have o_integer_of := ok_integer_of (P := P) (w := w) (base := base) d_integer_of o_is_finite o_worth o_nearest_integer
  have o_L_number_of := ok_L_number_of (P := P) (w := w) (base := base) d_L_number_of o_L_sized o_L_is_below o_L_multiplied o_L_greatest o_L_grid o_L_power m_int
  have o_L_edges := ok_L_edges (P := P) (w := w) (base := base) d_L_edges o_L_to
  have o_L_number := ok_L_number (P := P) (w := w) (base := base) d_L_number o_L_take o_L_some o_L_edges o_L_to m_min m_max
  have o_L_value := ok_L_value (P := P) (w := w) (base := base) d_L_value o_L_take o_L_number
  have o_L_near_half := ok_L_near_half (P := P) (w := w) (base := base) d_L_near_half o_L_over o_L_some o_L_take o_L_number_of o_L_value
  have o_L_worth := ok_L_worth (P := P) (w := w) (base := base) d_L_worth o_L_multiplied o_L_power
  have o_L_due_integer := ok_L_due_integer (P := P) (w := w) (base := base) d_L_due_integer o_L_over o_L_is_below m_int
  exact ok_law (P := P) (w := w) (base := base) dl o_L_bag o_L_any_format o_L_formats o_L_drawn_integer o_L_ways o_from_integer o_L_alike o_L_rounded o_integer_of o_L_some o_L_near_half o_L_value o_L_worth o_L_due_integer m_range m_int
end Nh
set_option Elab.async false
open PySem PySem.W PyProof.Rows
set_option maxRecDepth 100000
set_option maxHeartbeats 0 in
theorem PySem.Challenge.cw_nearestheld_k11_whole_integers_there_and_holds : PySem.Challenge.rw_nearestheld_k11_whole_integers_there_and.Holds := by
  w_on; o_law; k_head; (case hw => w_witness2)
  k_fill
  refine Nh.walk_G (l := PySem.Challenge.rw_nearestheld_k11_whole_integers_there_and) (n := 63) (k := 7) (x := "_law_script") (sp := fun w => Nh.sp_law _) rfl (by decide) rfl ⟨rfl, by decide, by decide⟩ rfl (fun w h Y => PySem.W.kIn_of Y) ?F (fun w H a ns hS => ⟨a, ns, rfl, hS, fun _ => rfl⟩) (fun _ _ _ _ h => h)
  case F =>
    intro w mg fa h KX G hmg
    refine' Nh.with_df KX G (x := "_law_bag") (st := Nh.topS 26) (ps := Nh.P_L_bag) ?a0 ?l0 ?c0 ?k0 Nh.bd_L_bag ?n0
    (case a0 => k_is); (case l0 => k_is); (case c0 => k_is); (case k0 => k_is)
    intro D_L_bag
    refine' Nh.with_df KX G (x := "_law_take") (st := Nh.topS 27) (ps := Nh.P_L_take) ?a1 ?l1 ?c1 ?k1 Nh.bd_L_take ?n1
    (case a1 => k_is); (case l1 => k_is); (case c1 => k_is); (case k1 => k_is)
    intro D_L_take
    refine' Nh.with_df KX G (x := "_law_some") (st := Nh.topS 28) (ps := Nh.P_L_some) ?a2 ?l2 ?c2 ?k2 Nh.bd_L_some ?n2
    (case a2 => k_is); (case l2 => k_is); (case c2 => k_is); (case k2 => k_is)
    intro D_L_some
    refine' Nh.with_df KX G (x := "_law_formats") (st := Nh.topS 39) (ps := Nh.P_L_formats) ?a3 ?l3 ?c3 ?k3 Nh.bd_L_formats ?n3
    (case a3 => k_is); (case l3 => k_is); (case c3 => k_is); (case k3 => k_is)
    intro D_L_formats
    refine' Nh.with_df KX G (x := "_law_wide_format") (st := Nh.topS 40) (ps := Nh.P_L_wide_format) ?a4 ?l4 ?c4 ?k4 Nh.bd_L_wide_format ?n4
    (case a4 => k_is); (case l4 => k_is); (case c4 => k_is); (case k4 => k_is)
    intro D_L_wide_format
    refine' Nh.with_df KX G (x := "_law_any_format") (st := Nh.topS 41) (ps := Nh.P_L_any_format) ?a5 ?l5 ?c5 ?k5 Nh.bd_L_any_format ?n5
    (case a5 => k_is); (case l5 => k_is); (case c5 => k_is); (case k5 => k_is)
    intro D_L_any_format
    refine' Nh.with_df KX G (x := "_law_to") (st := Nh.topS 31) (ps := Nh.P_L_to) ?a6 ?l6 ?c6 ?k6 Nh.bd_L_to ?n6
    (case a6 => k_is); (case l6 => k_is); (case c6 => k_is); (case k6 => k_is)
    intro D_L_to
    refine' Nh.with_df KX G (x := "_law_drawn_integer") (st := Nh.topS 55) (ps := Nh.P_L_drawn_integer) ?a7 ?l7 ?c7 ?k7 Nh.bd_L_drawn_integer ?n7
    (case a7 => k_is); (case l7 => k_is); (case c7 => k_is); (case k7 => k_is)
    intro D_L_drawn_integer
    refine' Nh.with_df KX G (x := "_law_ways") (st := Nh.topS 45) (ps := Nh.P_L_ways) ?a8 ?l8 ?c8 ?k8 Nh.bd_L_ways ?n8
    (case a8 => k_is); (case l8 => k_is); (case c8 => k_is); (case k8 => k_is)
    intro D_L_ways
    refine' Nh.with_df KX G (x := "whole_power") (st := Nh.topS 2) (ps := Nh.P_whole_power) ?a9 ?l9 ?c9 ?k9 Nh.bd_whole_power ?n9
    (case a9 => k_is); (case l9 => k_is); (case c9 => k_is); (case k9 => k_is)
    intro D_whole_power
    refine' Nh.with_df KX G (x := "is_power_below") (st := Nh.topS 10) (ps := Nh.P_is_power_below) ?a10 ?l10 ?c10 ?k10 Nh.bd_is_power_below ?n10
    (case a10 => k_is); (case l10 => k_is); (case c10 => k_is); (case k10 => k_is)
    intro D_is_power_below
    refine' Nh.with_df KX G (x := "power_below") (st := Nh.topS 11) (ps := Nh.P_power_below) ?a11 ?l11 ?c11 ?k11 Nh.bd_power_below ?n11
    (case a11 => k_is); (case l11 => k_is); (case c11 => k_is); (case k11 => k_is)
    intro D_power_below
    refine' Nh.with_df KX G (x := "scaled") (st := Nh.topS 12) (ps := Nh.P_scaled) ?a12 ?l12 ?c12 ?k12 Nh.bd_scaled ?n12
    (case a12 => k_is); (case l12 => k_is); (case c12 => k_is); (case k12 => k_is)
    intro D_scaled
    refine' Nh.with_df KX G (x := "parted") (st := Nh.topS 13) (ps := Nh.P_parted) ?a13 ?l13 ?c13 ?k13 Nh.bd_parted ?n13
    (case a13 => k_is); (case l13 => k_is); (case c13 => k_is); (case k13 => k_is)
    intro D_parted
    refine' Nh.with_df KX G (x := "is_raised") (st := Nh.topS 15) (ps := Nh.P_is_raised) ?a14 ?l14 ?c14 ?k14 Nh.bd_is_raised ?n14
    (case a14 => k_is); (case l14 => k_is); (case c14 => k_is); (case k14 => k_is)
    intro D_is_raised
    refine' Nh.with_df KX G (x := "raised") (st := Nh.topS 14) (ps := Nh.P_raised) ?a15 ?l15 ?c15 ?k15 Nh.bd_raised ?n15
    (case a15 => k_is); (case l15 => k_is); (case c15 => k_is); (case k15 => k_is)
    intro D_raised
    refine' Nh.with_df KX G (x := "finished") (st := Nh.topS 16) (ps := Nh.P_finished) ?a16 ?l16 ?c16 ?k16 Nh.bd_finished ?n16
    (case a16 => k_is); (case l16 => k_is); (case c16 => k_is); (case k16 => k_is)
    intro D_finished
    refine' Nh.with_df KX G (x := "without_sign") (st := Nh.topS 17) (ps := Nh.P_without_sign) ?a17 ?l17 ?c17 ?k17 Nh.bd_without_sign ?n17
    (case a17 => k_is); (case l17 => k_is); (case c17 => k_is); (case k17 => k_is)
    intro D_without_sign
    refine' Nh.with_df KX G (x := "rounded") (st := Nh.topS 18) (ps := Nh.P_rounded) ?a18 ?l18 ?c18 ?k18 Nh.bd_rounded ?n18
    (case a18 => k_is); (case l18 => k_is); (case c18 => k_is); (case k18 => k_is)
    intro D_rounded
    refine' Nh.with_df KX G (x := "from_integer") (st := Nh.topS 23) (ps := Nh.P_from_integer) ?a19 ?l19 ?c19 ?k19 Nh.bd_from_integer ?n19
    (case a19 => k_is); (case l19 => k_is); (case c19 => k_is); (case k19 => k_is)
    intro D_from_integer
    refine' Nh.with_df KX G (x := "_law_alike") (st := Nh.topS 29) (ps := Nh.P_L_alike) ?a20 ?l20 ?c20 ?k20 Nh.bd_L_alike ?n20
    (case a20 => k_is); (case l20 => k_is); (case c20 => k_is); (case k20 => k_is)
    intro D_L_alike
    refine' Nh.with_df KX G (x := "_law_sized") (st := Nh.topS 36) (ps := Nh.P_L_sized) ?a21 ?l21 ?c21 ?k21 Nh.bd_L_sized ?n21
    (case a21 => k_is); (case l21 => k_is); (case c21 => k_is); (case k21 => k_is)
    intro D_L_sized
    refine' Nh.with_df KX G (x := "_law_grid") (st := Nh.topS 46) (ps := Nh.P_L_grid) ?a22 ?l22 ?c22 ?k22 Nh.bd_L_grid ?n22
    (case a22 => k_is); (case l22 => k_is); (case c22 => k_is); (case k22 => k_is)
    intro D_L_grid
    refine' Nh.with_df KX G (x := "_law_power") (st := Nh.topS 37) (ps := Nh.P_L_power) ?a23 ?l23 ?c23 ?k23 Nh.bd_L_power ?n23
    (case a23 => k_is); (case l23 => k_is); (case c23 => k_is); (case k23 => k_is)
    intro D_L_power
    refine' Nh.with_df KX G (x := "_law_common") (st := Nh.topS 30) (ps := Nh.P_L_common) ?a24 ?l24 ?c24 ?k24 Nh.bd_L_common ?n24
    (case a24 => k_is); (case l24 => k_is); (case c24 => k_is); (case k24 => k_is)
    intro D_L_common
    refine' Nh.with_df KX G (x := "_law_over") (st := Nh.topS 32) (ps := Nh.P_L_over) ?a25 ?l25 ?c25 ?k25 Nh.bd_L_over ?n25
    (case a25 => k_is); (case l25 => k_is); (case c25 => k_is); (case k25 => k_is)
    intro D_L_over
    refine' Nh.with_df KX G (x := "_law_multiplied") (st := Nh.topS 34) (ps := Nh.P_L_multiplied) ?a26 ?l26 ?c26 ?k26 Nh.bd_L_multiplied ?n26
    (case a26 => k_is); (case l26 => k_is); (case c26 => k_is); (case k26 => k_is)
    intro D_L_multiplied
    refine' Nh.with_df KX G (x := "_law_neighbours") (st := Nh.topS 47) (ps := Nh.P_L_neighbours) ?a27 ?l27 ?c27 ?k27 Nh.bd_L_neighbours ?n27
    (case a27 => k_is); (case l27 => k_is); (case c27 => k_is); (case k27 => k_is)
    intro D_L_neighbours
    refine' Nh.with_df KX G (x := "_law_lessened") (st := Nh.topS 33) (ps := Nh.P_L_lessened) ?a28 ?l28 ?c28 ?k28 Nh.bd_L_lessened ?n28
    (case a28 => k_is); (case l28 => k_is); (case c28 => k_is); (case k28 => k_is)
    intro D_L_lessened
    refine' Nh.with_df KX G (x := "_law_is_below") (st := Nh.topS 35) (ps := Nh.P_L_is_below) ?a29 ?l29 ?c29 ?k29 Nh.bd_L_is_below ?n29
    (case a29 => k_is); (case l29 => k_is); (case c29 => k_is); (case k29 => k_is)
    intro D_L_is_below
    refine' Nh.with_df KX G (x := "_law_nearer") (st := Nh.topS 50) (ps := Nh.P_L_nearer) ?a30 ?l30 ?c30 ?k30 Nh.bd_L_nearer ?n30
    (case a30 => k_is); (case l30 => k_is); (case c30 => k_is); (case k30 => k_is)
    intro D_L_nearer
    refine' Nh.with_df KX G (x := "_law_normal") (st := Nh.topS 49) (ps := Nh.P_L_normal) ?a31 ?l31 ?c31 ?k31 Nh.bd_L_normal ?n31
    (case a31 => k_is); (case l31 => k_is); (case c31 => k_is); (case k31 => k_is)
    intro D_L_normal
    refine' Nh.with_df KX G (x := "_law_greatest") (st := Nh.topS 48) (ps := Nh.P_L_greatest) ?a32 ?l32 ?c32 ?k32 Nh.bd_L_greatest ?n32
    (case a32 => k_is); (case l32 => k_is); (case c32 => k_is); (case k32 => k_is)
    intro D_L_greatest
    refine' Nh.with_df KX G (x := "_law_form_of") (st := Nh.topS 51) (ps := Nh.P_L_form_of) ?a33 ?l33 ?c33 ?k33 Nh.bd_L_form_of ?n33
    (case a33 => k_is); (case l33 => k_is); (case c33 => k_is); (case k33 => k_is)
    intro D_L_form_of
    refine' Nh.with_df KX G (x := "_law_rounded") (st := Nh.topS 52) (ps := Nh.P_L_rounded) ?a34 ?l34 ?c34 ?k34 Nh.bd_L_rounded ?n34
    (case a34 => k_is); (case l34 => k_is); (case c34 => k_is); (case k34 => k_is)
    intro D_L_rounded
    refine' Nh.with_df KX G (x := "is_finite") (st := Nh.topS 21) (ps := Nh.P_is_finite) ?a35 ?l35 ?c35 ?k35 Nh.bd_is_finite ?n35
    (case a35 => k_is); (case l35 => k_is); (case c35 => k_is); (case k35 => k_is)
    intro D_is_finite
    refine' Nh.with_df KX G (x := "reduced") (st := Nh.topS 4) (ps := Nh.P_reduced) ?a36 ?l36 ?c36 ?k36 Nh.bd_reduced ?n36
    (case a36 => k_is); (case l36 => k_is); (case c36 => k_is); (case k36 => k_is)
    intro D_reduced
    refine' Nh.with_df KX G (x := "worth") (st := Nh.topS 20) (ps := Nh.P_worth) ?a37 ?l37 ?c37 ?k37 Nh.bd_worth ?n37
    (case a37 => k_is); (case l37 => k_is); (case c37 => k_is); (case k37 => k_is)
    intro D_worth
    refine' Nh.with_df KX G (x := "floor_of") (st := Nh.topS 5) (ps := Nh.P_floor_of) ?a38 ?l38 ?c38 ?k38 Nh.bd_floor_of ?n38
    (case a38 => k_is); (case l38 => k_is); (case c38 => k_is); (case k38 => k_is)
    intro D_floor_of
    refine' Nh.with_df KX G (x := "ceiling_of") (st := Nh.topS 6) (ps := Nh.P_ceiling_of) ?a39 ?l39 ?c39 ?k39 Nh.bd_ceiling_of ?n39
    (case a39 => k_is); (case l39 => k_is); (case c39 => k_is); (case k39 => k_is)
    intro D_ceiling_of
    refine' Nh.with_df KX G (x := "nearer_integer") (st := Nh.topS 7) (ps := Nh.P_nearer_integer) ?a40 ?l40 ?c40 ?k40 Nh.bd_nearer_integer ?n40
    (case a40 => k_is); (case l40 => k_is); (case c40 => k_is); (case k40 => k_is)
    intro D_nearer_integer
    refine' Nh.with_df KX G (x := "nearest_integer") (st := Nh.topS 8) (ps := Nh.P_nearest_integer) ?a41 ?l41 ?c41 ?k41 Nh.bd_nearest_integer ?n41
    (case a41 => k_is); (case l41 => k_is); (case c41 => k_is); (case k41 => k_is)
    intro D_nearest_integer
    refine' Nh.with_df KX G (x := "integer_of") (st := Nh.topS 24) (ps := Nh.P_integer_of) ?a42 ?l42 ?c42 ?k42 Nh.bd_integer_of ?n42
    (case a42 => k_is); (case l42 => k_is); (case c42 => k_is); (case k42 => k_is)
    intro D_integer_of
    refine' Nh.with_df KX G (x := "_law_number_of") (st := Nh.topS 53) (ps := Nh.P_L_number_of) ?a43 ?l43 ?c43 ?k43 Nh.bd_L_number_of ?n43
    (case a43 => k_is); (case l43 => k_is); (case c43 => k_is); (case k43 => k_is)
    intro D_L_number_of
    refine' Nh.with_df KX G (x := "_law_edges") (st := Nh.topS 42) (ps := Nh.P_L_edges) ?a44 ?l44 ?c44 ?k44 Nh.bd_L_edges ?n44
    (case a44 => k_is); (case l44 => k_is); (case c44 => k_is); (case k44 => k_is)
    intro D_L_edges
    refine' Nh.with_df KX G (x := "_law_number") (st := Nh.topS 43) (ps := Nh.P_L_number) ?a45 ?l45 ?c45 ?k45 Nh.bd_L_number ?n45
    (case a45 => k_is); (case l45 => k_is); (case c45 => k_is); (case k45 => k_is)
    intro D_L_number
    refine' Nh.with_df KX G (x := "_law_value") (st := Nh.topS 44) (ps := Nh.P_L_value) ?a46 ?l46 ?c46 ?k46 Nh.bd_L_value ?n46
    (case a46 => k_is); (case l46 => k_is); (case c46 => k_is); (case k46 => k_is)
    intro D_L_value
    refine' Nh.with_df KX G (x := "_law_near_half") (st := Nh.topS 56) (ps := Nh.P_L_near_half) ?a47 ?l47 ?c47 ?k47 Nh.bd_L_near_half ?n47
    (case a47 => k_is); (case l47 => k_is); (case c47 => k_is); (case k47 => k_is)
    intro D_L_near_half
    refine' Nh.with_df KX G (x := "_law_worth") (st := Nh.topS 38) (ps := Nh.P_L_worth) ?a48 ?l48 ?c48 ?k48 Nh.bd_L_worth ?n48
    (case a48 => k_is); (case l48 => k_is); (case c48 => k_is); (case k48 => k_is)
    intro D_L_worth
    refine' Nh.with_df KX G (x := "_law_due_integer") (st := Nh.topS 54) (ps := Nh.P_L_due_integer) ?a49 ?l49 ?c49 ?k49 Nh.bd_L_due_integer ?n49
    (case a49 => k_is); (case l49 => k_is); (case c49 => k_is); (case k49 => k_is)
    intro D_L_due_integer
    refine' Nh.with_df KX G (x := "law") (st := Nh.topS 57) (ps := Nh.P_lawG) ?a50 ?l50 ?c50 ?k50 Nh.bd_law ?n50
    (case a50 => k_is); (case l50 => k_is); (case c50 => k_is); (case k50 => k_is)
    intro D_law
    have m_abs : mg "abs" = none := PySem.W.mg_none_of KX G (by k_is)
    have m_gcd : mg "gcd" = some (.builtin "math.gcd") := PySem.W.mg_of KX G (by k_is)
    have m_int : mg "int" = none := PySem.W.mg_none_of KX G (by k_is)
    have m_len : mg "len" = none := PySem.W.mg_none_of KX G (by k_is)
    have m_max : mg "max" = none := PySem.W.mg_none_of KX G (by k_is)
    have m_min : mg "min" = none := PySem.W.mg_none_of KX G (by k_is)
    have m_range : mg "range" = none := PySem.W.mg_none_of KX G (by k_is)
    have m_repr : mg "repr" = none := PySem.W.mg_none_of KX G (by k_is)
    have m_set : mg "set" = none := PySem.W.mg_none_of KX G (by k_is)
    have m_sorted : mg "sorted" = none := PySem.W.mg_none_of KX G (by k_is)
    have m_tuple : mg "tuple" = none := PySem.W.mg_none_of KX G (by k_is)
    have hL := Nh.lim_mk KX (by k_is)
    obtain ⟨f, fd, dl⟩ := D_law
    have e := hmg.symm.trans dl.g
    cases e
    exact ⟨fd, dl.b, fun base _ _ => Nh.all_law D_L_bag D_L_take D_L_some D_L_formats D_L_wide_format D_L_any_format D_L_to D_L_drawn_integer D_L_ways D_whole_power D_is_power_below D_power_below D_scaled D_parted D_is_raised D_raised D_finished D_without_sign D_rounded D_from_integer D_L_alike D_L_sized D_L_grid D_L_power D_L_common D_L_over D_L_multiplied D_L_neighbours D_L_lessened D_L_is_below D_L_nearer D_L_normal D_L_greatest D_L_form_of D_L_rounded D_is_finite D_reduced D_worth D_floor_of D_ceiling_of D_nearer_integer D_nearest_integer D_integer_of D_L_number_of D_L_edges D_L_number D_L_value D_L_near_half D_L_worth D_L_due_integer m_abs m_gcd m_int m_len m_max m_min m_range m_repr m_set m_sorted m_tuple hL dl⟩
