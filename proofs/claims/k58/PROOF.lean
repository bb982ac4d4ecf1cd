import PyProof.Rows.All
import Wide.All
import OpenK.AllK
import Wide.FinOn
import HandS.ForMost
import HandS.TupAny
import HandS.Zip
import HandS.IsInst
import HandS.Gcd
import HandS.Conv
import HandS.Style
import HandS.SortKw
import HandS.Wide
import HandS.TupLe
import KE.KTupSum
import KE.DataEq
import KE.DataCmp
import KE.SortData
import KE.DataMinMax
import KE.DatumOrd
import KE.GoesEnum
import KE.GoesMore
import PySem.Challenge.RW_howmanymet_k58_whole_asks_until_one_web
set_option Elab.async false
set_option linter.all false
set_option maxRecDepth 100000
set_option maxHeartbeats 2000000
/-! TL: the tree layer. Expressions, statements and defs read over trees (PyData), no heap in sight. Part 1: values, views, environments. -/
namespace TL
open PySem L2

abbrev D := PyData

/-! ### views of a heap -/
open Classical in
/-- H without what stands at O -/
noncomputable def era (O : Addr → Prop) (H : Hp) : Hp := fun b => if O b then none else H b
theorem era_of {O : Addr → Prop} {H : Hp} {b : Addr} {o : HO} (h : H b = some o) (n : ¬ O b) : era O H b = some o := by
  unfold era
  rw [if_neg n]
  exact h
theorem era_to {O : Addr → Prop} {H : Hp} {b : Addr} {o : HO} (h : era O H b = some o) : H b = some o ∧ ¬ O b := by
  unfold era at h
  by_cases n : O b
  · rw [if_pos n] at h
    cases h
  · rw [if_neg n] at h
    exact ⟨h, n⟩
theorem era_sub {O : Addr → Prop} {H : Hp} : Same (era O H) H := fun _ _ h => (era_to h).1
theorem era_mono {O O' : Addr → Prop} {H H' : Hp} (h : ∀ b o, H b = some o → ¬ O b → H' b = some o) (n : ∀ b, O' b → O b) : Same (era O H) (era O' H') := fun b o e =>
  era_of (h b o (era_to e).1 (era_to e).2) fun q => (era_to e).2 (n b q)

/-! ### a value stands for a tree -/
mutual
inductive Is (K : PySem.W.Frag) (H : Hp) : V → D → Prop
  | non : Is K H .non .none
  | bl (b : Bool) : Is K H (.bl b) (.bool b)
  | int (i : Int) : Is K H (.int i) (.int i)
  | str (x : Str) : Is K H (.str x) (.str x)
  | lst {a : Addr} {xs : List V} {ds : List D} : H a = some (.lst xs) → IsAll K H xs ds → Is K H (.ref a) (.list ds)
  | tup {a : Addr} {xs : List V} {ds : List D} : SqT K H a xs → IsAll K H xs ds → Is K H (.ref a) (.tuple ds)
  | dic {a : Addr} : H a = some (.dK []) → Is K H (.ref a) (.dict [])
inductive IsAll (K : PySem.W.Frag) (H : Hp) : List V → List D → Prop
  | nil : IsAll K H [] []
  | cons {v : V} {vs : List V} {d : D} {ds : List D} : Is K H v d → IsAll K H vs ds → IsAll K H (v :: vs) (d :: ds)
end
variable {K : PySem.W.Frag} {H H' : Hp}

theorem sqT_mono (e : Same H H') {a : Addr} {xs : List V} (h : SqT K H a xs) : SqT K H' a xs := by
  rcases h with (h | ⟨o, h⟩) | h
  · exact .inl (.inl (e _ _ h))
  · exact .inl (.inr ⟨o, e _ _ h⟩)
  · exact .inr h
mutual
theorem Is.mono (e : Same H H') : ∀ {v : V} (d : D), Is K H v d → Is K H' v d
  | _, .none, h => by cases h; exact .non
  | _, .bool _, h => by cases h; exact .bl _
  | _, .int _, h => by cases h; exact .int _
  | _, .str _, h => by cases h; exact .str _
  | _, .list ds, h => by
    cases h with
    | lst a b => exact .lst (e _ _ a) (IsAll.mono e ds b)
  | _, .tuple ds, h => by
    cases h with
    | tup a b => exact .tup (sqT_mono e a) (IsAll.mono e ds b)
  | _, .dict _, h => by
    cases h with
    | dic a => exact .dic (e _ _ a)
theorem IsAll.mono (e : Same H H') : ∀ {vs : List V} (ds : List D), IsAll K H vs ds → IsAll K H' vs ds
  | _, [], h => by cases h; exact .nil
  | _, d :: ds, h => by
    cases h with
    | cons a b => exact .cons (Is.mono e d a) (IsAll.mono e ds b)
end
theorem Is.up {v : V} {d : D} (h : Is K H v d) (e : Same H H') : Is K H' v d := Is.mono e d h
theorem IsAll.up {vs : List V} {ds : List D} (h : IsAll K H vs ds) (e : Same H H') : IsAll K H' vs ds := IsAll.mono e ds h
theorem IsAll.length : ∀ {vs : List V} {ds : List D}, IsAll K H vs ds → vs.length = ds.length
  | _, _, .nil => rfl
  | _, _, .cons _ h => by rw [List.length_cons, List.length_cons, IsAll.length h]
theorem IsAll.append : ∀ {vs ws : List V} {ds es : List D}, IsAll K H vs ds → IsAll K H ws es → IsAll K H (vs ++ ws) (ds ++ es)
  | _, _, _, _, .nil, h => h
  | _, _, _, _, .cons a b, h => .cons a (IsAll.append b h)
theorem IsAll.get : ∀ {vs : List V} {ds : List D} {i : Nat} {d : D}, IsAll K H vs ds → ds[i]? = some d → ∃ v, vs[i]? = some v ∧ Is K H v d
  | _, _, _, _, .nil, h => by simp at h
  | _, _, 0, _, .cons a _, h => by
    simp at h
    subst h
    exact ⟨_, rfl, a⟩
  | _, _, i + 1, d, .cons _ b, h => by
    obtain ⟨v, e, k⟩ := IsAll.get (i := i) (d := d) b (by simpa using h)
    exact ⟨v, by simpa using e, k⟩
theorem IsAll.getV : ∀ {vs : List V} {ds : List D} {i : Nat} {v : V}, IsAll K H vs ds → vs[i]? = some v → ∃ d, ds[i]? = some d ∧ Is K H v d
  | _, _, _, _, .nil, h => by simp at h
  | _, _, 0, _, .cons a _, h => by
    simp at h
    subst h
    exact ⟨_, rfl, a⟩
  | _, _, i + 1, d, .cons _ b, h => by
    obtain ⟨v, e, k⟩ := IsAll.getV (i := i) (v := d) b (by simpa using h)
    exact ⟨v, by simpa using e, k⟩
theorem IsAll.take : ∀ {vs : List V} {ds : List D} (n : Nat), IsAll K H vs ds → IsAll K H (vs.take n) (ds.take n)
  | _, _, 0, _ => .nil
  | _, _, _ + 1, .nil => .nil
  | _, _, n + 1, .cons a b => .cons a (IsAll.take n b)
theorem IsAll.drop : ∀ {vs : List V} {ds : List D} (n : Nat), IsAll K H vs ds → IsAll K H (vs.drop n) (ds.drop n)
  | _, _, 0, h => h
  | _, _, _ + 1, .nil => .nil
  | _, _, n + 1, .cons _ b => IsAll.drop n b
theorem IsAll.set {x : V} {d : D} (r : Is K H x d) : ∀ {vs : List V} {ds : List D} (i : Nat), IsAll K H vs ds → IsAll K H (vs.set i x) (ds.set i d)
  | _, _, _, .nil => .nil
  | _, _, 0, .cons _ t => .cons r t
  | _, _, i + 1, .cons q t => .cons q (IsAll.set r i t)
theorem IsAll.erase : ∀ {vs : List V} {ds : List D} (i : Nat), IsAll K H vs ds → IsAll K H (vs.eraseIdx i) (ds.eraseIdx i)
  | _, _, _, .nil => .nil
  | _, _, 0, .cons _ t => t
  | _, _, i + 1, .cons q t => .cons q (IsAll.erase i t)
theorem IsAll.rev : ∀ {vs : List V} {ds : List D}, IsAll K H vs ds → IsAll K H vs.reverse ds.reverse
  | _, _, .nil => .nil
  | _, _, .cons q t => by
    rw [List.reverse_cons, List.reverse_cons]
    exact IsAll.append (IsAll.rev t) (.cons q .nil)

/-! trees without lists or dicts -/
mutual
def imm : D → Bool
  | .list _ => false
  | .dict _ => false
  | .tuple ds => immAll ds
  | .none => true
  | .bool _ => true
  | .int _ => true
  | .str _ => true
def immAll : List D → Bool
  | [] => true
  | d :: ds => imm d && immAll ds
end
/-- a list, or no tuple within: what era takes away -/
def NoTup (O : Addr → Prop) (H : Hp) : Prop := ∀ b, O b → ∀ xs, H b ≠ some (.tup xs) ∧ ∀ o, H b ≠ some (.frz o (.tup xs))
mutual
theorem Is.imm {O : Addr → Prop} (n : NoTup O H) : ∀ {v : V} (d : D), imm d = true → Is K H v d → Is K (era O H) v d
  | _, .none, _, h => by cases h; exact .non
  | _, .bool _, _, h => by cases h; exact .bl _
  | _, .int _, _, h => by cases h; exact .int _
  | _, .str _, _, h => by cases h; exact .str _
  | _, .list ds, i, h => by simp [TL.imm] at i
  | _, .tuple ds, i, h => by
    cases h with
    | tup a b =>
      refine .tup ?_ (IsAll.imm n ds (by simpa [TL.imm] using i) b)
      rcases a with (a | ⟨o, a⟩) | a
      · exact .inl (.inl (era_of a fun q => (n _ q _).1 a))
      · exact .inl (.inr ⟨o, era_of a fun q => (n _ q _).2 o a⟩)
      · exact .inr a
  | _, .dict _, i, h => by simp [TL.imm] at i
theorem IsAll.imm {O : Addr → Prop} (n : NoTup O H) : ∀ {vs : List V} (ds : List D), immAll ds = true → IsAll K H vs ds → IsAll K (era O H) vs ds
  | _, [], _, h => by cases h; exact .nil
  | _, d :: ds, i, h => by
    have i' : TL.imm d = true ∧ immAll ds = true := by simpa [immAll] using i
    cases h with
    | cons a b => exact .cons (Is.imm n d i'.1 a) (IsAll.imm n ds i'.2 b)
end

/-! ### to the kit's own data relation -/
mutual
theorem Is.dp : ∀ {v : V} (d : D), PyData.plain d = true → Is K H v d → Dp K H v d
  | _, .none, _, h => by cases h; exact .non
  | _, .bool _, _, h => by cases h; exact .bl _
  | _, .int _, _, h => by cases h; exact .int _
  | _, .str _, _, h => by cases h; exact .str _
  | _, .list ds, i, h => by
    cases h with
    | lst a b => exact .lst (SqL.of a) (IsAll.dp ds (by simpa [PyData.plain] using i) b)
  | _, .tuple ds, i, h => by
    cases h with
    | tup a b => exact .tup a (IsAll.dp ds (by simpa [PyData.plain] using i) b)
  | _, .dict _, i, h => by simp [PyData.plain] at i
theorem IsAll.dp : ∀ {vs : List V} (ds : List D), PyData.plainAll ds = true → IsAll K H vs ds → DpAll K H vs ds
  | _, [], _, h => by cases h; exact .nil
  | _, d :: ds, i, h => by
    have i' : PyData.plain d = true ∧ PyData.plainAll ds = true := by simpa [PyData.plainAll] using i
    cases h with
    | cons a b => exact .cons (Is.dp d i'.1 a) (IsAll.dp ds i'.2 b)
end

/-! ### what the names hold -/
/-- a slot: nothing known, a tree, an address as it is -/
inductive En where
  | no
  | d (x : D)
  | hd (a : Addr)
inductive EnIs (K : PySem.W.Frag) (H : Hp) : Option V → En → Prop
  | no {o : Option V} : EnIs K H o .no
  | d {v : V} {x : D} : Is K H v x → EnIs K H (some v) (.d x)
  | hd {a : Addr} : EnIs K H (some (.ref a)) (.hd a)
inductive EnvIs (K : PySem.W.Frag) (H : Hp) : List (Option V) → List En → Prop
  | nil : EnvIs K H [] []
  | cons {o : Option V} {os : List (Option V)} {e : En} {es : List En} : EnIs K H o e → EnvIs K H os es → EnvIs K H (o :: os) (e :: es)
theorem EnIs.mono (e : Same H H') {o : Option V} {n : En} (h : EnIs K H o n) : EnIs K H' o n := by
  cases h with
  | no => exact .no
  | d a => exact .d (a.up e)
  | hd => exact .hd
theorem EnvIs.mono (e : Same H H') : ∀ {σ : List (Option V)} {ρ : List En}, EnvIs K H σ ρ → EnvIs K H' σ ρ
  | _, _, .nil => .nil
  | _, _, .cons a b => .cons (a.mono e) (EnvIs.mono e b)
theorem EnvIs.length : ∀ {σ : List (Option V)} {ρ : List En}, EnvIs K H σ ρ → σ.length = ρ.length
  | _, _, .nil => rfl
  | _, _, .cons _ b => by rw [List.length_cons, List.length_cons, EnvIs.length b]
theorem EnvIs.get : ∀ {σ : List (Option V)} {ρ : List En} {i : Nat} {n : En}, EnvIs K H σ ρ → ρ[i]? = some n → ∃ o, σ[i]? = some o ∧ EnIs K H o n
  | _, _, _, _, .nil, h => by simp at h
  | _, _, 0, _, .cons a _, h => by
    simp at h
    subst h
    exact ⟨_, rfl, a⟩
  | _, _, i + 1, n, .cons _ b, h => by
    obtain ⟨v, e, k⟩ := EnvIs.get (i := i) (n := n) b (by simpa using h)
    exact ⟨v, by simpa using e, k⟩
theorem EnvIs.set {o : Option V} {n : En} (r : EnIs K H o n) : ∀ {σ : List (Option V)} {ρ : List En} (i : Nat), EnvIs K H σ ρ → EnvIs K H (σ.set i o) (ρ.set i n)
  | _, _, _, .nil => .nil
  | _, _, 0, .cons _ t => .cons r t
  | _, _, i + 1, .cons q t => .cons q (EnvIs.set r i t)
/-- a comprehension's own names are forgotten -/
def wipeE (ρ : List En) : List Nat → List En
  | [] => ρ
  | v :: vs => (wipeE ρ vs).set v .no
theorem EnvIs.wipe {σ : List (Option V)} {ρ : List En} (h : EnvIs K H σ ρ) : ∀ vs : List Nat, EnvIs K H (L2.wipe σ vs) (wipeE ρ vs)
  | [] => h
  | v :: vs => (EnvIs.wipe h vs).set .no v
end TL

/-! TL, part 2: expressions. -/
namespace TL
open PySem L2

/-- what may be written while an expression runs (M), and what holds of it (R) -/
structure Md where
  M : Addr → Prop
  /-- what stands as it is -/
  B : Hp
  R : Hp → Prop
  tr : ∀ H, R H → ∀ a, M a → H a ≠ none
  nt : ∀ H, R H → NoTup M H
  st : ∀ H H', R H → (∀ b o, H b = some o → (M b ∨ B b ≠ none) → H' b = some o) → R H'
/-- nothing is written -/
def md0 : Md := ⟨fun _ => False, fun _ => none, fun _ => True, fun _ _ _ h => h.elim, fun _ _ _ h => h.elim, fun _ _ _ _ => trivial⟩
theorem none_same {H : Hp} : Same (fun _ => none) H := fun _ _ h => (nomatch h)
def Evo (m : Md) (H H' : Hp) : Prop := (∀ b o, H b = some o → ¬ m.M b → H' b = some o) ∧ m.R H'
structure Ok (m : Md) (W : Addr → Prop) (H : Hp) : Prop where
  R : m.R H
  sub : ∀ a, m.M a → W a
  tr : ∀ a, W a → H a ≠ none
  sB : Same m.B H
  dB : ∀ a, W a → m.B a = none
variable {m : Md} {W : Addr → Prop} {H H1 H2 H' : Hp} {K : PySem.W.Frag}
theorem Evo.refl (h : m.R H) : Evo m H H := ⟨fun _ _ e _ => e, h⟩
theorem Evo.trans (a : Evo m H H1) (b : Evo m H1 H2) : Evo m H H2 := ⟨fun x o e n => b.1 x o (a.1 x o e n) n, b.2⟩
theorem Evo.same (h : m.R H) (e : Same H H') : Evo m H H' := ⟨fun b o q _ => e b o q, m.st H H' h fun b o q _ => e b o q⟩
theorem Ok.evo (o : Ok m W H) (e : Evo m H H') : Ok m W H' := ⟨e.2, o.sub, fun a w => by
  by_cases q : m.M a
  · exact m.tr _ e.2 a q
  · cases h : H a with
    | none => exact absurd h (o.tr a w)
    | some x => rw [e.1 a x h q]; simp, fun b u q => e.1 b u (o.sB b u q) fun z => (by
    rw [o.dB b (o.sub b z)] at q
    cases q), o.dB⟩
theorem Ok.noB {p : Addr} (o : Ok m W H) (h : H p = none) : m.B p = none := by
  cases q : m.B p with
  | none => rfl
  | some u =>
    rw [o.sB p u q] at h
    cases h
theorem Ok.view (o : Ok m W H) (e : Evo m H H') : Same (era W H) (era W H') := era_mono (fun b x q n => e.1 b x q fun z => n (o.sub b z)) fun _ z => z
theorem Ok.new {p : Addr} (o : Ok m W H) (h : H p = none) : ¬ W p := fun z => o.tr p z h
theorem same_new {p : Addr} {o : HO} (h : H p = none) : Same H (upd H p o) := fun b u e => by
  rw [upd_ne (ne_of_none e h)]
  exact e

abbrev TD := List En → (D → Prop) → Prop
abbrev TDT := List En → (Bool → Prop) → Prop
abbrev TDA := List En → (List D → Prop) → Prop
section
variable (K : PySem.W.Frag) (m : Md) (W : Addr → Prop)
def tD (d : TD) : TE := fun σ H Q => ∃ ρ P, Ok m W H ∧ EnvIs K (era W H) σ ρ ∧ d ρ P ∧ ∀ v H' x, Evo m H H' → Is K (era W H') v x → P x → Q v H'
/-- a new list -/
def tF (d : TDA) : TE := fun σ H Q => ∃ ρ P, Ok m W H ∧ EnvIs K (era W H) σ ρ ∧ d ρ P ∧
  ∀ p H' xs l, Evo m H H' → H p = none → H' p = some (.lst xs) → IsAll K (era (fun b => W b ∨ b = p) H') xs l → P l → Q (.ref p) H'
def tDT (d : TDT) : TT := fun σ H Q => ∃ ρ P, Ok m W H ∧ EnvIs K (era W H) σ ρ ∧ d ρ P ∧ ∀ b H', Evo m H H' → P b → Q b H'
def tDA (d : TDA) : TA := fun σ H Q => ∃ ρ P, Ok m W H ∧ EnvIs K (era W H) σ ρ ∧ d ρ P ∧ ∀ vs H' l, Evo m H H' → IsAll K (era W H') vs l → P l → Q vs H'
end
def BE (X : Cx) (m : Md) (e : Expr) (d : TD) : Prop := ∀ W, PE X e (tD X.K m W d)
def BF (X : Cx) (m : Md) (e : Expr) (d : TDA) : Prop := ∀ W, PE X e (tF X.K m W d)
def BT (X : Cx) (m : Md) (e : Expr) (d : TDT) : Prop := ∀ W, PT X e (tDT X.K m W d)
def BW (X : Cx) (m : Md) (e : Expr) (d : TDT) : Prop := ∀ W, PW X e (tDT X.K m W d)
def BA (X : Cx) (m : Md) (es : List Expr) (d : TDA) : Prop := ∀ W, PA X es (tDA X.K m W d)

section
variable {X : Cx} {e a b c : Expr} {es : List Expr} {pos p : Pos}
theorem pew {t t' : TE} (h : PE X e t) (k : ∀ σ H Q, t' σ H Q → t σ H Q) : PE X e t' := ⟨fun pins s σ H Q I w => h.run pins s σ H Q I (k σ H Q w)⟩
theorem ptw {t t' : TT} (h : PT X e t) (k : ∀ σ H Q, t' σ H Q → t σ H Q) : PT X e t' := ⟨fun pins s σ H Q I w => h.run pins s σ H Q I (k σ H Q w)⟩
theorem pww {t t' : TT} (h : PW X e t) (k : ∀ σ H Q, t' σ H Q → t σ H Q) : PW X e t' := ⟨fun wh pins s σ H Q I w => h.run wh pins s σ H Q I (k σ H Q w)⟩
theorem paw {t t' : TA} (h : PA X es t) (k : ∀ σ H Q, t' σ H Q → t σ H Q) : PA X es t' := ⟨fun pos pins s σ H Q I w => h.run pos pins s σ H Q I (k σ H Q w)⟩

/-- an expression's end, with what stands behind it -/
theorem tD_at {d : TD} {σ : L2.St} {ρ : List En} {P : D → Prop} {Q : VK} (o : Ok m W H) (n : EnvIs K (era W H) σ ρ) (h : d ρ P)
    (k : ∀ v H' x, Evo m H H' → Ok m W H' → EnvIs K (era W H') σ ρ → Is K (era W H') v x → P x → Q v H') : tD K m W d σ H Q :=
  ⟨ρ, P, o, n, h, fun v H' x e i q => k v H' x e (o.evo e) (n.mono (o.view e)) i q⟩
theorem tDT_at {d : TDT} {σ : L2.St} {ρ : List En} {P : Bool → Prop} {Q : Bool → Hp → Prop} (o : Ok m W H) (n : EnvIs K (era W H) σ ρ) (h : d ρ P)
    (k : ∀ b H', Evo m H H' → Ok m W H' → EnvIs K (era W H') σ ρ → P b → Q b H') : tDT K m W d σ H Q :=
  ⟨ρ, P, o, n, h, fun b H' e q => k b H' e (o.evo e) (n.mono (o.view e)) q⟩
theorem tDA_at {d : TDA} {σ : L2.St} {ρ : List En} {P : List D → Prop} {Q : List V → Hp → Prop} (o : Ok m W H) (n : EnvIs K (era W H) σ ρ) (h : d ρ P)
    (k : ∀ vs H' l, Evo m H H' → Ok m W H' → EnvIs K (era W H') σ ρ → IsAll K (era W H') vs l → P l → Q vs H') : tDA K m W d σ H Q :=
  ⟨ρ, P, o, n, h, fun v H' x e i q => k v H' x e (o.evo e) (n.mono (o.view e)) i q⟩

/-! ### names, constants -/
def dV (i : Nat) : TD := fun ρ P => match ρ[i]? with
  | some (.d x) => P x
  | _ => False
def dC (x : D) : TD := fun _ P => P x
theorem b_var (i : Nat) {x : Str} (hN : X.N[i]? = some x := by rfl) (hv : Vis X.env.scope x := by first | exact Or.inl rfl | exact Or.inr (Or.inl rfl) | exact Or.inr (Or.inr rfl)) (hd : (x == ("__debug__" : Str)) = false := by decide)
    (hcd : (x == ("__classdict__" : Str)) = false := by decide) : BE X m (.Name x pos) (dV i) := fun W => pew (pe_var hN hv hd hcd) fun σ H Q h => by
  obtain ⟨ρ, P, o, n, h, k⟩ := h
  unfold dV at h
  split at h
  · rename_i x e
    obtain ⟨_, e2, i2⟩ := n.get e
    cases i2 with
    | d i2 => exact ⟨_, e2, k _ _ _ (.refl o.R) i2 h⟩
  · exact h.elim
theorem tC_of {v : V} {x : D} (hx : ∀ H, Is K H v x) : ∀ σ H Q, tD K m W (dC x) σ H Q → tC v σ H Q := fun σ H Q ⟨ρ, P, o, n, h, k⟩ => k _ _ _ (.refl o.R) (hx _) h
theorem b_int {i j} : BE X m (.Constant (.int i) j pos) (dC (.int i)) := fun W => pew pe_int (tC_of fun _ => .int i)
theorem b_bl {i j} : BE X m (.Constant (.bool i) j pos) (dC (.bool i)) := fun W => pew pe_bl (tC_of fun _ => .bl i)
theorem b_non {j} : BE X m (.Constant .none j pos) (dC .none) := fun W => pew pe_non (tC_of fun _ => .non)
theorem b_str {x j} : BE X m (.Constant (.str x) j pos) (dC (.str x)) := fun W => pew pe_str (tC_of fun _ => .str x)
/-- a constant of the module -/
theorem b_glob {x : Str} {u : Value} {v : V} {y : D} (hg : Gl X x) (hm : X.mg x = some u) (r : RelV v u) (hx : ∀ H, Is X.K H v y) (hd : (x == ("__debug__" : Str)) = false := by decide) : BE X m (.Name x pos) (dC y) := fun W => pew (pe_glob hg hm r hd) (tC_of hx)

/-! ### operations on values -/
def R1D (K : PySem.W.Frag) (r : V → Hp → VK → Prop) (f : D → (D → Prop) → Prop) : Prop :=
  ∀ W H v x Q P, (∀ a, W a → H a ≠ none) → Is K (era W H) v x → f x P → (∀ z H' t, Same H H' → Is K (era W H') z t → P t → Q z H') → r v H Q
def R2D (K : PySem.W.Frag) (r : R2) (f : D → D → (D → Prop) → Prop) : Prop :=
  ∀ W H v u x y Q P, (∀ a, W a → H a ≠ none) → Is K (era W H) v x → Is K (era W H) u y → f x y P → (∀ z H' t, Same H H' → Is K (era W H') z t → P t → Q z H') → r v u H Q
def RND (K : PySem.W.Frag) (r : List V → Hp → VK → Prop) (f : List D → (D → Prop) → Prop) : Prop :=
  ∀ W H vs l Q P, (∀ a, W a → H a ≠ none) → IsAll K (era W H) vs l → f l P → (∀ z H' t, Same H H' → Is K (era W H') z t → P t → Q z H') → r vs H Q
def d1 (f : D → (D → Prop) → Prop) (da : TD) : TD := fun ρ P => da ρ fun x => f x P
def d2 (f : D → D → (D → Prop) → Prop) (da db : TD) : TD := fun ρ P => da ρ fun x => db ρ fun y => f x y P
def dN (f : List D → (D → Prop) → Prop) (da : TDA) : TD := fun ρ P => da ρ fun l => f l P
theorem d2_to {r : R2} {f : D → D → (D → Prop) → Prop} (hr : R2D K r f) {da db : TD} : ∀ σ H Q, tD K m W (d2 f da db) σ H Q → tOp r (tD K m W da) (tD K m W db) σ H Q := by
  intro σ H Q ⟨ρ, P, o, n, h, k⟩
  refine tD_at o n h fun v H1 x e1 o1 n1 i1 h1 => ?_
  refine tD_at o1 n1 h1 fun u H2 y e2 o2 n2 i2 h2 => ?_
  exact hr W H2 v u x y Q P o2.tr (i1.up (o1.view e2)) i2 h2 fun z H3 t s i q => k z H3 t ((e1.trans e2).trans (.same o2.R s)) i q
theorem b_op {op : Operator} {r : R2} {f : D → D → (D → Prop) → Prop} {da db : TD} (ho : OpR X (binaryOp op) r) (hr : R2D X.K r f) (ha : BE X m a da) (hb : BE X m b db) : BE X m (.BinOp a op b pos) (d2 f da db) := fun W =>
  pew (pe_op ho (ha W) (hb W)) (d2_to hr)
theorem b_un {op : UnaryOp} {r : V → Hp → VK → Prop} {f : D → (D → Prop) → Prop} {da : TD} (ho : UnR X (unaryOp op) r) (hr : R1D X.K r f) (ha : BE X m a da) : BE X m (.UnaryOp op a pos) (d1 f da) := fun W =>
  pew (pe_un ho (ha W)) fun σ H Q ⟨ρ, P, o, n, h, k⟩ => tD_at o n h fun v H1 x e1 o1 n1 i1 h1 =>
    hr W H1 v x Q P o1.tr i1 h1 fun z H3 t s i q => k z H3 t (e1.trans (.same o1.R s)) i q
theorem b_cmp {op : CmpOp} {r : R2} {f : D → D → (D → Prop) → Prop} {da db : TD} (ho : OpR X (compareOp op) r) (hr : R2D X.K r f) (ha : BE X m a da) (hb : BE X m b db) (hm : behindInMarks op b = false) : BE X m (.Compare a [op] [b] pos) (d2 f da db) := fun W =>
  pew (pe_cmpR ho (ha W) (hb W) hm) (d2_to hr)
def asB (d : TD) : TDT := fun ρ P => d ρ fun x => match x with
  | .bool b => P b
  | _ => False
theorem asB_to {t : TE} {d : TD} (ht : ∀ σ H Q, tD K m W d σ H Q → t σ H Q) : ∀ σ H Q, tDT K m W (asB d) σ H Q → tTest t σ H Q := fun σ H Q ⟨ρ, P, o, n, h, k⟩ => by
  refine ht σ H _ ⟨ρ, _, o, n, h, fun v H1 x e1 i1 h1 => ?_⟩
  cases x <;> first | exact h1.elim | skip
  cases i1
  exact ⟨_, rfl, k _ _ e1 h1⟩
theorem bt_cmp {op : CmpOp} {r : R2} {f : D → D → (D → Prop) → Prop} {da db : TD} (ho : OpR X (compareOp op) r) (hr : R2D X.K r f) (ha : BE X m a da) (hb : BE X m b db) (hm : behindInMarks op b = false) : BT X m (.Compare a [op] [b] pos) (asB (d2 f da db)) := fun W =>
  ptw (pt_cmpR ho (ha W) (hb W) hm) (asB_to (d2_to hr))
theorem bt_val {d : TD} (h : BE X m e d) (he : ∀ whole, isTrue e X.env whole = (do let v ← whole; standAt e.pos; holding [v] (truthy v)) := by intro _; rfl) : BT X m e (asB d) := fun W =>
  ptw (pt_val (h W) he) (asB_to fun _ _ _ q => q)
/-- a op b op' c -/
def dCh (f g : D → D → (D → Prop) → Prop) (da db dc : TD) : TD := fun ρ P => da ρ fun x => db ρ fun y => f x y fun z => match z with
  | .bool true => dc ρ fun w => g y w P
  | .bool false => P (.bool false)
  | _ => False
theorem dCh_to {r r' : R2} {f g : D → D → (D → Prop) → Prop} (hr : R2D K r f) (hr' : R2D K r' g) {da db dc : TD} : ∀ σ H Q, tD K m W (dCh f g da db dc) σ H Q → tChain r r' (tD K m W da) (tD K m W db) (tD K m W dc) σ H Q := by
  intro σ H Q ⟨ρ, P, o, n, h, k⟩
  refine tD_at o n h fun v H1 x e1 o1 n1 i1 h1 => ?_
  refine tD_at o1 n1 h1 fun u H2 y e2 o2 n2 i2 h2 => ?_
  refine hr W H2 v u x y _ _ o2.tr (i1.up (o1.view e2)) i2 h2 fun z H3 t s i q => ?_
  cases t <;> first | exact q.elim | skip
  rename_i bb
  cases i
  have e3 : Evo m H2 H3 := .same o2.R s
  cases bb with
  | true =>
    refine ⟨true, rfl, ?_⟩
    rw [if_pos rfl]
    refine tD_at (o2.evo e3) (n2.mono (o2.view e3)) q fun w' H4 t4 e4 o4 n4 i4 h4 => ?_
    exact hr' W H4 u w' y t4 Q P o4.tr ((i2.up (o2.view e3)).up ((o2.evo e3).view e4)) i4 h4 fun z H5 t s i q => k z H5 t ((((e1.trans e2).trans e3).trans e4).trans (.same o4.R s)) i q
  | false =>
    refine ⟨false, rfl, ?_⟩
    rw [if_neg Bool.false_ne_true]
    exact k _ _ _ ((e1.trans e2).trans e3) (.bl false) q
theorem b_chain {op op' : CmpOp} {r r' : R2} {f g : D → D → (D → Prop) → Prop} {da db dc : TD} (ho : OpR X (compareOp op) r) (hr : R2D X.K r f) (ho' : OpR X (compareOp op') r') (hr' : R2D X.K r' g) (ha : BE X m a da) (hb : BE X m b db) (hc : BE X m c dc)
    (hm : lastMarks [op, op'] [b, c] = false := by with_unfolding_all rfl) : BE X m (.Compare a [op, op'] [b, c] pos) (dCh f g da db dc) := fun W => pew (pe_chain ho ho' (ha W) (hb W) (hc W) hm) (dCh_to hr hr')
theorem bt_chain {op op' : CmpOp} {r r' : R2} {f g : D → D → (D → Prop) → Prop} {da db dc : TD} (ho : OpR X (compareOp op) r) (hr : R2D X.K r f) (ho' : OpR X (compareOp op') r') (hr' : R2D X.K r' g) (ha : BE X m a da) (hb : BE X m b db) (hc : BE X m c dc)
    (hm : lastMarks [op, op'] [b, c] = false := by with_unfolding_all rfl) : BT X m (.Compare a [op, op'] [b, c] pos) (asB (dCh f g da db dc)) := fun W => ptw (pt_chain ho ho' (ha W) (hb W) (hc W) hm) (asB_to (dCh_to hr hr'))

/-! ### and, or, not, if -/
def dtAnd (t u : TDT) : TDT := fun ρ P => t ρ fun c => match c with
  | true => u ρ P
  | false => P false
def dtOr (t u : TDT) : TDT := fun ρ P => t ρ fun c => match c with
  | true => P true
  | false => u ρ P
def dtNot (t : TDT) : TDT := fun ρ P => t ρ fun c => P (!c)
theorem dtAnd_to {t u : TDT} : ∀ σ H Q, tDT K m W (dtAnd t u) σ H Q → tAnd (tDT K m W t) (tDT K m W u) σ H Q := fun σ H Q ⟨ρ, P, o, n, h, k⟩ => tDT_at o n h fun c H1 e1 o1 n1 h1 => by
  cases c with
  | true =>
    rw [if_pos rfl]
    exact ⟨ρ, P, o1, n1, h1, fun b H2 e2 q => k b H2 (e1.trans e2) q⟩
  | false =>
    rw [if_neg Bool.false_ne_true]
    exact k _ _ e1 h1
theorem dtOr_to {t u : TDT} : ∀ σ H Q, tDT K m W (dtOr t u) σ H Q → tOr (tDT K m W t) (tDT K m W u) σ H Q := fun σ H Q ⟨ρ, P, o, n, h, k⟩ => tDT_at o n h fun c H1 e1 o1 n1 h1 => by
  cases c with
  | true =>
    rw [if_pos rfl]
    exact k _ _ e1 h1
  | false =>
    rw [if_neg Bool.false_ne_true]
    exact ⟨ρ, P, o1, n1, h1, fun b H2 e2 q => k b H2 (e1.trans e2) q⟩
theorem bw_and1 {t : TDT} (ha : BT X m a t) : BW X m (.BoolOp .And [a] pos) t := fun W => pw_and1 (ha W)
theorem bw_or1 {t : TDT} (ha : BT X m a t) : BW X m (.BoolOp .Or [a] pos) t := fun W => pw_or1 (ha W)
theorem bw_and {t u : TDT} (ha : BT X m a t) (hb : BW X m (.BoolOp .And (b :: es) pos) u) : BW X m (.BoolOp .And (a :: b :: es) pos) (dtAnd t u) := fun W => pww (pw_and (ha W) (hb W)) dtAnd_to
theorem bw_or {t u : TDT} (ha : BT X m a t) (hb : BW X m (.BoolOp .Or (b :: es) pos) u) : BW X m (.BoolOp .Or (a :: b :: es) pos) (dtOr t u) := fun W => pww (pw_or (ha W) (hb W)) dtOr_to
theorem bt_w {t : TDT} (h : BW X m e t) : BT X m e t := fun W => (h W).pt
theorem bt_not {t : TDT} (ha : BT X m a t) : BT X m (.UnaryOp .Not a pos) (dtNot t) := fun W => ptw (pt_not (ha W)) fun σ H Q ⟨ρ, P, o, n, h, k⟩ => tDT_at o n h fun c H1 e1 o1 n1 h1 => k _ _ e1 h1
/-- as values: all but the last a bool -/
def dAndV (da db : TD) : TD := fun ρ P => da ρ fun x => match x with
  | .bool true => db ρ P
  | .bool false => P (.bool false)
  | _ => False
def dOrV (da db : TD) : TD := fun ρ P => da ρ fun x => match x with
  | .bool true => P (.bool true)
  | .bool false => db ρ P
  | _ => False
def dNotV (da : TD) : TD := fun ρ P => da ρ fun x => match x with
  | .bool b => P (.bool (!b))
  | _ => False
theorem b_one {op : BoolOp} {da : TD} (ha : BE X m a da) : BE X m (.BoolOp op [a] pos) da := fun W => pe_one (ha W)
theorem b_and {da db : TD} (ha : BE X m a da) (hb : BE X m (.BoolOp .And (b :: es) pos) db) : BE X m (.BoolOp .And (a :: b :: es) pos) (dAndV da db) := fun W => pew (pe_and (ha W) (hb W)) fun σ H Q ⟨ρ, P, o, n, h, k⟩ => tD_at o n h fun v H1 x e1 o1 n1 i1 h1 => by
  cases x <;> first | exact h1.elim | skip
  rename_i c
  cases i1
  refine ⟨c, rfl, ?_⟩
  cases c with
  | true =>
    rw [if_pos rfl]
    exact ⟨ρ, P, o1, n1, h1, fun v H2 x e2 i q => k v H2 x (e1.trans e2) i q⟩
  | false =>
    rw [if_neg Bool.false_ne_true]
    exact k _ _ _ e1 (.bl false) h1
theorem b_or {da db : TD} (ha : BE X m a da) (hb : BE X m (.BoolOp .Or (b :: es) pos) db) : BE X m (.BoolOp .Or (a :: b :: es) pos) (dOrV da db) := fun W => pew (pe_or (ha W) (hb W)) fun σ H Q ⟨ρ, P, o, n, h, k⟩ => tD_at o n h fun v H1 x e1 o1 n1 i1 h1 => by
  cases x <;> first | exact h1.elim | skip
  rename_i c
  cases i1
  refine ⟨c, rfl, ?_⟩
  cases c with
  | false =>
    rw [if_neg Bool.false_ne_true]
    exact ⟨ρ, P, o1, n1, h1, fun v H2 x e2 i q => k v H2 x (e1.trans e2) i q⟩
  | true =>
    rw [if_pos rfl]
    exact k _ _ _ e1 (.bl true) h1
theorem b_not {da : TD} (ha : BE X m a da) : BE X m (.UnaryOp .Not a pos) (dNotV da) := fun W => pew (pe_not (ha W)) fun σ H Q ⟨ρ, P, o, n, h, k⟩ => tD_at o n h fun v H1 x e1 o1 n1 i1 h1 => by
  cases x <;> first | exact h1.elim | skip
  cases i1
  exact ⟨_, rfl, k _ _ _ e1 (.bl _) h1⟩
def dIte (t : TDT) (da db : TD) : TD := fun ρ P => t ρ fun c => match c with
  | true => da ρ P
  | false => db ρ P
theorem b_if {t : TDT} {da db : TD} (hc : BT X m c t) (ha : BE X m a da) (hb : BE X m b db) : BE X m (.IfExp c a b pos) (dIte t da db) := fun W => pew (pe_ifExp (hc W) (ha W) (hb W)) fun σ H Q ⟨ρ, P, o, n, h, k⟩ => tDT_at o n h fun c H1 e1 o1 n1 h1 => by
  cases c with
  | true =>
    rw [if_pos rfl]
    exact ⟨ρ, P, o1, n1, h1, fun v H2 x e2 i q => k v H2 x (e1.trans e2) i q⟩
  | false =>
    rw [if_neg Bool.false_ne_true]
    exact ⟨ρ, P, o1, n1, h1, fun v H2 x e2 i q => k v H2 x (e1.trans e2) i q⟩

/-! ### arguments, displays -/
def dNil : TDA := fun _ P => P []
def dCons (da : TD) (dr : TDA) : TDA := fun ρ P => da ρ fun x => dr ρ fun l => P (x :: l)
theorem ba_nil : BA X m [] dNil := fun W => paw pa_nil fun σ H Q ⟨ρ, P, o, n, h, k⟩ => k _ _ _ (.refl o.R) .nil h
theorem ba_cons {da : TD} {dr : TDA} (ha : BE X m e da) (hr : BA X m es dr) (hs : starEach (e :: es) X.env = (false, eval e X.env) :: starEach es X.env := by rfl) : BA X m (e :: es) (dCons da dr) := fun W =>
  paw (pa_cons (ha W) (hr W) hs) fun σ H Q ⟨ρ, P, o, n, h, k⟩ => tD_at o n h fun v H1 x e1 o1 n1 i1 h1 => tDA_at o1 n1 h1 fun vs H2 l e2 o2 n2 i2 h2 =>
    k _ _ _ (e1.trans e2) (.cons (i1.up (o1.view e2)) i2) h2
def dTup (da : TDA) : TD := fun ρ P => da ρ fun l => l.length ≤ 100000 ∧ P (.tuple l)
def dLst (da : TDA) : TDA := fun ρ P => da ρ fun l => l.length ≤ 100000 ∧ P l
theorem len_ok {n : Nat} (h : n ≤ 100000) : n ≤ sizeLine := Nat.le_trans h (by decide)
theorem is_new_tup {vs : List V} {l : List D} {p : Addr} (o : Ok m W H) (hp : H p = none) (i : IsAll K (era W H) vs l) : Is K (era W (upd H p (.tup vs))) (.ref p) (.tuple l) :=
  .tup (.inl (.inl (era_of upd_same (o.new hp)))) (i.up (era_mono (fun b x q _ => same_new hp b x q) fun _ z => z))
theorem b_tup {da : TDA} {x1} (ha : BA X m es da) : BE X m (.Tuple es x1 pos) (dTup da) := fun W => pew (pe_tup (ha W)) fun σ H Q ⟨ρ, P, o, n, h, k⟩ => tDA_at o n h fun vs H1 l e1 o1 n1 i1 ⟨hl, h1⟩ =>
  ⟨len_ok (by rw [i1.length]; exact hl), fun p hp => k _ _ _ (e1.trans (.same o1.R (same_new hp))) (is_new_tup o1 hp i1) h1⟩
theorem back_none {p : Addr} (e : Evo m H H') (o : Ok m W H) (h : H' p = none) : H p = none := by
  by_cases q : m.M p
  · exact absurd h (m.tr _ e.2 p q)
  · cases z : H p with
    | none => rfl
    | some x =>
      rw [e.1 p x z q] at h
      cases h
theorem new_list {vs : List V} {l : List D} {p : Addr} (o : Ok m W H) (hp : H p = none) (i : IsAll K (era W H) vs l) : IsAll K (era (fun b => W b ∨ b = p) (upd H p (.lst vs))) vs l :=
  i.up fun b x q => era_of (same_new hp b x (era_to q).1) fun z => z.elim (era_to q).2 fun z => by
    rw [z] at q
    exact absurd (era_to q).1 (by rw [hp]; exact fun z => nomatch z)
theorem f_lst {da : TDA} (ha : BA X m es da) : BF X m (.List es pos) (dLst da) := fun W => pew (pe_lst (ha W)) fun σ H Q ⟨ρ, P, o, n, h, k⟩ => tDA_at o n h fun vs H1 l e1 o1 n1 i1 ⟨hl, h1⟩ =>
  ⟨len_ok (by rw [i1.length]; exact hl), fun p hp => k p _ vs l (e1.trans (.same o1.R (same_new hp))) (back_none e1 o hp) upd_same (new_list o1 hp i1) h1⟩
/-- a new list is a list -/
def asL (d : TDA) : TD := fun ρ P => d ρ fun l => P (.list l)
theorem b_f {d : TDA} (h : BF X m e d) : BE X m e (asL d) := fun W => pew (h W) fun σ H Q ⟨ρ, P, o, n, h, k⟩ => ⟨ρ, _, o, n, h, fun p H' xs l e1 hp hx i q =>
  k _ _ _ e1 (.lst (era_of hx (o.new hp)) (i.up (era_mono (fun b x q _ => q) fun b z => .inl z))) q⟩

/-! ### built-ins by their names -/
theorem dN_to {r : List V → Hp → VK → Prop} {f : List D → (D → Prop) → Prop} (hr : RND K r f) {da : TDA} : ∀ σ H Q, tD K m W (dN f da) σ H Q → tCB r (tDA K m W da) σ H Q := fun σ H Q ⟨ρ, P, o, n, h, k⟩ =>
  tDA_at o n h fun vs H1 l e1 o1 n1 i1 h1 => hr W H1 vs l Q P o1.tr i1 h1 fun z H3 t s i q => k z H3 t (e1.trans (.same o1.R s)) i q
theorem b_cB {id : String} {x : Str} {r : List V → Hp → VK → Prop} {f : List D → (D → Prop) → Prop} {da : TDA} (hc : CallR X (.builtin id) r) (hr : RND X.K r f) (hg : Gl X x) (hm : X.mg x = none) (hv : bootBuiltins x = some (.builtin id)) (ha : BA X m (e :: es) da) (hn : x ≠ "__name__" := by decide) (hdb : (x == ("__debug__" : Str)) = false := by decide)
    (he : starEach (e :: es) X.env = (false, eval e X.env) :: starEach es X.env := by rfl) (hpl : (backTo pos (starEach es X.env)).any (·.1) = false := by rfl) : BE X m (.Call (.Name x p) (e :: es) [] pos) (dN f da) := fun W =>
  pew (pe_callB hc hg hm hv (ha W) hn hdb he hpl) (dN_to hr)
theorem b_cTy {T : String} {x : Str} {r : List V → Hp → VK → Prop} {f : List D → (D → Prop) → Prop} {da : TDA} (hc : CallR X (.type T) r) (hr : RND X.K r f) (hg : Gl X x) (hm : X.mg x = none) (hv : bootBuiltins x = some (.type T)) (ha : BA X m (e :: es) da) (hn : x ≠ "__name__" := by decide) (hdb : (x == ("__debug__" : Str)) = false := by decide)
    (he : starEach (e :: es) X.env = (false, eval e X.env) :: starEach es X.env := by rfl) (hpl : (backTo pos (starEach es X.env)).any (·.1) = false := by rfl) : BE X m (.Call (.Name x p) (e :: es) [] pos) (dN f da) := fun W =>
  pew (pe_callTy hc hg hm hv (ha W) hn hdb he hpl) (dN_to hr)
/-- .. that give a new list -/
def RNF (K : PySem.W.Frag) (r : List V → Hp → VK → Prop) (f : List D → (List D → Prop) → Prop) : Prop :=
  ∀ W H vs l Q P, (∀ a, W a → H a ≠ none) → IsAll K (era W H) vs l → f l P → (∀ p H' xs t, Same H H' → H p = none → H' p = some (.lst xs) → IsAll K (era (fun b => W b ∨ b = p) H') xs t → P t → Q (.ref p) H') → r vs H Q
def dNF (f : List D → (List D → Prop) → Prop) (da : TDA) : TDA := fun ρ P => da ρ fun l => f l P
theorem dNF_to {r : List V → Hp → VK → Prop} {f : List D → (List D → Prop) → Prop} (hr : RNF K r f) {da : TDA} : ∀ σ H Q, tF K m W (dNF f da) σ H Q → tCB r (tDA K m W da) σ H Q := fun σ H Q ⟨ρ, P, o, n, h, k⟩ =>
  tDA_at o n h fun vs H1 l e1 o1 n1 i1 h1 => hr W H1 vs l Q P o1.tr i1 h1 fun p H3 xs t s hp hx i q => k p H3 xs t (e1.trans (.same o1.R s)) (back_none e1 o hp) hx i q
theorem f_cB {id : String} {x : Str} {r : List V → Hp → VK → Prop} {f : List D → (List D → Prop) → Prop} {da : TDA} (hc : CallR X (.builtin id) r) (hr : RNF X.K r f) (hg : Gl X x) (hm : X.mg x = none) (hv : bootBuiltins x = some (.builtin id)) (ha : BA X m (e :: es) da) (hn : x ≠ "__name__" := by decide) (hdb : (x == ("__debug__" : Str)) = false := by decide)
    (he : starEach (e :: es) X.env = (false, eval e X.env) :: starEach es X.env := by rfl) (hpl : (backTo pos (starEach es X.env)).any (·.1) = false := by rfl) : BF X m (.Call (.Name x p) (e :: es) [] pos) (dNF f da) := fun W =>
  pew (pe_callB hc hg hm hv (ha W) hn hdb he hpl) (dNF_to hr)
theorem f_cTy {T : String} {x : Str} {r : List V → Hp → VK → Prop} {f : List D → (List D → Prop) → Prop} {da : TDA} (hc : CallR X (.type T) r) (hr : RNF X.K r f) (hg : Gl X x) (hm : X.mg x = none) (hv : bootBuiltins x = some (.type T)) (ha : BA X m (e :: es) da) (hn : x ≠ "__name__" := by decide) (hdb : (x == ("__debug__" : Str)) = false := by decide)
    (he : starEach (e :: es) X.env = (false, eval e X.env) :: starEach es X.env := by rfl) (hpl : (backTo pos (starEach es X.env)).any (·.1) = false := by rfl) : BF X m (.Call (.Name x p) (e :: es) [] pos) (dNF f da) := fun W =>
  pew (pe_callTy hc hg hm hv (ha W) hn hdb he hpl) (dNF_to hr)
/-- .. that give a new list, of two operands -/
def R2F (K : PySem.W.Frag) (r : R2) (f : D → D → (List D → Prop) → Prop) : Prop :=
  ∀ W H v u x y Q P, (∀ a, W a → H a ≠ none) → Is K (era W H) v x → Is K (era W H) u y → f x y P → (∀ p H' xs t, Same H H' → H p = none → H' p = some (.lst xs) → IsAll K (era (fun b => W b ∨ b = p) H') xs t → P t → Q (.ref p) H') → r v u H Q
def d2F (f : D → D → (List D → Prop) → Prop) (da db : TD) : TDA := fun ρ P => da ρ fun x => db ρ fun y => f x y P
theorem f_op {op : Operator} {r : R2} {f : D → D → (List D → Prop) → Prop} {da db : TD} (ho : OpR X (binaryOp op) r) (hr : R2F X.K r f) (ha : BE X m a da) (hb : BE X m b db) : BF X m (.BinOp a op b pos) (d2F f da db) := fun W =>
  pew (pe_op ho (ha W) (hb W)) fun σ H Q ⟨ρ, P, o, n, h, k⟩ => tD_at o n h fun v H1 x e1 o1 n1 i1 h1 => tD_at o1 n1 h1 fun u H2 y e2 o2 n2 i2 h2 =>
    hr W H2 v u x y Q P o2.tr (i1.up (o1.view e2)) i2 h2 fun p H3 xs t s hp hx i q => k p H3 xs t ((e1.trans e2).trans (.same o2.R s)) (back_none (e1.trans e2) o hp) hx i q

/-! ### items, slices -/
theorem b_ix {r : R2} {f : D → D → (D → Prop) → Prop} {da db : TD} (ho : IxR X r) (hr : R2D X.K r f) (ha : BE X m a da) (hb : BE X m b db) (hs : PlainIx b := by exact fun _ _ => rfl) : BE X m (.Subscript a b pos) (d2 f da db) := fun W =>
  pew (pe_ix ho (ha W) (hb W) hs) (d2_to hr)
abbrev TDO := List En → (Option Int → Prop) → Prop
def tDO (K : PySem.W.Frag) (m : Md) (W : Addr → Prop) (d : TDO) : TO := fun σ H Q => ∃ ρ P, Ok m W H ∧ EnvIs K (era W H) σ ρ ∧ d ρ P ∧ ∀ i H', Evo m H H' → P i → Q i H'
def BO (X : Cx) (m : Md) (e : Option Expr) (d : TDO) : Prop := ∀ W, PO X e (tDO X.K m W d)
theorem pow {e : Option Expr} {t t' : TO} (h : PO X e t) (k : ∀ σ H Q, t' σ H Q → t σ H Q) : PO X e t' := ⟨fun pins s σ H Q I w => h.run pins s σ H Q I (k σ H Q w)⟩
def dNo : TDO := fun _ P => P none
def dSome (d : TD) : TDO := fun ρ P => d ρ fun x => match x with
  | .int i => P (some i)
  | _ => False
theorem bo_none : BO X m none dNo := fun W => pow po_none fun σ H Q ⟨ρ, P, o, n, h, k⟩ => k _ _ (.refl o.R) h
theorem bo_some {d : TD} (h : BE X m e d) : BO X m (some e) (dSome d) := fun W => pow (po_some (h W)) fun σ H Q ⟨ρ, P, o, n, h, k⟩ => tD_at o n h fun v H1 x e1 o1 n1 i1 h1 => by
  cases x <;> first | exact h1.elim | skip
  cases i1
  exact ⟨_, rfl, k _ _ e1 h1⟩
def cutD (xs : List D) (lo hi : Option Int) : List D := (xs.drop (HT.sIx xs.length 0 lo)).take (HT.sIx xs.length xs.length hi - HT.sIx xs.length 0 lo)
theorem IsAll.cut {vs : List V} {ds : List D} (h : IsAll K H vs ds) (lo hi : Option Int) : IsAll K H (cutV vs lo hi) (cutD ds lo hi) := by
  unfold cutV cutD
  rw [h.length]
  exact (h.drop _).take _
def dSlT (da : TD) (dl dh : TDO) : TD := fun ρ P => da ρ fun x => dl ρ fun lo => dh ρ fun hi => match x with
  | .tuple l => P (.tuple (cutD l lo hi))
  | _ => False
theorem cut_whole {l : List D} {lo hi : Option Int} (h : HT.sIx l.length 0 lo = 0 ∧ HT.sIx l.length l.length hi = l.length) : cutD l lo hi = l := by
  unfold cutD
  rw [h.1, h.2]
  simp
theorem b_slT {da : TD} {dl dh : TDO} {lo hi : Option Expr} {p2 : Pos} (ha : BE X m e da) (hl : BO X m lo dl) (hh : BO X m hi dh) : BE X m (.Subscript e (.Slice lo hi none p2) pos) (dSlT da dl dh) := fun W =>
  pew (pe_slice sl_tupA (ha W) (hl W) (hh W)) fun σ H Q ⟨ρ, P, o, n, h, k⟩ => tD_at o n h fun v H1 x e1 o1 n1 i1 h1 => ⟨ρ, _, o1, n1, h1, fun lo H2 e2 h2 =>
    have o2 := o1.evo e2
    have n2 := n1.mono (o1.view e2)
    ⟨ρ, _, o2, n2, h2, fun hi H3 e3 h3 => by
      have o3 := o2.evo e3
      cases x <;> first | exact h3.elim | skip
      rename_i l
      have i3 := (i1.up (o1.view e2)).up (o2.view e3)
      cases i3 with
      | @tup a xs _ hs ha =>
        have E := (e1.trans e2).trans e3
        refine ⟨a, xs, rfl, sqT_mono era_sub hs, fun hw => ?_, fun _ p hp => ?_⟩
        · rw [ha.length] at hw
          have q : P (.tuple (cutD l lo hi)) := h3
          rw [cut_whole hw] at q
          exact k _ _ _ E (.tup hs ha) q
        · exact k _ _ _ (E.trans (.same o3.R (same_new hp))) (is_new_tup o3 hp (ha.cut lo hi)) h3⟩⟩
def dSlL (da : TD) (dl dh : TDO) : TDA := fun ρ P => da ρ fun x => dl ρ fun lo => dh ρ fun hi => match x with
  | .list l => P (cutD l lo hi)
  | _ => False
theorem f_slL {da : TD} {dl dh : TDO} {lo hi : Option Expr} {p2 : Pos} (ha : BE X m e da) (hl : BO X m lo dl) (hh : BO X m hi dh) : BF X m (.Subscript e (.Slice lo hi none p2) pos) (dSlL da dl dh) := fun W =>
  pew (pe_slice sl_list (ha W) (hl W) (hh W)) fun σ H Q ⟨ρ, P, o, n, h, k⟩ => tD_at o n h fun v H1 x e1 o1 n1 i1 h1 => ⟨ρ, _, o1, n1, h1, fun lo H2 e2 h2 =>
    have o2 := o1.evo e2
    have n2 := n1.mono (o1.view e2)
    ⟨ρ, _, o2, n2, h2, fun hi H3 e3 h3 => by
      have o3 := o2.evo e3
      cases x <;> first | exact h3.elim | skip
      rename_i l
      have i3 := (i1.up (o1.view e2)).up (o2.view e3)
      cases i3 with
      | @lst a xs _ hs ha =>
        have E := (e1.trans e2).trans e3
        exact ⟨a, xs, rfl, SqL.of (era_to hs).1, fun p hp => k p _ _ _ (E.trans (.same o3.R (same_new hp))) (back_none E o hp) upd_same (new_list o3 hp (ha.cut lo hi)) h3⟩⟩⟩
end
end TL

/-! TL, part 3: operations and built-ins on trees. -/
namespace TL
open PySem L2
open PyProof.Rows (b2i)
variable {K : PySem.W.Frag} {X : Cx} {m : Md}

/-! ### numbers -/
def fPlus : D → D → (D → Prop) → Prop
  | .int i, .int j, P => P (.int (i + j))
  | .tuple a, .tuple b, P => a.length + b.length ≤ 100000 ∧ P (.tuple (a ++ b))
  | .int i, .bool b, P => P (.int (i + b2i b))
  | _, _, _ => False
def rPlus (K : PySem.W.Frag) : R2 := fun x y H Q => (rI0 (fun i j => .int (i + j)) x y H Q) ∨ rCatA K x y H Q ∨ (∃ i k, x = .int i ∧ y = .bl k ∧ Q (.int (i + b2i k)) H)
theorem op_plus : OpR X (binaryOp .Add) (rPlus X.K) := OpR.or op_add (OpR.or op_catA op_add_ib)
theorem same_refl (H : Hp) : Same H H := fun _ _ h => h
theorem new_tup {W : Addr → Prop} {H : Hp} {vs : List V} {l : List D} {p : Addr} (tr : ∀ a, W a → H a ≠ none) (hp : H p = none) (i : IsAll K (era W H) vs l) : Is K (era W (upd H p (.tup vs))) (.ref p) (.tuple l) :=
  .tup (.inl (.inl (era_of upd_same fun z => tr p z hp))) (i.up (era_mono (fun b x q _ => same_new hp b x q) fun _ z => z))
theorem rd_plus : R2D K (rPlus K) fPlus := by
  intro W H v u x y Q P tr hv hu h k
  cases hv with
  | int i =>
    cases hu with
    | int j => exact .inl ⟨i, j, rfl, rfl, k _ _ _ (same_refl _) (.int _) h⟩
    | bl j => exact .inr (.inr ⟨i, j, rfl, rfl, k _ _ _ (same_refl _) (.int _) h⟩)
    | _ => exact h.elim
  | @tup a xs ds hs ha =>
    cases hu with
    | @tup b ys es hs' hb =>
      obtain ⟨hl, h⟩ : ds.length + es.length ≤ 100000 ∧ P (.tuple (ds ++ es)) := h
      refine .inr (.inl ⟨a, b, xs, ys, rfl, rfl, sqT_mono era_sub hs, sqT_mono era_sub hs', len_ok (by rw [ha.length, hb.length]; exact hl), fun e => ?_, fun _ e => ?_, fun _ _ p hp => ?_⟩)
      · subst e
        cases ha
        exact k _ _ _ (same_refl _) (.tup hs' hb) h
      · subst e
        cases hb
        rw [List.append_nil] at h
        exact k _ _ _ (same_refl _) (.tup hs ha) h
      · exact k _ _ _ (same_new hp) (new_tup tr hp (ha.append hb)) h
    | _ => exact h.elim
  | _ => exact h.elim
def fI (C : Int → Int → Prop) (g : Int → Int → Int) : D → D → (D → Prop) → Prop
  | .int i, .int j, P => C i j ∧ P (.int (g i j))
  | _, _, _ => False
def fI0 (g : Int → Int → Int) : D → D → (D → Prop) → Prop
  | .int i, .int j, P => P (.int (g i j))
  | _, _, _ => False
theorem rd_I {C : Int → Int → Prop} {g : Int → Int → Int} : R2D K (rI C fun i j => .int (g i j)) (fI C g) := by
  intro W H v u x y Q P tr hv hu h k
  cases hv with
  | int i =>
    cases hu with
    | int j => exact ⟨i, j, rfl, rfl, h.1, k _ _ _ (same_refl _) (.int _) h.2⟩
    | _ => exact h.elim
  | _ => exact h.elim
theorem rd_I0 {g : Int → Int → Int} : R2D K (rI0 fun i j => .int (g i j)) (fI0 g) := by
  intro W H v u x y Q P tr hv hu h k
  cases hv with
  | int i =>
    cases hu with
    | int j => exact ⟨i, j, rfl, rfl, k _ _ _ (same_refl _) (.int _) h⟩
    | _ => exact h.elim
  | _ => exact h.elim
def fNeg : D → (D → Prop) → Prop
  | .int i, P => P (.int (-i))
  | _, _ => False
theorem rd_neg : R1D K (rU fun i => .int (-i)) fNeg := by
  intro W H v x Q P tr hv h k
  cases hv with
  | int i => exact ⟨i, rfl, k _ _ _ (same_refl _) (.int _) h⟩
  | _ => exact h.elim

/-! ### comparisons -/
def isNone : D → Bool
  | .none => true
  | _ => false
/-- < and its kin: intsD; data that are alike -/
def ordOk (x y : D) : Bool := PySem.W.alike x y && x.plain && y.plain && !isNone x && decide (x.depth ≤ 60)
def fOrd (g : Int → Int → Bool) (gd : D → D → Bool) : D → D → (D → Prop) → Prop
  | .int i, .int j, P => P (.bool (g i j))
  | x, y, P => ordOk x y = true ∧ P (.bool (gd x y))
def rOrd (K : PySem.W.Frag) (gd : D → D → Bool) : R2 := fun x y H Q => ∃ d e, Dp K H x d ∧ Dp K H y e ∧ ordOk d e = true ∧ Q (.bl (gd d e)) H
theorem ordOk_all {x y : D} (h : ordOk x y = true) : PySem.W.alike x y = true ∧ x.plain = true ∧ y.plain = true ∧ x ≠ .none ∧ x.depth ≤ 60 := by
  unfold ordOk at h
  simp only [Bool.and_eq_true, decide_eq_true_eq, Bool.not_eq_true'] at h
  obtain ⟨⟨⟨⟨a, b⟩, c⟩, d⟩, e⟩ := h
  exact ⟨a, b, c, (by intro z; rw [z] at d; exact Bool.noConfusion d), e⟩
theorem ord_room {A : Around} {d e : D} (hu : A.units + 64 < cLine) (h : d.depth ≤ 60) : A.units + min d.depth e.depth < cLine := by
  have := Nat.min_le_left d.depth e.depth
  omega
theorem op_ltD (hu : X.A.units + 64 < cLine) : OpR X (compareOp .Lt) (rOrd X.K PySem.W.dataLt) := by
  intro pins s σ H x y v u Q I rx ry ⟨d, e, hd, he, ok, q⟩
  obtain ⟨h1, h2, h3, h4, h5⟩ := ordOk_all ok
  obtain ⟨as, r1⟩ := Dp.reads I d x v hd rx
  obtain ⟨bs, r2⟩ := Dp.reads I e y u he ry
  exact PySem.W.lt_data r1 r2 h1 h4 (ord_room hu h5) ⟨.bl _, H, I, rfl, q⟩
theorem op_gtD (hu : X.A.units + 64 < cLine) : OpR X (compareOp .Gt) (rOrd X.K fun d e => PySem.W.dataLt e d) := by
  intro pins s σ H x y v u Q I rx ry ⟨d, e, hd, he, ok, q⟩
  obtain ⟨h1, h2, h3, h4, h5⟩ := ordOk_all ok
  obtain ⟨as, r1⟩ := Dp.reads I d x v hd rx
  obtain ⟨bs, r2⟩ := Dp.reads I e y u he ry
  exact PySem.W.gt_data r1 r2 h1 h4 (ord_room hu h5) ⟨.bl _, H, I, rfl, q⟩
theorem op_leD (hu : X.A.units + 64 < cLine) : OpR X (compareOp .LtE) (rOrd X.K fun d e => !PySem.W.dataLt e d) := by
  intro pins s σ H x y v u Q I rx ry ⟨d, e, hd, he, ok, q⟩
  obtain ⟨h1, h2, h3, h4, h5⟩ := ordOk_all ok
  obtain ⟨as, r1⟩ := Dp.reads I d x v hd rx
  obtain ⟨bs, r2⟩ := Dp.reads I e y u he ry
  exact PySem.W.le_data r1 r2 h1 h4 (ord_room hu h5) ⟨.bl _, H, I, rfl, q⟩
theorem op_geD (hu : X.A.units + 64 < cLine) : OpR X (compareOp .GtE) (rOrd X.K fun d e => !PySem.W.dataLt d e) := by
  intro pins s σ H x y v u Q I rx ry ⟨d, e, hd, he, ok, q⟩
  obtain ⟨h1, h2, h3, h4, h5⟩ := ordOk_all ok
  obtain ⟨as, r1⟩ := Dp.reads I d x v hd rx
  obtain ⟨bs, r2⟩ := Dp.reads I e y u he ry
  exact PySem.W.ge_data r1 r2 h1 h4 (ord_room hu h5) ⟨.bl _, H, I, rfl, q⟩
theorem rd_ord {g : Int → Int → Bool} {gd : D → D → Bool} : R2D K (fun x y H Q => rI0 (fun i j => .bl (g i j)) x y H Q ∨ rOrd K gd x y H Q) (fOrd g gd) := by
  intro W H v u x y Q P tr hv hu h k
  unfold fOrd at h
  split at h
  · cases hv
    cases hu
    exact .inl ⟨_, _, rfl, rfl, k _ _ _ (same_refl _) (.bl _) h⟩
  · obtain ⟨ok, h⟩ := h
    obtain ⟨h1, h2, h3, h4, h5⟩ := ordOk_all ok
    exact .inr ⟨x, y, (hv.up era_sub).dp _ h2, (hu.up era_sub).dp _ h3, ok, k _ _ _ (same_refl _) (.bl _) h⟩
abbrev fLt := fOrd (fun i j => decide (i < j)) PySem.W.dataLt
abbrev fGt := fOrd (fun i j => decide (j < i)) fun d e => PySem.W.dataLt e d
abbrev fLe := fOrd (fun i j => decide (i ≤ j)) fun d e => !PySem.W.dataLt e d
abbrev fGe := fOrd (fun i j => decide (j ≤ i)) fun d e => !PySem.W.dataLt d e
section
variable {a b c : Expr} {da db dc : TD} {pos : Pos}
theorem o_lt (hu : X.A.units + 64 < cLine) : OpR X (compareOp .Lt) (fun x y H Q => rI0 (fun i j => .bl (decide (i < j))) x y H Q ∨ rOrd X.K PySem.W.dataLt x y H Q) := OpR.or op_lt (op_ltD hu)
theorem o_gt (hu : X.A.units + 64 < cLine) : OpR X (compareOp .Gt) (fun x y H Q => rI0 (fun i j => .bl (decide (j < i))) x y H Q ∨ rOrd X.K (fun d e => PySem.W.dataLt e d) x y H Q) := OpR.or op_gt (op_gtD hu)
theorem o_le (hu : X.A.units + 64 < cLine) : OpR X (compareOp .LtE) (fun x y H Q => rI0 (fun i j => .bl (decide (i ≤ j))) x y H Q ∨ rOrd X.K (fun d e => !PySem.W.dataLt e d) x y H Q) := OpR.or op_le (op_leD hu)
theorem o_ge (hu : X.A.units + 64 < cLine) : OpR X (compareOp .GtE) (fun x y H Q => rI0 (fun i j => .bl (decide (j ≤ i))) x y H Q ∨ rOrd X.K (fun d e => !PySem.W.dataLt d e) x y H Q) := OpR.or op_ge (op_geD hu)
end
/-- == of data -/
def okD (x : D) : Bool := x.plain && decide (x.depth ≤ 60)
theorem okD_all {x : D} (h : okD x = true) : x.plain = true ∧ x.depth ≤ 60 := by
  unfold okD at h
  simpa using h
def rEqP (K : PySem.W.Frag) (g : Bool → Bool) : R2 := fun x y H Q => ∃ d e, Dp K H x d ∧ Dp K H y e ∧ okD d = true ∧ okD e = true ∧ Q (.bl (g (PyData.eqv d e))) H
theorem o_eq (hu : X.A.units + 64 < cLine) : OpR X (compareOp .Eq) (rEqP X.K id) := by
  intro pins s σ H x y v u Q I rx ry ⟨d, e, hd, he, o1, o2, q⟩
  obtain ⟨as, r1⟩ := Dp.reads I d x v hd rx
  obtain ⟨bs, r2⟩ := Dp.reads I e y u he ry
  exact PySem.SeqAt.eq_plain r1 r2 (okD_all o1).1 (okD_all o2).1 (ord_room hu (okD_all o1).2) ⟨.bl _, H, I, rfl, q⟩
theorem o_ne (hu : X.A.units + 64 < cLine) : OpR X (compareOp .NotEq) (rEqP X.K not) := by
  intro pins s σ H x y v u Q I rx ry ⟨d, e, hd, he, o1, o2, q⟩
  obtain ⟨as, r1⟩ := Dp.reads I d x v hd rx
  obtain ⟨bs, r2⟩ := Dp.reads I e y u he ry
  exact PySem.SeqAt.ne_plain r1 r2 (okD_all o1).1 (okD_all o2).1 (ord_room hu (okD_all o1).2) ⟨.bl _, H, I, rfl, q⟩
def fEqG (g : Bool → Bool) : D → D → (D → Prop) → Prop := fun x y P => (okD x = true ∧ okD y = true) ∧ P (.bool (g (PyData.eqv x y)))
abbrev fEq := fEqG id
abbrev fNe := fEqG not
theorem rd_eq {g : Bool → Bool} : R2D K (rEqP K g) (fEqG g) := by
  intro W H v u x y Q P tr hv hu ⟨⟨o1, o2⟩, h⟩ k
  exact ⟨x, y, (hv.up era_sub).dp _ (okD_all o1).1, (hu.up era_sub).dp _ (okD_all o2).1, o1, o2, k _ _ _ (same_refl _) (.bl _) h⟩
/-- in, not in: a list or a tuple of data -/
def rInP (K : PySem.W.Frag) (g : Bool → Bool) : R2 := fun x y H Q => ∃ d e l, Dp K H x d ∧ Dp K H y e ∧ (e = .list l ∨ e = .tuple l) ∧ okD d = true ∧ okD e = true ∧ Q (.bl (g (l.any fun z => PyData.eqv z d))) H
theorem in_room {A : Around} {d : D} {n : Nat} (hu : A.units + 64 < cLine) (h : d.depth ≤ 60) : A.units + 1 + min n d.depth < cLine := by
  have := Nat.min_le_right n d.depth
  omega
theorem o_in (hu : X.A.units + 64 < cLine) : OpR X (compareOp .In) (rInP X.K id) := by
  intro pins s σ H x y v u Q I rx ry ⟨d, e, l, hd, he, hl, o1, o2, q⟩
  obtain ⟨as, r1⟩ := Dp.reads I d x v hd rx
  obtain ⟨bs, r2⟩ := Dp.reads I e y u he ry
  rcases hl with rfl | rfl
  · exact PySem.SeqAt.in_list_data r2 r1 (by simpa [PyData.plain] using (okD_all o2).1) (okD_all o1).1 (in_room hu (okD_all o1).2) ⟨.bl _, H, I, rfl, q⟩
  · exact PySem.SeqAt.in_tuple_data r2 r1 (by simpa [PyData.plain] using (okD_all o2).1) (okD_all o1).1 (in_room hu (okD_all o1).2) ⟨.bl _, H, I, rfl, q⟩
theorem o_notin (hu : X.A.units + 64 < cLine) : OpR X (compareOp .NotIn) (rInP X.K not) := by
  intro pins s σ H x y v u Q I rx ry ⟨d, e, l, hd, he, hl, o1, o2, q⟩
  obtain ⟨as, r1⟩ := Dp.reads I d x v hd rx
  obtain ⟨bs, r2⟩ := Dp.reads I e y u he ry
  rcases hl with rfl | rfl
  · exact PySem.SeqAt.notIn_list_data r2 r1 (by simpa [PyData.plain] using (okD_all o2).1) (okD_all o1).1 (in_room hu (okD_all o1).2) ⟨.bl _, H, I, rfl, q⟩
  · exact PySem.SeqAt.notIn_tuple_data r2 r1 (by simpa [PyData.plain] using (okD_all o2).1) (okD_all o1).1 (in_room hu (okD_all o1).2) ⟨.bl _, H, I, rfl, q⟩
def fInG (g : Bool → Bool) : D → D → (D → Prop) → Prop
  | x, .list l, P => (okD x = true ∧ okD (.list l) = true) ∧ P (.bool (g (l.any fun z => PyData.eqv z x)))
  | x, .tuple l, P => (okD x = true ∧ okD (.tuple l) = true) ∧ P (.bool (g (l.any fun z => PyData.eqv z x)))
  | _, _, _ => False
abbrev fIn := fInG id
abbrev fNotIn := fInG not
theorem rd_in {g : Bool → Bool} : R2D K (rInP K g) (fInG g) := by
  intro W H v u x y Q P tr hv hu h k
  unfold fInG at h
  split at h
  · obtain ⟨⟨o1, o2⟩, h⟩ := h
    exact ⟨x, _, _, (hv.up era_sub).dp _ (okD_all o1).1, (hu.up era_sub).dp _ (okD_all o2).1, .inl rfl, o1, o2, k _ _ _ (same_refl _) (.bl _) h⟩
  · obtain ⟨⟨o1, o2⟩, h⟩ := h
    exact ⟨x, _, _, (hv.up era_sub).dp _ (okD_all o1).1, (hu.up era_sub).dp _ (okD_all o2).1, .inr rfl, o1, o2, k _ _ _ (same_refl _) (.bl _) h⟩
  · exact h.elim
/-- is None, is True -/
def fIs (g : Bool → Bool) : D → D → (D → Prop) → Prop
  | x, .none, P => P (.bool (g (isNone x)))
  | .bool a, .bool b, P => P (.bool (g (a == b)))
  | _, _, _ => False
def rIsG (g : Bool → Bool) : R2 := fun x y H Q => (y = .non ∧ Q (.bl (g (decide (x = .non)))) H) ∨ (∃ a b, x = .bl a ∧ y = .bl b ∧ Q (.bl (g (decide (a = b)))) H)
theorem o_is : OpR X (compareOp .Is) (rIsG id) := OpR.or op_isN op_is_bl
theorem o_isnot : OpR X (compareOp .IsNot) (rIsG not) := OpR.or op_notN op_isnot_bl
theorem is_isNone {H : Hp} {v : V} {x : D} (h : Is K H v x) : decide (v = .non) = isNone x := by
  cases h <;> simp [isNone]
theorem rd_is {g : Bool → Bool} : R2D K (rIsG g) (fIs g) := by
  intro W H v u x y Q P tr hv hu h k
  unfold fIs at h
  split at h
  · cases hu
    exact .inl ⟨rfl, by rw [is_isNone hv]; exact k _ _ _ (same_refl _) (.bl _) h⟩
  · cases hv
    cases hu
    rename_i a b
    refine .inr ⟨a, b, rfl, rfl, ?_⟩
    have e : decide (a = b) = (a == b) := by cases a <;> cases b <;> rfl
    rw [e]
    exact k _ _ _ (same_refl _) (.bl _) h
  · exact h.elim

/-! ### items -/
def fIx : D → D → (D → Prop) → Prop
  | .list l, .int i, P => match atI l i with
    | some d => P d
    | none => False
  | .tuple l, .int i, P => match atI l i with
    | some d => P d
    | none => False
  | _, _, _ => False
theorem atI_is {H : Hp} {vs : List V} {ds : List D} {i : Int} {d : D} (h : IsAll K H vs ds) (e : atI ds i = some d) : ∃ v, atI vs i = some v ∧ Is K H v d := by
  unfold atI at e ⊢
  rw [h.length]
  cases q : ixN ds.length i with
  | none =>
    rw [q] at e
    cases e
  | some j =>
    rw [q] at e
    obtain ⟨v, e1, i1⟩ := h.get e
    exact ⟨v, e1, i1⟩
theorem rd_ix : R2D K (rIx K) fIx := by
  intro W H v u x y Q P tr hv hu h k
  unfold fIx at h
  split at h
  · cases hu
    cases hv with
    | @lst a xs ds hs ha =>
      split at h
      · rename_i d e
        obtain ⟨z, e1, i1⟩ := atI_is ha e
        exact .inl ⟨a, xs, _, z, rfl, rfl, SqL.of (era_to hs).1, e1, k _ _ _ (same_refl _) i1 h⟩
      · exact h.elim
  · cases hu
    cases hv with
    | @tup a xs ds hs ha =>
      split at h
      · rename_i d e
        obtain ⟨z, e1, i1⟩ := atI_is ha e
        exact .inr (.inl ⟨a, xs, _, z, rfl, rfl, sqT_mono era_sub hs, e1, k _ _ _ (same_refl _) i1 h⟩)
      · exact h.elim
  · exact h.elim

/-! ### built-ins -/
def fLen : List D → (D → Prop) → Prop
  | [.list l], P => P (.int l.length)
  | [.tuple l], P => P (.int l.length)
  | _, _ => False
theorem rn_len : RND K (fun xs H Q => ∃ p ys, xs = [.ref p] ∧ (SqL K H p ys ∨ SqT K H p ys) ∧ Q (.int ys.length) H) fLen := by
  intro W H vs l Q P tr h hf k
  unfold fLen at hf
  split at hf
  · cases h with
    | cons a b =>
      cases b
      cases a with
      | @lst a xs ds hs ha => exact ⟨a, xs, rfl, .inl (SqL.of (era_to hs).1), by rw [ha.length]; exact k _ _ _ (same_refl _) (.int _) hf⟩
  · cases h with
    | cons a b =>
      cases b
      cases a with
      | @tup a xs ds hs ha => exact ⟨a, xs, rfl, .inr (sqT_mono era_sub hs), by rw [ha.length]; exact k _ _ _ (same_refl _) (.int _) hf⟩
  · exact hf.elim
/-- a list of truth values -/
def bools : List D → Option (List Bool)
  | [] => some []
  | .bool b :: r => (bools r).map (b :: ·)
  | _ :: _ => none
theorem bools_is {H : Hp} : ∀ {vs : List V} {ds : List D} {bs : List Bool}, IsAll K H vs ds → bools ds = some bs → vs = bs.map V.bl
  | _, _, bs, .nil, e => by
    have e' : some [] = some bs := e
    cases e'
    rfl
  | _, _, bs, .cons (d := d) (ds := ds) a b, e => by
    cases a <;> first | (exact absurd (show none = some bs from e) (fun z => nomatch z)) | skip
    rename_i c
    have e' : (bools ds).map (c :: ·) = some bs := e
    cases q : bools ds with
    | none =>
      rw [q] at e'
      cases e'
    | some cs =>
      rw [q] at e'
      have e2 : c :: cs = bs := Option.some.inj e'
      subst e2
      rw [bools_is b q]
      rfl
def fBools (g : List Bool → Bool) : List D → (D → Prop) → Prop
  | [.list l], P => match bools l with
    | some bs => P (.bool (g bs))
    | none => False
  | _, _ => False
abbrev fAll := fBools fun bs => bs.all id
abbrev fAny := fBools fun bs => bs.any id
theorem rn_bools {g : List Bool → Bool} : RND K (fun vs H Q => ∃ (a : Addr) (bs : List Bool), vs = [V.ref a] ∧ SqL K H a (bs.map V.bl) ∧ Q (.bl (g bs)) H) (fBools g) := by
  intro W H vs l Q P tr h hf k
  unfold fBools at hf
  split at hf
  · cases h with
    | cons a b =>
      cases b
      cases a with
      | @lst a xs ds hs ha =>
        split at hf
        · rename_i bs e
          have q := bools_is ha e
          subst q
          exact ⟨a, bs, rfl, SqL.of (era_to hs).1, k _ _ _ (same_refl _) (.bl _) hf⟩
        · exact hf.elim
  · exact hf.elim
/-- a list of ints -/
def intsD : List D → Option (List Int)
  | [] => some []
  | .int b :: r => (intsD r).map (b :: ·)
  | _ :: _ => none
theorem ints_is {H : Hp} : ∀ {vs : List V} {ds : List D} {bs : List Int}, IsAll K H vs ds → intsD ds = some bs → vs = bs.map V.int
  | _, _, bs, .nil, e => by
    have e' : some [] = some bs := e
    cases e'
    rfl
  | _, _, bs, .cons (d := d) (ds := ds) a b, e => by
    cases a <;> first | (exact absurd (show none = some bs from e) (fun z => nomatch z)) | skip
    rename_i c
    have e' : (intsD ds).map (c :: ·) = some bs := e
    cases q : intsD ds with
    | none =>
      rw [q] at e'
      cases e'
    | some cs =>
      rw [q] at e'
      have e2 : c :: cs = bs := Option.some.inj e'
      subst e2
      rw [ints_is b q]
      rfl
theorem ints_map : ∀ ns : List Int, intsD (ns.map .int) = some ns
  | [] => rfl
  | n :: ns => by
    show (intsD (ns.map .int)).map (n :: ·) = some (n :: ns)
    rw [ints_map ns]
    rfl
theorem bools_map : ∀ ns : List Bool, bools (ns.map .bool) = some ns
  | [] => rfl
  | n :: ns => by
    show (bools (ns.map .bool)).map (n :: ·) = some (n :: ns)
    rw [bools_map ns]
    rfl
/-- sum of a tuple of ints -/
def rSumT (K : PySem.W.Frag) : List V → Hp → VK → Prop := fun vs H Q => ∃ (a : Addr) (ns : List Int), vs = [V.ref a] ∧ SqT K H a (ns.map V.int) ∧ Q (.int ns.sum) H
section
open PySem.Spec PyProof.Rows
theorem sumT_raw {prog : Program} {w : World} {A : Around} {E : Value → Shared → Prop} {s : Shared} {l : Addr} {its : List Value} {ns : List Int} {Q : Value → Shared → Prop} (hh : A.handled = none) (hl : s.heap.IsTuple l its.toArray) (hi : IntsAre its ns)
    (h : ∀ h' tk t', (∀ b o, s.heap.get? b = some o → h'.get? b = some o) → Q (.int ns.sum t') { s with heap := h', toks := tk }) : wpAny (model prog w) A (call (.builtin "sum") [.ref l]) Q E s := by
  obtain ⟨xs, e⟩ := hi.allInts.items
  have hn : numsOf (intItems xs).toList = ns := by rw [← e]; exact hi.numsOf
  rw [nums_intItems] at hn
  rw [e] at hl
  refine PySem.W.ktm_sumG hh hl fun h' tk t' hk => ?_
  have := h h' tk t' hk
  rw [preSum_eq, List.take_of_length_le (by simp), hn]
  exact this
end
theorem cr_sumT (hc : X.calm = true) : CallR X (.builtin "sum") (rSumT X.K) := by
  intro pins s σ H xs us Q I r ⟨a, ns, e, hs, q⟩
  subst e
  obtain ⟨u, rfl, rx⟩ := vals1 r
  cases rx
  obtain ⟨its, rv, p, hz⟩ := I.tuple hs
  exact sumT_raw (I.ok.hd hc) p (Vals.ints rv) fun h' tk t' hk => ⟨.int _, H, I.kept hk, ⟨_, rfl⟩, q⟩
def fSum : List D → (D → Prop) → Prop
  | [.list l], P => match intsD l with
    | some bs => P (.int bs.sum)
    | none => False
  | [.tuple l], P => match intsD l with
    | some bs => P (.int bs.sum)
    | none => False
  | _, _ => False
def rSumLT (K : PySem.W.Frag) : List V → Hp → VK → Prop := fun vs H Q => rSum K vs H Q ∨ rSumT K vs H Q
theorem c_sum (hc : X.calm = true) : CallR X (.builtin "sum") (rSumLT X.K) := CallR.or (cr_sum hc) (cr_sumT hc)
theorem rn_sum : RND K (rSumLT K) fSum := by
  intro W H vs l Q P tr h hf k
  unfold fSum at hf
  split at hf
  · cases h with
    | cons a b =>
      cases b
      cases a with
      | @lst a xs ds hs ha =>
        split at hf
        · rename_i bs e
          have q := ints_is ha e
          subst q
          exact .inl ⟨a, bs, rfl, SqL.of (era_to hs).1, k _ _ _ (same_refl _) (.int _) hf⟩
        · exact hf.elim
  · cases h with
    | cons a b =>
      cases b
      cases a with
      | @tup a xs ds hs ha =>
        split at hf
        · rename_i bs e
          have q := ints_is ha e
          subst q
          exact .inr ⟨a, bs, rfl, sqT_mono era_sub hs, k _ _ _ (same_refl _) (.int _) hf⟩
        · exact hf.elim
  · exact hf.elim
/-- tuple(xs): of a list, a tuple -/
def fTuple : List D → (D → Prop) → Prop
  | [.list l], P => P (.tuple l)
  | [.tuple l], P => P (.tuple l)
  | _, _ => False
theorem rn_tuple : RND K (fun xs H Q => ∃ p ys, xs = [.ref p] ∧ ((SqL K H p ys ∧ ∀ l, H l = none → Q (.ref l) (upd H l (.tup ys))) ∨ (SqT K H p ys ∧ Q (.ref p) H))) fTuple := by
  intro W H vs l Q P tr h hf k
  unfold fTuple at hf
  split at hf
  · cases h with
    | cons a b =>
      cases b
      cases a with
      | @lst a xs ds hs ha => exact ⟨a, xs, rfl, .inl ⟨SqL.of (era_to hs).1, fun p hp => k _ _ _ (same_new hp) (new_tup tr hp ha) hf⟩⟩
  · cases h with
    | cons a b =>
      cases b
      cases a with
      | @tup a xs ds hs ha => exact ⟨a, xs, rfl, .inr ⟨sqT_mono era_sub hs, k _ _ _ (same_refl _) (.tup hs ha) hf⟩⟩
  · exact hf.elim
/-- list(xs): a new list -/
def fList : List D → (List D → Prop) → Prop
  | [.list l], P => P l
  | [.tuple l], P => P l
  | _, _ => False
theorem new_lst {W : Addr → Prop} {H : Hp} {vs : List V} {l : List D} {p : Addr} (hp : H p = none) (i : IsAll K (era W H) vs l) : IsAll K (era (fun b => W b ∨ b = p) (upd H p (.lst vs))) vs l :=
  i.up fun b x q => era_of (same_new hp b x (era_to q).1) fun z => z.elim (era_to q).2 fun z => by
    rw [z] at q
    exact absurd (era_to q).1 (by rw [hp]; exact fun z => nomatch z)
theorem rn_list : RNF K (fun xs H Q => ∃ p ys, xs = [.ref p] ∧ (SqL K H p ys ∨ SqT K H p ys) ∧ ∀ l, H l = none → Q (.ref l) (upd H l (.lst ys))) fList := by
  intro W H vs l Q P tr h hf k
  unfold fList at hf
  split at hf
  · cases h with
    | cons a b =>
      cases b
      cases a with
      | @lst a xs ds hs ha => exact ⟨a, xs, rfl, .inl (SqL.of (era_to hs).1), fun p hp => k p _ _ _ (same_new hp) hp upd_same (new_lst hp ha) hf⟩
  · cases h with
    | cons a b =>
      cases b
      cases a with
      | @tup a xs ds hs ha => exact ⟨a, xs, rfl, .inr (sqT_mono era_sub hs), fun p hp => k p _ _ _ (same_new hp) hp upd_same (new_lst hp ha) hf⟩
  · exact hf.elim
/-- int(x), abs(x), max(a, b), min(a, b) -/
def fInt : List D → (D → Prop) → Prop
  | [.int i], P => P (.int i)
  | [.bool b], P => P (.int (if b then 1 else 0))
  | _, _ => False
theorem rn_int : RND K (fun xs H Q => (∃ i, xs = [.int i] ∧ Q (.int i) H) ∨ ∃ k, xs = [.bl k] ∧ Q (.int (if k then 1 else 0)) H) fInt := by
  intro W H vs l Q P tr h hf k
  unfold fInt at hf
  split at hf
  · cases h with
    | cons a b =>
      cases b
      cases a
      exact .inl ⟨_, rfl, k _ _ _ (same_refl _) (.int _) hf⟩
  · cases h with
    | cons a b =>
      cases b
      cases a
      exact .inr ⟨_, rfl, k _ _ _ (same_refl _) (.int _) hf⟩
  · exact hf.elim
def fI1 (g : Int → Int) : List D → (D → Prop) → Prop
  | [.int i], P => P (.int (g i))
  | _, _ => False
theorem rn_i1 {g : Int → Int} : RND K (fun xs H Q => ∃ i, xs = [.int i] ∧ Q (.int (g i)) H) (fI1 g) := by
  intro W H vs l Q P tr h hf k
  unfold fI1 at hf
  split at hf
  · cases h with
    | cons a b =>
      cases b
      cases a
      exact ⟨_, rfl, k _ _ _ (same_refl _) (.int _) hf⟩
  · exact hf.elim
def fI2 (g : Int → Int → Int) : List D → (D → Prop) → Prop
  | [.int i, .int j], P => P (.int (g i j))
  | _, _ => False
theorem rn_i2 {g : Int → Int → Int} : RND K (fun xs H Q => ∃ i j, xs = [.int i, .int j] ∧ Q (.int (g i j)) H) (fI2 g) := by
  intro W H vs l Q P tr h hf k
  unfold fI2 at hf
  split at hf
  · cases h with
    | cons a b =>
      cases b with
      | cons b c =>
        cases c
        cases a
        cases b
        exact ⟨_, _, rfl, k _ _ _ (same_refl _) (.int _) hf⟩
  · exact hf.elim
end TL

/-! TL, part 4: what is walked; list comprehensions. -/
namespace TL
open PySem L2
open PySem.Spec PyProof.Rows
variable {K : PySem.W.Frag} {X : Cx} {m : Md}

/-- an iterator yields the trees l, whatever else changes -/
def Walks (K : PySem.W.Frag) (W : Addr → Prop) (J : It) (l : List D) (H0 : Hp) : Prop :=
  ∀ (Z : Addr → Prop) H, Same (era W H0) (era Z H) → (∀ a, Z a → H a ≠ none) → ∀ i : Nat,
    (∀ d, l[i]? = some d → J.go i H ∧ ∀ x H', J.yld i H x H' → Same H H' ∧ Is K (era Z H') x d) ∧ (l.length ≤ i → J.stop i H)
def tDI (K : PySem.W.Frag) (m : Md) (d : TDA) : TI := fun σ H R => ∃ W ρ P, Ok m W H ∧ EnvIs K (era W H) σ ρ ∧ d ρ P ∧ ∀ J H' l, Evo m H H' → Walks K W J l H' → P l → R J H'
def BI (X : Cx) (m : Md) (tg e : Expr) (d : TDA) : Prop := PI X tg e (tDI X.K m d)
theorem piw {tg e : Expr} {t t' : TI} (h : PI X tg e t) (k : ∀ σ H Q, t' σ H Q → t σ H Q) : PI X tg e t' := ⟨fun pins s σ H Q I w => h.run pins s σ H Q I (k σ H Q w)⟩
/-- a reading that works with any W -/
theorem pe_ex {e : Expr} {T : (Addr → Prop) → TE} (h : ∀ W, PE X e (T W)) : PE X e (fun σ H Q => ∃ W, T W σ H Q) := ⟨fun pins s σ H Q I ⟨W, w⟩ => (h W).run pins s σ H Q I w⟩
theorem pt_ex {e : Expr} {T : (Addr → Prop) → TT} (h : ∀ W, PT X e (T W)) : PT X e (fun σ H Q => ∃ W, T W σ H Q) := ⟨fun pins s σ H Q I ⟨W, w⟩ => (h W).run pins s σ H Q I w⟩
theorem pa_ex {e : List Expr} {T : (Addr → Prop) → TA} (h : ∀ W, PA X e (T W)) : PA X e (fun σ H Q => ∃ W, T W σ H Q) := ⟨fun pos pins s σ H Q I ⟨W, w⟩ => (h W).run pos pins s σ H Q I w⟩

/-- a list or a tuple, walked -/
def iSeq (K : PySem.W.Frag) (tl : TE) : TI := fun σ H R => tl σ H fun x H1 => ∃ a, x = .ref a ∧ (((∃ xs, SqL K H1 a xs) ∧ R (Itl K a) H1) ∨ ((∃ xs, SqT K H1 a xs) ∧ R (Itt K a) H1))
theorem pi_seq {tg l : Expr} {tl : TE} (hl : PE X l tl) : PI X tg l (iSeq X.K tl) := by
  refine ⟨fun pins s σ H R I h => ?_⟩
  refine thn (hl.run pins s σ H _ I h) fun v s1 ⟨x, H1, I1, r1, q1⟩ => ?_
  obtain ⟨a, e, q⟩ := q1
  subst e
  cases r1
  rcases q with ⟨⟨xs, hq⟩, q⟩ | ⟨⟨xs, hq⟩, q⟩
  · obtain ⟨its, rv, p, hz⟩ := I1.list hq
    refine wpAny_pyIter_list p.isList ?_
    refine ⟨s1.heap.objs.size, [s1.heap.objs.size], _, _, H1, rfl, I1.kept (t' := s1.toks) fun b o e => Heap.get?_push_of_some _ e, turn_list a _, ⟨_, Heap.get?_push_size _ rfl, rfl, rfl⟩, fun b hb => ?_, q⟩
    have e : b = s1.heap.objs.size := by simpa using hb
    subst e
    exact I1.fpOk (Nat.le_refl _) (I1.hok.fresh (Nat.le_refl _))
  · obtain ⟨its, rv, p, hz⟩ := I1.tuple hq
    refine wpAny_pyIter_tuple (show s1.heap.IsTuple a its.toArray from p) ?_
    refine ⟨s1.heap.objs.size, [s1.heap.objs.size], _, _, H1, rfl, I1.kept (t' := s1.toks) fun b o e => Heap.get?_push_of_some _ e, turn_tuple a _, ⟨_, Heap.get?_push_size _ rfl, rfl, rfl⟩, fun b hb => ?_, q⟩
    have e : b = s1.heap.objs.size := by simpa using hb
    subst e
    exact I1.fpOk (Nat.le_refl _) (I1.hok.fresh (Nat.le_refl _))
theorem walks_list {W : Addr → Prop} {H : Hp} {a : Addr} {xs : List V} {l : List D} (h : H a = some (.lst xs)) (hw : ¬ W a) (i : IsAll K (era W H) xs l) : Walks K W (Itl K a) l H := by
  intro Z H1 hs tr j
  have e := hs a _ (era_of h hw)
  have e1 := (era_to e).1
  refine ⟨fun d hd => ?_, fun hj => ⟨xs, SqL.of e1, by rw [i.length]; exact hj⟩⟩
  obtain ⟨v, e2, i2⟩ := i.get hd
  refine ⟨⟨xs, v, SqL.of e1, e2⟩, fun x H' ⟨q, y⟩ => ?_⟩
  subst q
  have e3 := y xs (SqL.of e1)
  rw [e2] at e3
  cases e3
  exact ⟨fun _ _ z => z, i2.up hs⟩
theorem walks_tup {W : Addr → Prop} {H : Hp} {a : Addr} {xs : List V} {l : List D} (h : SqT K (era W H) a xs) (i : IsAll K (era W H) xs l) : Walks K W (Itt K a) l H := by
  intro Z H1 hs tr j
  have e1 : SqT K H1 a xs := sqT_mono era_sub (sqT_mono hs h)
  refine ⟨fun d hd => ?_, fun hj => ⟨xs, e1, by rw [i.length]; exact hj⟩⟩
  obtain ⟨v, e2, i2⟩ := i.get hd
  refine ⟨⟨xs, v, e1, e2⟩, fun x H' ⟨q, y⟩ => ?_⟩
  subst q
  have e3 := y xs e1
  rw [e2] at e3
  cases e3
  exact ⟨fun _ _ z => z, i2.up hs⟩
def dSeqI (d : TD) : TDA := fun ρ P => d ρ fun x => match x with
  | .list l => P l
  | .tuple l => P l
  | _ => False
theorem bi_seq {tg e : Expr} {d : TD} (h : BE X m e d) : BI X m tg e (dSeqI d) := piw (pi_seq (pe_ex h)) fun σ H R ⟨W, ρ, P, o, n, h, k⟩ => ⟨W, tD_at o n h fun v H1 x e1 o1 n1 i1 h1 => by
  cases x <;> first | exact h1.elim | skip
  · cases i1 with
    | @lst a xs _ hs ha => exact ⟨a, rfl, .inl ⟨⟨xs, SqL.of (era_to hs).1⟩, k _ _ _ e1 (walks_list (era_to hs).1 (era_to hs).2 ha) h1⟩⟩
  · cases i1 with
    | @tup a xs _ hs ha => exact ⟨a, rfl, .inr ⟨⟨xs, sqT_mono era_sub hs⟩, k _ _ _ e1 (walks_tup hs ha) h1⟩⟩⟩
/-- range(n), range(lo, hi) -/
def rangeD (lo : Int) (n : Nat) : List D := (List.range n).map fun k => .int (lo + (k : Nat))
theorem walks_range {W : Addr → Prop} {H : Hp} (lo : Int) (n : Nat) : Walks K W (Itr lo n) (rangeD lo n) H := by
  intro Z H1 hs tr j
  have e : (rangeD lo n).length = n := by simp [rangeD]
  refine ⟨fun d hd => ?_, fun hj => by rw [e] at hj; exact hj⟩
  have hj : j < n := by rw [← e]; exact (List.getElem?_eq_some_iff.mp hd).1
  have hd' : d = .int (lo + (j : Nat)) := by
    unfold rangeD at hd
    rw [List.getElem?_map, List.getElem?_range hj] at hd
    exact (Option.some.inj hd).symm
  subst hd'
  refine ⟨hj, fun x H' ⟨q, y⟩ => ?_⟩
  subst q y
  exact ⟨fun _ _ z => z, .int _⟩
def dRg1 (da : TDA) : TDA := fun ρ P => da ρ fun l => match l with
  | [.int j] => (-100000 ≤ j ∧ j ≤ 100000) ∧ P (rangeD 0 j.toNat)
  | _ => False
def dRg2 (da : TDA) : TDA := fun ρ P => da ρ fun l => match l with
  | [.int i, .int j] => (-100000 ≤ i ∧ i ≤ 100000 ∧ -100000 ≤ j ∧ j ≤ 100000) ∧ P (rangeD i (j - i).toNat)
  | _ => False
section
variable {a b e : Expr} {es ifs : List Expr} {da : TDA} {tg iter elt : Expr} {p pos : Pos}
theorem bi_range1 (hg : Gl X "range") (hm : X.mg "range" = none) (ha : BA X m [a] da) (hs : starEach [a] X.env = [(false, eval a X.env)] := by rfl) : BI X m tg (.Call (.Name "range" p) [a] [] pos) (dRg1 da) :=
  piw (pi_range1 hg hm (pa_ex ha) hs) fun σ H R ⟨W, ρ, P, o, n, h, k⟩ => ⟨W, tDA_at o n h fun vs H1 l e1 o1 n1 i1 h1 => by
    match l, i1, h1 with
    | [.int j], .cons a b, ⟨h0, h1⟩ =>
      cases a
      cases b
      exact ⟨j, rfl, by omega, by omega, k _ _ _ e1 (walks_range 0 _) h1⟩⟩
theorem bi_range2 (hg : Gl X "range") (hm : X.mg "range" = none) (ha : BA X m [a, b] da) (hs : starEach [a, b] X.env = [(false, eval a X.env), (false, eval b X.env)] := by rfl) (hs2 : starEach [b] X.env = [(false, eval b X.env)] := by rfl) : BI X m tg (.Call (.Name "range" p) [a, b] [] pos) (dRg2 da) :=
  piw (pi_range2 hg hm (pa_ex ha) hs hs2) fun σ H R ⟨W, ρ, P, o, n, h, k⟩ => ⟨W, tDA_at o n h fun vs H1 l e1 o1 n1 i1 h1 => by
    match l, i1, h1 with
    | [.int i, .int j], .cons a (.cons b c), ⟨h0, h1⟩ =>
      cases a
      cases b
      cases c
      exact ⟨i, j, rfl, ⟨by omega, by omega, by omega, by omega⟩, k _ _ _ e1 (walks_range i _) h1⟩⟩

/-! ### targets -/
abbrev TDG := D → List En → (List En → Prop) → Prop
/-- only the slots is are stored -/
def tDG (K : PySem.W.Frag) (is : List Nat) (d : TDG) : TG := fun v σ H Q => ∃ Z ρ x P, EnvIs K (era Z H) σ ρ ∧ Is K (era Z H) v x ∧ d x ρ P ∧
  ∀ σ' ρ', (∀ j, j ∉ is → σ'[j]? = σ[j]?) → σ'.length = σ.length → EnvIs K (era Z H) σ' ρ' → P ρ' → Q σ' H
def BG (X : Cx) (tg : Expr) (is : List Nat) (d : TDG) : Prop := PG X tg (tDG X.K is d)
theorem pgw {t t' : TG} (h : PG X e t) (k : ∀ v σ H Q, t' v σ H Q → t v σ H Q) : PG X e t' := ⟨fun pins s σ H v u Q I r w => h.run pins s σ H v u Q I r (k v σ H Q w)⟩
def dgN (i : Nat) : TDG := fun x ρ P => P (ρ.set i (.d x))
theorem bg_name {i : Nat} {x : Str} (hN : X.N.Nodup) (hi : X.N[i]? = some x) (hx : Loc X.env.scope x) (hf : X.fn x = true ∨ X.env.scope.names.lookup x = some .local := by first | exact .inl rfl | exact .inr rfl | assumption) : BG X (.Name x pos) [i] (dgN i) :=
  pgw (pg_name hN hi hx hf) fun v σ H Q ⟨Z, ρ, x, P, n, j, h, k⟩ => k _ _ (fun q hq => List.getElem?_set_ne (fun z => hq (by simp [z]))) (by simp) (n.set (.d j) i) h
abbrev TDGs := List D → List En → (List En → Prop) → Prop
def tDGs (K : PySem.W.Frag) (is : List Nat) (d : TDGs) : TGs := fun vs σ H Q => ∃ Z ρ l P, EnvIs K (era Z H) σ ρ ∧ IsAll K (era Z H) vs l ∧ d l ρ P ∧
  ∀ σ' ρ', (∀ j, j ∉ is → σ'[j]? = σ[j]?) → σ'.length = σ.length → EnvIs K (era Z H) σ' ρ' → P ρ' → Q σ' H
def BGs (X : Cx) (ts : List Expr) (is : List Nat) (d : TDGs) : Prop := PGs X ts (tDGs X.K is d)
theorem pgsw {t t' : TGs} (h : PGs X es t) (k : ∀ v σ H Q, t' v σ H Q → t v σ H Q) : PGs X es t' := ⟨fun pins s σ H v u Q I r w => h.run pins s σ H v u Q I r (k v σ H Q w)⟩
def dgNil : TDGs := fun l ρ P => match l with
  | [] => P ρ
  | _ => False
def dgCons (d : TDG) (ds : TDGs) : TDGs := fun l ρ P => match l with
  | x :: r => d x ρ fun ρ1 => ds r ρ1 P
  | [] => False
theorem bgs_nil : BGs X [] [] dgNil := pgsw pgs_nil fun v σ H Q ⟨Z, ρ, l, P, n, j, h, k⟩ => by
  cases j with
  | nil => exact ⟨rfl, k _ _ (fun _ _ => rfl) rfl n h⟩
  | cons a b => exact h.elim
theorem bgs_cons {is js : List Nat} {d : TDG} {ds : TDGs} (h1 : BG X e is d) (h2 : BGs X es js ds) (hs : (assignEach (e :: es) X.env).map (·.2) = assign e X.env :: (assignEach es X.env).map (·.2) := by rfl) : BGs X (e :: es) (is ++ js) (dgCons d ds) :=
  pgsw (pgs_cons h1 h2 hs) fun v σ H Q ⟨Z, ρ, l, P, n, j, h, k⟩ => by
    cases j with
    | nil => exact h.elim
    | cons a b =>
      refine ⟨_, _, rfl, Z, ρ, _, _, n, a, h, fun σ1 ρ1 q1 l1 n1 h1 => ⟨Z, ρ1, _, P, n1, b, h1, fun σ2 ρ2 q2 l2 n2 h2 => k _ _ (fun z hz => ?_) (l2.trans l1) n2 h2⟩⟩
      rw [List.mem_append, not_or] at hz
      rw [q2 z hz.2, q1 z hz.1]
def dgT (n : Nat) (ds : TDGs) : TDG := fun x ρ P => match x with
  | .tuple l => l.length = n ∧ ds l ρ P
  | _ => False
theorem bg_tup {is : List Nat} {k n : Nat} {ds : TDGs} (hc : X.calm = true) (h : BGs X es is ds) (hn : (assignEach es X.env).length = n := by rfl) (hst : (assignEach es X.env).findIdx? (·.1) = none := by rfl) : BG X (.Tuple es k pos) is (dgT n ds) :=
  pgw (pg_tup hc h hn hst) fun v σ H Q ⟨Z, ρ, x, P, n, j, h, k⟩ => by
    cases x <;> first | exact h.elim | skip
    cases j with
    | @tup a xs l hs ha => exact ⟨a, xs, rfl, sqT_mono era_sub hs, ha.length.trans h.1, Z, ρ, _, P, n, ha, h.2, k⟩

/-! ### list comprehensions -/
def BTs (X : Cx) (m : Md) (ifs : List Expr) (d : TDT) : Prop := ∀ W, PTs X ifs (tDT X.K m W d)
theorem ptsw {t t' : TT} (h : PTs X ifs t) (k : ∀ σ H Q, t' σ H Q → t σ H Q) : PTs X ifs t' := ⟨fun pins s σ H Q I w => h.run pins s σ H Q I (k σ H Q w)⟩
theorem pts_ex {T : (Addr → Prop) → TT} (h : ∀ W, PTs X ifs (T W)) : PTs X ifs (fun σ H Q => ∃ W, T W σ H Q) := ⟨fun pins s σ H Q I ⟨W, w⟩ => (h W).run pins s σ H Q I w⟩
def dYes : TDT := fun _ P => P true
theorem bts_nil : BTs X m [] dYes := fun W => ptsw pts_nil fun σ H Q ⟨ρ, P, o, n, h, k⟩ => k _ _ (.refl o.R) h
theorem bts_one {c : Expr} {d : TDT} (h : BT X m c d) : BTs X m [c] d := fun W => pts_one (h W)
/-- the turns of a comprehension -/
def lcGo (f : D → (Option D → Prop) → Prop) : List D → (List D → Prop) → Prop
  | [], P => P []
  | x :: r, P => f x fun o => lcGo f r fun ys => P (o.toList ++ ys)
def lcTurn (dg : TDG) (dt : TDT) (de : TD) (ρ : List En) (x : D) (R : Option D → Prop) : Prop := dg x ρ fun ρ2 => dt ρ2 fun b => match b with
  | true => de ρ2 fun y => R (some y)
  | false => R none
def dLc (di : TDA) (dg : TDG) (dt : TDT) (de : TD) (vs : List Nat) : TDA := fun ρ P => di ρ fun l => l.length ≤ 100000 ∧ lcGo (lcTurn dg dt de (wipeE ρ vs)) l P
theorem wipe_mem {σ : L2.St} : ∀ {vs : List Nat} {j : Nat}, j ∈ vs → (wipe σ vs)[j]? = (σ[j]?).map fun _ => none
  | v :: vs, j, h => by
    unfold wipe
    by_cases e : v = j
    · subst e
      rw [List.getElem?_set]
      rw [if_pos rfl]
      by_cases hl : v < (wipe σ vs).length
      · rw [if_pos hl]
        rw [wipe_length] at hl
        rw [List.getElem?_eq_getElem hl]
        rfl
      · rw [if_neg hl]
        rw [wipe_length] at hl
        rw [List.getElem?_eq_none (by omega)]
        rfl
    · rw [List.getElem?_set_ne e]
      have hj : j ∈ vs := by
        rcases List.mem_cons.mp h with z | z
        · exact absurd z.symm e
        · exact z
      exact wipe_mem hj
theorem wipe_eq {σ τ : L2.St} {vs : List Nat} (hl : τ.length = σ.length) (h : ∀ j, j ∉ vs → τ[j]? = (wipe σ vs)[j]?) : wipe τ vs = wipe σ vs := by
  refine List.ext_getElem? fun j => ?_
  by_cases q : j ∈ vs
  · rw [wipe_mem q, wipe_mem q]
    by_cases z : j < σ.length
    · rw [List.getElem?_eq_getElem (by omega), List.getElem?_eq_getElem z]
      rfl
    · rw [List.getElem?_eq_none (by omega), List.getElem?_eq_none (by omega)]
  · rw [wipe_out q]
    exact h j q
theorem lc_to {di : TDA} {dg : TDG} {dt : TDT} {de : TD} {vs is : List Nat} (hsub : ∀ i, i ∈ is → i ∈ vs) {W : Addr → Prop} : ∀ σ H Q, tF K m W (dLc di dg dt de vs) σ H Q →
    tLc (tDI K m di) (tDG K is dg) (fun σ H Q => ∃ W, tDT K m W dt σ H Q) (fun σ H Q => ∃ W, tD K m W de σ H Q) vs σ H Q := by
  intro σ H Q ⟨ρ, P, o, n, h, k⟩
  refine ⟨W, ρ, _, o, n, h, fun J H1 l e1 wk ⟨hlen, h1⟩ D hD => ?_⟩
  have o1 := o.evo e1
  have n1 := n.mono (o.view e1)
  have hDW : ¬ W D := o1.new hD
  let Z : Addr → Prop := fun b => W b ∨ b = D
  -- what holds ahead of turn i
  let Pv : Nat → Hp → Prop := fun i H' => i ≤ l.length ∧ ∃ acc ys, H' D = some (.lst acc) ∧ acc.length ≤ i ∧ IsAll K (era Z H') acc ys ∧ Evo m H1 H' ∧ Ok m Z H' ∧ lcGo (lcTurn dg dt de (wipeE ρ vs)) (l.drop i) fun zs => P (ys ++ zs)
  refine ⟨fun i q H' => q = l.length - i ∧ Pv i H', ⟨l.length, by simp, Nat.zero_le _, [], [], upd_same, Nat.zero_le _, .nil, ?_, ?_, ?_⟩, ?_⟩
  · exact ⟨fun b x e _ => by rw [upd_ne (ne_of_none e hD)]; exact e, m.st _ _ o1.R fun b x e _ => by rw [upd_ne (ne_of_none e hD)]; exact e⟩
  · refine ⟨m.st _ _ o1.R fun b x e _ => by rw [upd_ne (ne_of_none e hD)]; exact e, fun a ha => .inl (o1.sub a ha), fun a ha => ?_, fun b u q => (by rw [upd_ne (ne_of_none (o1.sB b u q) hD)]; exact o1.sB b u q), fun a ha => ha.elim (o1.dB a) fun z => by rw [z]; exact o1.noB hD⟩
    rcases ha with ha | ha
    · rw [upd_ne (fun z => by rw [z] at ha; exact hDW ha)]
      exact o1.tr a ha
    · rw [ha, upd_same]
      exact fun z => nomatch z
  · exact h1
  · rintro i q H' ⟨rfl, hi, acc, ys, hDa, hacc, ia, ev, ok, go⟩
    have vw : Same (era W H1) (era Z H') := fun b x e => era_of (ev.1 b x (era_to e).1 fun z => (era_to e).2 (o1.sub b z)) fun z => z.elim (era_to e).2 fun z => by
      rw [z] at e
      exact absurd (era_to e).1 (by rw [hD]; exact fun z => nomatch z)
    obtain ⟨w1, w2⟩ := wk Z H' vw ok.tr i
    by_cases hlt : i < l.length
    · obtain ⟨g1, g2⟩ := w1 l[i] (List.getElem?_eq_getElem hlt)
      refine .inr ⟨g1, Pv (i + 1), fun H2 p => ⟨l.length - (i + 1), by omega, rfl, p⟩, fun x H2 y => ?_⟩
      obtain ⟨s2, i2⟩ := g2 x H2 y
      have ev2 : Evo m H' H2 := .same ok.R s2
      have ok2 := ok.evo ev2
      rw [List.drop_eq_getElem_cons hlt] at go
      refine ⟨Z, wipeE ρ vs, _, _, ((n1.mono vw).mono (ok.view ev2)).wipe vs, i2, go, fun σ2 ρ2 q1 q2 n2 go2 => ⟨wipe_eq (q2.trans (wipe_length _ _)) fun j hj => q1 j fun z => hj (hsub j z), ?_⟩⟩
      refine ⟨Z, tDT_at ok2 n2 go2 fun b H3 e3 o3 n3 h3 => ?_⟩
      have ev3 := (ev.trans ev2).trans e3
      have hD3 : H3 D = some (.lst acc) := by
        have nM : ¬ m.M D := fun z => hDW (o1.sub D z)
        exact e3.1 D _ (ev2.1 D _ hDa nM) nM
      cases b with
      | true =>
        rw [if_pos rfl]
        refine ⟨Z, tD_at o3 n3 h3 fun u H4 x4 e4 o4 n4 i4 h4 => ?_⟩
        have nM : ¬ m.M D := fun z => hDW (o1.sub D z)
        have hD4 := e4.1 D _ hD3 nM
        refine ⟨acc, hD4, Nat.lt_of_le_of_lt (show acc.length ≤ 100000 by omega) (by decide), hlt, acc ++ [u], ys ++ [x4], upd_same, by rw [List.length_append]; simp only [List.length_singleton]; omega, ?_, ?_, ?_, ?_⟩
        · have eq : era Z (upd H4 D (.lst (acc ++ [u]))) = era Z H4 := by
            funext b
            unfold era
            by_cases z : Z b
            · rw [if_pos z, if_pos z]
            · rw [if_neg z, if_neg z, upd_ne fun q => z (.inr q)]
          rw [eq]
          exact (((ia.up (ok.view ev2)).up (ok2.view e3)).up (o3.view e4)).append (.cons i4 .nil)
        · refine ⟨fun b x e hM => ?_, m.st _ _ o4.R fun b x e q => ?_⟩
          · rw [upd_ne (ne_of_none e hD)]
            exact (ev3.trans e4).1 b x e hM
          · rw [upd_ne fun z => ?_]
            · exact e
            · rw [z] at e q
              rw [hD4] at e
              rcases q with q | q
              · exact nM q
              · exact q (o4.dB D (.inr rfl))
        · refine ⟨m.st _ _ o4.R fun b x e q => ?_, o4.sub, fun a ha => ?_, fun b u q => by rw [upd_ne fun z => (by rw [z, o4.dB D (.inr rfl)] at q; cases q)]; exact o4.sB b u q, o4.dB⟩
          · rw [upd_ne fun z => ?_]
            · exact e
            · rw [z] at e q
              rw [hD4] at e
              rcases q with q | q
              · exact nM q
              · exact q (o4.dB D (.inr rfl))
          · by_cases z : a = D
            · rw [z, upd_same]
              exact fun z => nomatch z
            · rw [upd_ne z]
              exact o4.tr a ha
        · have e : (fun zs => P (ys ++ [x4] ++ zs)) = fun zs => P (ys ++ ([x4] ++ zs)) := by
            funext zs
            rw [List.append_assoc]
          rw [e]
          exact h4
      | false =>
        rw [if_neg Bool.false_ne_true]
        exact ⟨hlt, acc, ys, hD3, by omega, (ia.up (ok.view ev2)).up (ok2.view e3), ev3, o3, h3⟩
    · have e : i = l.length := by omega
      refine .inl ⟨w2 (by omega), ?_⟩
      rw [e, List.drop_length] at go
      have go' : P (ys ++ []) := go
      rw [List.append_nil] at go'
      exact k D H' acc ys (e1.trans ev) (back_none e1 o hD) hDa ia go'
theorem f_lc {di : TDA} {dg : TDG} {dt : TDT} {de : TD} {is : List Nat} {scope : Scope} {own : List (Str × Nat)} (hc : X.calm = true) (hN : X.N.Nodup) (hi : BI X m tg iter di) (ok : BlkOk X.N X.env.scope scope own) (hsub : ∀ i, i ∈ is → i ∈ own.map (·.2))
    (hg : ∀ (s : Shared) (H : Hp) (C : Addr) (cl : List (Str × Addr)) (fp : List Addr), BG (X.blk s H scope (compEnvC scope cl C X.env) fp) tg is dg) (ht : ∀ (s : Shared) (H : Hp) (C : Addr) (cl : List (Str × Addr)) (fp : List Addr), BTs (X.blk s H scope (compEnvC scope cl C X.env) fp) m ifs dt)
    (he : ∀ (s : Shared) (H : Hp) (C : Addr) (cl : List (Str × Addr)) (fp : List Addr), BE (X.blk s H scope (compEnvC scope cl C X.env) fp) m elt de) (hs : ∀ x, foldedSetIterable iter X.env x = pure x := by intro _; rfl) :
    BF X m (.ListComp elt [⟨tg, iter, ifs, 0⟩] scope pos) (dLc di dg dt de (own.map (·.2))) := fun W =>
  pew (pe_lc (wi := tDI X.K m di) (g := tDG X.K is dg) (tt := fun σ H Q => ∃ W, tDT X.K m W dt σ H Q) (te := fun σ H Q => ∃ W, tD X.K m W de σ H Q) hc hN hi ok (fun s H C cl fp => hg s H C cl fp)
    (fun s H C cl fp => pts_ex (T := fun W => tDT X.K m W dt) (ht s H C cl fp)) (fun s H C cl fp => pe_ex (T := fun W => tD X.K m W de) (he s H C cl fp)) hs) (lc_to hsub)
end
end TL

/-! TL, part 5: statements. -/
namespace TL
open PySem L2
open PySem.Spec PyProof.Rows
variable {K : PySem.W.Frag} {X : Cx} {m : Md}

/-- a slot of a def's frame: nothing, a tree, an address, a list of the frame's own -/
inductive Sl where
  | no
  | d (x : D)
  | hd (a : Addr)
  | ow (l : List D)
/-- seen with the own lists, without them -/
def vis : Sl → En
  | .no => .no
  | .d x => .d x
  | .hd a => .hd a
  | .ow l => .d (.list l)
def hid : Sl → En
  | .no => .no
  | .d x => .d x
  | .hd a => .hd a
  | .ow _ => .no
def isOw : Sl → Bool
  | .ow _ => true
  | _ => false
/-- no own list -/
def noOw (ρ : List Sl) : Bool := ρ.all fun s => !isOw s
/-- the addresses of the own lists -/
def Ow (σ : L2.St) (ρ : List Sl) (a : Addr) : Prop := ∃ (i : Nat) (l : List D), ρ[i]? = some (.ow l) ∧ σ[i]? = some (some (.ref a))
/-- what stood ahead: the heap as far as it is kept, the addresses that were taken -/
structure Bs where
  H : Hp
  B : Addr → Prop
structure StIs (K : PySem.W.Frag) (m : Md) (W : Addr → Prop) (b : Bs) (H : Hp) (σ : L2.St) (ρ : List Sl) : Prop where
  ok : Ok m W H
  evo : Evo m b.H H
  keep : ∀ a, b.B a → H a ≠ none
  sub : ∀ a, b.H a ≠ none → b.B a
  bB : Same m.B b.H
  env : EnvIs K (era (fun a => W a ∨ Ow σ ρ a) H) σ (ρ.map hid)
  own : ∀ (i : Nat) (l : List D), ρ[i]? = some (.ow l) → ∃ (a : Addr) (xs : List V), σ[i]? = some (some (.ref a)) ∧ ¬ W a ∧ b.H a = none ∧ H a = some (.lst xs) ∧ IsAll K (era (fun a => W a ∨ Ow σ ρ a) H) xs l
  inj : ∀ (i j : Nat) (l l' : List D) (a : Addr), ρ[i]? = some (.ow l) → ρ[j]? = some (.ow l') → σ[i]? = some (some (.ref a)) → σ[j]? = some (some (.ref a)) → i = j
/-- what is wanted behind a statement -/
structure DE where
  nx : List Sl → Prop
  rt : D → Prop
  bk : List Sl → Prop := fun _ => False
  ct : List Sl → Prop := fun _ => False
abbrev DS := List Sl → DE → Prop
structure Good (K : PySem.W.Frag) (m : Md) (W : Addr → Prop) (b : Bs) (E : DE) (D : Ends) : Prop where
  nx : ∀ σ H ρ, StIs K m W b H σ ρ → E.nx ρ → D.nx σ H
  rt : ∀ v H x, Evo m b.H H → Is K (era W H) v x → E.rt x → D.rt v H
  bk : ∀ σ H ρ, StIs K m W b H σ ρ → E.bk ρ → D.bk σ H
  ct : ∀ σ H ρ, StIs K m W b H σ ρ → E.ct ρ → D.ct σ H
def tS (K : PySem.W.Frag) (m : Md) (d : DS) : TS := fun D σ H => ∃ W b ρ E, StIs K m W b H σ ρ ∧ d ρ E ∧ Good K m W b E D
def BS (X : Cx) (m : Md) (st : Stmt) (d : DS) : Prop := PS X st (tS X.K m d)
def BSs (X : Cx) (m : Md) (st : List Stmt) (d : DS) : Prop := PSs X st (tS X.K m d)
theorem psw {st : Stmt} {t t' : TS} (h : PS X st t) (k : ∀ D σ H, t' D σ H → t D σ H) : PS X st t' := ⟨fun pins s σ H D I w => h.run pins s σ H D I (k D σ H w)⟩
theorem pssw {st : List Stmt} {t t' : TS} (h : PSs X st t) (k : ∀ D σ H, t' D σ H → t D σ H) : PSs X st t' := ⟨fun pins s σ H D I w => h.run pins s σ H D I (k D σ H w)⟩

section
variable {W : Addr → Prop} {b : Bs} {H H' : Hp} {σ : L2.St} {ρ : List Sl}
theorem map_get {f : Sl → En} {i : Nat} {s : Sl} (h : ρ[i]? = some s) : (ρ.map f)[i]? = some (f s) := by rw [List.getElem?_map, h]; rfl
theorem env_up (e : EnvIs K H σ (ρ.map hid)) (s : Same H H') (own : ∀ (i : Nat) (l : List D), ρ[i]? = some (.ow l) → ∃ v : V, σ[i]? = some (some v) ∧ Is K H' v (.list l)) : EnvIs K H' σ (ρ.map vis) := by
  induction ρ generalizing σ with
  | nil =>
    cases e
    exact .nil
  | cons a r ih =>
    cases e with
    | @cons o os _ _ e1 e2 =>
      refine .cons ?_ (ih e2 fun i l h => own (i + 1) l (by simpa using h))
      cases a with
      | no => exact .no
      | d x =>
        cases e1 with
        | d i => exact .d (i.up s)
      | hd a =>
        cases e1
        exact .hd
      | ow l =>
        obtain ⟨v, e, i⟩ := own 0 l rfl
        have e' : o = some v := Option.some.inj (by simpa using e)
        subst e'
        exact .d i
theorem StIs.sH (S : StIs K m W b H σ ρ) : Same (era (fun a => W a ∨ Ow σ ρ a) H) (era W H) := era_mono (fun _ _ e _ => e) fun _ z => .inl z
/-- the names with the own lists -/
theorem StIs.vis (S : StIs K m W b H σ ρ) : EnvIs K (era W H) σ (ρ.map vis) := env_up S.env S.sH fun i l h => by
  obtain ⟨a, xs, e, hw, _, hx, ha⟩ := S.own i l h
  exact ⟨_, e, .lst (era_of hx hw) (ha.up S.sH)⟩
theorem StIs.noM (S : StIs K m W b H σ ρ) {a : Addr} (h : Ow σ ρ a) : ¬ m.M a := fun z => by
  obtain ⟨i, l, e, e2⟩ := h
  obtain ⟨a', xs, e3, hw, _⟩ := S.own i l e
  rw [e2] at e3
  cases e3
  exact hw (S.ok.sub a z)
theorem StIs.owT (S : StIs K m W b H σ ρ) {a : Addr} (h : Ow σ ρ a) : (∃ xs, H a = some (.lst xs)) ∧ ¬ W a ∧ b.H a = none := by
  obtain ⟨i, l, e, e2⟩ := h
  obtain ⟨a', xs, e3, hw, hb, hx, _⟩ := S.own i l e
  rw [e2] at e3
  cases e3
  exact ⟨⟨xs, hx⟩, hw, hb⟩
theorem StIs.ownB (S : StIs K m W b H σ ρ) {a : Addr} (z : Ow σ ρ a) : m.B a = none := by
  cases h : m.B a with
  | none => rfl
  | some o =>
    have := (S.owT z).2.2
    rw [S.bB a o h] at this
    cases this
/-- the region with the own lists -/
theorem StIs.okH (S : StIs K m W b H σ ρ) : Ok m (fun a => W a ∨ Ow σ ρ a) H := ⟨S.ok.R, fun a z => .inl (S.ok.sub a z), fun a z => by
  rcases z with z | z
  · exact S.ok.tr a z
  · obtain ⟨⟨xs, e⟩, _⟩ := S.owT z
    rw [e]
    simp, S.ok.sB, fun a z => z.elim (S.ok.dB a) fun z => S.ownB z⟩
/-- an expression has run -/
theorem StIs.step (S : StIs K m W b H σ ρ) (e : Evo m H H') : StIs K m W b H' σ ρ := by
  refine ⟨S.ok.evo e, S.evo.trans e, fun a z => ?_, S.sub, S.bB, S.env.mono (S.okH.view e), fun i l h => ?_, S.inj⟩
  · have h := S.keep a z
    by_cases q : m.M a
    · exact m.tr _ e.2 a q
    · cases y : H a with
      | none => exact absurd y h
      | some o =>
        rw [e.1 a o y q]
        simp
  · obtain ⟨a, xs, e1, hw, hb, hx, ha⟩ := S.own i l h
    exact ⟨a, xs, e1, hw, hb, e.1 a _ hx fun z => hw (S.ok.sub a z), ha.up (S.okH.view e)⟩
theorem noOw_no (h : noOw ρ = true) {a : Addr} : ¬ Ow σ ρ a := fun ⟨i, l, e, _⟩ => by
  unfold noOw at h
  rw [List.all_eq_true] at h
  have := h _ (List.mem_of_getElem? e)
  simp [isOw] at this
theorem StIs.noTup (S : StIs K m W b H σ ρ) : NoTup (Ow σ ρ) (era W H) := fun a z xs => by
  obtain ⟨⟨ys, e⟩, hw, _⟩ := S.owT z
  have e2 := era_of e hw
  rw [e2]
  simp
theorem era_era {O O' : Addr → Prop} : Same (era O' (era O H)) (era (fun a => O a ∨ O' a) H) := fun b o e => by
  obtain ⟨e1, n1⟩ := era_to e
  obtain ⟨e2, n2⟩ := era_to e1
  exact era_of e2 fun z => z.elim n2 n1
/-- a value that may be kept beside the own lists -/
theorem StIs.fit (S : StIs K m W b H σ ρ) {v : V} {x : D} (i : Is K (era W H) v x) (h : (noOw ρ || imm x) = true) : Is K (era (fun a => W a ∨ Ow σ ρ a) H) v x := by
  rcases Bool.or_eq_true_iff.mp h with h | h
  · exact i.up (era_mono (fun _ _ e _ => e) fun a z => z.elim id fun z => absurd z (noOw_no h))
  · exact (Is.imm S.noTup _ h i).up era_era
theorem StIs.fitAll (S : StIs K m W b H σ ρ) {v : List V} {x : List D} (i : IsAll K (era W H) v x) (h : (noOw ρ || immAll x) = true) : IsAll K (era (fun a => W a ∨ Ow σ ρ a) H) v x := by
  rcases Bool.or_eq_true_iff.mp h with h | h
  · exact i.up (era_mono (fun _ _ e _ => e) fun a z => z.elim id fun z => absurd z (noOw_no h))
  · exact (IsAll.imm S.noTup _ h i).up era_era

/-- slot j gets a value; the own list that stood there is forgotten -/
theorem ow_set {j : Nat} {v : V} {s : Sl} (hs : isOw s = false) {a : Addr} (h : Ow (σ.set j (some v)) (ρ.set j s) a) : Ow σ ρ a ∧ ∃ (i : Nat) (l : List D), i ≠ j ∧ ρ[i]? = some (.ow l) ∧ σ[i]? = some (some (.ref a)) := by
  obtain ⟨i, l, e, e2⟩ := h
  by_cases q : j = i
  · subst q
    by_cases z : j < ρ.length
    · rw [List.getElem?_set_self z] at e
      cases e
      simp [isOw] at hs
    · rw [List.getElem?_eq_none (by rw [List.length_set]; omega)] at e
      cases e
  · rw [List.getElem?_set_ne q] at e e2
    exact ⟨⟨i, l, e, e2⟩, i, l, fun z => q z.symm, e, e2⟩
theorem StIs.setD (S : StIs K m W b H σ ρ) {j : Nat} {v : V} {x : D} (i : Is K (era (fun a => W a ∨ Ow σ ρ a) H) v x) : StIs K m W b H (σ.set j (some v)) (ρ.set j (.d x)) := by
  have mo : Same (era (fun a => W a ∨ Ow σ ρ a) H) (era (fun a => W a ∨ Ow (σ.set j (some v)) (ρ.set j (.d x)) a) H) := era_mono (fun _ _ e _ => e) fun a z => z.elim .inl fun z => .inr (ow_set rfl z).1
  refine ⟨S.ok, S.evo, S.keep, S.sub, S.bB, ?_, fun k l h => ?_, fun k k' l l' a h h' g g' => ?_⟩
  · rw [List.map_set]
    exact (S.env.mono mo).set (.d (i.up mo)) j
  · by_cases q : j = k
    · subst q
      by_cases z : j < ρ.length
      · rw [List.getElem?_set_self z] at h
        cases h
      · rw [List.getElem?_eq_none (by rw [List.length_set]; omega)] at h
        cases h
    · rw [List.getElem?_set_ne q] at h
      obtain ⟨a, xs, e1, hw, hb, hx, ha⟩ := S.own k l h
      exact ⟨a, xs, by rw [List.getElem?_set_ne q]; exact e1, hw, hb, hx, ha.up mo⟩
  · have nj : ∀ (k : Nat) (l : List D), (ρ.set j (.d x))[k]? = some (.ow l) → j ≠ k := fun k l h q => by
      subst q
      by_cases z : j < ρ.length
      · rw [List.getElem?_set_self z] at h
        cases h
      · rw [List.getElem?_eq_none (by rw [List.length_set]; omega)] at h
        cases h
    have n1 := nj k l h
    have n2 := nj k' l' h'
    rw [List.getElem?_set_ne n1] at h g
    rw [List.getElem?_set_ne n2] at h' g'
    exact S.inj k k' l l' a h h' g g'
/-- slot j gets a new list -/
theorem StIs.setF (S : StIs K m W b H σ ρ) {j : Nat} {p : Addr} {xs : List V} {l : List D} (hj : j < ρ.length) (hp : ∀ (i : Nat) (l : List D), ρ[i]? = some (.ow l) → σ[i]? ≠ some (some (.ref p))) (hw : ¬ W p) (hb : b.H p = none) (hx : H p = some (.lst xs))
    (hnot : EnvIs K (era (fun a => W a ∨ Ow σ ρ a ∨ a = p) H) σ (ρ.map hid)) (hown : ∀ (i : Nat) (l : List D), ρ[i]? = some (.ow l) → ∃ (a : Addr) (xs : List V), σ[i]? = some (some (.ref a)) ∧ H a = some (.lst xs) ∧ IsAll K (era (fun a => W a ∨ Ow σ ρ a ∨ a = p) H) xs l)
    (i : IsAll K (era (fun a => W a ∨ Ow σ ρ a ∨ a = p) H) xs l) : StIs K m W b H (σ.set j (some (.ref p))) (ρ.set j (.ow l)) := by
  have hjσ : j < σ.length := by
    have := S.env.length
    rw [List.length_map] at this
    omega
  have sub : ∀ a, Ow (σ.set j (some (.ref p))) (ρ.set j (.ow l)) a → Ow σ ρ a ∨ a = p := fun a ⟨k, l', e, e2⟩ => by
    by_cases q : j = k
    · subst q
      rw [List.getElem?_set_self hjσ] at e2
      exact .inr (V.ref.inj (Option.some.inj (Option.some.inj e2))).symm
    · rw [List.getElem?_set_ne q] at e e2
      exact .inl ⟨k, l', e, e2⟩
  have mo : Same (era (fun a => W a ∨ Ow σ ρ a ∨ a = p) H) (era (fun a => W a ∨ Ow (σ.set j (some (.ref p))) (ρ.set j (.ow l)) a) H) := era_mono (fun _ _ e _ => e) fun a z => z.elim .inl fun z => .inr (sub a z)
  refine ⟨S.ok, S.evo, S.keep, S.sub, S.bB, ?_, fun k l' h => ?_, fun k k' l1 l2 a h h' g g' => ?_⟩
  · rw [List.map_set]
    exact (hnot.mono mo).set .no j
  · by_cases q : j = k
    · subst q
      rw [List.getElem?_set_self hj] at h
      cases h
      exact ⟨p, xs, List.getElem?_set_self hjσ, hw, hb, hx, i.up mo⟩
    · rw [List.getElem?_set_ne q] at h
      obtain ⟨a, ys, e1, hw', hb', hx', _⟩ := S.own k l' h
      obtain ⟨a2, ys2, e2, hx2, ha2⟩ := hown k l' h
      rw [e1] at e2
      cases e2
      exact ⟨a, ys2, by rw [List.getElem?_set_ne q]; exact e1, hw', hb', hx2, ha2.up mo⟩
  · by_cases q : j = k
    · by_cases q' : j = k'
      · exact q.symm.trans q'
      · subst q
        rw [List.getElem?_set_self hjσ] at g
        rw [List.getElem?_set_ne q'] at h' g'
        cases g
        exact absurd g' (hp k' l2 h')
    · by_cases q' : j = k'
      · subst q'
        rw [List.getElem?_set_self hjσ] at g'
        rw [List.getElem?_set_ne q] at h g
        cases g'
        exact absurd g (hp k l1 h)
      · rw [List.getElem?_set_ne q] at h g
        rw [List.getElem?_set_ne q'] at h' g'
        exact S.inj k k' l1 l2 a h h' g g'
end
end TL

/-! TL, part 6: statements, further. -/
namespace TL
open PySem L2
open PySem.Spec PyProof.Rows
variable {K : PySem.W.Frag} {X : Cx} {m : Md}
section
variable {W : Addr → Prop} {b : Bs} {H H' H1 : Hp} {σ : L2.St} {ρ : List Sl}
theorem StIs.len (S : StIs K m W b H σ ρ) : σ.length = ρ.length := by
  have := S.env.length
  rw [List.length_map] at this
  exact this
theorem StIs.new (S : StIs K m W b H σ ρ) {p : Addr} (h : H p = none) : ¬ W p ∧ ¬ Ow σ ρ p ∧ b.H p = none := by
  refine ⟨fun z => S.ok.tr p z h, fun z => ?_, ?_⟩
  · obtain ⟨⟨xs, e⟩, _⟩ := S.owT z
    rw [h] at e
    cases e
  · cases q : b.H p with
    | none => rfl
    | some o => exact absurd h (S.keep p (S.sub p (by rw [q]; simp)))
/-- a new list goes to slot j -/
theorem StIs.newF (S : StIs K m W b H σ ρ) {j : Nat} {p : Addr} {xs : List V} {l : List D} (e : Evo m H H1) (hj : j < ρ.length) (hp : H p = none) (hx : H1 p = some (.lst xs))
    (i : IsAll K (era (fun a => (W a ∨ Ow σ ρ a) ∨ a = p) H1) xs l) : StIs K m W b H1 (σ.set j (some (.ref p))) (ρ.set j (.ow l)) := by
  obtain ⟨nW, nO, nb⟩ := S.new hp
  have mo' : Same (era (fun a => W a ∨ Ow σ ρ a) H) (era (fun a => W a ∨ Ow σ ρ a ∨ a = p) H1) := fun x o q => by
    obtain ⟨q1, q2⟩ := era_to q
    refine era_of (e.1 x o q1 fun z => q2 (.inl (S.ok.sub x z))) fun z => ?_
    rcases z with z | z | z
    · exact q2 (.inl z)
    · exact q2 (.inr z)
    · rw [z, hp] at q1
      cases q1
  refine (S.step e).setF hj (fun i l h g => nO ⟨i, l, h, g⟩) nW nb hx (S.env.mono mo') (fun i l h => ?_) (i.up (era_mono (fun _ _ q _ => q) fun a z => by
    rcases z with z | z | z
    · exact .inl (.inl z)
    · exact .inl (.inr z)
    · exact .inr z))
  obtain ⟨a, ys, e1, hw, hb, hx', ha⟩ := S.own i l h
  exact ⟨a, ys, e1, e.1 a _ hx' fun z => hw (S.ok.sub a z), ha.up mo'⟩
/-- the own list in slot i is written -/
theorem StIs.mut (S : StIs K m W b H σ ρ) {i : Nat} {a : Addr} {l l' : List D} {xs xs' : List V} (hi : ρ[i]? = some (.ow l)) (ha : σ[i]? = some (some (.ref a))) (hx : H a = some (.lst xs))
    (h : IsAll K (era (fun a => W a ∨ Ow σ ρ a) H) xs' l') : StIs K m W b (upd H a (.lst xs')) σ (ρ.set i (.ow l')) := by
  have hO : Ow σ ρ a := ⟨i, l, hi, ha⟩
  obtain ⟨_, nW, nb⟩ := S.owT hO
  have nM := S.noM hO
  have hil : i < ρ.length := (List.getElem?_eq_some_iff.mp hi).1
  have eO : ∀ c, Ow σ (ρ.set i (.ow l')) c ↔ Ow σ ρ c := fun c => by
    constructor
    · rintro ⟨k, l1, e1, e2⟩
      by_cases q : i = k
      · subst q
        exact ⟨i, l, hi, e2⟩
      · rw [List.getElem?_set_ne q] at e1
        exact ⟨k, l1, e1, e2⟩
    · rintro ⟨k, l1, e1, e2⟩
      by_cases q : i = k
      · subst q
        exact ⟨i, l', List.getElem?_set_self hil, e2⟩
      · exact ⟨k, l1, by rw [List.getElem?_set_ne q]; exact e1, e2⟩
  have ev : era (fun c => W c ∨ Ow σ (ρ.set i (.ow l')) c) (upd H a (.lst xs')) = era (fun c => W c ∨ Ow σ ρ c) H := by
    funext c
    unfold era
    by_cases z : W c ∨ Ow σ ρ c
    · rw [if_pos z, if_pos (z.elim .inl fun z => .inr ((eO c).mpr z))]
    · rw [if_neg z, if_neg fun q => z (q.elim .inl fun q => .inr ((eO c).mp q)), upd_ne fun q => z (.inr (by rw [q]; exact hO))]
  have st : m.R (upd H a (.lst xs')) := m.st _ _ S.ok.R fun c o e q => by
    rw [upd_ne fun z => ?_]
    · exact e
    · rw [z] at e q
      rw [hx] at e
      rcases q with q | q
      · exact nM q
      · exact q (S.okH.dB a (.inr hO))
  refine ⟨⟨st, S.ok.sub, fun c hc => ?_, fun c u q => by rw [upd_ne fun z => (by rw [z, S.okH.dB a (.inr hO)] at q; cases q)]; exact S.ok.sB c u q, S.ok.dB⟩, ⟨fun c o e n => ?_, st⟩, fun c hc => ?_, S.sub, S.bB, ?_, fun k l1 hk => ?_, fun k k' l1 l2 c e1 e2 g1 g2 => ?_⟩
  · by_cases z : c = a
    · rw [z, upd_same]
      simp
    · rw [upd_ne z]
      exact S.ok.tr c hc
  · rw [upd_ne fun z => by rw [z, nb] at e; cases e]
    exact S.evo.1 c o e n
  · by_cases z : c = a
    · rw [z, upd_same]
      simp
    · rw [upd_ne z]
      exact S.keep c hc
  · rw [ev, List.map_set]
    have e1 : (ρ.map hid).set i (hid (.ow l')) = ρ.map hid := by
      refine List.ext_getElem? fun k => ?_
      by_cases q : i = k
      · subst q
        rw [List.getElem?_set_self (by rw [List.length_map]; exact hil), map_get hi]
        rfl
      · rw [List.getElem?_set_ne q]
    rw [e1]
    exact S.env
  · rw [ev]
    by_cases q : i = k
    · subst q
      rw [List.getElem?_set_self hil] at hk
      cases hk
      exact ⟨a, xs', ha, nW, nb, upd_same, h⟩
    · rw [List.getElem?_set_ne q] at hk
      obtain ⟨c, ys, e1, w1, b1, x1, i1⟩ := S.own k l1 hk
      refine ⟨c, ys, e1, w1, b1, ?_, i1⟩
      rw [upd_ne fun z => ?_]
      · exact x1
      · subst z
        exact q (S.inj i k l l1 c hi hk ha e1)
  · have r : ∀ (k : Nat) (l1 : List D), (ρ.set i (.ow l'))[k]? = some (.ow l1) → ∃ l2 : List D, ρ[k]? = some (.ow l2) := fun k l1 e1 => by
      by_cases q : i = k
      · subst q
        exact ⟨l, hi⟩
      · rw [List.getElem?_set_ne q] at e1
        exact ⟨l1, e1⟩
    obtain ⟨l3, e3⟩ := r k l1 e1
    obtain ⟨l4, e4⟩ := r k' l2 e2
    exact S.inj k k' l3 l4 c e3 e4 g1 g2
/-- an own list is no longer written -/
theorem StIs.frz (S : StIs K m W b H σ ρ) {j : Nat} {l : List D} (hj : ρ[j]? = some (.ow l)) : StIs K m W b H σ (ρ.set j (.d (.list l))) := by
  obtain ⟨a, xs, ea, nW, nb, hx, ia⟩ := S.own j l hj
  have hjl : j < ρ.length := (List.getElem?_eq_some_iff.mp hj).1
  have sub : ∀ c, Ow σ (ρ.set j (.d (.list l))) c → Ow σ ρ c ∧ c ≠ a := fun c ⟨k, l1, e1, e2⟩ => by
    by_cases q : j = k
    · subst q
      rw [List.getElem?_set_self hjl] at e1
      cases e1
    · rw [List.getElem?_set_ne q] at e1
      exact ⟨⟨k, l1, e1, e2⟩, fun z => q (S.inj j k l l1 a hj e1 ea (z ▸ e2))⟩
  have mo : Same (era (fun c => W c ∨ Ow σ ρ c) H) (era (fun c => W c ∨ Ow σ (ρ.set j (.d (.list l))) c) H) := era_mono (fun _ _ e _ => e) fun c z => z.elim .inl fun z => .inr (sub c z).1
  have es : σ.set j (some (.ref a)) = σ := by
    refine List.ext_getElem? fun k => ?_
    by_cases q : j = k
    · subst q
      rw [List.getElem?_set_self (by rw [S.len]; exact hjl), ea]
    · rw [List.getElem?_set_ne q]
  refine ⟨S.ok, S.evo, S.keep, S.sub, S.bB, ?_, fun k l1 hk => ?_, fun k k' l1 l2 c e1 e2 g1 g2 => ?_⟩
  · have := (S.env.mono mo).set (i := j) (EnIs.d (Is.lst (K := K) (era_of hx fun z => z.elim nW fun z => (sub a z).2 rfl) (ia.up mo)))
    rw [es] at this
    rw [List.map_set]
    exact this
  · by_cases q : j = k
    · subst q
      rw [List.getElem?_set_self hjl] at hk
      cases hk
    · rw [List.getElem?_set_ne q] at hk
      obtain ⟨c, ys, e1, w1, b1, x1, i1⟩ := S.own k l1 hk
      exact ⟨c, ys, e1, w1, b1, x1, i1.up mo⟩
  · have r : ∀ (k : Nat) (l1 : List D), (ρ.set j (.d (.list l)))[k]? = some (.ow l1) → ρ[k]? = some (.ow l1) := fun k l1 e1 => by
      by_cases q : j = k
      · subst q
        rw [List.getElem?_set_self hjl] at e1
        cases e1
      · rw [List.getElem?_set_ne q] at e1
        exact e1
    exact S.inj k k' l1 l2 c (r k l1 e1) (r k' l2 e2) g1 g2
/-- a later base -/
noncomputable def Bs.at (H1 : Hp) (σ : L2.St) (ρ : List Sl) : Bs := ⟨era (Ow σ ρ) H1, fun a => H1 a ≠ none⟩
theorem StIs.base (S : StIs K m W b H σ ρ) : StIs K m W (Bs.at H σ ρ) H σ ρ :=
  ⟨S.ok, ⟨fun c o e _ => (era_to e).1, S.ok.R⟩, fun a h => h, fun a h => by
    cases q : era (Ow σ ρ) H a with
    | none => exact absurd q h
    | some o =>
      show H a ≠ none
      rw [(era_to q).1]
      exact Option.some_ne_none _, fun c u q => era_of (S.ok.sB c u q) fun z => (by rw [S.okH.dB c (.inr z)] at q; cases q), S.env, fun i l h => by
    obtain ⟨a, xs, e1, w1, b1, x1, i1⟩ := S.own i l h
    exact ⟨a, xs, e1, w1, (show era (Ow σ ρ) H a = none from by
      cases q : era (Ow σ ρ) H a with
      | none => rfl
      | some o => exact absurd ⟨i, l, h, e1⟩ (era_to q).2), x1, i1⟩, S.inj⟩
theorem StIs.evoBack (S : StIs K m W b H1 σ ρ) (e : Evo m (Bs.at H1 σ ρ).H H') : Evo m b.H H' := ⟨fun c o q n => e.1 c o (era_of (S.evo.1 c o q n) fun z => by
    have := (S.owT z).2.2
    rw [this] at q
    cases q) n, e.2⟩
theorem StIs.back {σ' : L2.St} {ρ' : List Sl} (S : StIs K m W b H1 σ ρ) (S' : StIs K m W (Bs.at H1 σ ρ) H' σ' ρ') : StIs K m W b H' σ' ρ' :=
  ⟨S'.ok, S.evoBack S'.evo, fun a h => S'.keep a (S.keep a h), S.sub, S.bB, S'.env, fun i l h => by
    obtain ⟨a, xs, e1, w1, b1, x1, i1⟩ := S'.own i l h
    exact ⟨a, xs, e1, w1, (by
      cases q : b.H a with
      | none => rfl
      | some o =>
        have e2 := S.evo.1 a o q fun z => w1 (S'.ok.sub a z)
        have e3 : (Bs.at H1 σ ρ).H a = some o := era_of e2 fun z => by
          have := (S.owT z).2.2
          rw [this] at q
          cases q
        rw [e3] at b1
        cases b1), x1, i1⟩, S'.inj⟩
end

/-! ### the rules -/
section
variable {st : Stmt} {rest sts : List Stmt} {d u : DS} {e c : Expr} {de : TD} {df : TDA} {dt : TDT} {pos pos' : Pos}
def dNext : DS := fun ρ E => E.nx ρ
def dSeq (d u : DS) : DS := fun ρ E => d ρ { E with nx := fun ρ' => u ρ' E }
theorem ss_nil : BSs X m [] dNext := pssw pss_nil fun D σ H ⟨W, b, ρ, E, S, h, G⟩ => G.nx _ _ _ S h
theorem ss_cons (h1 : BS X m st d) (h2 : BSs X m rest u) : BSs X m (st :: rest) (dSeq d u) := pssw (pss_cons h1 h2) fun D σ H ⟨W, b, ρ, E, S, h, G⟩ =>
  ⟨W, b, ρ, _, S, h, ⟨fun σ' H' ρ' S' q => ⟨W, b, ρ', E, S', q, G⟩, G.rt, G.bk, G.ct⟩⟩
theorem ss_one (h1 : BS X m st d) : BSs X m [st] d := pss_one h1
def dNever : DS := fun _ _ => False
theorem s_never : BS X m st dNever := psw ps_never fun D σ H ⟨W, b, ρ, E, S, h, G⟩ => h
theorem ss_never : BSs X m sts dNever := pssw pss_never fun D σ H ⟨W, b, ρ, E, S, h, G⟩ => h
theorem s_pass : BS X m (.Pass pos) dNext := psw ps_pass fun D σ H ⟨W, b, ρ, E, S, h, G⟩ => G.nx _ _ _ S h
def dBrk : DS := fun ρ E => E.bk ρ
def dCnt : DS := fun ρ E => E.ct ρ
theorem s_break : BS X m (.Break pos) dBrk := psw ps_break fun D σ H ⟨W, b, ρ, E, S, h, G⟩ => G.bk _ _ _ S h
theorem s_continue : BS X m (.Continue pos) dCnt := psw ps_continue fun D σ H ⟨W, b, ρ, E, S, h, G⟩ => G.ct _ _ _ S h
def dDrop (de : TD) : DS := fun ρ E => de (ρ.map vis) fun _ => E.nx ρ
theorem s_expr (he : BE X m e de) (hs : swapsWith e none pos.line X.env = pure false := by rfl) : BS X m (.Expr e pos) (dDrop de) := psw (ps_expr (pe_ex he) hs) fun D σ H ⟨W, b, ρ, E, S, h, G⟩ =>
  ⟨W, tD_at S.ok S.vis h fun v H1 x e1 o1 n1 i1 h1 => G.nx _ _ _ (S.step e1) h1⟩
def dRet (de : TD) : DS := fun ρ E => de (ρ.map vis) E.rt
theorem s_ret (he : BE X m e de) : BS X m (.Return (some e) pos) (dRet de) := psw (ps_ret (pe_ex he)) fun D σ H ⟨W, b, ρ, E, S, h, G⟩ =>
  ⟨W, tD_at S.ok S.vis h fun v H1 x e1 o1 n1 i1 h1 => G.rt _ _ _ (S.evo.trans e1) i1 h1⟩
def dRetN : DS := fun ρ E => E.rt .none
theorem s_retN : BS X m (.Return none pos) dRetN := psw ps_retN fun D σ H ⟨W, b, ρ, E, S, h, G⟩ => G.rt _ _ _ S.evo .non h
def dIf (dt : TDT) (d u : DS) : DS := fun ρ E => dt (ρ.map vis) fun c => match c with
  | true => d ρ E
  | false => u ρ E
theorem s_if {a b : List Stmt} (hc : BT X m c dt) (ha : BSs X m a d) (hb : BSs X m b u) : BS X m (.If c a b pos) (dIf dt d u) := psw (ps_if (pt_ex hc) ha hb) fun D σ H ⟨W, b, ρ, E, S, h, G⟩ =>
  ⟨W, tDT_at S.ok S.vis h fun c H1 e1 o1 n1 h1 => by
    cases c with
    | true =>
      rw [if_pos rfl]
      exact ⟨W, _, ρ, E, S.step e1, h1, G⟩
    | false =>
      rw [if_neg Bool.false_ne_true]
      exact ⟨W, _, ρ, E, S.step e1, h1, G⟩⟩
/-- name = e: a tree; a new list of one's own -/
def dSet (i : Nat) (de : TD) : DS := fun ρ E => de (ρ.map vis) fun x => (noOw ρ || imm x) = true ∧ E.nx (ρ.set i (.d x))
def dSetH (i : Nat) (de : TD) : DS := fun ρ E => de (ρ.map hid) fun x => E.nx (ρ.set i (.d x))
def dSetF (i : Nat) (df : TDA) : DS := fun ρ E => df (ρ.map vis) fun l => ((noOw ρ || immAll l) = true ∧ i < ρ.length) ∧ E.nx (ρ.set i (.ow l))
def dSetFH (i : Nat) (df : TDA) : DS := fun ρ E => df (ρ.map hid) fun l => i < ρ.length ∧ E.nx (ρ.set i (.ow l))
section
variable {i : Nat} {x : Str}
theorem s_set (hN : X.N.Nodup) (hi : X.N[i]? = some x) (hx : Loc X.env.scope x) (he : BE X m e de) (hs : swapsWith e (some (.Name x pos')) pos.line X.env = pure false := by rfl) (hf : X.fn x = true ∨ X.env.scope.names.lookup x = some .local := by first | exact .inl rfl | exact .inr rfl | assumption) :
    BS X m (.Assign [.Name x pos'] e pos) (dSet i de) := psw (ps_set hN hi hx (pe_ex he) hs hf) fun D σ H ⟨W, b, ρ, E, S, h, G⟩ =>
  ⟨W, tD_at S.ok S.vis h fun v H1 x e1 o1 n1 i1 ⟨h0, h1⟩ => G.nx _ _ _ ((S.step e1).setD ((S.step e1).fit i1 h0)) h1⟩
theorem s_setH (hN : X.N.Nodup) (hi : X.N[i]? = some x) (hx : Loc X.env.scope x) (he : BE X m e de) (hs : swapsWith e (some (.Name x pos')) pos.line X.env = pure false := by rfl) (hf : X.fn x = true ∨ X.env.scope.names.lookup x = some .local := by first | exact .inl rfl | exact .inr rfl | assumption) :
    BS X m (.Assign [.Name x pos'] e pos) (dSetH i de) := psw (ps_set hN hi hx (pe_ex he) hs hf) fun D σ H ⟨W, b, ρ, E, S, h, G⟩ =>
  ⟨_, tD_at S.okH S.env h fun v H1 x e1 o1 n1 i1 h1 => G.nx _ _ _ ((S.step e1).setD i1) h1⟩
theorem setF_to {te : TE} (ht : ∀ σ H Q, (∃ W, tF K m W df σ H Q) → te σ H Q) : ∀ D σ H, tS K m (dSetF i df) D σ H → tAsg te (gName i) D σ H := fun D σ H ⟨W, b, ρ, E, S, h, G⟩ =>
  ht _ _ _ ⟨W, _, _, S.ok, S.vis, h, fun p H1 xs l e1 hp hx i1 ⟨⟨h0, hj⟩, h1⟩ => G.nx _ _ _ (S.newF e1 hj hp hx (by
    rcases Bool.or_eq_true_iff.mp h0 with h0 | h0
    · exact i1.up (era_mono (fun _ _ q _ => q) fun a z => z.elim (fun z => z.elim .inl fun z => absurd z (noOw_no h0)) .inr)
    · have q := IsAll.imm (O := Ow σ ρ) (K := K) (H := era (fun b => W b ∨ b = p) H1) (fun a z xs' => by
        obtain ⟨⟨ys, e⟩, hw, _⟩ := S.owT z
        have e' := e1.1 a _ e (S.noM z)
        have nn : ¬ (W a ∨ a = p) := fun w => w.elim hw fun w => by
          rw [w, hp] at e
          cases e
        rw [era_of e' nn]
        simp) _ h0 i1
      exact (q.up era_era).up (era_mono (fun _ _ q _ => q) fun a z => z.elim (fun z => z.elim (fun z => .inl (.inl z)) .inr) fun z => .inl (.inr z)))) h1⟩
theorem setFH_to {te : TE} (ht : ∀ σ H Q, (∃ W, tF K m W df σ H Q) → te σ H Q) : ∀ D σ H, tS K m (dSetFH i df) D σ H → tAsg te (gName i) D σ H := fun D σ H ⟨W, b, ρ, E, S, h, G⟩ =>
  ht _ _ _ ⟨_, _, _, S.okH, S.env, h, fun p H1 xs l e1 hp hx i1 ⟨hj, h1⟩ => G.nx _ _ _ (S.newF e1 hj hp hx i1) h1⟩
theorem s_setF (hN : X.N.Nodup) (hi : X.N[i]? = some x) (hx : Loc X.env.scope x) (he : BF X m e df) (hs : swapsWith e (some (.Name x pos')) pos.line X.env = pure false := by rfl) (hf : X.fn x = true ∨ X.env.scope.names.lookup x = some .local := by first | exact .inl rfl | exact .inr rfl | assumption) :
    BS X m (.Assign [.Name x pos'] e pos) (dSetF i df) := psw (ps_set hN hi hx (pe_ex (T := fun W => tF X.K m W df) he) hs hf) (setF_to fun _ _ _ q => q)
theorem s_setFH (hN : X.N.Nodup) (hi : X.N[i]? = some x) (hx : Loc X.env.scope x) (he : BF X m e df) (hs : swapsWith e (some (.Name x pos')) pos.line X.env = pure false := by rfl) (hf : X.fn x = true ∨ X.env.scope.names.lookup x = some .local := by first | exact .inl rfl | exact .inr rfl | assumption) :
    BS X m (.Assign [.Name x pos'] e pos) (dSetFH i df) := psw (ps_set hN hi hx (pe_ex (T := fun W => tF X.K m W df) he) hs hf) (setFH_to fun _ _ _ q => q)
end
end
end TL

/-! TL, part 7: statements that write lists; loops; defs and calls. -/
namespace TL
open PySem L2
open PySem.Spec PyProof.Rows
variable {K : PySem.W.Frag} {X : Cx} {m : Md}
section
variable {st : Stmt} {rest sts : List Stmt} {d u : DS} {e c elt tg iter : Expr} {de dx : TD} {df di : TDA} {dt : TDT} {pos pos' apos cpos py spos : Pos} {i j : Nat} {x y : Str}
/-- name = [..] on one line -/
theorem s_setLc {ifs : List Expr} {dg : TDG} {is : List Nat} {scope : Scope} {own : List (Str × Nat)} (hc : X.calm = true) (hN : X.N.Nodup) (hy : X.N[i]? = some y) (hyl : X.env.scope.names.lookup y = some .local)
    (hsw : swapsWith (.ListComp elt [⟨tg, iter, ifs, 0⟩] scope pos) (some (.Name y py)) spos.line X.env = pure true) (hi : BI X m tg iter di) (ok : BlkOk X.N X.env.scope scope own) (hsub : ∀ i, i ∈ is → i ∈ own.map (·.2))
    (hg : ∀ (s : Shared) (H : Hp) (C : Addr) (cl : List (Str × Addr)) (fp : List Addr), BG (X.blk s H scope (compEnvC scope cl C X.env) fp) tg is dg) (ht : ∀ (s : Shared) (H : Hp) (C : Addr) (cl : List (Str × Addr)) (fp : List Addr), BTs (X.blk s H scope (compEnvC scope cl C X.env) fp) m ifs dt)
    (he : ∀ (s : Shared) (H : Hp) (C : Addr) (cl : List (Str × Addr)) (fp : List Addr), BE (X.blk s H scope (compEnvC scope cl C X.env) fp) m elt de) (hs : ∀ x, foldedSetIterable iter X.env x = pure x := by intro _; rfl) :
    BS X m (.Assign [.Name y py] (.ListComp elt [⟨tg, iter, ifs, 0⟩] scope pos) spos) (dSetF i (dLc di dg dt de (own.map (·.2)))) :=
  psw (ps_setLc (wi := tDI X.K m di) (g := tDG X.K is dg) (tt := fun σ H Q => ∃ W, tDT X.K m W dt σ H Q) (te := fun σ H Q => ∃ W, tD X.K m W de σ H Q) hc hN hy hyl hsw hi ok (fun s H C cl fp => hg s H C cl fp)
    (fun s H C cl fp => pts_ex (T := fun W => tDT X.K m W dt) (ht s H C cl fp)) (fun s H C cl fp => pe_ex (T := fun W => tD X.K m W de) (he s H C cl fp)) hs) (setF_to fun σ H Q ⟨W, h⟩ => lc_to hsub σ H Q h)
theorem s_setLcH {ifs : List Expr} {dg : TDG} {is : List Nat} {scope : Scope} {own : List (Str × Nat)} (hc : X.calm = true) (hN : X.N.Nodup) (hy : X.N[i]? = some y) (hyl : X.env.scope.names.lookup y = some .local)
    (hsw : swapsWith (.ListComp elt [⟨tg, iter, ifs, 0⟩] scope pos) (some (.Name y py)) spos.line X.env = pure true) (hi : BI X m tg iter di) (ok : BlkOk X.N X.env.scope scope own) (hsub : ∀ i, i ∈ is → i ∈ own.map (·.2))
    (hg : ∀ (s : Shared) (H : Hp) (C : Addr) (cl : List (Str × Addr)) (fp : List Addr), BG (X.blk s H scope (compEnvC scope cl C X.env) fp) tg is dg) (ht : ∀ (s : Shared) (H : Hp) (C : Addr) (cl : List (Str × Addr)) (fp : List Addr), BTs (X.blk s H scope (compEnvC scope cl C X.env) fp) m ifs dt)
    (he : ∀ (s : Shared) (H : Hp) (C : Addr) (cl : List (Str × Addr)) (fp : List Addr), BE (X.blk s H scope (compEnvC scope cl C X.env) fp) m elt de) (hs : ∀ x, foldedSetIterable iter X.env x = pure x := by intro _; rfl) :
    BS X m (.Assign [.Name y py] (.ListComp elt [⟨tg, iter, ifs, 0⟩] scope pos) spos) (dSetFH i (dLc di dg dt de (own.map (·.2)))) :=
  psw (ps_setLc (wi := tDI X.K m di) (g := tDG X.K is dg) (tt := fun σ H Q => ∃ W, tDT X.K m W dt σ H Q) (te := fun σ H Q => ∃ W, tD X.K m W de σ H Q) hc hN hy hyl hsw hi ok (fun s H C cl fp => hg s H C cl fp)
    (fun s H C cl fp => pts_ex (T := fun W => tDT X.K m W dt) (ht s H C cl fp)) (fun s H C cl fp => pe_ex (T := fun W => tD X.K m W de) (he s H C cl fp)) hs) (setFH_to fun σ H Q ⟨W, h⟩ => lc_to hsub σ H Q h)
/-- an own list in slot j is handed to slot i, or no longer written -/
def dFrz (j : Nat) (d : DS) : DS := fun ρ E => match ρ[j]? with
  | some (.ow l) => d (ρ.set j (.d (.list l))) E
  | _ => d ρ E
theorem s_frz (h : BS X m st d) : BS X m st (dFrz j d) := psw h fun D σ H ⟨W, b, ρ, E, S, h, G⟩ => by
  unfold dFrz at h
  split at h
  · rename_i l e
    exact ⟨W, b, _, E, S.frz e, h, G⟩
  · exact ⟨W, b, ρ, E, S, h, G⟩
theorem ss_frz (h : BSs X m sts d) : BSs X m sts (dFrz j d) := pssw h fun D σ H ⟨W, b, ρ, E, S, h, G⟩ => by
  unfold dFrz at h
  split at h
  · rename_i l e
    exact ⟨W, b, _, E, S.frz e, h, G⟩
  · exact ⟨W, b, ρ, E, S, h, G⟩
/-- xs.append(e), xs.extend(e), xs[k] = e: xs an own list in slot i -/
def dApp (i : Nat) (de : TD) : DS := fun ρ E => match ρ[i]? with
  | some (.ow l) => l.length < 100000 ∧ de (ρ.map vis) fun x => imm x = true ∧ E.nx (ρ.set i (.ow (l ++ [x])))
  | _ => False
theorem tyl {H : Hp} {a : Addr} {xs : List V} (h : H a = some (.lst xs)) : tyV K "list" (.ref a) H := .inl ⟨rfl, xs, SqL.of h⟩
theorem s_app {tx : Expr} (hx : PE X tx (tVar i)) (he : BE X m e de) (hbase : attributeBase tx "append" X.env (eval tx X.env) = eval tx X.env := by rfl)
    (hfew : ((backTo cpos (starEach [e] X.env)).all (fun x => !x.1) && (backToKw cpos (keywordEach [] X.env)).all (fun x => x.1.isSome)
      && decide (([e] : List Expr).length + ([] : List Keyword).length + (if ([] : List Keyword).isEmpty then 0 else 1) < 30)) = true := by rfl)
    (hline : (apos.endLine == cpos.line) = true := by rfl) (hs : starEach [e] X.env = (false, eval e X.env) :: starEach [] X.env := by rfl) (hplain : (backTo cpos (starEach [] X.env)).any (·.1) = false := by rfl)
    (hsw : swapsWith (.Call (.Attribute tx "append" apos) [e] [] cpos) none pos.line X.env = pure false := by rfl) : BS X m (.Expr (.Call (.Attribute tx "append" apos) [e] [] cpos) pos) (dApp i de) :=
  psw (ps_expr (pe_bm PySem.F.plainAttrs_list PySem.F.slot_list_append PySem.F.type_list_append mt_append hx (pa_cons (pe_ex he) pa_nil (by first | exact hs | rfl)) hbase hfew hline hs hplain) hsw) fun D σ H ⟨W, b, ρ, E, S, h, G⟩ => by
    unfold dApp at h
    split at h
    · rename_i l e
      obtain ⟨hl, h⟩ := h
      obtain ⟨a, xs, e1, w1, b1, x1, i1⟩ := S.own i l e
      refine ⟨.ref a, e1, tyl x1, W, tD_at S.ok S.vis h fun v H1 x e2 o2 n2 iv ⟨im, h2⟩ => ?_⟩
      have S1 := S.step e2
      obtain ⟨a', xs', e1', w1', b1', x1', i1'⟩ := S1.own i l e
      rw [e1] at e1'
      cases e1'
      exact ⟨a, xs', v, rfl, rfl, x1', Nat.lt_of_lt_of_le (by rw [i1'.length]; exact hl) (by decide), G.nx _ _ _ (S1.mut e e1 x1' (i1'.append (.cons (S1.fit iv (by rw [im]; simp)) .nil))) h2⟩
    · exact h.elim
/-- xs.extend(e) -/
def dExt (i : Nat) (de : TD) : DS := fun ρ E => match ρ[i]? with
  | some (.ow l) => de (ρ.map vis) fun x => match x with
    | .list l' => (l.length + l'.length ≤ 100000 ∧ immAll l' = true) ∧ E.nx (ρ.set i (.ow (l ++ l')))
    | _ => False
  | _ => False
theorem s_ext {tx : Expr} (hx : PE X tx (tVar i)) (he : BE X m e de) (hbase : attributeBase tx "extend" X.env (eval tx X.env) = eval tx X.env := by rfl)
    (hfew : ((backTo cpos (starEach [e] X.env)).all (fun x => !x.1) && (backToKw cpos (keywordEach [] X.env)).all (fun x => x.1.isSome)
      && decide (([e] : List Expr).length + ([] : List Keyword).length + (if ([] : List Keyword).isEmpty then 0 else 1) < 30)) = true := by rfl)
    (hline : (apos.endLine == cpos.line) = true := by rfl) (hs : starEach [e] X.env = (false, eval e X.env) :: starEach [] X.env := by rfl) (hplain : (backTo cpos (starEach [] X.env)).any (·.1) = false := by rfl)
    (hsw : swapsWith (.Call (.Attribute tx "extend" apos) [e] [] cpos) none pos.line X.env = pure false := by rfl) : BS X m (.Expr (.Call (.Attribute tx "extend" apos) [e] [] cpos) pos) (dExt i de) :=
  psw (ps_expr (pe_bm PySem.F.plainAttrs_list PySem.F.slot_list_extend PySem.F.type_list_extend mt_extend hx (pa_cons (pe_ex he) pa_nil (by first | exact hs | rfl)) hbase hfew hline hs hplain) hsw) fun D σ H ⟨W, b, ρ, E, S, h, G⟩ => by
    unfold dExt at h
    split at h
    · rename_i l e
      obtain ⟨a, xs, e1, w1, b1, x1, i1⟩ := S.own i l e
      refine ⟨.ref a, e1, tyl x1, W, tD_at S.ok S.vis h fun v H1 x e2 o2 n2 iv h2 => ?_⟩
      cases x <;> first | exact h2.elim | skip
      rename_i l'
      obtain ⟨⟨hl, im⟩, h2⟩ := h2
      have S1 := S.step e2
      obtain ⟨a', xs', e1', w1', b1', x1', i1'⟩ := S1.own i l e
      rw [e1] at e1'
      cases e1'
      cases iv with
      | @lst c zs _ hc ic =>
        exact ⟨a, c, xs', zs, rfl, rfl, x1', (era_to hc).1, len_ok (by rw [i1'.length, ic.length]; exact hl), G.nx _ _ _ (S1.mut e e1 x1' (i1'.append (S1.fitAll ic (by rw [im]; simp)))) h2⟩
    · exact h.elim
/-- xs[k] = e -/
def dSub (i : Nat) (dx de : TD) : DS := fun ρ E => match ρ[i]? with
  | some (.ow l) => de (ρ.map vis) fun x => dx (ρ.map vis) fun k => match k with
    | .int z => match ixN l.length z with
      | some n => imm x = true ∧ E.nx (ρ.set i (.ow (l.set n x)))
      | none => False
    | _ => False
  | _ => False
theorem s_sub {tx k : Expr} (hx : PE X tx (tVar i)) (hk : BE X m k dx) (he : BE X m e de)
    (ha : ∀ v, assign (.Subscript tx k pos') X.env v = (do
      let ov ← holding [v] (eval tx X.env)
      let iv ← holding [v, ov] (eval k X.env)
      standAt pos'
      holding [v, ov, iv] (setItem ov iv v)
      release [v, ov, iv] []) := by intro _; rfl) (hs : swapsWithSole [.Subscript tx k pos'] e pos.line X.env = pure false := by rfl) (hw : swappedStores [.Subscript tx k pos'] e X.env = pure none := by rfl)
    (h1 : (assignEach [.Subscript tx k pos'] X.env).map (·.2) = [assign (.Subscript tx k pos') X.env] := by rfl) : BS X m (.Assign [.Subscript tx k pos'] e pos) (dSub i dx de) :=
  psw (ps_asg (pe_ex he) (pg_sub hx (pe_ex hk) set_list ha) hs hw h1) fun D σ H ⟨W, b, ρ, E, S, h, G⟩ =>
    by
    unfold dSub at h
    split at h
    · rename_i l e
      refine ⟨W, tD_at S.ok S.vis h fun v H1 x e1 o1 n1 i1 h1 => ?_⟩
      have S1 := S.step e1
      obtain ⟨a, xs, q1, w1, b1, x1, j1⟩ := S1.own i l e
      refine ⟨.ref a, q1, W, tD_at S1.ok S1.vis h1 fun v2 H2 k e2 o2 n2 i2 h2 => ?_⟩
      have S2 := S1.step e2
      obtain ⟨a', xs', q2, w2, b2, x2, j2⟩ := S2.own i l e
      rw [q1] at q2
      cases q2
      cases k <;> first | exact h2.elim | skip
      rename_i z
      cases i2
      cases en : ixN l.length z with
      | none =>
        simp only [en] at h2
      | some n =>
        simp only [en] at h2
        exact ⟨a, xs', z, n, rfl, rfl, x2, by rw [j2.length]; exact en, G.nx _ _ _ (S2.mut e q1 x2 (j2.set (S2.fit (i1.up (o1.view e2)) (by rw [h2.1]; simp)) n)) h2.2⟩
    · exact h.elim

/-! ### targets in statements -/
abbrev TSG := D → List Sl → (List Sl → Prop) → Prop
def tSG (K : PySem.W.Frag) (m : Md) (d : TSG) : TG := fun v σ H Q => ∃ W b ρ x P, StIs K m W b H σ ρ ∧ Is K (era (fun a => W a ∨ Ow σ ρ a) H) v x ∧ d x ρ P ∧ ∀ σ' ρ', StIs K m W b H σ' ρ' → P ρ' → Q σ' H
abbrev TSGs := List D → List Sl → (List Sl → Prop) → Prop
def tSGs (K : PySem.W.Frag) (m : Md) (d : TSGs) : TGs := fun vs σ H Q => ∃ W b ρ l P Z, StIs K m W b H σ ρ ∧ (∀ a, Ow σ ρ a → Z a) ∧ (∀ a, W a → Z a) ∧ IsAll K (era Z H) vs l ∧ d l ρ P ∧ ∀ σ' ρ', StIs K m W b H σ' ρ' → P ρ' → Q σ' H
def sgN (i : Nat) : TSG := fun x ρ P => P (ρ.set i (.d x))
def sgT (n : Nat) (ds : TSGs) : TSG := fun x ρ P => match x with
  | .tuple l => l.length = n ∧ ds l ρ P
  | _ => False
def sgNil : TSGs := fun l ρ P => match l with
  | [] => P ρ
  | _ => False
/-- the first name, then the others -/
def sgCons (i : Nat) (ds : TSGs) : TSGs := fun l ρ P => match l with
  | x :: r => ds r (ρ.set i (.d x)) P
  | [] => False
theorem sg_name (hN : X.N.Nodup) (hi : X.N[i]? = some x) (hx : Loc X.env.scope x) (hf : X.fn x = true ∨ X.env.scope.names.lookup x = some .local := by first | exact .inl rfl | exact .inr rfl | assumption) : PG X (.Name x pos) (tSG X.K m (sgN i)) :=
  pgw (pg_name hN hi hx hf) fun v σ H Q ⟨W, b, ρ, x, P, S, j, h, k⟩ => k _ _ (S.setD j) h
theorem sgs_nil : PGs X [] (tSGs X.K m sgNil) := pgsw pgs_nil fun v σ H Q ⟨W, b, ρ, l, P, Z, S, z1, z2, j, h, k⟩ => by
  cases j with
  | nil => exact ⟨rfl, k _ _ S h⟩
  | cons a b => exact h.elim
theorem sgs_cons {es : List Expr} {ds : TSGs} (hN : X.N.Nodup) (hi : X.N[i]? = some x) (hx : Loc X.env.scope x) (h2 : PGs X es (tSGs X.K m ds)) (hf : X.fn x = true ∨ X.env.scope.names.lookup x = some .local := by first | exact .inl rfl | exact .inr rfl | assumption)
    (hs : (assignEach (.Name x pos :: es) X.env).map (·.2) = assign (.Name x pos) X.env :: (assignEach es X.env).map (·.2) := by rfl) : PGs X (.Name x pos :: es) (tSGs X.K m (sgCons i ds)) :=
  pgsw (pgs_cons (pg_name hN hi hx hf) h2 hs) fun v σ H Q ⟨W, b, ρ, l, P, Z, S, z1, z2, j, h, k⟩ => by
    cases j with
    | nil => exact h.elim
    | @cons v vs d ds a c =>
      have a' : Is X.K (era (fun c => W c ∨ Ow σ ρ c) H) v d := a.up (era_mono (fun _ _ e _ => e) fun c w => w.elim (z2 c) (z1 c))
      exact ⟨v, vs, rfl, W, b, _, _, P, Z, S.setD a', fun c w => z1 c (ow_set rfl w).1, z2, c, h, k⟩
theorem sg_tup {es : List Expr} {k n : Nat} {ds : TSGs} (hc : X.calm = true) (h : PGs X es (tSGs X.K m ds)) (hn : (assignEach es X.env).length = n := by rfl) (hst : (assignEach es X.env).findIdx? (·.1) = none := by rfl) : PG X (.Tuple es k pos) (tSG X.K m (sgT n ds)) :=
  pgw (pg_tup hc h hn hst) fun v σ H Q ⟨W, b, ρ, x, P, S, j, h, k⟩ => by
    cases x <;> first | exact h.elim | skip
    cases j with
    | @tup a xs l hs ha => exact ⟨a, xs, rfl, sqT_mono era_sub hs, ha.length.trans h.1, W, b, ρ, _, P, _, S, fun _ z => .inr z, fun _ z => .inl z, ha, h.2, k⟩
/-- target = e -/
def dAsg (dg : TSG) (de : TD) : DS := fun ρ E => de (ρ.map vis) fun x => (noOw ρ || imm x) = true ∧ dg x ρ E.nx
theorem s_asg {dg : TSG} (he : BE X m e de) (hg : PG X tg (tSG X.K m dg)) (hs : swapsWithSole [tg] e pos.line X.env = pure false := by rfl) (hw : swappedStores [tg] e X.env = pure none := by rfl)
    (h1 : (assignEach [tg] X.env).map (·.2) = [assign tg X.env] := by rfl) : BS X m (.Assign [tg] e pos) (dAsg dg de) := psw (ps_asg (pe_ex he) hg hs hw h1) fun D σ H ⟨W, b, ρ, E, S, h, G⟩ =>
  ⟨W, tD_at S.ok S.vis h fun v H1 x e1 o1 n1 i1 ⟨h0, h1⟩ => ⟨W, b, ρ, x, _, S.step e1, (S.step e1).fit i1 h0, h1, fun σ' ρ' S' q => G.nx _ _ _ S' q⟩⟩
def dAsgH (dg : TSG) (de : TD) : DS := fun ρ E => de (ρ.map hid) fun x => dg x ρ E.nx
theorem s_asgH {dg : TSG} (he : BE X m e de) (hg : PG X tg (tSG X.K m dg)) (hs : swapsWithSole [tg] e pos.line X.env = pure false := by rfl) (hw : swappedStores [tg] e X.env = pure none := by rfl)
    (h1 : (assignEach [tg] X.env).map (·.2) = [assign tg X.env] := by rfl) : BS X m (.Assign [tg] e pos) (dAsgH dg de) := psw (ps_asg (pe_ex he) hg hs hw h1) fun D σ H ⟨W, b, ρ, E, S, h, G⟩ =>
  ⟨_, tD_at S.okH S.env h fun v H1 x e1 o1 n1 i1 h1 => ⟨W, b, ρ, x, _, S.step e1, i1, h1, fun σ' ρ' S' q => G.nx _ _ _ S' q⟩⟩

/-! ### loops -/
/-- the turns of a for -/
def forGo (dg : TSG) (body : DS) : List D → List Sl → DE → Prop
  | [], ρ, E => E.nx ρ
  | x :: r, ρ, E => dg x ρ fun ρ1 => body ρ1 { E with nx := fun ρ' => forGo dg body r ρ' E, ct := fun ρ' => forGo dg body r ρ' E, bk := E.nx }
def dFor (di : TDA) (dg : TSG) (body : DS) : DS := fun ρ E => di (ρ.map hid) fun l => forGo dg body l ρ E
theorem s_for {body : List Stmt} {dg : TSG} {db : DS} (hp : PassesOwn (model X.prog X.w) X.A X.env X.xe) (hc : X.calm = true) (hi : BI X m tg iter di) (hg : PG X tg (tSG X.K m dg)) (hb : BSs X m body db)
    (hs : ∀ x, foldedSetIterable iter X.env x = pure x := by intro _; rfl) : BS X m (.For tg iter body [] pos) (dFor di dg db) := psw (ps_for hp hc hi hg hb hs) fun D σ H ⟨W, b, ρ, E, S, h, G⟩ => by
  refine ⟨_, _, _, S.okH, S.env, h, fun J H1 l e1 wk h1 => ?_⟩
  have S1 := S.step e1
  refine ⟨fun i q σ' H' => q = l.length - i ∧ i ≤ l.length ∧ ∃ ρ', StIs X.K m W (Bs.at H1 σ ρ) H' σ' ρ' ∧ forGo dg db (l.drop i) ρ' E, ⟨l.length, by simp, Nat.zero_le _, ρ, S1.base, h1⟩, ?_⟩
  rintro i q σ' H' ⟨rfl, hi, ρ', S', go⟩
  have vw : Same (era (fun a => W a ∨ Ow σ ρ a) H1) (era (fun a => W a ∨ Ow σ' ρ' a) H') := fun c o q => by
    obtain ⟨q1, q2⟩ := era_to q
    have q3 : (Bs.at H1 σ ρ).H c = some o := era_of q1 fun z => q2 (.inr z)
    refine era_of (S'.evo.1 c o q3 fun z => q2 (.inl (S.ok.sub c z))) fun z => ?_
    rcases z with z | z
    · exact q2 (.inl z)
    · have := (S'.owT z).2.2
      rw [q3] at this
      cases this
  obtain ⟨w1, w2⟩ := wk (fun a => W a ∨ Ow σ' ρ' a) H' vw S'.okH.tr i
  by_cases hlt : i < l.length
  · obtain ⟨g1, g2⟩ := w1 l[i] (List.getElem?_eq_getElem hlt)
    rw [List.drop_eq_getElem_cons hlt] at go
    refine .inr ⟨g1, fun σ3 H3 => ∃ ρ3, StIs X.K m W (Bs.at H1 σ ρ) H3 σ3 ρ3 ∧ forGo dg db (l.drop (i + 1)) ρ3 E, fun σ3 H3 ⟨ρ3, S3, p3⟩ => ⟨l.length - (i + 1), by omega, rfl, hlt, ρ3, S3, p3⟩, fun x H2 y => ?_⟩
    obtain ⟨s2, i2⟩ := g2 x H2 y
    have S2 := S'.step (.same S'.ok.R s2)
    refine ⟨W, Bs.at H1 σ ρ, ρ', _, _, S2, i2, go, fun σ3 ρ3 S3 p3 => ⟨W, Bs.at H1 σ ρ, ρ3, _, S3, p3, ?_⟩⟩
    exact ⟨fun σ4 H4 ρ4 S4 q4 => ⟨ρ4, S4, q4⟩, fun v H4 x e4 i4 q4 => G.rt v H4 x (S1.evoBack e4) i4 q4, fun σ4 H4 ρ4 S4 q4 => G.nx _ _ _ (S1.back S4) q4, fun σ4 H4 ρ4 S4 q4 => ⟨ρ4, S4, q4⟩⟩
  · have e : i = l.length := by omega
    refine .inl ⟨w2 (by omega), ?_⟩
    rw [e, List.drop_length] at go
    exact G.nx _ _ _ (S1.back S') go
/-- while: an invariant with a number that falls -/
def dWh (dt : TDT) (body : DS) : DS := fun ρ E => ∃ I : Nat → List Sl → Prop, (∃ n, I n ρ) ∧ ∀ n ρ', I n ρ' → dt (ρ'.map vis) fun c => match c with
  | true => body ρ' { E with nx := fun ρ2 => ∃ n', n' < n ∧ I n' ρ2, ct := fun ρ2 => ∃ n', n' < n ∧ I n' ρ2, bk := E.nx }
  | false => E.nx ρ'
theorem s_while {body : List Stmt} {db : DS} (hp : PassesOwn (model X.prog X.w) X.A X.env X.xe) (hc : BT X m c dt) (hb : BSs X m body db) : BS X m (.While c body [] pos) (dWh dt db) := psw (ps_while hp (pt_ex hc) hb) fun D σ H ⟨W, b, ρ, E, S, ⟨I, ⟨n0, h0⟩, h⟩, G⟩ => by
  refine ⟨fun n σ' H' => ∃ ρ', StIs X.K m W b H' σ' ρ' ∧ I n ρ', ⟨n0, ρ, S, h0⟩, ?_⟩
  rintro n σ' H' ⟨ρ', S', p⟩
  refine ⟨W, tDT_at S'.ok S'.vis (h n ρ' p) fun cb H1 e1 o1 n1 h1 => ?_⟩
  cases cb with
  | true =>
    rw [if_pos rfl]
    exact ⟨fun σ2 H2 => ∃ n', n' < n ∧ ∃ ρ2, StIs X.K m W b H2 σ2 ρ2 ∧ I n' ρ2, fun σ2 H2 ⟨n', hn, q⟩ => ⟨n', hn, q⟩, W, b, ρ', _, S'.step e1, h1,
      ⟨fun σ2 H2 ρ2 S2 ⟨n', hn, q⟩ => ⟨n', hn, ρ2, S2, q⟩, G.rt, G.nx, fun σ2 H2 ρ2 S2 ⟨n', hn, q⟩ => ⟨n', hn, ρ2, S2, q⟩⟩⟩
  | false =>
    rw [if_neg Bool.false_ne_true]
    exact G.nx _ _ _ (S'.step e1) h1
end

/-! ### defs, calls -/
/-- a def's promise over trees -/
def spD (K : PySem.W.Frag) (f : List D → (D → Prop) → Prop) : Sp := fun vs H Q _ => ∃ W ds P, Ok md0 W H ∧ IsAll K (era W H) vs ds ∧ f ds P ∧ ∀ v H' x, Evo md0 H H' → Is K (era W H') v x → P x → Q v H'
/-- what a def's body tells, by its names (N of them) and parameters -/
def semOf (n : Nat) (k : Nat) (d : DS) : List D → (D → Prop) → Prop := fun ds P => ds.length = k ∧ d (ds.map Sl.d ++ List.replicate (n - k) .no) { nx := fun _ => P .none, rt := P }
theorem env_start {H : Hp} : ∀ {vs : List V} {ds : List D}, IsAll K H vs ds → ∀ n, EnvIs K H (vs.map some ++ List.replicate n none) ((ds.map Sl.d ++ List.replicate n Sl.no).map hid)
  | _, _, .nil, n => by
    simp only [List.map_nil, List.nil_append, List.map_replicate]
    induction n with
    | zero => exact .nil
    | succ n ih =>
      rw [List.replicate_succ, List.replicate_succ]
      exact .cons .no ih
  | _, _, .cons a b, n => .cons (.d a) (env_start b n)
theorem noOw_start {ds : List D} {n : Nat} {i : Nat} {l : List D} : (ds.map Sl.d ++ List.replicate n Sl.no)[i]? ≠ some (.ow l) := fun h => by
  have hm := List.mem_of_getElem? h
  rcases List.mem_append.mp hm with h | h
  · obtain ⟨x, _, e⟩ := List.mem_map.mp h
    cases e
  · have := List.eq_of_mem_replicate h
    cases this
theorem st_start {W : Addr → Prop} {H : Hp} {vs : List V} {ds : List D} {n : Nat} (o : Ok m W H) (i : IsAll K (era W H) vs ds) : StIs K m W ⟨H, fun a => H a ≠ none⟩ H (vs.map some ++ List.replicate n none) (ds.map Sl.d ++ List.replicate n .no) := by
  have no : ∀ a, ¬ Ow (vs.map some ++ List.replicate n none) (ds.map Sl.d ++ List.replicate n .no) a := fun a ⟨k, l, e, _⟩ => noOw_start e
  exact ⟨o, .refl o.R, fun a h => h, fun a h => h, o.sB, (env_start i n).mono (era_mono (fun _ _ e _ => e) fun a z => z.elim id fun z => absurd z (no a)), fun k l h => absurd h noOw_start, fun k k' l l' a h => absurd h noOw_start⟩
section
variable {P : Program} {w : World} {mg : Str → Option Value} {base : Heap} {x qual : Str} {st : Stmt} {f : Addr} {fd : FuncData} {N ps : List Str} {k : Nat} {d : DS}
/-- THE RULE for a def -/
theorem fn_ok (F : Fun K x qual st f fd) (S : FnScope N ps (defScope st))
    (hbody : ∀ (cdv : Value) (A : Around) (outer : List Env) (s : Shared) (H : Hp) (E : XK), Room k (A.deeper (envOfC qual (defScope st) s.heap.objs.size f cdv)) → BSs (cxOf CX0 P w K mg base N qual (defScope st) f cdv A outer s H E).nox md0 (defBody st) d) :
    FnOk P w K mg base CX0 (k + 1) f fd ps (spD K (semOf N.length ps.length d)) :=
  F.ok S (fun vs H Q E ⟨W, ds, R, o, i, h, q⟩ => i.length.trans h.1) fun cdv A outer s H vs Q E hr ⟨W, ds, R, o, i, h, q⟩ => by
    refine ⟨_, hbody cdv A outer s H E hr, W, ⟨H, fun a => H a ≠ none⟩, _, _, ?_, h.2, ?_⟩
    · have e : L2.start N vs = vs.map some ++ List.replicate (N.length - ps.length) none := by
        unfold L2.start
        rw [i.length, h.1]
      rw [e]
      exact st_start o i
    · exact ⟨fun σ H' ρ S' q' => q _ _ _ S'.evo .non q', fun v H' x e i q' => q _ _ _ e i q', fun _ _ _ _ z => z.elim, fun _ _ _ _ z => z.elim⟩
end
section
variable {k : Nat} {f : Addr} {fd : FuncData} {ps : List Str} {g : List D → (D → Prop) → Prop} {x : Str} {p pos : Pos} {e : Expr} {es : List Expr} {da : TDA}
theorem call_to {W : Addr → Prop} {E : XK} : ∀ σ H Q, tD K m W (dN g da) σ H Q → tCall (spD K g) [] E (tDA K m W da) σ H Q := fun σ H Q ⟨ρ, P, o, n, h, kk⟩ => tDA_at o n h fun vs H1 l e1 o1 n1 i1 h1 =>
  ⟨W, l, P, ⟨trivial, fun _ z => z.elim, o1.tr, none_same, fun _ _ => rfl⟩, by rw [List.append_nil]; exact i1, h1, fun v H2 x e2 i2 q => kk v H2 x (e1.trans (.same o1.R fun c o q => e2.1 c o q fun z => z)) i2 q⟩
/-- f(..) -/
theorem b_call (F : FnOk X.prog X.w X.K X.mg X.base CX0 k f fd ps (spD X.K g)) (hr : Room k X.A) (hg : Gl X x) (hm : X.mg x = some (.ref f)) (hk : PySem.W.keepIn X.K (.ref f) = true) (hb : Binds X.K fd ps []) (ha : BA X m (e :: es) da)
    (hdb : (x == ("__debug__" : Str)) = false := by decide) (he : starEach (e :: es) X.env = (false, eval e X.env) :: starEach es X.env := by rfl) (hpl : (backTo pos (starEach es X.env)).any (·.1) = false := by rfl) :
    BE X m (.Call (.Name x p) (e :: es) [] pos) (dN g da) := fun W => pew (pe_call F hr hg hm hk hb .nil (pass0 (X := X)) (ha W) hdb he hpl) call_to
end
/-- a def's promise by a weaker tree function -/
theorem fn_imp {P : Program} {w : World} {mg : Str → Option Value} {base : Heap} {k : Nat} {f : Addr} {fd : FuncData} {ps : List Str} {g g' : List D → (D → Prop) → Prop} (F : FnOk P w K mg base CX0 k f fd ps (spD K g)) (h : ∀ ds P, g' ds P → g ds P) : FnOk P w K mg base CX0 k f fd ps (spD K g') :=
  F.imp fun vs H Q E ⟨W, ds, R, o, i, q, z⟩ => ⟨W, ds, R, o, i, h ds R q, z⟩
end TL

/-! TL, part 8: enumerate, zip, walked. -/
namespace PySem
open Sem (wp)
theorem TL.meets_enum1 {v : Value} {o : Obj} {H : Heap → Prop} (B : Begins v o H) :
    Meets (Builtin.«enumerate.__new__» ⟨[.type "enumerate", v], []⟩) (fun _ R s => H s.heap ∧
      R (.ok (.ret (.ref (s.heap.push o).objs.size))) { s with heap := (s.heap.push o).push { cls := .type "enumerate", data := .fields #[.none, .bool false, .ref s.heap.objs.size, rawInt 0, .none, .none] } }) :=
  .of_wp fun prog w A R s h => by
    obtain ⟨hp, g, d, tk, os⟩ := s; obtain ⟨h1, h⟩ := h
    have hsub := sub_enumerate
    have q1 : ∀ {A' : Around} {E : Value → Shared → Prop} {Q : Value → Shared → Prop}, Q (.ref hp.objs.size) ⟨hp.push o, g, d, tk, os⟩ → wpAny (model prog w) A' (pyIter v) Q E ⟨hp, g, d, tk, os⟩ :=
      fun q => B.iter prog w _ _ ⟨hp, g, d, tk, os⟩ _ h1 q
    wp_walk using q1
    refine wpAny_stack_any fun st => wpAny_pure ?_
    split
    · rename_i c _ _ _ _ _
      cases (c == Value.type "enumerate")
      · wp_walk using q1
        exact ⟨_, rfl, h⟩
      · wp_walk using q1
        exact ⟨_, rfl, h⟩
    · wp_walk using q1
      exact ⟨_, rfl, h⟩
section
variable {prog : Program} {w : World} {A : Around} {E : Value → Shared → Prop} {s : Shared}
theorem TL.call_enum1 {v : Value} {o : Obj} {H : Heap → Prop} {Q : Value → Shared → Prop} (B : Begins v o H) (h1 : H s.heap)
    (h : ∀ h', IsEnum h' (s.heap.objs.size + 1) s.heap.objs.size 0 .none → h'.get? s.heap.objs.size = some o → h'.objs.size = s.heap.objs.size + 2 →
      (∀ b o, s.heap.get? b = some o → h'.get? b = some o) → Q (.ref (s.heap.objs.size + 1)) { s with heap := h' }) :
    wpAny (model prog w) A (call (.type "enumerate") [v]) Q E s := by
  refine callType_new F.called_enumerate (by decide) (F.typeCall_enumerate_1 _) (F.newCall_enumerate_1 _) (fun obj => F.args_object_init_2 obj _) F.entry_enumerate_new (TL.meets_enum1 B) ⟨h1, ?_⟩
  have hz : (s.heap.push o).objs.size = s.heap.objs.size + 1 := Heap.size_push ..
  show _ ∧ _
  rw [hz]
  have he : IsEnum ((s.heap.push o).push { cls := .type "enumerate", data := .fields #[.none, .bool false, .ref s.heap.objs.size, rawInt 0, .none, .none] }) (s.heap.objs.size + 1) s.heap.objs.size 0 .none := by
    have := Heap.get?_push_size (s.heap.push o) (o := { cls := .type "enumerate", data := .fields #[.none, .bool false, .ref s.heap.objs.size, rawInt 0, .none, .none] }) rfl
    rw [hz] at this; exact this
  refine ⟨⟨_, he, rfl⟩, h _ he (Heap.get?_push_of_some _ (Heap.get?_push_size _ B.free)) (by rw [Heap.size_push, hz]) fun b o x => Heap.get?_push_of_some _ (Heap.get?_push_of_some _ x)⟩
end
end PySem
namespace TL
open PySem L2
open PySem.Spec PyProof.Rows
variable {K : PySem.W.Frag} {X : Cx} {m : Md}
/-- the tuple at a, each item in a new pair with its place -/
def IteT (K : PySem.W.Frag) (a : Addr) : It :=
  ⟨fun i H => ∃ (xs : List V) (x : V), SqT K H a xs ∧ xs[i]? = some x, fun i H v H' => ∃ T x, v = .ref T ∧ H T = none ∧ H' = upd H T (.tup [.int (i : Nat), x]) ∧ ∀ xs, SqT K H a xs → xs[i]? = some x, fun i H => ∃ xs : List V, SqT K H a xs ∧ xs.length ≤ i⟩
theorem turn_enumT {P : Program} {w : World} {K : PySem.W.Frag} {elts : List Expr} {kk : Nat} {tpos : Pos} (a e it : Addr) :
    Turn P w K (.Tuple elts kk tpos) (IteT K a) [e, it] e (fun i h => (∃ old, IsEnum h e it ((i : Nat) : Int) old) ∧ h.IsTupleIter it a i ∧ e ≠ it) where
  mem := by simp
  obj := fun i h st b hb => by
    obtain ⟨⟨old, he⟩, ⟨o, ho, hc, hd⟩, _⟩ := st
    have e' : b = e ∨ b = it := by simpa using hb
    rcases e' with z | z
    · rw [z]; exact ⟨_, he, fun v q => nomatch q⟩
    · rw [z]; exact ⟨o, ho, fun v q => by rw [hd] at q; cases q⟩
  keep := fun i h h' st k => let ⟨⟨old, he⟩, hi, hne⟩ := st; ⟨⟨old, k e (by simp) _ he⟩, hi.at fun o q => k it (by simp) o q, hne⟩
  item := by
    intro X hP hw hK hc i pins s σ H E I hf st hg
    subst hP hw hK
    obtain ⟨⟨old, he⟩, hit, hne⟩ := st
    obtain ⟨xs, x, hq, hx⟩ := hg
    obtain ⟨its, rv, p, hz⟩ := I.tuple hq
    obtain ⟨u, hu, ru⟩ := rv.get hx
    have hel : e < s.heap.objs.size := Heap.lt_size he
    have hil : it < s.heap.objs.size := by obtain ⟨_, q, _⟩ := hit; exact Heap.lt_size q
    have ht : s.heap.IsTuple a its.toArray := p
    obtain ⟨oa, hoa, hca, _⟩ := id p
    have hait : a ≠ it := by
      obtain ⟨o, ho, hc', _⟩ := id hit
      intro z
      rw [z, ho] at hoa
      cases hoa
      rw [hc'] at hca
      exact absurd hca (by decide)
    have hae : a ≠ e := by
      intro z
      have he' : s.heap.get? e = some _ := he
      rw [z, he'] at hoa
      cases hoa
      exact absurd (show Value.type "enumerate" = Value.type "tuple" from hca) (by decide)
    have hi : i < its.toArray.size := by
      have h1 := (List.getElem?_eq_some_iff.mp hu).1
      simpa using h1
    refine wpAny_pyNext_enum_itemD (prog := X.prog) (w := X.w) (A := X.A) (Draws.tuple (prog := X.prog) (w := X.w) (A := X.A.in1) (show X.A.in1.handled = none from I.ok.hd hc) it a hait its.toArray) he ⟨hit, ht⟩ hi hne (by simp [hne, Ne.symm hae]) fun x' h' tk hPx ho st' hT hsz hk => ?_
    have hxu : x' = u := by
      have h2 : its.toArray[i]? = some u := by simpa using hu
      rw [hPx] at h2
      exact Option.some.inj h2
    subst hxu
    refine ⟨_, rfl, wpAny_letOwnedTupleGo_enum (s := { s with heap := h', toks := tk + 1 }) ho fun h'' he' sb => ?_⟩
    have hT2 : h''.get? s.heap.objs.size = some { cls := .type "tuple", data := .seq #[.int i tk, x'] } := (sb.2 _ (Nat.ne_of_gt hel)).trans hT
    have new : ObjOk X.prog X.w (upd H s.heap.objs.size (.tup [.int (i : Nat), x])) h'' s.heap.objs.size (.tup [.int (i : Nat), x]) :=
      ⟨by show 2 ≤ sizeLine; decide, [.int i tk, x'], .cons ⟨_, rfl⟩ (.cons ru .nil), ⟨_, hT2, rfl, _, rfl⟩⟩
    have I1 : Inv X pins σ (upd H s.heap.objs.size (.tup [.int (i : Nat), x])) { s with heap := h'', toks := tk + 1 } :=
      I.turnedNew (ch := [e, it]) (fun b ob hb q => (sb.2 b (fun z => hb (by simp [z]))).trans (hk b ob (fun z => hb (by simp [z])) (fun z => hb (by simp [z])) q)) hf (Nat.le_refl _) new
    refine ⟨.ref s.heap.objs.size, _, I1, rfl, ⟨_, x, rfl, I.hok.fresh (Nat.le_refl _), rfl, fun ys hy => by rw [I.tuple_inj hy hq]; exact hx⟩, ⟨⟨x', ?_⟩, st'.1.at fun o q => (sb.2 it (Ne.symm hne)).trans q, hne⟩, fun b hb => ?_⟩
    · have e1 : ((i + 1 : Nat) : Int) = (i : Int) + 1 := by omega
      rw [e1]; exact he'
    · have hb' : b < s.heap.objs.size := by
        have e' : b = e ∨ b = it := by simpa using hb
        rcases e' with z | z
        · rw [z]; exact hel
        · rw [z]; exact hil
      rw [upd_ne (Nat.ne_of_lt hb')]
      exact (hf b hb).1
  done := by
    intro X hP hw hK hc i pins s σ H E I hf st hg
    subst hP hw hK
    obtain ⟨⟨old, he⟩, hit, hne⟩ := st
    obtain ⟨xs, hq, hx⟩ := hg
    obtain ⟨its, rv, p, hz⟩ := I.tuple hq
    obtain ⟨f0, f1, f2, f3, f4, f5⟩ := hf it (by simp)
    have hl := rv.length
    obtain ⟨oa, hoa, hca, _⟩ := id p
    have hait : a ≠ it := by
      obtain ⟨o, ho, hc', _⟩ := id hit
      intro z
      rw [z, ho] at hoa
      cases hoa
      rw [hc'] at hca
      exact absurd hca (by decide)
    unfold pyNext
    have hT : s.TypeIs (.ref e) "enumerate" := ⟨_, he, rfl⟩
    refine wpAny_bind (wpAny_attempt (wpAny_callSpecial?_slot (name := Str.ofString "__next__") hT F.slot_enumerate_next
      (wpAny_call_entry F.slot_enumerate_next hT F.entry_enumerate_next ?_ (F.args_enumerate_next_1 _))))
    show wpAny _ _ (field (.ref e) 2 >>= _) _ _ _
    refine wpAny_bind (wpAny_field he rfl (x := .ref it) rfl ?_)
    refine wpAny_bind (wpAny_nextOf_tuple_end (I.ok.hd hc) hit (show s.heap.IsTuple a its.toArray from p) (by simp; omega) fun h' x he' hx' => ?_)
    obtain ⟨o, ho, hc'⟩ := hx'
    refine wpAny_bind (wpAny_isInstance (T := "StopIteration") (b := true) ⟨o, ho, hc'⟩ isSubtype_stop ?_)
    exact wpAny_pure ⟨rfl, I.turned (t' := s.toks) (fun b o hb q => he' b o hb q) f0 f1 f3 f4 f5⟩
  self := fun A i s Q E st h => let ⟨⟨_, he⟩, _⟩ := st; wpAny_pyIter_enum he h

/-- enumerate of a list or a tuple -/
def iEnumA (K : PySem.W.Frag) (ta : TA) : TI := fun σ H R => ta σ H fun vs H1 => ∃ a xs, vs = [.ref a] ∧ ((SqL K H1 a xs ∧ R (Ite K a) H1) ∨ (SqT K H1 a xs ∧ R (IteT K a) H1))
theorem pi_enumA {X : Cx} {e : Expr} {ta : TA} {p pos tpos : Pos} {elts : List Expr} {kk : Nat} (hg : Gl X "enumerate") (hm : X.mg "enumerate" = none) (ha : PA X [e] ta) (hs : starEach [e] X.env = [(false, eval e X.env)] := by rfl) :
    PI X (.Tuple elts kk tpos) (.Call (.Name "enumerate" p) [e] [] pos) (iEnumA X.K ta) := by
  refine ⟨fun pins s σ H R I h => ?_⟩
  refine Call_ (ld_blt I hg hm boot_enumerate (PyProof.Rows.callWith_type1 (thn (ha.run pos pins s σ H _ I h) fun us s1 ⟨vs, H1, I1, r1, q1⟩ => ?_) hs rfl))
  obtain ⟨a, xs, ex, hq⟩ := q1
  subst ex
  cases r1 with
  | cons r rr =>
    cases rr
    cases r
    have fr : ∀ b ∈ [s1.heap.objs.size + 1, s1.heap.objs.size], FpOk X pins H1 b := fun b hb => by
      have e' : b = s1.heap.objs.size + 1 ∨ b = s1.heap.objs.size := by simpa using hb
      have hle : s1.heap.objs.size ≤ b := by
        rcases e' with z | z
        · rw [z]; exact Nat.le_add_right _ _
        · rw [z]; exact Nat.le_refl _
      exact I1.fpOk hle (I1.hok.fresh hle)
    rcases hq with ⟨hq, q⟩ | ⟨hq, q⟩
    · obtain ⟨its, rv, p', hz⟩ := I1.list hq
      refine call_enumerate_list p'.isList fun h' he hit hsz hk => wpAny_pyIter_enum he ?_
      have I2 : Inv X pins σ H1 { s1 with heap := h' } := I1.kept (t' := s1.toks) hk
      exact ⟨s1.heap.objs.size + 1, [s1.heap.objs.size + 1, s1.heap.objs.size], _, _, H1, rfl, I2, turn_enum a (s1.heap.objs.size + 1) s1.heap.objs.size, ⟨⟨.none, he⟩, hit, Nat.succ_ne_self _⟩, fr, q⟩
    · obtain ⟨its, rv, p', hz⟩ := I1.tuple hq
      refine TL.call_enum1 (begins_tuple a its.toArray) (show s1.heap.IsTuple a its.toArray from p') fun h' he hit hsz hk => wpAny_pyIter_enum he ?_
      have I2 : Inv X pins σ H1 { s1 with heap := h' } := I1.kept (t' := s1.toks) hk
      exact ⟨s1.heap.objs.size + 1, [s1.heap.objs.size + 1, s1.heap.objs.size], _, _, H1, rfl, I2, turn_enumT a (s1.heap.objs.size + 1) s1.heap.objs.size, ⟨⟨.none, he⟩, ⟨_, hit, rfl, rfl⟩, Nat.succ_ne_self _⟩, fr, q⟩
/-- the items with their places -/
def enumD (k : Nat) : List D → List D
  | [] => []
  | x :: r => .tuple [.int (k : Nat), x] :: enumD (k + 1) r
theorem enumD_get : ∀ (l : List D) (k i : Nat), (enumD k l)[i]? = (l[i]?).map fun x => .tuple [.int ((k + i : Nat) : Int), x]
  | [], _, _ => rfl
  | x :: r, k, 0 => rfl
  | x :: r, k, i + 1 => by
    show (enumD (k + 1) r)[i]? = _
    rw [enumD_get r (k + 1) i]
    have e : k + 1 + i = k + (i + 1) := by omega
    rw [e]
    rfl
theorem enumD_len : ∀ (l : List D) (k : Nat), (enumD k l).length = l.length
  | [], _ => rfl
  | x :: r, k => by
    show (enumD (k + 1) r).length + 1 = r.length + 1
    rw [enumD_len r]
theorem pair_new {Z : Addr → Prop} {H : Hp} {T : Addr} {v u : V} {x y : D} (tr : ∀ a, Z a → H a ≠ none) (hT : H T = none) (iv : Is K (era Z H) v x) (iu : Is K (era Z H) u y) :
    Same H (upd H T (.tup [v, u])) ∧ Is K (era Z (upd H T (.tup [v, u]))) (.ref T) (.tuple [x, y]) :=
  ⟨same_new hT, new_tup tr hT (.cons iv (.cons iu .nil))⟩
theorem walks_enumL {W : Addr → Prop} {H : Hp} {a : Addr} {xs : List V} {l : List D} (h : H a = some (.lst xs)) (hw : ¬ W a) (i : IsAll K (era W H) xs l) : Walks K W (Ite K a) (enumD 0 l) H := by
  intro Z H1 hs tr j
  have e1 : SqL K H1 a xs := SqL.of (era_to (hs a _ (era_of h hw))).1
  refine ⟨fun d hd => ?_, fun hj => ⟨xs, e1, by rw [i.length]; rw [enumD_len] at hj; exact hj⟩⟩
  rw [enumD_get] at hd
  cases q : l[j]? with
  | none =>
    rw [q] at hd
    cases hd
  | some x =>
    rw [q] at hd
    cases hd
    obtain ⟨v, e2, i2⟩ := i.get q
    refine ⟨⟨xs, v, e1, e2⟩, fun z H' ⟨T, y, ez, hT, eH, g⟩ => ?_⟩
    have e3 := g xs e1
    rw [e2] at e3
    cases e3
    subst ez eH
    rw [Nat.zero_add]
    exact pair_new tr hT (.int _) (i2.up hs)
theorem walks_enumT {W : Addr → Prop} {H : Hp} {a : Addr} {xs : List V} {l : List D} (h : SqT K (era W H) a xs) (i : IsAll K (era W H) xs l) : Walks K W (IteT K a) (enumD 0 l) H := by
  intro Z H1 hs tr j
  have e1 : SqT K H1 a xs := sqT_mono era_sub (sqT_mono hs h)
  refine ⟨fun d hd => ?_, fun hj => ⟨xs, e1, by rw [i.length]; rw [enumD_len] at hj; exact hj⟩⟩
  rw [enumD_get] at hd
  cases q : l[j]? with
  | none =>
    rw [q] at hd
    cases hd
  | some x =>
    rw [q] at hd
    cases hd
    obtain ⟨v, e2, i2⟩ := i.get q
    refine ⟨⟨xs, v, e1, e2⟩, fun z H' ⟨T, y, ez, hT, eH, g⟩ => ?_⟩
    have e3 := g xs e1
    rw [e2] at e3
    cases e3
    subst ez eH
    rw [Nat.zero_add]
    exact pair_new tr hT (.int _) (i2.up hs)
def dEnum (da : TDA) : TDA := fun ρ P => da ρ fun l => match l with
  | [.list l] => P (enumD 0 l)
  | [.tuple l] => P (enumD 0 l)
  | _ => False
theorem bi_enum {e : Expr} {da : TDA} {p pos tpos : Pos} {elts : List Expr} {kk : Nat} (hg : Gl X "enumerate") (hm : X.mg "enumerate" = none) (ha : BA X m [e] da) (hs : starEach [e] X.env = [(false, eval e X.env)] := by rfl) :
    BI X m (.Tuple elts kk tpos) (.Call (.Name "enumerate" p) [e] [] pos) (dEnum da) := piw (pi_enumA hg hm (pa_ex ha) hs) fun σ H R ⟨W, ρ, P, o, n, h, k⟩ => ⟨W, tDA_at o n h fun vs H1 l e1 o1 n1 i1 h1 => by
  unfold dEnum at *
  match l, i1, h1 with
  | [.list l], .cons a b, h1 =>
    cases b
    cases a with
    | @lst a xs _ hs ha => exact ⟨a, xs, rfl, .inl ⟨SqL.of (era_to hs).1, k _ _ _ e1 (walks_enumL (era_to hs).1 (era_to hs).2 ha) h1⟩⟩
  | [.tuple l], .cons a b, h1 =>
    cases b
    cases a with
    | @tup a xs _ hs ha => exact ⟨a, xs, rfl, .inr ⟨sqT_mono era_sub hs, k _ _ _ e1 (walks_enumT hs ha) h1⟩⟩⟩
/-! ### zip of two lists, of two tuples -/
def zipD : List D → List D → List D
  | x :: r, y :: s => .tuple [x, y] :: zipD r s
  | _, _ => []
theorem zipD_get : ∀ (l r : List D) (i : Nat) (d : D), (zipD l r)[i]? = some d → ∃ x y, l[i]? = some x ∧ r[i]? = some y ∧ d = .tuple [x, y]
  | x :: l, y :: r, 0, d, h => ⟨x, y, rfl, rfl, (Option.some.inj h).symm⟩
  | x :: l, y :: r, i + 1, d, h => by
    obtain ⟨a, b, e1, e2, e3⟩ := zipD_get l r i d (by simpa [zipD] using h)
    exact ⟨a, b, by simpa using e1, by simpa using e2, e3⟩
  | [], _, _, _, h => by simp [zipD] at h
  | _ :: _, [], _, _, h => by simp [zipD] at h
theorem zipD_len : ∀ (l r : List D), (zipD l r).length = min l.length r.length
  | x :: l, y :: r => by
    show (zipD l r).length + 1 = _
    rw [zipD_len l r, List.length_cons, List.length_cons]
    omega
  | [], _ => by simp [zipD]
  | _ :: _, [] => by simp [zipD]
theorem walks_zipL {W : Addr → Prop} {H : Hp} {a b : Addr} {xs ys : List V} {l r : List D} (h : H a = some (.lst xs)) (hw : ¬ W a) (i : IsAll K (era W H) xs l) (h' : H b = some (.lst ys)) (hw' : ¬ W b) (i' : IsAll K (era W H) ys r) : Walks K W (Itz K a b) (zipD l r) H := by
  intro Z H1 hs tr j
  have e1 : SqL K H1 a xs := SqL.of (era_to (hs a _ (era_of h hw))).1
  have e1' : SqL K H1 b ys := SqL.of (era_to (hs b _ (era_of h' hw'))).1
  refine ⟨fun d hd => ?_, fun hj => ⟨xs, ys, e1, e1', by rw [i.length, i'.length]; rw [zipD_len] at hj; omega⟩⟩
  obtain ⟨x, y, q1, q2, rfl⟩ := zipD_get l r j d hd
  obtain ⟨v, e2, i2⟩ := i.get q1
  obtain ⟨u, e2', i2'⟩ := i'.get q2
  refine ⟨⟨xs, ys, v, u, e1, e1', e2, e2'⟩, fun z H' ⟨T, y1, y2, ez, hT, eH, g, g'⟩ => ?_⟩
  have e3 := g xs e1
  rw [e2] at e3
  cases e3
  have e3 := g' ys e1'
  rw [e2'] at e3
  cases e3
  subst ez eH
  exact pair_new tr hT (i2.up hs) (i2'.up hs)
theorem walks_zipT {W : Addr → Prop} {H : Hp} {a b : Addr} {xs ys : List V} {l r : List D} (h : SqT K (era W H) a xs) (i : IsAll K (era W H) xs l) (h' : SqT K (era W H) b ys) (i' : IsAll K (era W H) ys r) : Walks K W (RZ.ItzT K a b) (zipD l r) H := by
  intro Z H1 hs tr j
  have e1 : SqT K H1 a xs := sqT_mono era_sub (sqT_mono hs h)
  have e1' : SqT K H1 b ys := sqT_mono era_sub (sqT_mono hs h')
  refine ⟨fun d hd => ?_, fun hj => ⟨xs, ys, e1, e1', by rw [i.length, i'.length]; rw [zipD_len] at hj; omega⟩⟩
  obtain ⟨x, y, q1, q2, rfl⟩ := zipD_get l r j d hd
  obtain ⟨v, e2, i2⟩ := i.get q1
  obtain ⟨u, e2', i2'⟩ := i'.get q2
  refine ⟨⟨xs, ys, v, u, e1, e1', e2, e2'⟩, fun z H' ⟨T, y1, y2, ez, hT, eH, g, g'⟩ => ?_⟩
  have e3 := g xs e1
  rw [e2] at e3
  cases e3
  have e3 := g' ys e1'
  rw [e2'] at e3
  cases e3
  subst ez eH
  exact pair_new tr hT (i2.up hs) (i2'.up hs)
def dZip (da : TDA) : TDA := fun ρ P => da ρ fun l => match l with
  | [.list l, .list r] => P (zipD l r)
  | [.tuple l, .tuple r] => P (zipD l r)
  | _ => False
theorem bi_zip {e e2 : Expr} {da : TDA} {p pos tpos : Pos} {elts : List Expr} {kk : Nat} (hg : Gl X "zip") (hm : X.mg "zip" = none) (ha : BA X m [e, e2] da) (hs : starEach [e, e2] X.env = (false, eval e X.env) :: starEach [e2] X.env := by rfl) (hpl : (backTo pos (starEach [e2] X.env)).any (·.1) = false := by rfl) :
    BI X m (.Tuple elts kk tpos) (.Call (.Name "zip" p) [e, e2] [] pos) (dZip da) := piw (RZ.pi_zipA hg hm (pa_ex ha) hs hpl) fun σ H R ⟨W, ρ, P, o, n, h, k⟩ => ⟨W, tDA_at o n h fun vs H1 l e1 o1 n1 i1 h1 => by
  match l, i1, h1 with
  | [.list l, .list r], .cons a (.cons b c), h1 =>
    cases c
    cases a with
    | @lst a xs _ hs ha =>
      cases b with
      | @lst b ys _ hs' hb => exact ⟨a, b, xs, ys, rfl, .inl ⟨SqL.of (era_to hs).1, SqL.of (era_to hs').1, k _ _ _ e1 (walks_zipL (era_to hs).1 (era_to hs).2 ha (era_to hs').1 (era_to hs').2 hb) h1⟩⟩
  | [.tuple l, .tuple r], .cons a (.cons b c), h1 =>
    cases c
    cases a with
    | @tup a xs _ hs ha =>
      cases b with
      | @tup b ys _ hs' hb => exact ⟨a, b, xs, ys, rfl, .inr ⟨sqT_mono era_sub hs, sqT_mono era_sub hs', k _ _ _ e1 (walks_zipT hs ha hs' hb) h1⟩⟩⟩
end TL

/-! TL, part 9: sorted, min, max of data; isinstance; lists joined and repeated. -/
namespace TL
open PySem L2
/-! ### sorted -/
section
open PySem.W PySem.Calls PyProof.Rows
variable {prog : Program} {w : World} {A : Around} {E : Value → Shared → Prop} {s : Shared}
theorem collect_tup {l : Addr} {vs : List Value} {Q : List Value → Shared → Prop} (hl : s.heap.IsTuple l vs.toArray)
    (h : Q vs { s with heap := (s.heap.push (seqObj "list" #[] 0)).update s.heap.objs.size (Obj.mapSeq (· ++ vs.toArray)) }) (hsz : vs.length ≤ sizeLine) :
    wpAny (model prog w) A (collect (.ref l)) Q E s := by
  obtain ⟨o, ho, hc, n, hd⟩ := id hl
  unfold collect
  refine wpAny_bind (wpAny_runValue (codeAny_builtin entry_proto_collect' ?_))
  show wpAny _ _ (do again (.builtin "list.__iadd__" ⟨[← newList [], .ref l], []⟩)) _ _ s
  refine wpAny_bind (wpAny_newList (wpAny_pure ⟨Code.quiet_builtin _ (by decide +kernel), codeAny_builtin entry_list_iadd' ?_⟩))
  show wpAny _ _ (Builtin.List.listExtendWith (.ref s.heap.objs.size) (.ref l) (.ref s.heap.objs.size)) _ _ { s with heap := s.heap.push (seqObj "list" #[] 0) }
  unfold Builtin.List.listExtendWith
  have ho' : (s.heap.push (seqObj "list" #[] 0)).get? l = some o := Heap.get?_push_of_some _ ho
  refine wpAny_bind (wpAny_typeOf (T := "tuple") ⟨o, ho', hc⟩ ?_)
  have ht : (Value.type "tuple" == Value.type "tuple") = true := by rfl
  rw [if_pos (by rw [ht]; simp)]
  refine wpAny_bind (listItems_at ho' hd ?_)
  refine wpAny_bind (listItems_at (xs := #[]) (n := 0) (Heap.get?_push_size _ rfl) rfl ?_)
  rw [if_neg (by simp)]
  refine wpAny_bind (listUpdate_at (xs := #[]) (n := 0) (Heap.get?_push_size _ rfl) rfl ?_ (Nat.zero_le _) (by show (#[] ++ vs.toArray).size ≤ sizeLine + 1; simp only [Array.size_append, List.size_toArray, List.length_nil]; omega))
  refine wpAny_pure ?_
  show wpAny (model prog w) A (do
      let o ← load s.heap.objs.size
      match o.data with
      | .seq xs _ => pure xs.toList
      | _ => unsupported "internal:collect") Q E { s with heap := (s.heap.push (seqObj "list" #[] 0)).update s.heap.objs.size (Obj.mapSeq (· ++ vs.toArray)) }
  refine wpAny_bind (wpAny_load (get?_update_seq (Heap.get?_push_size _ rfl) _) ?_)
  show wpAny _ _ (pure ((#[] : Array Value) ++ vs.toArray).toList) Q E _
  rw [show ((#[] : Array Value) ++ vs.toArray).toList = vs by simp]
  exact wpAny_pure h
/-- sorted(t, ..), t a tuple -/
theorem sorted_of_sortT {l : Addr} {vs : List Value} {kw : List (Str × Value)} {Q : Value → Shared → Prop} (hl : s.heap.IsTuple l vs.toArray) (hL : vs.length ≤ sizeLine) (ha1 : argsOk "sorted" ⟨[.ref l], kw⟩) (ha2 : ∀ x, argsOk "list.sort" ⟨[.ref x], kw⟩)
    (body : ∀ E' : Value → Shared → Prop, wpAny (model prog w) A.in1.in1 (Builtin.«list.sort» ⟨[.ref (s.heap.objs.size + 1)], kw⟩) (fun f s' => f = .done (.ret .none) ∧ Q (.ref (s.heap.objs.size + 1)) s') E' { s with heap := copyHeap s.heap vs }) :
    wpAny (model prog w) A (call (.builtin "sorted") [.ref l] kw) Q E s := by
  refine call_function_entry_kw kind_sorted plain_sorted entry_sorted ha1 ?_
  unfold Builtin.«sorted»
  refine wpAny_bind (m := checkCount "sorted" 1 1 _) (wpAny_pure ?_)
  refine wpAny_bind (collect_tup hl ?_ hL)
  refine wpAny_bind (wpAny_newList ?_ hL)
  have hsz : ((s.heap.push (seqObj "list" #[] 0)).update s.heap.objs.size (Obj.mapSeq (· ++ vs.toArray))).objs.size = s.heap.objs.size + 1 := by
    rw [Heap.size_update, size_push']
  show wpAny _ _ _ _ _ { s with heap := copyHeap s.heap vs }
  rw [hsz]
  refine wpAny_bind (wpAny_holding (wpAny_call_entry_kw slot_list_sort ⟨_, copyHeap_at s.heap vs, rfl⟩ entry_list_sort ?body (ha2 _)))
  case body =>
    show wpAny (model prog w) A.in1.in1 (Builtin.«list.sort» ⟨[.ref (s.heap.objs.size + 1)], kw⟩) _ _ _
    refine wpAny_mono (body _) (fun f s' hf => ?_) fun _ _ e => e
    obtain ⟨rfl, hq⟩ := hf
    exact ⟨_, rfl, wpAny_pure ⟨_, rfl, hq⟩⟩
theorem bound_of {β : Type} {enc : β → PyData} {bs : List β} {A : Around} (hu : ∀ b, b ∈ bs → A.units + (enc b).depth < cLine) : ∀ d, d ∈ bs.map enc → A.units + d.depth < cLine := by
  intro d hd
  obtain ⟨b, hb, rfl⟩ := List.mem_map.mp hd
  exact hu b hb
theorem sorted_tdata {β : Type} {vs : List Value} {bs : List β} {enc : β → PyData} {R : Value → β → Prop} {l : Addr} {Q : Value → Shared → Prop} (hl : s.heap.IsTuple l vs.toArray) (e : EachIs R vs bs) (er : EachIs (fun v b => ∃ as, Reads s.heap v (enc b) as) vs bs) (hal : AllAlike (bs.map enc)) (hk : Sortable (bs.map enc)) (hL : bs.length ≤ sizeLine)
    (hu : ∀ b, b ∈ bs → A.units + 2 + (enc b).depth < cLine) (h : ∀ out, out.length = bs.length → EachIs R out (bs.mergeSort (dataLe false enc)) → Q (.ref (s.heap.objs.size + 1)) { s with heap := sortedAll s.heap vs (List.toArray out) }) :
    wpAny (model prog w) A (call (.builtin "sorted") [.ref l]) Q E s := by
  have er' : EachIs (fun v b => ∃ as, Reads (sortingHeap (copyHeap s.heap vs) (s.heap.objs.size + 1) vs) v (enc b) as) vs bs := er.mono fun _ _ ⟨as, r⟩ => ⟨as, PyProof.Rows.Reads.keeps (fun _ _ => sorting_copy_old) r⟩
  exact sorted_of_sortT hl (by rw [e.length]; exact hL) (args_sorted1 _) (fun _ => args_list_sort _) fun _ => list_sort_vals (s := { s with heap := copyHeap s.heap vs }) (copyHeap_at s.heap vs)
    (SortsAt.data (s := { s with heap := sortingHeap (copyHeap s.heap vs) (s.heap.objs.size + 1) vs }) (each_map (R := fun v d => ∃ as, Reads (sortingHeap (copyHeap s.heap vs) (s.heap.objs.size + 1) vs) v d as) enc er') hal hk (bound_of hu)) (by rw [e.length]; exact hL)
    ⟨rfl, h _ (by rw [sortVals_length false rfl]; exact e.length) (sortVals_data false e er' hal)⟩
theorem sorted_trev {β : Type} {vs : List Value} {bs : List β} {enc : β → PyData} {R : Value → β → Prop} {l : Addr} {b : Bool} {Q : Value → Shared → Prop} (hl : s.heap.IsTuple l vs.toArray) (e : EachIs R vs bs) (er : EachIs (fun v b => ∃ as, Reads s.heap v (enc b) as) vs bs) (hal : AllAlike (bs.map enc)) (hk : Sortable (bs.map enc)) (hL : bs.length ≤ sizeLine)
    (hu : ∀ b, b ∈ bs → A.units + 2 + (enc b).depth < cLine) (h : ∀ out, out.length = bs.length → EachIs R out (bs.mergeSort (dataLe b enc)) → Q (.ref (s.heap.objs.size + 1)) { s with heap := sortedAll s.heap vs (List.toArray out) }) :
    wpAny (model prog w) A (call (.builtin "sorted") [.ref l] [(Str.ofString "reverse", .bool b)]) Q E s := by
  have er' : EachIs (fun v b => ∃ as, Reads (sortingHeap (copyHeap s.heap vs) (s.heap.objs.size + 1) vs) v (enc b) as) vs bs := er.mono fun _ _ ⟨as, r⟩ => ⟨as, PyProof.Rows.Reads.keeps (fun _ _ => sorting_copy_old) r⟩
  exact sorted_of_sortT hl (by rw [e.length]; exact hL) (args_sorted_rev _ _) (fun _ => args_list_sort_rev _ _) fun _ => list_sort_rev_vals (s := { s with heap := copyHeap s.heap vs }) (copyHeap_at s.heap vs)
    (SortsAt.data (s := { s with heap := sortingHeap (copyHeap s.heap vs) (s.heap.objs.size + 1) vs }) (each_map (R := fun v d => ∃ as, Reads (sortingHeap (copyHeap s.heap vs) (s.heap.objs.size + 1) vs) v d as) enc er') hal hk (bound_of hu)) (by rw [e.length]; exact hL)
    ⟨rfl, h _ (by rw [sortVals_length b rfl]; exact e.length) (sortVals_data b e er' hal)⟩
end
section
open PySem.Spec PyProof.Rows PySem.W
variable {K : PySem.W.Frag} {X : Cx} {m : Md}
/-- values with their data -/
def rSrt (K : PySem.W.Frag) (rev : Bool) : List V → Hp → VK → Prop := fun vs H Q => ∃ (a : Addr) (bs : List (V × D)), vs = [V.ref a] ∧ (SqL K H a (bs.map (·.1)) ∨ SqT K H a (bs.map (·.1))) ∧ (∀ p, p ∈ bs → Dp K H p.1 p.2) ∧ AllAlike (bs.map (·.2)) ∧ Sortable (bs.map (·.2)) ∧
  bs.length ≤ 100000 ∧ (∀ p, p ∈ bs → p.2.depth ≤ 60) ∧ ∀ p, H p = none → Q (.ref p) (upd H p (.lst ((bs.mergeSort (dataLe rev (·.2))).map (·.1))))
theorem each_of {pins : List (Addr × Obj)} {σ : L2.St} {H : Hp} {s : Shared} (I : Inv X pins σ H s) : ∀ {bs : List (V × D)} {us : List Value}, Vals (bs.map (·.1)) us → (∀ p, p ∈ bs → Dp X.K H p.1 p.2) →
    EachIs (fun v (p : V × D) => RelV p.1 v) us bs ∧ EachIs (fun v (p : V × D) => ∃ as, Reads s.heap v p.2 as) us bs
  | [], _, r, _ => by
    cases r
    exact ⟨.nil, .nil⟩
  | p :: bs, _, r, h => by
    cases r with
    | cons a b =>
      obtain ⟨e1, e2⟩ := each_of I b fun q hq => h q (List.mem_cons_of_mem _ hq)
      exact ⟨.cons a e1, .cons (Dp.reads I _ _ _ (h p List.mem_cons_self) a) e2⟩
theorem vals_each : ∀ {bs : List (V × D)} {us : List Value}, EachIs (fun v (p : V × D) => RelV p.1 v) us bs → Vals (bs.map (·.1)) us
  | _, _, .nil => .nil
  | _, _, .cons a b => .cons a (vals_each b)
theorem srt_end {rev : Bool} {bs : List (V × D)} {Q : VK} {pins : List (Addr × Obj)} {σ : L2.St} {H : Hp} {s : Shared} {its out : List Value} (I : Inv X pins σ H s) (hz : bs.length ≤ 100000) (ho : EachIs (fun v (p : V × D) => RelV p.1 v) out (bs.mergeSort (dataLe rev (·.2))))
    (q : ∀ p, H p = none → Q (.ref p) (upd H p (.lst ((bs.mergeSort (dataLe rev (·.2))).map (·.1))))) : EP X pins σ Q (.ref (s.heap.objs.size + 1)) { s with heap := sortedAll s.heap its out.toArray } := by
  obtain ⟨ep, he'⟩ := PyProof.Rows.sortedAll_at s.heap its out.toArray
  have hlen : ((bs.mergeSort (dataLe rev (·.2))).map (·.1)).length ≤ sizeLine := by
    rw [List.length_map, List.length_mergeSort]
    exact len_ok hz
  exact ⟨.ref _, upd H (s.heap.objs.size + 1) (.lst ((bs.mergeSort (dataLe rev (·.2))).map (·.1))), I.laid (t' := s.toks) (fun _ _ => PyProof.Rows.sortedAll_old) (Nat.le_succ _) ⟨hlen, out, ep, vals_each ho, he'⟩, rfl, q _ (I.hok.fresh (Nat.le_succ _))⟩
theorem srt_hu {A : Around} {bs : List (V × D)} (hu : A.units + 64 < cLine) (h : ∀ p, p ∈ bs → p.2.depth ≤ 60) : ∀ p, p ∈ bs → A.units + 2 + p.2.depth < cLine := fun p hp => by
  have := h p hp
  omega
theorem c_sorted (hu : X.A.units + 64 < cLine) : CallR X (.builtin "sorted") (rSrt X.K false) := by
  intro pins s σ H vs us Q I r h
  obtain ⟨a, bs, rfl, hs, hd, ha, hk, hz, hdep, q⟩ := h
  rw [Vals.ref1 r]
  rcases hs with hs | hs
  · obtain ⟨its, rv, hl, _⟩ := I.list hs
    obtain ⟨e1, e2⟩ := each_of I rv hd
    exact sorted_data (enc := fun p : V × D => p.2) hl.isList e1 e2 ha hk (len_ok hz) (srt_hu hu hdep) fun out _ ho => srt_end I hz ho q
  · obtain ⟨its, rv, hl, _⟩ := I.tuple hs
    obtain ⟨e1, e2⟩ := each_of I rv hd
    exact sorted_tdata (enc := fun p : V × D => p.2) hl e1 e2 ha hk (len_ok hz) (srt_hu hu hdep) fun out _ ho => srt_end I hz ho q
def rSrtK (K : PySem.W.Frag) (rev : Bool) : List V → List V → Hp → VK → Prop := fun vs zs H Q => zs = [.bl rev] ∧ rSrt K rev vs H Q
theorem c_sortedRev (hu : X.A.units + 64 < cLine) {b : Bool} : CallRK X (.builtin "sorted") [Str.ofString "reverse"] (rSrtK X.K b) := by
  intro pins s σ H vs zs us ws Q I r rz h
  obtain ⟨rfl, a, bs, rfl, hs, hd, ha, hk, hz, hdep, q⟩ := h
  obtain rfl := Vals.ref1 r
  obtain ⟨w1, rfl, e1⟩ := vals1 rz
  obtain rfl : w1 = Value.bool b := e1
  rcases hs with hs | hs
  · obtain ⟨its, rv, hl, _⟩ := I.list hs
    obtain ⟨e1, e2⟩ := each_of I rv hd
    exact sorted_rev_data (enc := fun p : V × D => p.2) hl.isList e1 e2 ha hk (len_ok hz) (srt_hu hu hdep) fun out _ ho => srt_end I hz ho q
  · obtain ⟨its, rv, hl, _⟩ := I.tuple hs
    obtain ⟨e1, e2⟩ := each_of I rv hd
    exact sorted_trev (enc := fun p : V × D => p.2) hl e1 e2 ha hk (len_ok hz) (srt_hu hu hdep) fun out _ ho => srt_end I hz ho q
/-- the data sort -/
def srtD (rev : Bool) (l : List D) : List D := l.mergeSort (dataLe rev id)
def srtOk (l : List D) : Prop := AllAlike l ∧ Sortable l ∧ l.length ≤ 100000 ∧ ∀ d, d ∈ l → d.plain = true ∧ d.depth ≤ 60
def fSrt (rev : Bool) : List D → (List D → Prop) → Prop
  | [.list l], P => srtOk l ∧ P (srtD rev l)
  | [.tuple l], P => srtOk l ∧ P (srtD rev l)
  | _, _ => False
theorem isAll_zip {H : Hp} : ∀ {vs : List V} {ds : List D}, IsAll K H vs ds → ∃ bs : List (V × D), bs.map (·.1) = vs ∧ bs.map (·.2) = ds ∧ ∀ p, p ∈ bs → Is K H p.1 p.2
  | _, _, .nil => ⟨[], rfl, rfl, by simp⟩
  | _, _, .cons (v := v) (d := d) a b => by
    obtain ⟨bs, e1, e2, h⟩ := isAll_zip b
    refine ⟨(v, d) :: bs, by simp [e1], by simp [e2], fun p hp => ?_⟩
    rcases List.mem_cons.mp hp with z | z
    · rw [z]
      exact a
    · exact h p z
theorem isAll_of {H : Hp} : ∀ {bs : List (V × D)}, (∀ p, p ∈ bs → Is K H p.1 p.2) → IsAll K H (bs.map (·.1)) (bs.map (·.2))
  | [], _ => .nil
  | p :: bs, h => .cons (h p List.mem_cons_self) (isAll_of fun q hq => h q (List.mem_cons_of_mem _ hq))
theorem srt_map (rev : Bool) (bs : List (V × D)) : (bs.mergeSort (dataLe rev (·.2))).map (·.2) = srtD rev (bs.map (·.2)) := sort_maps (r := dataLe rev (·.2)) (s := dataLe rev id) (fun p : V × D => p.2) fun a _ b _ => rfl
theorem rn_srt {rev : Bool} : RNF K (rSrt K rev) (fSrt rev) := by
  intro W H vs l Q P tr h hf k
  have main : ∀ a xs ds, IsAll K (era W H) xs ds → srtOk ds → P (srtD rev ds) → (SqL K H a xs ∨ SqT K H a xs) → vs = [V.ref a] → rSrt K rev vs H Q := by
    intro a xs ds ha ok hP hs hv
    obtain ⟨bs, rfl, rfl, hb⟩ := isAll_zip ha
    obtain ⟨o1, o2, o3, o4⟩ := ok
    have hm : ∀ p, p ∈ bs → p.2.plain = true ∧ p.2.depth ≤ 60 := fun p hp => o4 _ (List.mem_map_of_mem hp)
    refine ⟨a, bs, hv, hs, fun p hp => ((hb p hp).up era_sub).dp _ (hm p hp).1, o1, o2, by rw [List.length_map] at o3; exact o3, fun p hp => (hm p hp).2, fun p hp => k p _ _ _ (same_new hp) hp upd_same (new_lst hp ?_) hP⟩
    rw [← srt_map]
    exact isAll_of fun q hq => hb q (List.mem_mergeSort.mp hq)
  unfold fSrt at hf
  split at hf
  · cases h with
    | cons a b =>
      cases b
      cases a with
      | @lst a xs _ hs ha => exact main a xs _ ha hf.1 hf.2 (.inl (SqL.of (era_to hs).1)) rfl
  · cases h with
    | cons a b =>
      cases b
      cases a with
      | @tup a xs _ hs ha => exact main a xs _ ha hf.1 hf.2 (.inr (sqT_mono era_sub hs)) rfl
  · exact hf.elim
/-- sorted(x, reverse=True) -/
def dSrtR (rev : Bool) (da : TDA) : TDA := fun ρ P => da ρ fun l => fSrt rev l P
theorem f_sortedRev {e : Expr} {p pos kpos cp : Pos} {b : Bool} {k : Nat} {da : TDA} (hu : X.A.units + 64 < cLine) (hg : Gl X "sorted") (hm : X.mg "sorted" = none) (hv : bootBuiltins "sorted" = some (.builtin "sorted")) (ha : BA X m [e] da)
    (he : backTo pos (starEach [e] X.env) = (false, eval e X.env) :: backTo pos (starEach [] X.env) := by rfl) (hpl : (backTo pos (starEach [e] X.env)).any (·.1) = false := by rfl)
    (hall : (backToKw pos (keywordEach [⟨some "reverse", .Constant (.bool b) k cp, kpos⟩] X.env)).all (·.1.isSome) = true := by rfl) (hnone : (backToKw pos (keywordEach [⟨some "reverse", .Constant (.bool b) k cp, kpos⟩] X.env)).any (·.1.isNone) = false := by rfl)
    (hks : (backToKw pos (keywordEach [⟨some "reverse", .Constant (.bool b) k cp, kpos⟩] X.env)).filterMap (·.1) = [Str.ofString "reverse"] := by rfl) :
    BF X m (.Call (.Name "sorted" p) [e] [⟨some "reverse", .Constant (.bool b) k cp, kpos⟩] pos) (dNF (fSrt b) da) := fun W =>
  pew (pe_callBK (c_sortedRev hu (b := b)) hg hm hv (ha W) (pk_cons pe_bl pk_nil) (by decide) (by decide) he hpl hall hnone hks) fun σ H Q ⟨ρ, P, o, n, h, kk⟩ => tDA_at o n h fun vs H1 l e1 o1 n1 i1 h1 =>
    ⟨rfl, rn_srt W H1 vs l Q P o1.tr i1 h1 fun q H3 xs t s hp hx i qq => kk q H3 xs t (e1.trans (.same o1.R s)) (back_none e1 o hp) hx i qq⟩

/-! ### min, max of data -/
def rBest (K : PySem.W.Frag) (f : D → List D → D) : List V → Hp → VK → Prop := fun vs H Q => ∃ (a : Addr) (xs : List V) (d : D) (ds : List D), vs = [V.ref a] ∧ (SqL K H a xs ∨ SqT K H a xs) ∧ DpAll K H xs (d :: ds) ∧ PySem.W.AlikeAll (d :: ds) ∧ PyData.plainAll (d :: ds) = true ∧ PyData.depthAll (d :: ds) ≤ 60 ∧
  ∀ (i : Nat) (v : V), xs[i]? = some v → (d :: ds)[i]? = some (f d ds) → Q v H
theorem c_min (hc : X.calm = true) (hu : X.A.units + 64 < cLine) : CallR X (.builtin "min") (rBest X.K PySem.W.minD) := by
  intro pins s σ H vs us Q I r h
  obtain ⟨a, xs, d, ds, rfl, hs, hd, ha, hp, hz, q⟩ := h
  rw [Vals.ref1 r]
  have hh : X.A.handled = none := I.ok.hd hc
  have fin : ∀ (its : List Value), Vals xs its → ∀ (as : List Addr), ReadsAll s.heap its (d :: ds) as → ∀ (i : Nat) v h' tk bs, its.toArray[i]? = some v → Reads h' v (PySem.W.minD d ds) bs → (∀ b o, s.heap.get? b = some o → h'.get? b = some o) →
      EP X pins σ Q v { s with heap := h', toks := tk } := by
    intro its rv as rs i v h' tk bs hv hr hk
    have hv' : its[i]? = some v := by simpa using hv
    have hi : i < xs.length := by
      rw [rv.length]
      exact (List.getElem?_eq_some_iff.mp hv').1
    obtain ⟨u, hu', ru⟩ := rv.get (List.getElem?_eq_getElem hi)
    rw [hv'] at hu'
    cases hu'
    obtain ⟨bs2, r2, hl2, _, _⟩ := PySem.W.readsAll_at rs i v hv'
    have hg : (d :: ds)[i]? = some ((d :: ds).getD i .none) := by
      rw [List.getElem?_eq_getElem hl2, List.getD_eq_getElem?_getD, List.getElem?_eq_getElem hl2]
      rfl
    have hpi : ((d :: ds).getD i .none).plain = true := by
      have : ∀ (l : List PyData) (i : Nat) (x : PyData), PyData.plainAll l = true → l[i]? = some x → x.plain = true := by
        intro l
        induction l with
        | nil =>
          intro i x _ h
          simp at h
        | cons y l ih =>
          intro i x hp h
          have hp' : y.plain = true ∧ PyData.plainAll l = true := by simpa [PyData.plainAll] using hp
          cases i with
          | zero =>
            simp at h
            rw [← h]
            exact hp'.1
          | succ i => exact ih i x hp'.2 (by simpa using h)
      exact this _ i _ hp hg
    have e := PySem.SeqAt.plain_unique _ _ v _ _ hpi (PyProof.Rows.Reads.keeps hk r2) hr
    rw [e] at hg
    exact ⟨xs[i], H, I.kept hk, ru, q i _ (List.getElem?_eq_getElem hi) hg⟩
  have hroom : X.A.units + 1 + PyData.depthAll (d :: ds) < cLine := by omega
  rcases hs with hs | hs
  · obtain ⟨its, rv, hl, _⟩ := I.list hs
    obtain ⟨as, rs⟩ := Dp.readsAll I (d :: ds) xs its hd rv
    exact PySem.W.min_list_data hh hl.isList (by simpa using rs) ha hroom (fin its rv as rs)
  · obtain ⟨its, rv, hl, _⟩ := I.tuple hs
    obtain ⟨as, rs⟩ := Dp.readsAll I (d :: ds) xs its hd rv
    exact PySem.W.min_tuple_data hh hl (by simpa using rs) ha hroom (fin its rv as rs)
theorem c_max (hc : X.calm = true) (hu : X.A.units + 64 < cLine) : CallR X (.builtin "max") (rBest X.K PySem.W.maxD) := by
  intro pins s σ H vs us Q I r h
  obtain ⟨a, xs, d, ds, rfl, hs, hd, ha, hp, hz, q⟩ := h
  rw [Vals.ref1 r]
  have hh : X.A.handled = none := I.ok.hd hc
  have fin : ∀ (its : List Value), Vals xs its → ∀ (as : List Addr), ReadsAll s.heap its (d :: ds) as → ∀ (i : Nat) v h' tk bs, its.toArray[i]? = some v → Reads h' v (PySem.W.maxD d ds) bs → (∀ b o, s.heap.get? b = some o → h'.get? b = some o) →
      EP X pins σ Q v { s with heap := h', toks := tk } := by
    intro its rv as rs i v h' tk bs hv hr hk
    have hv' : its[i]? = some v := by simpa using hv
    have hi : i < xs.length := by
      rw [rv.length]
      exact (List.getElem?_eq_some_iff.mp hv').1
    obtain ⟨u, hu', ru⟩ := rv.get (List.getElem?_eq_getElem hi)
    rw [hv'] at hu'
    cases hu'
    obtain ⟨bs2, r2, hl2, _, _⟩ := PySem.W.readsAll_at rs i v hv'
    have hg : (d :: ds)[i]? = some ((d :: ds).getD i .none) := by
      rw [List.getElem?_eq_getElem hl2, List.getD_eq_getElem?_getD, List.getElem?_eq_getElem hl2]
      rfl
    have hpi : ((d :: ds).getD i .none).plain = true := by
      have : ∀ (l : List PyData) (i : Nat) (x : PyData), PyData.plainAll l = true → l[i]? = some x → x.plain = true := by
        intro l
        induction l with
        | nil =>
          intro i x _ h
          simp at h
        | cons y l ih =>
          intro i x hp h
          have hp' : y.plain = true ∧ PyData.plainAll l = true := by simpa [PyData.plainAll] using hp
          cases i with
          | zero =>
            simp at h
            rw [← h]
            exact hp'.1
          | succ i => exact ih i x hp'.2 (by simpa using h)
      exact this _ i _ hp hg
    have e := PySem.SeqAt.plain_unique _ _ v _ _ hpi (PyProof.Rows.Reads.keeps hk r2) hr
    rw [e] at hg
    exact ⟨xs[i], H, I.kept hk, ru, q i _ (List.getElem?_eq_getElem hi) hg⟩
  have hroom : X.A.units + 1 + PyData.depthAll (d :: ds) < cLine := by omega
  rcases hs with hs | hs
  · obtain ⟨its, rv, hl, _⟩ := I.list hs
    obtain ⟨as, rs⟩ := Dp.readsAll I (d :: ds) xs its hd rv
    exact PySem.W.max_list_data hh hl.isList (by simpa using rs) ha hroom (fin its rv as rs)
  · obtain ⟨its, rv, hl, _⟩ := I.tuple hs
    obtain ⟨as, rs⟩ := Dp.readsAll I (d :: ds) xs its hd rv
    exact PySem.W.max_tuple_data hh hl (by simpa using rs) ha hroom (fin its rv as rs)
def minOk : List D → Bool
  | [] => false
  | d :: ds => PyData.plainAll (d :: ds) && decide (PyData.depthAll (d :: ds) ≤ 60)
def fMin : List D → (D → Prop) → Prop
  | [.list (d :: ds)], P => (PySem.W.AlikeAll (d :: ds) ∧ minOk (d :: ds) = true) ∧ P (PySem.W.minD d ds)
  | [.tuple (d :: ds)], P => (PySem.W.AlikeAll (d :: ds) ∧ minOk (d :: ds) = true) ∧ P (PySem.W.minD d ds)
  | _, _ => False
theorem minOk_all {d : D} {ds : List D} (h : minOk (d :: ds) = true) : PyData.plainAll (d :: ds) = true ∧ PyData.depthAll (d :: ds) ≤ 60 := by
  unfold minOk at h
  simpa using h
theorem rn_min : RND K (rBest K PySem.W.minD) fMin := by
  intro W H vs l Q P tr h hf k
  have main : ∀ a xs d ds, IsAll K (era W H) xs (d :: ds) → PySem.W.AlikeAll (d :: ds) → minOk (d :: ds) = true → P (PySem.W.minD d ds) → (SqL K H a xs ∨ SqT K H a xs) → vs = [V.ref a] → rBest K PySem.W.minD vs H Q := by
    intro a xs d ds ha o1 o2 hP hs hv
    obtain ⟨p1, p2⟩ := minOk_all o2
    refine ⟨a, xs, d, ds, hv, hs, (ha.up era_sub).dp _ p1, o1, p1, p2, fun i v e1 e2 => ?_⟩
    obtain ⟨v', e3, i3⟩ := ha.get e2
    rw [e1] at e3
    cases e3
    exact k _ _ _ (same_refl _) i3 hP
  unfold fMin at hf
  split at hf
  · cases h with
    | cons a b =>
      cases b
      cases a with
      | @lst a xs _ hs ha => exact main a xs _ _ ha hf.1.1 hf.1.2 hf.2 (.inl (SqL.of (era_to hs).1)) rfl
  · cases h with
    | cons a b =>
      cases b
      cases a with
      | @tup a xs _ hs ha => exact main a xs _ _ ha hf.1.1 hf.1.2 hf.2 (.inr (sqT_mono era_sub hs)) rfl
  · exact hf.elim
def fMax : List D → (D → Prop) → Prop
  | [.list (d :: ds)], P => (PySem.W.AlikeAll (d :: ds) ∧ minOk (d :: ds) = true) ∧ P (PySem.W.maxD d ds)
  | [.tuple (d :: ds)], P => (PySem.W.AlikeAll (d :: ds) ∧ minOk (d :: ds) = true) ∧ P (PySem.W.maxD d ds)
  | _, _ => False
theorem rn_max : RND K (rBest K PySem.W.maxD) fMax := by
  intro W H vs l Q P tr h hf k
  have main : ∀ a xs d ds, IsAll K (era W H) xs (d :: ds) → PySem.W.AlikeAll (d :: ds) → minOk (d :: ds) = true → P (PySem.W.maxD d ds) → (SqL K H a xs ∨ SqT K H a xs) → vs = [V.ref a] → rBest K PySem.W.maxD vs H Q := by
    intro a xs d ds ha o1 o2 hP hs hv
    obtain ⟨p1, p2⟩ := minOk_all o2
    refine ⟨a, xs, d, ds, hv, hs, (ha.up era_sub).dp _ p1, o1, p1, p2, fun i v e1 e2 => ?_⟩
    obtain ⟨v', e3, i3⟩ := ha.get e2
    rw [e1] at e3
    cases e3
    exact k _ _ _ (same_refl _) i3 hP
  unfold fMax at hf
  split at hf
  · cases h with
    | cons a b =>
      cases b
      cases a with
      | @lst a xs _ hs ha => exact main a xs _ _ ha hf.1.1 hf.1.2 hf.2 (.inl (SqL.of (era_to hs).1)) rfl
  · cases h with
    | cons a b =>
      cases b
      cases a with
      | @tup a xs _ hs ha => exact main a xs _ _ ha hf.1.1 hf.1.2 hf.2 (.inr (sqT_mono era_sub hs)) rfl
  · exact hf.elim

/-! ### isinstance -/
def tyName : D → String
  | .none => "NoneType"
  | .bool _ => "bool"
  | .int _ => "int"
  | .str _ => "str"
  | .list _ => "list"
  | .tuple _ => "tuple"
  | .dict _ => "dict"
theorem is_ty {H : Hp} {v : V} {x : D} (h : Is K H v x) : TyX K H v (.type (tyName x)) := by
  cases h with
  | non => exact .base .non
  | bl b => exact .base (.bl b)
  | int i => exact .base (.int i)
  | str i => exact .base (.str i)
  | lst e _ => exact .base (.lst e)
  | tup e _ =>
    rcases e with (e | ⟨o, e⟩) | ⟨o, its, n, e, c, _⟩
    · exact .base (.tup e)
    · exact .fTuple e
    · exact .kTuple e c
  | dic e => exact .base (.dK e)
def isTyB (n : String) (g : D → Bool) : Prop := ∀ x : D, kitB (tyName x) n = some (g x)
def isInt : D → Bool
  | .int _ => true
  | .bool _ => true
  | _ => false
def isBool : D → Bool
  | .bool _ => true
  | _ => false
def isStr : D → Bool
  | .str _ => true
  | _ => false
def isTup : D → Bool
  | .tuple _ => true
  | _ => false
def isLst : D → Bool
  | .list _ => true
  | _ => false
theorem ty_int : isTyB "int" isInt := fun x => match x with
  | .none => show kitB "NoneType" "int" = some false by decide +kernel
  | .bool _ => show kitB "bool" "int" = some true by decide +kernel
  | .int _ => show kitB "int" "int" = some true by decide +kernel
  | .str _ => show kitB "str" "int" = some false by decide +kernel
  | .list _ => show kitB "list" "int" = some false by decide +kernel
  | .tuple _ => show kitB "tuple" "int" = some false by decide +kernel
  | .dict _ => show kitB "dict" "int" = some false by decide +kernel
theorem ty_bool : isTyB "bool" isBool := fun x => match x with
  | .none => show kitB "NoneType" "bool" = some false by decide +kernel
  | .bool _ => show kitB "bool" "bool" = some true by decide +kernel
  | .int _ => show kitB "int" "bool" = some false by decide +kernel
  | .str _ => show kitB "str" "bool" = some false by decide +kernel
  | .list _ => show kitB "list" "bool" = some false by decide +kernel
  | .tuple _ => show kitB "tuple" "bool" = some false by decide +kernel
  | .dict _ => show kitB "dict" "bool" = some false by decide +kernel
theorem ty_str : isTyB "str" isStr := fun x => match x with
  | .none => show kitB "NoneType" "str" = some false by decide +kernel
  | .bool _ => show kitB "bool" "str" = some false by decide +kernel
  | .int _ => show kitB "int" "str" = some false by decide +kernel
  | .str _ => show kitB "str" "str" = some true by decide +kernel
  | .list _ => show kitB "list" "str" = some false by decide +kernel
  | .tuple _ => show kitB "tuple" "str" = some false by decide +kernel
  | .dict _ => show kitB "dict" "str" = some false by decide +kernel
theorem ty_tuple : isTyB "tuple" isTup := fun x => match x with
  | .none => show kitB "NoneType" "tuple" = some false by decide +kernel
  | .bool _ => show kitB "bool" "tuple" = some false by decide +kernel
  | .int _ => show kitB "int" "tuple" = some false by decide +kernel
  | .str _ => show kitB "str" "tuple" = some false by decide +kernel
  | .list _ => show kitB "list" "tuple" = some false by decide +kernel
  | .tuple _ => show kitB "tuple" "tuple" = some true by decide +kernel
  | .dict _ => show kitB "dict" "tuple" = some false by decide +kernel
theorem ty_list : isTyB "list" isLst := fun x => match x with
  | .none => show kitB "NoneType" "list" = some false by decide +kernel
  | .bool _ => show kitB "bool" "list" = some false by decide +kernel
  | .int _ => show kitB "int" "list" = some false by decide +kernel
  | .str _ => show kitB "str" "list" = some false by decide +kernel
  | .list _ => show kitB "list" "list" = some true by decide +kernel
  | .tuple _ => show kitB "tuple" "list" = some false by decide +kernel
  | .dict _ => show kitB "dict" "list" = some false by decide +kernel
/-- isinstance(e, T) -/
def dIsi (g : D → Bool) (de : TD) : TD := fun ρ P => de ρ fun x => P (.bool (g x))
theorem b_isi {e : Expr} {p p2 pos : Pos} {T : String} {Ts : Str} {g : D → Bool} {de : TD} (ty : isTyB T g) (hg : Gl X "isinstance") (hm : X.mg "isinstance" = none) (hv : bootBuiltins "isinstance" = some (.builtin "isinstance")) (hg2 : Gl X Ts) (hm2 : X.mg Ts = none) (hv2 : bootBuiltins Ts = some (.type T)) (he : BE X m e de)
    (hn2 : Ts ≠ "__name__" := by decide) (hd2 : (Ts == ("__debug__" : Str)) = false := by decide)
    (h1 : starEach [e, .Name Ts p2] X.env = (false, eval e X.env) :: starEach [.Name Ts p2] X.env := by rfl) (h2 : starEach [.Name Ts p2] X.env = (false, eval (.Name Ts p2) X.env) :: starEach [] X.env := by rfl) (hpl : (backTo pos (starEach [.Name Ts p2] X.env)).any (·.1) = false := by rfl) :
    BE X m (.Call (.Name "isinstance" p) [e, .Name Ts p2] [] pos) (dIsi g de) := fun W =>
  pew (pe_callB call_isi hg hm hv (pa_cons (he W) (pa_cons (pe_bltn (v := .ty T) hg2 hm2 hv2 rfl hn2 hd2) pa_nil h2) h1) (by decide) (by decide) h1 hpl) fun σ H Q ⟨ρ, P, o, n, h, k⟩ => tD_at o n h fun v H1 x e1 o1 n1 i1 h1 =>
    ⟨v, .ty T, .type (tyName x), .type T, g x, rfl, .ty T, is_ty (i1.up era_sub), kit_ty (ty x), k _ _ _ e1 (.bl _) h1⟩
/-- isinstance(e, (T, U)) -/
theorem b_isi2 {e : Expr} {p p2 p3 tp pos : Pos} {kk : Nat} {T U : String} {Ts Us : Str} {g g' : D → Bool} {de : TD} (ty : isTyB T g) (ty' : isTyB U g') (hg : Gl X "isinstance") (hm : X.mg "isinstance" = none) (hv : bootBuiltins "isinstance" = some (.builtin "isinstance")) (hg2 : Gl X Ts) (hm2 : X.mg Ts = none) (hv2 : bootBuiltins Ts = some (.type T))
    (hg3 : Gl X Us) (hm3 : X.mg Us = none) (hv3 : bootBuiltins Us = some (.type U)) (he : BE X m e de)
    (hn2 : Ts ≠ "__name__" := by decide) (hd2 : (Ts == ("__debug__" : Str)) = false := by decide) (hn3 : Us ≠ "__name__" := by decide) (hd3 : (Us == ("__debug__" : Str)) = false := by decide)
    (h1 : starEach [e, .Tuple [.Name Ts p2, .Name Us p3] kk tp] X.env = (false, eval e X.env) :: starEach [.Tuple [.Name Ts p2, .Name Us p3] kk tp] X.env := by rfl) (h2 : starEach [.Tuple [.Name Ts p2, .Name Us p3] kk tp] X.env = (false, eval (.Tuple [.Name Ts p2, .Name Us p3] kk tp) X.env) :: starEach [] X.env := by rfl)
    (h3 : starEach [.Name Ts p2, .Name Us p3] X.env = (false, eval (.Name Ts p2) X.env) :: starEach [.Name Us p3] X.env := by rfl) (h4 : starEach [.Name Us p3] X.env = (false, eval (.Name Us p3) X.env) :: starEach [] X.env := by rfl)
    (hpl : (backTo pos (starEach [.Tuple [.Name Ts p2, .Name Us p3] kk tp] X.env)).any (·.1) = false := by rfl) :
    BE X m (.Call (.Name "isinstance" p) [e, .Tuple [.Name Ts p2, .Name Us p3] kk tp] [] pos) (dIsi (fun x => g x || g' x) de) := fun W =>
  pew (pe_callB call_isiT hg hm hv (pa_cons (he W) (pa_cons (pe_tup (pa_cons (pe_bltn (v := .ty T) hg2 hm2 hv2 rfl hn2 hd2) (pa_cons (pe_bltn (v := .ty U) hg3 hm3 hv3 rfl hn3 hd3) pa_nil h4) h3)) pa_nil h2) h1) (by decide) (by decide) h1 hpl) fun σ H Q ⟨ρ, P, o, n, h, k⟩ => tD_at o n h fun v H1 x e1 o1 n1 i1 h1 =>
    ⟨by show 2 ≤ sizeLine; decide, fun t ht => ⟨v, t, [.ty T, .ty U], .type (tyName x), [.type T, .type U], g x || g' x, rfl, upd_same, .cons (.ty T) (.cons (.ty U) .nil), is_ty ((i1.up era_sub).up (same_new ht)),
      kitAny_cons (kit_ty (ty x)) (fun hg0 => kitAny_cons (kit_ty (ty' x)) (fun hg1 => by rw [hg0, hg1]; rfl) fun hg1 => by rw [hg0, hg1]; rfl) (fun hg0 => by rw [hg0]; rfl), k _ _ _ (e1.trans (.same o1.R (same_new ht))) (.bl _) h1⟩⟩

/-! ### lists joined, repeated -/
def fCat : D → D → (List D → Prop) → Prop
  | .list a, .list b, P => a.length + b.length ≤ 100000 ∧ P (a ++ b)
  | _, _, _ => False
theorem rf_cat : R2F K rCat fCat := by
  intro W H v u x y Q P tr hv hu h k
  unfold fCat at h
  split at h
  · cases hv with
    | @lst a xs _ hs ha =>
      cases hu with
      | @lst b ys _ hs' hb => exact ⟨a, b, xs, ys, rfl, rfl, (era_to hs).1, (era_to hs').1, len_ok (by rw [ha.length, hb.length]; exact h.1), fun p hp => k p _ _ _ (same_new hp) hp upd_same (new_lst hp (ha.append hb)) h.2⟩
  · exact h.elim
def fRep : D → D → (List D → Prop) → Prop
  | .list a, .int k, P => (-100000 ≤ k ∧ k ≤ 100000 ∧ a.length * k.toNat ≤ 100000) ∧ P (List.replicate k.toNat a).flatten
  | _, _, _ => False
theorem IsAll.rep {H : Hp} {vs : List V} {ds : List D} (h : IsAll K H vs ds) : ∀ n : Nat, IsAll K H (List.replicate n vs).flatten (List.replicate n ds).flatten
  | 0 => .nil
  | n + 1 => by
    rw [List.replicate_succ, List.replicate_succ, List.flatten_cons, List.flatten_cons]
    exact h.append (IsAll.rep h n)
theorem rf_rep : R2F K rRep fRep := by
  intro W H v u x y Q P tr hv hu h k
  unfold fRep at h
  split at h
  · cases hu
    cases hv with
    | @lst a xs _ hs ha =>
      obtain ⟨⟨h1, h2, h3⟩, h⟩ := h
      exact ⟨a, _, xs, rfl, rfl, (era_to hs).1, by omega, by omega, len_ok (by rw [ha.length]; exact h3), fun p hp => k p _ _ _ (same_new hp) hp upd_same (new_lst hp (ha.rep _)) h⟩
  · exact h.elim
/-- math.gcd -/
def fGcd : List D → (D → Prop) → Prop
  | [.int a, .int b], P => P (.int ((Nat.gcd a.natAbs b.natAbs : Nat) : Int))
  | _, _ => False
theorem rn_gcd : RND K rGcd fGcd := by
  intro W H vs l Q P tr h hf k
  unfold fGcd at hf
  split at hf
  · cases h with
    | cons a b =>
      cases b with
      | cons b c =>
        cases c
        cases a
        cases b
        exact ⟨_, _, rfl, k _ _ _ (same_refl _) (.int _) hf⟩
  · exact hf.elim
theorem b_cFun {id : String} {x : Str} {r : List V → Hp → VK → Prop} {f : List D → (D → Prop) → Prop} {da : TDA} {e : Expr} {es : List Expr} {p pos : Pos} (hc : CallR X (.builtin id) r) (hr : RND X.K r f) (hg : Gl X x) (hm : X.mg x = some (.builtin id)) (ha : BA X m (e :: es) da) (hdb : (x == ("__debug__" : Str)) = false := by decide)
    (he : starEach (e :: es) X.env = (false, eval e X.env) :: starEach es X.env := by rfl) (hpl : (backTo pos (starEach es X.env)).any (·.1) = false := by rfl) : BE X m (.Call (.Name x p) (e :: es) [] pos) (dN f da) := fun W =>
  pew (pe_callBfun hc hg hm (ha W) hdb he hpl) (dN_to hr)
end
end TL

/-! TL, part 10: several names at once; slices backwards; constants of the module; divmod. -/
namespace TL
open PySem L2
open PySem.Spec PyProof.Rows
variable {K : PySem.W.Frag} {X : Cx} {m : Md}

/-! ### a row of values and new lists -/
inductive CompAll (K : PySem.W.Frag) (Z : Addr → Prop) (H : Hp) : List V → List Sl → List Addr → Prop
  | nil : CompAll K Z H [] [] []
  | d {v : V} {x : D} {vs : List V} {sl : List Sl} {ps : List Addr} : Is K (era Z H) v x → CompAll K Z H vs sl ps → CompAll K Z H (v :: vs) (.d x :: sl) ps
  | ow {p : Addr} {xs : List V} {l : List D} {vs : List V} {sl : List Sl} {ps : List Addr} : H p = some (.lst xs) → IsAll K (era Z H) xs l → CompAll K Z H vs sl ps → CompAll K Z H (.ref p :: vs) (.ow l :: sl) (p :: ps)
theorem CompAll.up {Z Z' : Addr → Prop} {H H' : Hp} (s : Same (era Z H) (era Z' H')) : ∀ {vs : List V} {sl : List Sl} {ps : List Addr}, CompAll K Z H vs sl ps → (∀ p xs, p ∈ ps → H p = some (.lst xs) → H' p = some (.lst xs)) → CompAll K Z' H' vs sl ps
  | _, _, _, .nil, _ => .nil
  | _, _, _, .d a b, g => .d (a.up s) (CompAll.up s b g)
  | _, _, _, .ow e a b, g => .ow (g _ _ (List.mem_cons_self ..) e) (a.up s) (CompAll.up s b fun p xs hp => g p xs (List.mem_cons_of_mem _ hp))
abbrev TDC := List En → (List Sl → Prop) → Prop
def tDC (K : PySem.W.Frag) (m : Md) (W : Addr → Prop) (d : TDC) : TA := fun σ H Q => ∃ ρ P, Ok m W H ∧ EnvIs K (era W H) σ ρ ∧ d ρ P ∧
  ∀ vs H' sl ps, Evo m H H' → ps.Nodup → (∀ p, p ∈ ps → H p = none) → CompAll K (fun a => W a ∨ a ∈ ps) H' vs sl ps → P sl → Q vs H'
def BC (X : Cx) (m : Md) (es : List Expr) (d : TDC) : Prop := ∀ W, PA X es (tDC X.K m W d)
def dcNil : TDC := fun _ P => P []
def dcD (da : TD) (dr : TDC) : TDC := fun ρ P => da ρ fun x => dr ρ fun sl => P (.d x :: sl)
def dcF (da : TDA) (dr : TDC) : TDC := fun ρ P => da ρ fun l => dr ρ fun sl => P (.ow l :: sl)
section
variable {e : Expr} {es : List Expr}
theorem bc_nil : BC X m [] dcNil := fun W => paw pa_nil fun σ H Q ⟨ρ, P, o, n, h, k⟩ => k _ _ _ _ (.refl o.R) List.nodup_nil (fun p hp => absurd hp List.not_mem_nil) .nil h
theorem view_ps {W : Addr → Prop} {H H' : Hp} {ps : List Addr} (o : Ok m W H) (e : Evo m H H') (fr : ∀ p, p ∈ ps → H p = none) : Same (era W H) (era (fun a => W a ∨ a ∈ ps) H') := fun b u q => by
  obtain ⟨q1, q2⟩ := era_to q
  refine era_of (e.1 b u q1 fun z => q2 (o.sub b z)) fun z => z.elim q2 fun z => ?_
  rw [fr b z] at q1
  cases q1
theorem bc_d {da : TD} {dr : TDC} (ha : BE X m e da) (hr : BC X m es dr) (hs : starEach (e :: es) X.env = (false, eval e X.env) :: starEach es X.env := by rfl) : BC X m (e :: es) (dcD da dr) := fun W =>
  paw (pa_cons (ha W) (hr W) hs) fun σ H Q ⟨ρ, P, o, n, h, k⟩ => tD_at o n h fun v H1 x e1 o1 n1 i1 h1 => ⟨ρ, _, o1, n1, h1, fun vs H2 sl ps e2 nd fr c q =>
    k _ _ _ _ (e1.trans e2) nd (fun p hp => back_none e1 o (fr p hp)) (.d (i1.up (view_ps o1 e2 fr)) c) q⟩
theorem bc_f {da : TDA} {dr : TDC} (ha : BF X m e da) (hr : BC X m es dr) (hs : starEach (e :: es) X.env = (false, eval e X.env) :: starEach es X.env := by rfl) : BC X m (e :: es) (dcF da dr) := fun W =>
  paw (pa_cons (ha W) (pa_ex (T := fun W => tDC X.K m W dr) hr) hs) fun σ H Q ⟨ρ, P, o, n, h, k⟩ => ⟨ρ, _, o, n, h, fun p H1 xs l e1 hp hx i1 h1 => by
    have o1 : Ok m (fun b => W b ∨ b = p) H1 := ⟨e1.2, fun a z => .inl (o.sub a z), fun a z => z.elim ((o.evo e1).tr a) fun z => (by rw [z, hx]; simp), (o.evo e1).sB, fun a z => z.elim (o.dB a) fun z => by rw [z]; exact o.noB hp⟩
    have v1 : Same (era W H) (era (fun b => W b ∨ b = p) H1) := fun b u q => by
      obtain ⟨q1, q2⟩ := era_to q
      refine era_of (e1.1 b u q1 fun z => q2 (o.sub b z)) fun z => z.elim q2 fun z => ?_
      rw [z, hp] at q1
      cases q1
    refine ⟨_, ρ, _, o1, n.mono v1, h1, fun vs H2 sl ps e2 nd fr c q => ?_⟩
    have npm : ¬ m.M p := fun z => o.tr p (o.sub p z) hp
    have hx2 : H2 p = some (.lst xs) := e2.1 p _ hx npm
    have ev : Same (era (fun a => (W a ∨ a = p) ∨ a ∈ ps) H2) (era (fun a => W a ∨ a ∈ p :: ps) H2) := era_mono (fun _ _ y _ => y) fun a z => by
      rcases z with z | z
      · exact .inl (.inl z)
      · rcases List.mem_cons.mp z with z | z
        · exact .inl (.inr z)
        · exact .inr z
    refine k _ _ _ (p :: ps) (e1.trans e2) (List.nodup_cons.mpr ⟨fun z => ?_, nd⟩) (fun a z => ?_) (.ow hx2 (i1.up fun b u q => ev b u (view_ps o1 e2 fr b u q)) (c.up ev fun _ _ _ y => y)) q
    · rw [fr p z] at hx
      cases hx
    · rcases List.mem_cons.mp z with z | z
      · rw [z]; exact hp
      · exact back_none e1 o (fr a z)⟩
end
/-! ### the stores -/
structure Pend (K : PySem.W.Frag) (W : Addr → Prop) (b : Bs) (H : Hp) (σ : L2.St) (ρ : List Sl) (ps : List Addr) : Prop where
  env : EnvIs K (era (fun a => W a ∨ Ow σ ρ a ∨ a ∈ ps) H) σ (ρ.map hid)
  own : ∀ (i : Nat) (l : List D), ρ[i]? = some (.ow l) → ∃ (a : Addr) (xs : List V), σ[i]? = some (some (.ref a)) ∧ H a = some (.lst xs) ∧ IsAll K (era (fun a => W a ∨ Ow σ ρ a ∨ a ∈ ps) H) xs l
  new : ∀ p, p ∈ ps → ¬ W p ∧ ¬ Ow σ ρ p ∧ b.H p = none
  nd : ps.Nodup
section
variable {W : Addr → Prop} {b : Bs} {H H' : Hp} {σ : L2.St} {ρ : List Sl}
theorem Pend.start (S : StIs K m W b H σ ρ) {H1 : Hp} {ps : List Addr} (e : Evo m H H1) (nd : ps.Nodup) (fr : ∀ p, p ∈ ps → H p = none) : Pend K W b H1 σ ρ ps := by
  have v : Same (era (fun a => W a ∨ Ow σ ρ a) H) (era (fun a => W a ∨ Ow σ ρ a ∨ a ∈ ps) H1) := fun c u q => era_mono (fun _ _ y _ => y) (fun a z => by
    rcases z with z | z | z
    · exact .inl (.inl z)
    · exact .inl (.inr z)
    · exact .inr z) c u (view_ps S.okH e fr c u q)
  refine ⟨S.env.mono v, fun i l h => ?_, fun p hp => ?_, nd⟩
  · obtain ⟨a, xs, e1, hw, hb, hx, ha⟩ := S.own i l h
    exact ⟨a, xs, e1, e.1 a _ hx fun z => hw (S.ok.sub a z), ha.up v⟩
  · obtain ⟨n1, n2, n3⟩ := S.new (fr p hp)
    exact ⟨n1, n2, n3⟩
theorem Pend.setD {ps : List Addr} (S : StIs K m W b H σ ρ) (T : Pend K W b H σ ρ ps) {j : Nat} {v : V} {x : D} (i : Is K (era (fun a => W a ∨ Ow σ ρ a ∨ a ∈ ps) H) v x) :
    StIs K m W b H (σ.set j (some v)) (ρ.set j (.d x)) ∧ Pend K W b H (σ.set j (some v)) (ρ.set j (.d x)) ps ∧ Same (era (fun a => W a ∨ Ow σ ρ a ∨ a ∈ ps) H) (era (fun a => W a ∨ Ow (σ.set j (some v)) (ρ.set j (.d x)) a ∨ a ∈ ps) H) := by
  have mo : Same (era (fun a => W a ∨ Ow σ ρ a ∨ a ∈ ps) H) (era (fun a => W a ∨ Ow (σ.set j (some v)) (ρ.set j (.d x)) a ∨ a ∈ ps) H) := era_mono (fun _ _ e _ => e) fun a z => by
    rcases z with z | z | z
    · exact .inl z
    · exact .inr (.inl (ow_set rfl z).1)
    · exact .inr (.inr z)
  refine ⟨S.setD (i.up (era_mono (fun _ _ e _ => e) fun a z => by
    rcases z with z | z
    · exact .inl z
    · exact .inr (.inl z))), ⟨?_, fun k l h => ?_, fun p hp => ⟨(T.new p hp).1, fun z => (T.new p hp).2.1 (ow_set rfl z).1, (T.new p hp).2.2⟩, T.nd⟩, mo⟩
  · rw [List.map_set]
    exact (T.env.mono mo).set (.d (i.up mo)) j
  · by_cases q : j = k
    · subst q
      by_cases z : j < ρ.length
      · rw [List.getElem?_set_self z] at h
        cases h
      · rw [List.getElem?_eq_none (by rw [List.length_set]; omega)] at h
        cases h
    · rw [List.getElem?_set_ne q] at h
      obtain ⟨a, xs, e1, hx, ha⟩ := T.own k l h
      exact ⟨a, xs, by rw [List.getElem?_set_ne q]; exact e1, hx, ha.up mo⟩
theorem ow_setF {j : Nat} {p : Addr} {l : List D} (hjσ : j < σ.length) {a : Addr} (h : Ow (σ.set j (some (.ref p))) (ρ.set j (.ow l)) a) : Ow σ ρ a ∨ a = p := by
  obtain ⟨k, l', e, e2⟩ := h
  by_cases q : j = k
  · subst q
    rw [List.getElem?_set_self hjσ] at e2
    exact .inr (V.ref.inj (Option.some.inj (Option.some.inj e2))).symm
  · rw [List.getElem?_set_ne q] at e e2
    exact .inl ⟨k, l', e, e2⟩
theorem Pend.setF {ps : List Addr} {p : Addr} (S : StIs K m W b H σ ρ) (T : Pend K W b H σ ρ (p :: ps)) {j : Nat} {xs : List V} {l : List D} (hj : j < ρ.length) (hx : H p = some (.lst xs)) (i : IsAll K (era (fun a => W a ∨ Ow σ ρ a ∨ a ∈ p :: ps) H) xs l) :
    StIs K m W b H (σ.set j (some (.ref p))) (ρ.set j (.ow l)) ∧ Pend K W b H (σ.set j (some (.ref p))) (ρ.set j (.ow l)) ps ∧ Same (era (fun a => W a ∨ Ow σ ρ a ∨ a ∈ p :: ps) H) (era (fun a => W a ∨ Ow (σ.set j (some (.ref p))) (ρ.set j (.ow l)) a ∨ a ∈ ps) H) := by
  have hjσ : j < σ.length := by rw [S.len]; exact hj
  obtain ⟨n1, n2, n3⟩ := T.new p (List.mem_cons_self ..)
  have mo : Same (era (fun a => W a ∨ Ow σ ρ a ∨ a ∈ p :: ps) H) (era (fun a => W a ∨ Ow (σ.set j (some (.ref p))) (ρ.set j (.ow l)) a ∨ a ∈ ps) H) := era_mono (fun _ _ e _ => e) fun a z => by
    rcases z with z | z | z
    · exact .inl z
    · rcases ow_setF hjσ z with z | z
      · exact .inr (.inl z)
      · exact .inr (.inr (by rw [z]; exact List.mem_cons_self ..))
    · exact .inr (.inr (List.mem_cons_of_mem _ z))
  have m1 : Same (era (fun a => W a ∨ Ow σ ρ a ∨ a ∈ p :: ps) H) (era (fun a => W a ∨ Ow σ ρ a ∨ a = p) H) := era_mono (fun _ _ e _ => e) fun a z => by
    rcases z with z | z | z
    · exact .inl z
    · exact .inr (.inl z)
    · exact .inr (.inr (by rw [z]; exact List.mem_cons_self ..))
  refine ⟨S.setF hj (fun k l h g => n2 ⟨k, l, h, g⟩) n1 n3 hx (T.env.mono m1) (fun k l h => ?_) (i.up m1), ⟨?_, fun k l' h => ?_, fun q hq => ?_, (List.nodup_cons.mp T.nd).2⟩, mo⟩
  · obtain ⟨a, ys, e1, hx', ha⟩ := T.own k l h
    exact ⟨a, ys, e1, hx', ha.up m1⟩
  · rw [List.map_set]
    exact (T.env.mono mo).set .no j
  · by_cases q : j = k
    · subst q
      rw [List.getElem?_set_self hj] at h
      cases h
      exact ⟨p, xs, List.getElem?_set_self hjσ, hx, i.up mo⟩
    · rw [List.getElem?_set_ne q] at h
      obtain ⟨a, ys, e1, hx', ha⟩ := T.own k l' h
      exact ⟨a, ys, by rw [List.getElem?_set_ne q]; exact e1, hx', ha.up mo⟩
  · obtain ⟨m1, m2, m3⟩ := T.new q (List.mem_cons_of_mem _ hq)
    refine ⟨m1, fun z => ?_, m3⟩
    rcases ow_setF hjσ z with z | z
    · exact m2 z
    · rw [z] at hq
      exact (List.nodup_cons.mp T.nd).1 hq
/-- all the stores -/
def stores : L2.St → List Nat → List V → L2.St
  | σ, j :: js, v :: vs => stores (σ.set j (some v)) js vs
  | σ, _, _ => σ
def storesD : List Sl → List Nat → List Sl → List Sl
  | ρ, j :: js, s :: sl => storesD (ρ.set j s) js sl
  | ρ, _, _ => ρ
theorem Pend.all : ∀ {vs : List V} {sl : List Sl} {ps : List Addr} {js : List Nat} {σ : L2.St} {ρ : List Sl}, StIs K m W b H σ ρ → Pend K W b H σ ρ ps → CompAll K (fun a => W a ∨ Ow σ ρ a ∨ a ∈ ps) H vs sl ps → (∀ j, j ∈ js → j < ρ.length) →
    StIs K m W b H (stores σ js vs) (storesD ρ js sl)
  | _, _, _, [], _, _, S, _, c, _ => by
    cases c <;> exact S
  | _, _, _, j :: js, σ, ρ, S, T, c, hj => by
    cases c with
    | nil => exact S
    | d i c =>
      obtain ⟨S', T', mo⟩ := T.setD S (j := j) i
      have r := Pend.all (js := js) S' T' (c.up mo fun _ _ _ y => y) fun k hk => by
        rw [List.length_set]
        exact hj k (List.mem_cons_of_mem _ hk)
      exact r
    | ow hx i c =>
      obtain ⟨S', T', mo⟩ := T.setF S (hj j (List.mem_cons_self ..)) hx i
      have r := Pend.all (js := js) S' T' (c.up mo fun _ _ _ y => y) fun k hk => by
        rw [List.length_set]
        exact hj k (List.mem_cons_of_mem _ hk)
      exact r
end
/-- a, b = e1, e2 (the values without the frame's own lists) -/
def dPar (js : List Nat) (dc : TDC) : DS := fun ρ E => dc (ρ.map hid) fun sl => (sl.length = js.length ∧ ∀ j, j ∈ js → j < ρ.length) ∧ E.nx (storesD ρ js sl)
theorem par_step {dc : TDC} {js : List Nat} {W : Addr → Prop} {b : Bs} {H : Hp} {σ : L2.St} {ρ : List Sl} {E : DE} {D : Ends} (S : StIs K m W b H σ ρ) (h : dPar js dc ρ E) (G : Good K m W b E D) (Q : List V → Hp → Prop)
    (k : ∀ vs H', vs.length = js.length → D.nx (stores σ js vs) H' → Q vs H') : tDC K m (fun a => W a ∨ Ow σ ρ a) dc σ H Q :=
  ⟨ρ.map hid, _, S.okH, S.env, h, fun vs H' sl ps e nd fr c q => by
    have e1 : vs.length = sl.length := by
      clear q h nd fr
      generalize hz : (fun a => (W a ∨ Ow σ ρ a) ∨ a ∈ ps) = Z at c
      clear hz
      induction c with
      | nil => rfl
      | d _ _ ih => simp [ih]
      | ow _ _ _ ih => simp [ih]
    refine k _ _ (e1.trans q.1.1) (G.nx _ _ _ (Pend.all (S.step e) (Pend.start S e nd fr) (c.up (era_mono (fun _ _ y _ => y) fun a z => ?_) fun _ _ _ y => y) q.1.2) q.2)
    rcases z with z | z | z
    · exact .inl (.inl z)
    · exact .inl (.inr z)
    · exact .inr z⟩
section
variable {a b c : Expr} {dc : TDC} {i j l : Nat} {x y z : Str} {px py pz pt pos : Pos} {kt k2 : Nat} {pt2 : Pos}
theorem s_par2 (hc : X.calm = true) (hN : X.N.Nodup) (hi : X.N[i]? = some x) (hj : X.N[j]? = some y) (hij : i ≠ j) (ha : BC X m [a, b] dc)
    (hx : X.env.scope.names.lookup x = some .local := by rfl) (hy : X.env.scope.names.lookup y = some .local := by rfl)
    (hw : swappedStores [.Tuple [.Name x px, .Name y py] kt pt] (.Tuple [a, b] k2 pt2) X.env = pure (some [x, y]) := by rfl)
    (hs : swapsWithSole [.Tuple [.Name x px, .Name y py] kt pt] (.Tuple [a, b] k2 pt2) pos.line X.env = pure false := by rfl) :
    BS X m (.Assign [.Tuple [.Name x px, .Name y py] kt pt] (.Tuple [a, b] k2 pt2) pos) (dPar [i, j] dc) :=
  psw (ps_par hc hN hi hj hij hx hy (pa_ex ha) hw hs) fun D σ H ⟨W, b, ρ, E, S, h, G⟩ => ⟨_, par_step S h G _ fun vs H' hl q => by
    match vs, hl with
    | [v, w], _ => exact ⟨v, w, rfl, q⟩⟩
theorem s_par3 (hc : X.calm = true) (hN : X.N.Nodup) (hi : X.N[i]? = some x) (hj : X.N[j]? = some y) (hl : X.N[l]? = some z) (hij : i ≠ j) (hil : i ≠ l) (hjl : j ≠ l) (ha : BC X m [a, b, c] dc)
    (hx : X.env.scope.names.lookup x = some .local := by rfl) (hy : X.env.scope.names.lookup y = some .local := by rfl) (hz : X.env.scope.names.lookup z = some .local := by rfl)
    (hw : swappedStores [.Tuple [.Name x px, .Name y py, .Name z pz] kt pt] (.Tuple [a, b, c] k2 pt2) X.env = pure (some [x, y, z]) := by rfl)
    (hs : swapsWithSole [.Tuple [.Name x px, .Name y py, .Name z pz] kt pt] (.Tuple [a, b, c] k2 pt2) pos.line X.env = pure false := by rfl) :
    BS X m (.Assign [.Tuple [.Name x px, .Name y py, .Name z pz] kt pt] (.Tuple [a, b, c] k2 pt2) pos) (dPar [i, j, l] dc) :=
  psw (ps_par3 hc hN hi hj hl hij hil hjl hx hy hz (pa_ex ha) hw hs) fun D σ H ⟨W, b, ρ, E, S, h, G⟩ => ⟨_, par_step S h G _ fun vs H' hl q => by
    match vs, hl with
    | [v, w, u], _ => exact ⟨v, w, u, rfl, q⟩⟩
end

/-! ### backwards -/
def dRev (da : TD) : TDA := fun ρ P => da ρ fun x => match x with
  | .list l => P l.reverse
  | _ => False
theorem f_rev {e : Expr} {k : Nat} {p1 p2 p3 pos : Pos} {da : TD} (he : BE X m e da) : BF X m (.Subscript e (.Slice none none (some (.UnaryOp .USub (.Constant (.int 1) k p1) p2)) p3) pos) (dRev da) := fun W =>
  pew (pe_revL (he W)) fun σ H Q ⟨ρ, P, o, n, h, k⟩ => tD_at o n h fun v H1 x e1 o1 n1 i1 h1 => by
    cases x <;> first | exact h1.elim | skip
    rename_i l
    cases i1 with
    | @lst a xs _ hs ha => exact ⟨a, xs, rfl, SqL.of (era_to hs).1, fun p hp => k p _ _ _ (e1.trans (.same o1.R (same_new hp))) (back_none e1 o hp) upd_same (new_list o1 hp ha.rev) h1⟩

/-! ### constants of the module -/
section
variable {x : Str} {pos : Pos}
theorem b_globI {i : Int} (hg : Gl X x) (hm : ∃ t, X.mg x = some (.int i t)) (hd : (x == ("__debug__" : Str)) = false := by decide) : BE X m (.Name x pos) (dC (.int i)) := by
  obtain ⟨t, hm⟩ := hm
  exact b_glob (v := .int i) hg hm ⟨t, rfl⟩ (fun _ => .int _) hd
theorem b_globS {i : Str} (hg : Gl X x) (hm : ∃ t, X.mg x = some (.str i t)) (hd : (x == ("__debug__" : Str)) = false := by decide) : BE X m (.Name x pos) (dC (.str i)) := by
  obtain ⟨t, hm⟩ := hm
  exact b_glob (v := .str i) hg hm ⟨t, rfl⟩ (fun _ => .str _) hd
end
/-! ### the boot's names -/
theorem bt_len : bootBuiltins "len" = some (.builtin "len") := by decide +kernel
theorem bt_sorted : bootBuiltins "sorted" = some (.builtin "sorted") := by decide +kernel
theorem bt_sum : bootBuiltins "sum" = some (.builtin "sum") := by decide +kernel
theorem bt_min : bootBuiltins "min" = some (.builtin "min") := by decide +kernel
theorem bt_max : bootBuiltins "max" = some (.builtin "max") := by decide +kernel
theorem bt_all : bootBuiltins "all" = some (.builtin "all") := by decide +kernel
theorem bt_any : bootBuiltins "any" = some (.builtin "any") := by decide +kernel
theorem bt_abs : bootBuiltins "abs" = some (.builtin "abs") := by decide +kernel
theorem bt_divmod : bootBuiltins "divmod" = some (.builtin "divmod") := by decide +kernel
theorem bt_repr : bootBuiltins "repr" = some (.builtin "repr") := by decide +kernel
theorem bt_isinstance : bootBuiltins "isinstance" = some (.builtin "isinstance") := by decide +kernel
theorem bt_tuple : bootBuiltins "tuple" = some (.type "tuple") := by decide +kernel
theorem bt_list : bootBuiltins "list" = some (.type "list") := by decide +kernel
theorem bt_int : bootBuiltins "int" = some (.type "int") := by decide +kernel
theorem bt_bool : bootBuiltins "bool" = some (.type "bool") := by decide +kernel
theorem bt_str : bootBuiltins "str" = some (.type "str") := by decide +kernel
theorem bt_set : bootBuiltins "set" = some (.type "set") := by decide +kernel
/-! ### short names -/
abbrev fSub := fI0 fun i j => i - j
abbrev fMul := fI CMul fun i j => i * j
abbrev fDiv := fI CDiv fun i j => i / j
abbrev fMod := fI (fun _ j => 0 < j) fun i j => i % j
abbrev fPow := fI CPow fun i j => i ^ j.toNat
abbrev fAbs := fI1 fun i => if i < 0 then -i else i
abbrev fMax2 := fI2 fun i j => if j > i then j else i
abbrev fMin2 := fI2 fun i j => if j < i then j else i
end TL

/-! TL, part 11: the pot of a law (a list of two numbers that draws write), defs that take it; defs that return a new list. -/
namespace TL
open PySem L2
open PySem.Spec PyProof.Rows
variable {K : PySem.W.Frag} {X : Cx} {m : Md}

def PotIs (H : Hp) (p : Addr) : Prop := ∃ x y : Int, H p = some (.lst [.int x, .int y]) ∧ 0 ≤ x ∧ 0 ≤ y ∧ y < 4294967296
theorem pot_tr {p : Addr} (H : Hp) (h : PotIs H p) (a : Addr) (e : a = p) : H a ≠ none := by
  obtain ⟨x, y, h, _⟩ := h
  rw [e, h]
  simp
theorem pot_nt {p : Addr} (H : Hp) (h : PotIs H p) : NoTup (fun a => a = p) H := by
  intro a e xs
  obtain ⟨x, y, h, _⟩ := h
  have e' : a = p := e
  rw [e', h]
  simp
theorem pot_st {p : Addr} (H H' : Hp) (h : PotIs H p) (g : ∀ b o, H b = some o → (b = p ∨ (none : Option HO) ≠ none) → H' b = some o) : PotIs H' p := by
  obtain ⟨x, y, h, q⟩ := h
  exact ⟨x, y, g _ _ h (.inl rfl), q⟩
/-- the pot at p is written, nothing else -/
def mdP (p : Addr) : Md := ⟨fun a => a = p, fun _ => none, fun H => PotIs H p, pot_tr, pot_nt, pot_st⟩
def spP (K : PySem.W.Frag) (f : List D → (D → Prop) → Prop) : Sp := fun vs H Q _ => ∃ W p us ds P, vs = .ref p :: us ∧ Ok (mdP p) W H ∧ IsAll K (era W H) us ds ∧ f ds P ∧ ∀ v H' x, Evo (mdP p) H H' → Is K (era W H') v x → P x → Q v H'
/-- what a def's body tells; the pot stands in slot 0 -/
def semP (n k : Nat) (d : Addr → DS) : List D → (D → Prop) → Prop := fun ds P => ds.length + 1 = k ∧ ∀ p, d p (.hd p :: (ds.map Sl.d ++ List.replicate (n - k) .no)) { nx := fun _ => P .none, rt := P }
theorem st_startP {W : Addr → Prop} {H : Hp} {us : List V} {ds : List D} {n : Nat} {p : Addr} (o : Ok m W H) (i : IsAll K (era W H) us ds) : StIs K m W ⟨H, fun a => H a ≠ none⟩ H (some (.ref p) :: (us.map some ++ List.replicate n none)) (.hd p :: (ds.map Sl.d ++ List.replicate n .no)) := by
  have no' : ∀ (k : Nat) (l : List D), (Sl.hd p :: (ds.map Sl.d ++ List.replicate n Sl.no))[k]? ≠ some (.ow l) := fun k l h => by
    cases k with
    | zero => simp at h
    | succ k => exact noOw_start (by simpa using h)
  have no : ∀ a, ¬ Ow (some (.ref p) :: (us.map some ++ List.replicate n none)) (.hd p :: (ds.map Sl.d ++ List.replicate n .no)) a := fun a ⟨k, l, e, _⟩ => no' k l e
  exact ⟨o, .refl o.R, fun a h => h, fun a h => h, o.sB, .cons .hd ((env_start i n).mono (era_mono (fun _ _ e _ => e) fun a z => z.elim id fun z => absurd z (no a))), fun k l h => absurd h (no' k l), fun k k' l l' a h => absurd h (no' k l)⟩
section
variable {P : Program} {w : World} {mg : Str → Option Value} {base : Heap} {x qual : Str} {st : Stmt} {f : Addr} {fd : FuncData} {N ps : List Str} {k : Nat} {d : Addr → DS}
theorem fn_okP (F : Fun K x qual st f fd) (S : FnScope N ps (defScope st))
    (hbody : ∀ (p : Addr) (cdv : Value) (A : Around) (outer : List Env) (s : Shared) (H : Hp) (E : XK), Room k (A.deeper (envOfC qual (defScope st) s.heap.objs.size f cdv)) → BSs (cxOf CX0 P w K mg base N qual (defScope st) f cdv A outer s H E).nox (mdP p) (defBody st) (d p)) :
    FnOk P w K mg base CX0 (k + 1) f fd ps (spP K (semP N.length ps.length d)) :=
  F.ok S (fun vs H Q E ⟨W, p, us, ds, R, e, o, i, h, q⟩ => by rw [e, List.length_cons, i.length]; exact h.1) fun cdv A outer s H vs Q E hr ⟨W, p, us, ds, R, e, o, i, h, q⟩ => by
    refine ⟨_, hbody p cdv A outer s H E hr, W, ⟨H, fun a => H a ≠ none⟩, _, _, ?_, h.2 p, ?_⟩
    · have e2 : L2.start N vs = some (.ref p) :: (us.map some ++ List.replicate (N.length - ps.length) none) := by
        unfold L2.start
        rw [e, List.length_cons, i.length, h.1, List.map_cons, List.cons_append]
      rw [e2]
      exact st_startP o i
    · exact ⟨fun σ H' ρ S' q' => q _ _ _ S'.evo .non q', fun v H' x e i q' => q _ _ _ e i q', fun _ _ _ _ z => z.elim, fun _ _ _ _ z => z.elim⟩
theorem fn_impP {k : Nat} {g g' : List D → (D → Prop) → Prop} (F : FnOk P w K mg base CX0 k f fd ps (spP K g)) (h : ∀ ds P, g' ds P → g ds P) : FnOk P w K mg base CX0 k f fd ps (spP K g') :=
  F.imp fun vs H Q E ⟨W, p, us, ds, R, e, o, i, q, z⟩ => ⟨W, p, us, ds, R, e, o, i, h ds R q, z⟩
end
section
variable {k : Nat} {f : Addr} {fd : FuncData} {ps : List Str} {g : List D → (D → Prop) → Prop} {x y : Str} {p q pos : Pos} {e : Expr} {es : List Expr} {da : TDA}
/-- f(pot, ..) where the pot stands in slot i -/
def dNP (P0 : Addr) (i : Nat) (g : List D → (D → Prop) → Prop) (da : TDA) : TD := fun ρ P => ρ[i]? = some (.hd P0) ∧ da ρ fun l => g l P
theorem b_callP {P0 : Addr} {i : Nat} (F : FnOk X.prog X.w X.K X.mg X.base CX0 k f fd ps (spP X.K g)) (hr : Room k X.A) (hg : Gl X x) (hm : X.mg x = some (.ref f)) (hk : PySem.W.keepIn X.K (.ref f) = true) (hb : Binds X.K fd ps []) (hv : PE X (.Name y q) (tVar i)) (ha : BA X (mdP P0) es da)
    (hdb : (x == ("__debug__" : Str)) = false := by decide) (he : starEach (.Name y q :: es) X.env = (false, eval (.Name y q) X.env) :: starEach es X.env := by rfl) (hpl : (backTo pos (starEach es X.env)).any (·.1) = false := by rfl) :
    BE X (mdP P0) (.Call (.Name x p) (.Name y q :: es) [] pos) (dNP P0 i g da) := fun W => pew (pe_call F hr hg hm hk hb .nil (pass0 (X := X)) (pa_cons hv (ha W) he) hdb he hpl) fun σ H Q ⟨ρ, P, o, n, ⟨e0, h⟩, kk⟩ => by
  obtain ⟨_, e1, e2⟩ := n.get e0
  cases e2
  refine ⟨_, e1, tDA_at o n h fun vs H1 l e1 o1 n1 i1 h1 => ⟨W, P0, vs, l, P, by rw [List.append_nil], o1, i1, h1, fun v H2 x e2 i2 q => kk v H2 x (e1.trans e2) i2 q⟩⟩
/-- f(a new pot) -/
def dNew (g : List D → (D → Prop) → Prop) (df : TDA) : TD := fun ρ P => df ρ fun l => ∃ x y : Int, l = [.int x, .int y] ∧ (0 ≤ x ∧ 0 ≤ y ∧ y < 4294967296) ∧ g [] P
theorem b_callNewP {df : TDA} (F : FnOk X.prog X.w X.K X.mg X.base CX0 k f fd ps (spP X.K g)) (hr : Room k X.A) (hg : Gl X x) (hm : X.mg x = some (.ref f)) (hk : PySem.W.keepIn X.K (.ref f) = true) (hb : Binds X.K fd ps []) (ha : BF X m e df)
    (hdb : (x == ("__debug__" : Str)) = false := by decide) (he : starEach [e] X.env = (false, eval e X.env) :: starEach [] X.env := by rfl) (hpl : (backTo pos (starEach [] X.env)).any (·.1) = false := by rfl) :
    BE X m (.Call (.Name x p) [e] [] pos) (dNew g df) := fun W => pew (pe_call F hr hg hm hk hb .nil (pass0 (X := X)) (pa_cons (ha W) pa_nil he) hdb he hpl) fun σ H Q ⟨ρ, P, o, n, h, kk⟩ => ⟨ρ, _, o, n, h, fun a H1 xs l e1 hp hx i1 ⟨u, v, el, hb, h1⟩ => by
  subst el
  have hx2 : xs = [V.int u, V.int v] := by
    cases i1 with
    | cons a b =>
      cases b with
      | cons b c =>
        cases c
        cases a
        cases b
        rfl
  subst hx2
  have o1 := o.evo e1
  have hnw := o.new hp
  refine ⟨fun b => W b ∨ b = a, a, [], [], P, rfl, ⟨⟨u, v, hx, hb⟩, fun b z => .inr z, fun b z => z.elim (o1.tr b) fun z => (by rw [z, hx]; simp), none_same, fun _ _ => rfl⟩, .nil, h1, fun z H2 y e2 i2 q => kk z H2 y ⟨fun b o' eb nb => e2.1 b o' (e1.1 b o' eb nb) fun (zz : b = a) => ?_, ?_⟩ (i2.up (era_mono (fun _ _ y _ => y) fun _ z => .inl z)) q⟩
  · rw [zz, hp] at eb
    cases eb
  · refine m.st H1 H2 e1.2 fun b o' eb nb => e2.1 b o' eb fun (zz : b = a) => ?_
    rw [zz] at eb nb
    rcases nb with nb | nb
    · exact hnw (o.sub a nb)
    · exact nb (o.noB hp)⟩
/-- a def that returns a new list -/
def spF (K : PySem.W.Frag) (f : List D → (List D → Prop) → Prop) : Sp := fun vs H Q _ => ∃ W ds P, Ok md0 W H ∧ IsAll K (era W H) vs ds ∧ f ds P ∧ ∀ p H' xs l, Evo md0 H H' → H p = none → H' p = some (.lst xs) → IsAll K (era (fun b => W b ∨ b = p) H') xs l → P l → Q (.ref p) H'
theorem f_call {g : List D → (List D → Prop) → Prop} (F : FnOk X.prog X.w X.K X.mg X.base CX0 k f fd ps (spF X.K g)) (hr : Room k X.A) (hg : Gl X x) (hm : X.mg x = some (.ref f)) (hk : PySem.W.keepIn X.K (.ref f) = true) (hb : Binds X.K fd ps []) (ha : BA X m (e :: es) da)
    (hdb : (x == ("__debug__" : Str)) = false := by decide) (he : starEach (e :: es) X.env = (false, eval e X.env) :: starEach es X.env := by rfl) (hpl : (backTo pos (starEach es X.env)).any (·.1) = false := by rfl) :
    BF X m (.Call (.Name x p) (e :: es) [] pos) (dNF g da) := fun W => pew (pe_call F hr hg hm hk hb .nil (pass0 (X := X)) (ha W) hdb he hpl) fun σ H Q ⟨ρ, P, o, n, h, kk⟩ => tDA_at o n h fun vs H1 l e1 o1 n1 i1 h1 =>
  ⟨W, l, P, ⟨trivial, fun _ z => z.elim, o1.tr, none_same, fun _ _ => rfl⟩, by rw [List.append_nil]; exact i1, h1, fun p H2 xs t e2 hp hx i2 q => kk p H2 xs t (e1.trans (.same o1.R fun c o q => e2.1 c o q fun z => z)) (back_none e1 o hp) hx i2 q⟩
end
/-! ### bodies that end in the return of a new list -/
abbrev DR := List Sl → (List D → Prop) → Prop
def tR (K : PySem.W.Frag) (m : Md) (d : DR) : TS := fun D σ H => ∃ W b ρ P, StIs K m W b H σ ρ ∧ d ρ P ∧ ∀ p H' xs l, Evo m b.H H' → b.H p = none → H' p = some (.lst xs) → IsAll K (era (fun a => W a ∨ a = p) H') xs l → P l → D.rt (.ref p) H'
def BR (X : Cx) (m : Md) (sts : List Stmt) (d : DR) : Prop := PSs X sts (tR X.K m d)
def dRF (df : TDA) : DR := fun ρ P => df (ρ.map vis) P
def dRC (d : DS) (dr : DR) : DR := fun ρ P => d ρ { nx := fun ρ' => dr ρ' P, rt := fun _ => False }
theorem br_one {e : Expr} {pos : Pos} {df : TDA} (h : BF X m e df) : BR X m [.Return (some e) pos] (dRF df) := pss_one (psr_w (ps_ret (pe_ex h)) fun D σ H ⟨W, b, ρ, P, S, h, G⟩ => ⟨W, ρ.map vis, P, S.ok, S.vis, h, fun p H' xs l e hp hx i q =>
  G p H' xs l (S.evo.trans e) (S.new hp).2.2 hx i q⟩)
where psr_w {st : Stmt} {t t' : TS} (h : PS X st t) (k : ∀ D σ H, t' D σ H → t D σ H) : PS X st t' := psw h k
theorem br_cons {st : Stmt} {rest : List Stmt} {d : DS} {dr : DR} (h : BS X m st d) (hr : BR X m rest dr) : BR X m (st :: rest) (dRC d dr) := pssw (pss_cons h hr) fun D σ H ⟨W, b, ρ, P, S, h, G⟩ =>
  ⟨W, b, ρ, _, S, h, ⟨fun σ' H' ρ' S' q => ⟨W, b, ρ', P, S', q, G⟩, fun _ _ _ _ _ q => q.elim, fun _ _ _ _ q => q.elim, fun _ _ _ _ q => q.elim⟩⟩
def semF (n k : Nat) (d : DR) : List D → (List D → Prop) → Prop := fun ds P => ds.length = k ∧ d (ds.map Sl.d ++ List.replicate (n - k) .no) P
section
variable {P : Program} {w : World} {mg : Str → Option Value} {base : Heap} {x qual : Str} {st : Stmt} {f : Addr} {fd : FuncData} {N ps : List Str} {k : Nat} {d : DR}
theorem fn_okF (F : Fun K x qual st f fd) (S : FnScope N ps (defScope st))
    (hbody : ∀ (cdv : Value) (A : Around) (outer : List Env) (s : Shared) (H : Hp) (E : XK), Room k (A.deeper (envOfC qual (defScope st) s.heap.objs.size f cdv)) → BR (cxOf CX0 P w K mg base N qual (defScope st) f cdv A outer s H E).nox md0 (defBody st) d) :
    FnOk P w K mg base CX0 (k + 1) f fd ps (spF K (semF N.length ps.length d)) :=
  F.ok S (fun vs H Q E ⟨W, ds, R, o, i, h, q⟩ => i.length.trans h.1) fun cdv A outer s H vs Q E hr ⟨W, ds, R, o, i, h, q⟩ => by
    refine ⟨_, hbody cdv A outer s H E hr, W, ⟨H, fun a => H a ≠ none⟩, _, R, ?_, h.2, fun p H' xs l e hp hx i q' => q p H' xs l e hp hx i q'⟩
    have e : L2.start N vs = vs.map some ++ List.replicate (N.length - ps.length) none := by
      unfold L2.start
      rw [i.length, h.1]
    rw [e]
    exact st_start o i
theorem fn_impF {k : Nat} {g g' : List D → (List D → Prop) → Prop} (F : FnOk P w K mg base CX0 k f fd ps (spF K g)) (h : ∀ ds P, g' ds P → g ds P) : FnOk P w K mg base CX0 k f fd ps (spF K g') :=
  F.imp fun vs H Q E ⟨W, ds, R, o, i, q, z⟩ => ⟨W, ds, R, o, i, h ds R q, z⟩
end

/-! ### a law's body: pot = a new pot; what follows -/
def dPot (i : Nat) (df : TDA) (dr : Addr → DS) : DS := fun ρ E => (noOw ρ = true ∧ i < ρ.length) ∧ df (ρ.map vis) fun l => ∃ x y : Int, l = [.int x, .int y] ∧ (0 ≤ x ∧ 0 ≤ y ∧ y < 4294967296) ∧ ∀ p, dr p (ρ.set i (.hd p)) E
theorem pss_ex {sts : List Stmt} {T : Addr → TS} (h : ∀ p, PSs X sts (T p)) : PSs X sts (fun D σ H => ∃ p, T p D σ H) := ⟨fun pins s σ H D I ⟨p, w⟩ => (h p).run pins s σ H D I w⟩
section
variable {W : Addr → Prop} {b : Bs} {p : Addr}
theorem StIs.outP {H : Hp} {σ : L2.St} {ρ : List Sl} (hb : b.H p = none) (S : StIs K (mdP p) (fun a => W a ∨ a = p) b H σ ρ) : StIs K md0 W b H σ ρ := by
  have mo : Same (era (fun a => (W a ∨ a = p) ∨ Ow σ ρ a) H) (era (fun a => W a ∨ Ow σ ρ a) H) := era_mono (fun _ _ y _ => y) fun a z => z.elim (fun z => .inl (.inl z)) .inr
  refine ⟨⟨trivial, fun _ z => z.elim, fun a z => S.ok.tr a (.inl z), none_same, fun _ _ => rfl⟩, ⟨fun c o e _ => S.evo.1 c o e fun (z : c = p) => ?_, trivial⟩, S.keep, S.sub, none_same, S.env.mono mo, fun i l h => ?_, S.inj⟩
  · rw [z, hb] at e
    cases e
  · obtain ⟨a, xs, e1, w1, b1, x1, i1⟩ := S.own i l h
    exact ⟨a, xs, e1, fun z => w1 (.inl z), b1, x1, i1.up mo⟩
theorem Good.outP {E : DE} {D : Ends} (hb : b.H p = none) (G : Good K md0 W b E D) : Good K (mdP p) (fun a => W a ∨ a = p) b E D :=
  ⟨fun σ H ρ S q => G.nx _ _ _ (S.outP hb) q, fun v H x e i q => G.rt v H x ⟨fun c o h _ => e.1 c o h fun (z : c = p) => (by
    rw [z, hb] at h
    cases h), trivial⟩ (i.up (era_mono (fun _ _ y _ => y) fun _ z => .inl z)) q, fun σ H ρ S q => G.bk _ _ _ (S.outP hb) q, fun σ H ρ S q => G.ct _ _ _ (S.outP hb) q⟩
end
theorem noOw_set {ρ : List Sl} {i : Nat} {p : Addr} (h : noOw ρ = true) : noOw (ρ.set i (.hd p)) = true := by
  unfold noOw at *
  rw [List.all_eq_true] at *
  intro s hs
  rcases List.mem_or_eq_of_mem_set hs with hs | hs
  · exact h s hs
  · rw [hs]
    rfl
theorem ss_pot {e : Expr} {rest : List Stmt} {pos pos' : Pos} {x : Str} {i : Nat} {df : TDA} {dr : Addr → DS} (hN : X.N.Nodup) (hi : X.N[i]? = some x) (hx : Loc X.env.scope x) (he : BF X md0 e df) (hr : ∀ p, BSs X (mdP p) rest (dr p))
    (hs : swapsWith e (some (.Name x pos')) pos.line X.env = pure false := by rfl) (hf : X.fn x = true ∨ X.env.scope.names.lookup x = some .local := by first | exact .inl rfl | exact .inr rfl | assumption) :
    BSs X md0 (.Assign [.Name x pos'] e pos :: rest) (dPot i df dr) := pssw (pss_cons (ps_set hN hi hx (pe_ex (T := fun W => tF X.K md0 W df) he) hs hf) (pss_ex (T := fun p => tS X.K (mdP p) (dr p)) hr)) fun D σ H ⟨W, b, ρ, E, S, ⟨⟨no, hi⟩, h⟩, G⟩ =>
  ⟨W, _, _, S.ok, S.vis, h, fun p H1 xs l e1 hp hx i1 ⟨u, v, el, hb, h1⟩ => by
    subst el
    have hx2 : xs = [V.int u, V.int v] := by
      cases i1 with
      | cons a b =>
        cases b with
        | cons b c =>
          cases c
          cases a
          cases b
          rfl
    subst hx2
    obtain ⟨nW, nO, nb⟩ := S.new hp
    have no1 : ∀ a, ¬ Ow (σ.set i (some (.ref p))) (ρ.set i (.hd p)) a := fun a => noOw_no (noOw_set no)
    have S1 := S.step e1
    refine ⟨p, fun a => W a ∨ a = p, b, ρ.set i (.hd p), E, ⟨⟨⟨u, v, hx, hb⟩, fun a z => .inr z, fun a z => z.elim (S1.ok.tr a) fun z => (by rw [z, hx]; simp), none_same, fun _ _ => rfl⟩, ⟨fun c o e _ => S1.evo.1 c o e fun z => z, ⟨u, v, hx, hb⟩⟩, S1.keep, S1.sub, none_same, ?_, fun k l h => ?_, fun k k' l l' a h => ?_⟩, h1 p, G.outP nb⟩
    · rw [List.map_set]
      have mo : Same (era (fun a => W a ∨ Ow σ ρ a) H) (era (fun a => (W a ∨ a = p) ∨ Ow (σ.set i (some (.ref p))) (ρ.set i (.hd p)) a) H1) := fun c o q => by
        obtain ⟨q1, q2⟩ := era_to q
        refine era_of (e1.1 c o q1 fun z => z) fun z => ?_
        rcases z with (z | z) | z
        · exact q2 (.inl z)
        · rw [z, hp] at q1
          cases q1
        · exact no1 c z
      exact (S.env.mono mo).set .hd i
    · have := noOw_set (i := i) (p := p) no
      unfold noOw at this
      rw [List.all_eq_true] at this
      have := this _ (List.mem_of_getElem? h)
      simp [isOw] at this
    · have := noOw_set (i := i) (p := p) no
      unfold noOw at this
      rw [List.all_eq_true] at this
      have := this _ (List.mem_of_getElem? h)
      simp [isOw] at this⟩
end TL

/-! TL, part 12: an object with fields that stand and dicts by which it remembers. -/
namespace TL
open PySem L2
open PySem.Spec PyProof.Rows
variable {K : PySem.W.Frag} {X : Cx} {m : Md}

/-! ### methods within a mode -/
def spM (K : PySem.W.Frag) (md : Md) (g : Addr) (f : List D → (D → Prop) → Prop) : Sp := fun vs H Q _ => ∃ W us ds P, vs = .ref g :: us ∧ Ok md W H ∧ IsAll K (era W H) us ds ∧ f ds P ∧ ∀ v H' x, Evo md H H' → Is K (era W H') v x → P x → Q v H'
def semM (g : Addr) (n k : Nat) (d : DS) : List D → (D → Prop) → Prop := fun ds P => ds.length + 1 = k ∧ d (.hd g :: (ds.map Sl.d ++ List.replicate (n - k) .no)) { nx := fun _ => P .none, rt := P }
section
variable {P : Program} {w : World} {mg : Str → Option Value} {base : Heap} {x qual : Str} {st : Stmt} {f : Addr} {fd : FuncData} {N ps : List Str} {k : Nat} {d : DS} {md : Md} {g : Addr}
theorem fn_okM (F : Fun K x qual st f fd) (S : FnScope N ps (defScope st))
    (hbody : ∀ (cdv : Value) (A : Around) (outer : List Env) (s : Shared) (H : Hp) (E : XK), Room k (A.deeper (envOfC qual (defScope st) s.heap.objs.size f cdv)) → BSs (cxOf CX0 P w K mg base N qual (defScope st) f cdv A outer s H E).nox md (defBody st) d) :
    FnOk P w K mg base CX0 (k + 1) f fd ps (spM K md g (semM g N.length ps.length d)) :=
  F.ok S (fun vs H Q E ⟨W, us, ds, R, e, o, i, h, q⟩ => by rw [e, List.length_cons, i.length]; exact h.1) fun cdv A outer s H vs Q E hr ⟨W, us, ds, R, e, o, i, h, q⟩ => by
    refine ⟨_, hbody cdv A outer s H E hr, W, ⟨H, fun a => H a ≠ none⟩, _, _, ?_, h.2, ?_⟩
    · have e2 : L2.start N vs = some (.ref g) :: (us.map some ++ List.replicate (N.length - ps.length) none) := by
        unfold L2.start
        rw [e, List.length_cons, i.length, h.1, List.map_cons, List.cons_append]
      rw [e2]
      exact st_startP o i
    · exact ⟨fun σ H' ρ S' q' => q _ _ _ S'.evo .non q', fun v H' x e i q' => q _ _ _ e i q', fun _ _ _ _ z => z.elim, fun _ _ _ _ z => z.elim⟩
theorem fn_impM {k : Nat} {g' g'' : List D → (D → Prop) → Prop} (F : FnOk P w K mg base CX0 k f fd ps (spM K md g g')) (h : ∀ ds P, g'' ds P → g' ds P) : FnOk P w K mg base CX0 k f fd ps (spM K md g g'') :=
  F.imp fun vs H Q E ⟨W, us, ds, R, e, o, i, q, z⟩ => ⟨W, us, ds, R, e, o, i, h ds R q, z⟩
end

/-! ### the object -/
/-- a dict of ints by tuples of ints: what it holds is right, its keys are among a few -/
def DictOk (H : Hp) (d : Addr) (Ks : List (List Key)) (S : List Key → Int) : Prop := ∃ kvs : List (List Key × V), H d = some (.dT kvs) ∧ (kvs.map (·.1)).Nodup ∧ ∀ e, e ∈ kvs → e.1 ∈ Ks ∧ e.2 = .int (S e.1)
structure Gr where
  C : Addr
  g : Addr
  dx : Addr
  fs : List (Str × V)
  dm : Addr
  dn : Addr
  B : Hp
  S1 : List Key → Int
  S2 : List Key → Int
  Ks : List (List Key)
theorem dict_tr {H : Hp} {d : Addr} {Ks : List (List Key)} {S : List Key → Int} (h : DictOk H d Ks S) : H d ≠ none := by
  obtain ⟨kvs, e, _⟩ := h
  rw [e]
  simp
theorem dict_nt {H : Hp} {d : Addr} {Ks : List (List Key)} {S : List Key → Int} (h : DictOk H d Ks S) (xs : List V) : H d ≠ some (.tup xs) ∧ ∀ o, H d ≠ some (.frz o (.tup xs)) := by
  obtain ⟨kvs, e, _⟩ := h
  rw [e]
  simp
def mdG (G : Gr) : Md := ⟨fun a => a = G.dm ∨ a = G.dn, G.B, fun H => DictOk H G.dm G.Ks G.S1 ∧ DictOk H G.dn G.Ks G.S2,
  fun H h a e => e.elim (fun e => by rw [e]; exact dict_tr h.1) (fun e => by rw [e]; exact dict_tr h.2),
  fun H h a e xs => e.elim (fun e => by rw [e]; exact dict_nt h.1 xs) (fun e => by rw [e]; exact dict_nt h.2 xs),
  fun H H' ⟨⟨k1, e1, q1⟩, ⟨k2, e2, q2⟩⟩ g => ⟨⟨k1, g _ _ e1 (.inl (.inl rfl)), q1⟩, ⟨k2, g _ _ e2 (.inl (.inr rfl)), q2⟩⟩⟩
structure GrOk (K : PySem.W.Frag) (G : Gr) : Prop where
  ob : G.B G.g = some (.ins G.C G.dx G.fs)
  cl : Cls K G.C
  ne : G.dm ≠ G.dn
  few : G.Ks.length ≤ 1000000
theorem GrOk.at {G : Gr} (T : GrOk K G) {W : Addr → Prop} {H : Hp} (o : Ok (mdG G) W H) : H G.g = some (.ins G.C G.dx G.fs) := o.sB _ _ T.ob
theorem Ok.seeB {W : Addr → Prop} {H : Hp} (o : Ok m W H) : Same m.B (era W H) := fun b u q => era_of (o.sB b u q) fun z => by
  rw [o.dB b z] at q
  cases q
section
variable {G : Gr} {y f : Str} {q pos apos : Pos} {i : Nat} {e : Expr} {es : List Expr} {da : TDA}
/-- self.f: a field that stands -/
def dFld (i : Nat) (g : Addr) (x : D) : TD := fun ρ P => ρ[i]? = some (.hd g) ∧ P x
theorem b_fld {v : V} {x : D} (T : GrOk K G) (hK : X.K = K) (nf : NoAttr K G.C f) (hl : G.fs.lookup f = some v) (hx : Is K G.B v x) (hv : PE X (.Name y q) (tVar i)) (hb : attributeBase (.Name y q) f X.env (eval (.Name y q) X.env) = eval (.Name y q) X.env := by rfl) :
    BE X (mdG G) (.Attribute (.Name y q) f pos) (dFld i G.g x) := fun W => pew (pe_fld hv hb) fun σ H Q ⟨ρ, P, o, n, ⟨e0, h⟩, k⟩ => by
  subst hK
  obtain ⟨_, e1, e2⟩ := n.get e0
  cases e2
  exact ⟨_, e1, _, _, _, _, v, rfl, T.at o, T.cl, nf, hl, k v H x (.refl o.R) (hx.up o.seeB) h⟩
/-- self.m(..) -/
def dMe (i : Nat) (g : Addr) (f : List D → (D → Prop) → Prop) (da : TDA) : TD := fun ρ P => ρ[i]? = some (.hd g) ∧ da ρ fun l => f l P
theorem b_meth {k : Nat} {fa : Addr} {fd : FuncData} {ps : List Str} {fm : List D → (D → Prop) → Prop} {pl : Sem Bool} (T : GrOk K G) (hK : X.K = K) (hm : Meth K G.C f fa) (hl : G.fs.lookup f = none) (F : FnOk X.prog X.w X.K X.mg X.base CX0 k fa fd ps (spM K (mdG G) G.g fm)) (hr : Room k X.A) (hb : Binds X.K fd ps [])
    (hv : PE X (.Name y q) (tVar i)) (ha : BA X (mdG G) (e :: es) da) (hst : starEach (e :: es) X.env = (false, eval e X.env) :: starEach es X.env := by rfl) (hpl : (backTo pos (starEach es X.env)).any (·.1) = false := by rfl)
    (ht : eval (.Call (.Attribute (.Name y q) f apos) (e :: es) [] pos) X.env = (do
      let ov ← eval (.Name y q) X.env
      standAt apos.atName
      let (f, first) ← holding [ov] (getMethod ov f pl)
      callWith pos f first (backTo pos (starEach (e :: es) X.env)) (backToKw pos (keywordEach [] X.env))) := by rfl) :
    BE X (mdG G) (.Call (.Attribute (.Name y q) f apos) (e :: es) [] pos) (dMe i G.g fm da) := by
  subst hK
  exact fun W => pew (pe_meth hv T.cl hm F hr hb .nil (pass0 (X := X)) (ha W) hst hpl ht) fun σ H Q ⟨ρ, P, o, n, ⟨e0, h⟩, k⟩ => by
    obtain ⟨_, e1, e2⟩ := n.get e0
    cases e2
    refine ⟨_, e1, _, _, _, rfl, T.at o, hl, tDA_at o n h fun vs H1 l e1 o1 n1 i1 h1 => ⟨W, vs, l, P, by rw [List.append_nil], o1, i1, h1, fun v H2 x e2 i2 q => k v H2 x (e1.trans e2) i2 q⟩⟩
end
/-! ### new tuples -/
def tN (K : PySem.W.Frag) (m : Md) (W : Addr → Prop) (d : TDA) : TE := fun σ H Q => ∃ ρ P, Ok m W H ∧ EnvIs K (era W H) σ ρ ∧ d ρ P ∧
  ∀ p H' xs l, Evo m H H' → H p = none → H' p = some (.tup xs) → IsAll K (era W H') xs l → P l → Q (.ref p) H'
def BN (X : Cx) (m : Md) (e : Expr) (d : TDA) : Prop := ∀ W, PE X e (tN X.K m W d)
def dNCat (da : TDA) (db : TD) : TDA := fun ρ P => da ρ fun l => (l ≠ [] ∧ l.length ≤ 100000) ∧ db ρ fun x => match x with
  | .tuple l2 => l.length + l2.length ≤ 100000 ∧ P (l ++ l2)
  | _ => False
theorem n_cat {es : List Expr} {x1 : Nat} {tpos pos : Pos} {b : Expr} {da : TDA} {db : TD} (ha : BA X m es da) (hb : BE X m b db) : BN X m (.BinOp (.Tuple es x1 tpos) .Add b pos) (dNCat da db) := fun W =>
  pew (pe_op op_catA (pe_tup (ha W)) (hb W)) fun σ H Q ⟨ρ, P, o, n, h, k⟩ => tDA_at o n h fun vs H1 l e1 o1 n1 i1 ⟨⟨hn, hl⟩, h1⟩ => by
    refine ⟨len_ok (by rw [i1.length]; exact hl), fun p hp => ?_⟩
    have ev : Evo m H1 (upd H1 p (.tup vs)) := .same o1.R (same_new hp)
    have npM : ¬ m.M p := fun z => o1.new hp (o1.sub p z)
    refine tD_at (o1.evo ev) (n1.mono (o1.view ev)) h1 fun u H2 x e2 o2 n2 i2 h2 => ?_
    cases x <;> first | exact h2.elim | skip
    rename_i l2
    obtain ⟨hz, h2⟩ : l.length + l2.length ≤ 100000 ∧ P (l ++ l2) := h2
    cases i2 with
    | @tup a ys _ hs hy =>
      have hp2 : H2 p = some (.tup vs) := e2.1 p _ upd_same npM
      have iv : IsAll X.K (era W H2) vs l := i1.up fun c o' q => (o1.evo ev).view e2 c o' (o1.view ev c o' q)
      have nvs : vs ≠ [] := fun z => hn (List.length_eq_zero_iff.mp (by rw [← i1.length, z]; rfl))
      have E := (e1.trans ev).trans e2
      refine ⟨p, a, vs, ys, rfl, rfl, .inl (.inl hp2), sqT_mono era_sub hs, len_ok (by rw [i1.length, hy.length]; exact hz), fun z => absurd z nvs, fun _ z => ?_, fun _ _ r hr => ?_⟩
      · subst z
        cases hy
        rw [List.append_nil] at h2
        exact k p H2 vs l E (back_none e1 o hp) hp2 iv h2
      · have er : Evo m H2 (upd H2 r (.tup (vs ++ ys))) := .same o2.R (same_new hr)
        exact k r _ _ _ (E.trans er) (back_none E o hr) upd_same ((iv.append hy).up (o2.view er)) h2
/-- a method that returns a new tuple -/
def spT (K : PySem.W.Frag) (md : Md) (g : Addr) (f : List D → (List D → Prop) → Prop) : Sp := fun vs H Q _ => ∃ W us ds P, vs = .ref g :: us ∧ Ok md W H ∧ IsAll K (era W H) us ds ∧ f ds P ∧ ∀ p H' xs l, Evo md H H' → H p = none → H' p = some (.tup xs) → IsAll K (era W H') xs l → P l → Q (.ref p) H'
def semT (g : Addr) (n k : Nat) (d : TDA) : List D → (List D → Prop) → Prop := fun ds P => ds.length + 1 = k ∧ d ((Sl.hd g :: (ds.map Sl.d ++ List.replicate (n - k) .no)).map vis) P
section
variable {P : Program} {w : World} {mg : Str → Option Value} {base : Heap} {x qual : Str} {st : Stmt} {f : Addr} {fd : FuncData} {N ps : List Str} {k : Nat} {d : TDA} {md : Md} {g : Addr}
theorem fn_okT {e : Expr} {pos : Pos} (F : Fun K x qual st f fd) (S : FnScope N ps (defScope st)) (hd : defBody st = [.Return (some e) pos])
    (hbody : ∀ (cdv : Value) (A : Around) (outer : List Env) (s : Shared) (H : Hp) (E : XK), Room k (A.deeper (envOfC qual (defScope st) s.heap.objs.size f cdv)) → BN (cxOf CX0 P w K mg base N qual (defScope st) f cdv A outer s H E).nox md e d) :
    FnOk P w K mg base CX0 (k + 1) f fd ps (spT K md g (semT g N.length ps.length d)) :=
  F.ok S (fun vs H Q E ⟨W, us, ds, R, e, o, i, h, q⟩ => by rw [e, List.length_cons, i.length]; exact h.1) fun cdv A outer s H vs Q E hr ⟨W, us, ds, R, ev, o, i, h, q⟩ => by
    rw [hd]
    refine ⟨_, pss_one (ps_ret (hbody cdv A outer s H E hr W)), ?_⟩
    have e2 : L2.start N vs = some (.ref g) :: (us.map some ++ List.replicate (N.length - ps.length) none) := by
      unfold L2.start
      rw [ev, List.length_cons, i.length, h.1, List.map_cons, List.cons_append]
    rw [e2]
    exact ⟨_, R, o, (st_startP o i).vis, h.2, fun p H' xs l e1 hp hx j q' => q p H' xs l e1 hp hx j q'⟩
theorem fn_impT {k : Nat} {g' g'' : List D → (List D → Prop) → Prop} (F : FnOk P w K mg base CX0 k f fd ps (spT K md g g')) (h : ∀ ds P, g'' ds P → g' ds P) : FnOk P w K mg base CX0 k f fd ps (spT K md g g'') :=
  F.imp fun vs H Q E ⟨W, us, ds, R, e, o, i, q, z⟩ => ⟨W, us, ds, R, e, o, i, h ds R q, z⟩
end
def dMeN (i : Nat) (g : Addr) (f : List D → (List D → Prop) → Prop) (da : TDA) : TDA := fun ρ P => ρ[i]? = some (.hd g) ∧ da ρ fun l => f l P
theorem n_meth {G : Gr} {y f : Str} {q pos apos : Pos} {i : Nat} {e : Expr} {es : List Expr} {da : TDA} {k : Nat} {fa : Addr} {fd : FuncData} {ps : List Str} {fm : List D → (List D → Prop) → Prop} {pl : Sem Bool} (T : GrOk K G) (hK : X.K = K) (hm : Meth K G.C f fa) (hl : G.fs.lookup f = none)
    (F : FnOk X.prog X.w X.K X.mg X.base CX0 k fa fd ps (spT K (mdG G) G.g fm)) (hr : Room k X.A) (hb : Binds X.K fd ps [])
    (hv : PE X (.Name y q) (tVar i)) (ha : BA X (mdG G) (e :: es) da) (hst : starEach (e :: es) X.env = (false, eval e X.env) :: starEach es X.env := by rfl) (hpl : (backTo pos (starEach es X.env)).any (·.1) = false := by rfl)
    (ht : eval (.Call (.Attribute (.Name y q) f apos) (e :: es) [] pos) X.env = (do
      let ov ← eval (.Name y q) X.env
      standAt apos.atName
      let (f, first) ← holding [ov] (getMethod ov f pl)
      callWith pos f first (backTo pos (starEach (e :: es) X.env)) (backToKw pos (keywordEach [] X.env))) := by rfl) :
    BN X (mdG G) (.Call (.Attribute (.Name y q) f apos) (e :: es) [] pos) (dMeN i G.g fm da) := by
  subst hK
  exact fun W => pew (pe_meth hv T.cl hm F hr hb .nil (pass0 (X := X)) (ha W) hst hpl ht) fun σ H Q ⟨ρ, P, o, n, ⟨e0, h⟩, k⟩ => by
    obtain ⟨_, e1, e2⟩ := n.get e0
    cases e2
    refine ⟨_, e1, _, _, _, rfl, T.at o, hl, tDA_at o n h fun vs H1 l e1 o1 n1 i1 h1 => ⟨W, vs, l, P, by rw [List.append_nil], o1, i1, h1, fun p H2 xs l e2 hp hx i2 q => k p H2 xs l (e1.trans e2) (back_none e1 o hp) hx i2 q⟩⟩
end TL

/-! TL, part 13: what an object remembers by keys that are tuples. -/
namespace TL
open PySem L2
open PySem.Spec PyProof.Rows
variable {K : PySem.W.Frag} {X : Cx} {m : Md}
theorem StIs.setHd {W : Addr → Prop} {b : Bs} {H : Hp} {σ : L2.St} {ρ : List Sl} (S : StIs K m W b H σ ρ) {j : Nat} {p : Addr} : StIs K m W b H (σ.set j (some (.ref p))) (ρ.set j (.hd p)) := by
  have mo : Same (era (fun a => W a ∨ Ow σ ρ a) H) (era (fun a => W a ∨ Ow (σ.set j (some (.ref p))) (ρ.set j (.hd p)) a) H) := era_mono (fun _ _ e _ => e) fun a z => z.elim .inl fun z => .inr (ow_set rfl z).1
  have nj : ∀ (k : Nat) (l : List D), (ρ.set j (.hd p))[k]? = some (.ow l) → j ≠ k := fun k l h q => by
    subst q
    by_cases z : j < ρ.length
    · rw [List.getElem?_set_self z] at h
      cases h
    · rw [List.getElem?_eq_none (by rw [List.length_set]; omega)] at h
      cases h
  refine ⟨S.ok, S.evo, S.keep, S.sub, S.bB, ?_, fun k l h => ?_, fun k k' l l' a h h' g g' => ?_⟩
  · rw [List.map_set]
    exact (S.env.mono mo).set .hd j
  · have q := nj k l h
    rw [List.getElem?_set_ne q] at h
    obtain ⟨a, xs, e1, hw, hb, hx, ha⟩ := S.own k l h
    exact ⟨a, xs, by rw [List.getElem?_set_ne q]; exact e1, hw, hb, hx, ha.up mo⟩
  · have n1 := nj k l h
    have n2 := nj k' l' h'
    rw [List.getElem?_set_ne n1] at h g
    rw [List.getElem?_set_ne n2] at h' g'
    exact S.inj k k' l l' a h h' g g'
def keyD : Key → D
  | .inl i => .int i
  | .inr s => .str s
theorem key_is {H : Hp} : ∀ {k : List Key} {vs : List V}, IsAll K H vs (k.map keyD) → vs = k.map kV
  | [], _, h => by cases h; rfl
  | .inl i :: k, _, .cons a b => by
    cases a
    rw [key_is b]
    rfl
  | .inr i :: k, _, .cons a b => by
    cases a
    rw [key_is b]
    rfl
theorem nodup_few {α : Type} [DecidableEq α] : ∀ {l s : List α}, l.Nodup → (∀ x, x ∈ l → x ∈ s) → l.length ≤ s.length
  | [], _, _, _ => Nat.zero_le _
  | x :: l, s, n, h => by
    obtain ⟨n1, n2⟩ := List.nodup_cons.mp n
    have hx := h x (List.mem_cons_self ..)
    have := nodup_few (l := l) (s := s.erase x) n2 fun y hy => by
      have hne : y ≠ x := fun e => n1 (by rw [← e]; exact hy)
      exact (List.mem_erase_of_ne hne).mpr (h y (List.mem_cons_of_mem _ hy))
    rw [List.length_erase_of_mem hx] at this
    have pos : 0 < s.length := List.length_pos_of_mem hx
    rw [List.length_cons]
    omega
theorem valV_at {kvs : List (List Key × V)} {k : List Key} {v : V} (h : valV kvs k = some v) : (k, v) ∈ kvs := by
  unfold valV at h
  cases q : kvs.find? fun kv => decide (kv.1 = k) with
  | none =>
    rw [q] at h
    cases h
  | some e =>
    rw [q] at h
    have h' : e.2 = v := Option.some.inj h
    have m := List.mem_of_find?_eq_some q
    have p := List.find?_some q
    have p' : e.1 = k := by simpa using p
    rw [← p', ← h']
    exact m
/-- the dict behind a put -/
theorem dict_put {H : Hp} {d : Addr} {Ks : List (List Key)} {S : List Key → Int} {kvs : List (List Key × V)} {k : List Key} (nd : (kvs.map (·.1)).Nodup) (hk : ∀ e, e ∈ kvs → e.1 ∈ Ks ∧ e.2 = .int (S e.1)) (h : valV kvs k = none) (kk : k ∈ Ks) :
    DictOk (upd H d (.dT (putK kvs k (.int (S k))))) d Ks S := by
  refine ⟨_, upd_same, nd_putK _ nd h, fun e he => ?_⟩
  rw [putK_new _ h] at he
  rcases List.mem_append.mp he with he | he
  · exact hk e he
  · have e1 : e = (k, .int (S k)) := by simpa using he
    rw [e1]
    exact ⟨kk, rfl⟩
/-- key = ..; if key not in self.d: (body; self.d[key] = v); return self.d[key] -/
def dMemo (ik i0 : Nat) (g : Addr) (Ks : List (List Key)) (S : List Key → Int) (dkey : TDA) (d1 : DS) (dv : TD) : DS := fun ρ E => noOw ρ = true ∧ ρ[i0]? = some (.hd g) ∧ ik ≠ i0 ∧ ik < ρ.length ∧ dkey (ρ.map vis) fun l => ∃ k : List Key, l = k.map keyD ∧ k ∈ Ks ∧
  (∀ p, d1 (ρ.set ik (.hd p)) { nx := fun ρ2 => ρ2[i0]? = some (.hd g) ∧ ρ2[ik]? = some (.hd p) ∧ dv (ρ2.map vis) fun x => x = .int (S k), rt := fun _ => False }) ∧ E.rt (.int (S k))
theorem ss_memo {G : Gr} {y x f : Str} {ik i0 : Nat} {d : Addr} {S : List Key → Int} {dkey : TDA} {d1 : DS} {dv : TD} {ekey val : Expr} {st1 : Stmt} {pk p0 k1 q1 p1 p2 q2 p3 k2 p4 p5 p6 q3 p7 k3 p8 p9 : Pos}
    (T : GrOk K G) (hK : X.K = K) (hu : X.A.units + 64 < cLine) (hd : (d = G.dm ∧ S = G.S1) ∨ (d = G.dn ∧ S = G.S2)) (hl : G.fs.lookup f = some (.ref d)) (nf : NoAttr K G.C f)
    (hN : X.N.Nodup) (hi : X.N[ik]? = some x) (hx : Loc X.env.scope x) (hkey : BN X (mdG G) ekey dkey) (h1 : BS X (mdG G) st1 d1) (hv : BE X (mdG G) val dv)
    (vk : ∀ pos, PE X (.Name x pos) (tVar ik)) (vs : ∀ pos, PE X (.Name y pos) (tVar i0))
    (hs : swapsWith ekey (some (.Name x pk)) p0.line X.env = pure false := by rfl)
    (hs2 : swapsWith val (some (.Subscript (.Attribute (.Name y q2) f p3) (.Name x k2) p4)) p5.line X.env = pure false := by rfl)
    (hb : ∀ (q pos : Pos), attributeBase (.Name y q) f X.env (eval (.Name y q) X.env) = eval (.Name y q) X.env := by intro _ _; rfl)
    (hf : X.fn x = true ∨ X.env.scope.names.lookup x = some .local := by first | exact .inl rfl | exact .inr rfl | assumption) :
    BSs X (mdG G) [.Assign [.Name x pk] ekey p0, .If (.Compare (.Name x k1) [.NotIn] [.Attribute (.Name y q1) f p1] p2) [st1, .Assign [.Subscript (.Attribute (.Name y q2) f p3) (.Name x k2) p4] val p5] [] p6,
      .Return (some (.Subscript (.Attribute (.Name y q3) f p7) (.Name x k3) p8)) p9] (dMemo ik i0 G.g G.Ks S dkey d1 dv) := by
  subst hK
  have hu1 : X.A.units + 1 < cLine := by omega
  refine pssw (pss_cons (ps_set hN hi hx (pe_ex (T := fun W => tN X.K (mdG G) W dkey) hkey) hs hf) (pss_cons (ps_if (pt_cmp (pc_dnotin hu1 (vk _) (pe_fld (vs _) (hb _ default)))) (pss_cons h1 (pss_one (ps_dput hu1 (pe_fld (vs _) (hb _ default)) (vk _) (pe_ex hv) hs2))) pss_nil)
    (pss_one (ps_ret (pe_dget hu1 (pe_fld (vs _) (hb _ default)) (vk _) (fun _ _ => rfl)))))) fun D σ H ⟨W, b, ρ, E, S0, ⟨no, h0, hne, hik, h⟩, Gd⟩ => ?_
  refine ⟨W, _, _, S0.ok, S0.vis, h, fun p H1 xs l e1 hp hx1 i1 ⟨k, el, kk, hb1, hE⟩ => ?_⟩
  subst el
  have ex : xs = k.map kV := key_is i1
  subst ex
  -- the frame with the key
  have S1 := (S0.step e1).setHd (j := ik) (p := p)
  have no1 : noOw (ρ.set ik (.hd p)) = true := noOw_set no
  have SB := S1.base
  have npM : ¬ (mdG G).M p := fun z => S0.ok.tr p (S0.ok.sub p z) hp
  have atB : ∀ c o, H1 c = some o → (Bs.at H1 (σ.set ik (some (.ref p))) (ρ.set ik (.hd p))).H c = some o := fun c o e => era_of e (noOw_no no1)
  have h0' : (ρ.set ik (.hd p))[i0]? = some (.hd G.g) := by rw [List.getElem?_set_ne hne]; exact h0
  have hkk : (ρ.set ik (.hd p))[ik]? = some (.hd p) := List.getElem?_set_self hik
  have at0 : ∀ {H' : Hp} {σ' : L2.St} {ρ' : List Sl}, StIs X.K (mdG G) W (Bs.at H1 (σ.set ik (some (.ref p))) (ρ.set ik (.hd p))) H' σ' ρ' → ρ'[i0]? = some (.hd G.g) → σ'[i0]? = some (some (.ref G.g)) := fun S' e => by
    obtain ⟨_, e1, e2⟩ := S'.vis.get (map_get (f := vis) e)
    cases e2
    exact e1
  have atk : ∀ {H' : Hp} {σ' : L2.St} {ρ' : List Sl}, StIs X.K (mdG G) W (Bs.at H1 (σ.set ik (some (.ref p))) (ρ.set ik (.hd p))) H' σ' ρ' → ρ'[ik]? = some (.hd p) → σ'[ik]? = some (some (.ref p)) := fun S' e => by
    obtain ⟨_, e1, e2⟩ := S'.vis.get (map_get (f := vis) e)
    cases e2
    exact e1
  have tupAt : ∀ {H' : Hp} {σ' : L2.St} {ρ' : List Sl}, StIs X.K (mdG G) W (Bs.at H1 (σ.set ik (some (.ref p))) (ρ.set ik (.hd p))) H' σ' ρ' → H' p = some (.tup (k.map kV)) := fun S' => S'.evo.1 p _ (atB p _ hx1) npM
  have dictAt : ∀ {H' : Hp}, Ok (mdG G) W H' → DictOk H' d G.Ks S := fun o => by
    rcases hd with ⟨rfl, rfl⟩ | ⟨rfl, rfl⟩
    · exact o.R.1
    · exact o.R.2
  have dM : (mdG G).M d := by
    rcases hd with ⟨rfl, _⟩ | ⟨rfl, _⟩
    · exact .inl rfl
    · exact .inr rfl
  -- the return
  have fin : ∀ (H' : Hp) (σ' : L2.St) (ρ' : List Sl), StIs X.K (mdG G) W (Bs.at H1 (σ.set ik (some (.ref p))) (ρ.set ik (.hd p))) H' σ' ρ' → ρ'[i0]? = some (.hd G.g) → ρ'[ik]? = some (.hd p) → (∀ kvs, H' d = some (.dT kvs) → valV kvs k = some (.int (S k))) →
      tDGet (tFld X.K (tVar i0) f) (tVar ik) σ' H' D.rt := fun H' σ' ρ' S' e0 ek hval => by
    obtain ⟨kvs, hkv, nd, hall⟩ := dictAt S'.ok
    refine ⟨_, at0 S' e0, _, _, _, _, _, rfl, T.at S'.ok, T.cl, nf, hl, _, atk S' ek, d, .int (S k), rfl, ?_, ?_⟩
    · rw [← hval kvs hkv]
      exact DGet.t hkv (tupAt S')
    · exact Gd.rt _ _ _ ((S0.step e1).setHd.evoBack S'.evo) (.int _) hE
  obtain ⟨kvs, hkv, nd, hall⟩ := dictAt SB.ok
  refine ⟨_, atk SB hkk, _, at0 SB h0', _, _, _, _, _, rfl, T.at SB.ok, T.cl, nf, hl, d, _, rfl, DGet.t hkv (tupAt SB), _, rfl, ?_⟩
  cases e : valV kvs k with
  | some v =>
    refine iteF ?_
    refine fin H1 _ _ SB h0' hkk fun kvs2 h2 => ?_
    rw [hkv] at h2
    cases h2
    rw [e]
    exact congrArg some (hall _ (valV_at e)).2
  | none =>
    refine iteT ?_
    refine ⟨W, _, _, _, SB, hb1 p, ⟨fun σ2 H2 ρ2 S2 ⟨g0, gk, gv⟩ => ?_, fun _ _ _ _ _ z => z.elim, fun _ _ _ _ z => z.elim, fun _ _ _ _ z => z.elim⟩⟩
    refine ⟨W, tD_at S2.ok S2.vis gv fun v H3 x3 e3 o3 n3 i3 h3 => ?_⟩
    subst h3
    cases i3
    have S3 := S2.step e3
    obtain ⟨kvs3, hkv3, nd3, hall3⟩ := dictAt S3.ok
    have few : kvs3.length < sizeLine := by
      have := nodup_few nd3 (s := G.Ks) fun a ha => by
        obtain ⟨q, hq, rfl⟩ := List.mem_map.mp ha
        exact (hall3 q hq).1
      rw [List.length_map] at this
      exact Nat.lt_of_le_of_lt (Nat.le_trans this T.few) (by decide)
    refine ⟨_, at0 S3 g0, _, _, _, _, _, rfl, T.at S3.ok, T.cl, nf, hl, _, atk S3 gk, d, _, rfl, DPut.t hkv3 (tupAt S3) few, ?_⟩
    have evo4 : Evo (mdG G) H3 (upd H3 d (.dT (putK kvs3 k (.int (S k))))) := by
      refine ⟨fun c o ec nc => by rw [upd_ne fun z => nc (by rw [z]; exact dM)]; exact ec, ?_⟩
      have put : DictOk (upd H3 d (.dT (putK kvs3 k (.int (S k))))) d G.Ks S := by
        cases e5 : valV kvs3 k with
        | none => exact dict_put nd3 hall3 e5 kk
        | some v5 =>
          refine ⟨_, upd_same, ?_, ?_⟩
          · rw [putK_keys (by rw [e5]; rfl)]
            exact nd3
          · intro a ha
            rcases putK_mem ha with ha | ha
            · exact hall3 a ha
            · rw [ha]
              exact ⟨kk, rfl⟩
      rcases hd with ⟨rfl, rfl⟩ | ⟨rfl, rfl⟩
      · refine ⟨put, ?_⟩
        obtain ⟨kv, a1, a2⟩ := S3.ok.R.2
        exact ⟨kv, by rw [upd_ne T.ne.symm]; exact a1, a2⟩
      · refine ⟨?_, put⟩
        obtain ⟨kv, a1, a2⟩ := S3.ok.R.1
        exact ⟨kv, by rw [upd_ne T.ne]; exact a1, a2⟩
    refine fin _ _ _ (S3.step evo4) g0 gk fun kvs4 h4 => ?_
    rw [upd_same] at h4
    cases h4
    rw [valV_put, if_pos rfl]
where
  putK_keys {kvs : List (List Key × V)} {k : List Key} {v : V} (h : (valV kvs k).isSome = true) : (putK kvs k v).map (·.1) = kvs.map (·.1) := by
    unfold putK
    rw [valV_any, h, if_pos rfl, List.map_map]
    refine List.map_congr_left fun e _ => ?_
    show (if e.1 = k then (e.1, v) else e).1 = e.1
    split <;> rfl
  putK_mem {kvs : List (List Key × V)} {k : List Key} {v : V} {e : List Key × V} (h : e ∈ putK kvs k v) : e ∈ kvs ∨ e = (k, v) := by
    unfold putK at h
    split at h
    · obtain ⟨a, ha, ea⟩ := List.mem_map.mp h
      by_cases q : a.1 = k
      · rw [if_pos q] at ea
        rw [q] at ea
        exact .inr ea.symm
      · rw [if_neg q] at ea
        rw [← ea]
        exact .inl ha
    · rcases List.mem_append.mp h with h | h
      · exact .inl h
      · exact .inr (by simpa using h)
end TL

/-! TL, part 14: how denotations are read. -/
namespace TL
open PySem L2
theorem lc_fm {α : Type} {f : D → (Option D → Prop) → Prop} {enc : α → D} {h : α → Option D} : ∀ (xs : List α) {P : List D → Prop}, (∀ x, x ∈ xs → ∀ R : Option D → Prop, R (h x) → f (enc x) R) → P (xs.filterMap h) → lcGo f (xs.map enc) P
  | [], P, _, hP => hP
  | x :: xs, P, hf, hP => hf x (List.mem_cons_self ..) _ (by
    cases e : h x with
    | none =>
      rw [List.filterMap_cons_none e] at hP
      exact lc_fm (h := h) xs (fun y hy => hf y (List.mem_cons_of_mem _ hy)) hP
    | some z =>
      rw [List.filterMap_cons_some e] at hP
      exact lc_fm (h := h) (P := fun zs => P (z :: zs)) xs (fun y hy => hf y (List.mem_cons_of_mem _ hy)) hP)
theorem lc_map {α : Type} {f : D → (Option D → Prop) → Prop} {enc h : α → D} (xs : List α) {P : List D → Prop} (hf : ∀ x, x ∈ xs → ∀ R : Option D → Prop, R (some (h x)) → f (enc x) R) (hP : P (xs.map h)) : lcGo f (xs.map enc) P :=
  lc_fm (h := fun x => some (h x)) xs hf (by rw [List.filterMap_eq_map']; exact hP)
theorem fm_if {α β : Type} (q : α → Bool) (h : α → β) : ∀ xs : List α, xs.filterMap (fun x => if q x then some (h x) else none) = (xs.filter q).map h
  | [] => rfl
  | x :: xs => by
    have ih := fm_if q h xs
    cases e : q x with
    | true => rw [List.filterMap_cons_some (b := h x) (by simp [e]), List.filter_cons_of_pos e, List.map_cons, ih]
    | false => rw [List.filterMap_cons_none (by simp [e]), List.filter_cons_of_neg (by simp [e]), ih]
theorem lc_filter {α : Type} {f : D → (Option D → Prop) → Prop} {enc h : α → D} (q : α → Bool) (xs : List α) {P : List D → Prop} (hf : ∀ x, x ∈ xs → ∀ R : Option D → Prop, (q x = true → R (some (h x))) → (q x = false → R none) → f (enc x) R) (hP : P ((xs.filter q).map h)) : lcGo f (xs.map enc) P :=
  lc_fm (h := fun x => if q x then some (h x) else none) xs (fun x hx R hR => hf x hx R (fun e => by simpa [e] using hR) (fun e => by simpa [e] using hR)) (by
    rw [fm_if]
    exact hP)
/-- a for by its invariant: what is done so far, the frame -/
theorem for_go {α : Type} {dg : TSG} {body : DS} {enc : α → D} {E : DE} (xs : List α) (I : List α → List Sl → Prop)
    (hstep : ∀ (done : List α) (x : α) (rest : List α) (ρ : List Sl), xs = done ++ x :: rest → I done ρ → ∀ E' : DE, (∀ ρ', I (done ++ [x]) ρ' → E'.nx ρ') → (∀ ρ', I (done ++ [x]) ρ' → E'.ct ρ') → E'.rt = E.rt → E'.bk = E.nx → dg (enc x) ρ fun ρ1 => body ρ1 E')
    (hend : ∀ ρ, I xs ρ → E.nx ρ) : ∀ (done rest : List α) (ρ : List Sl), xs = done ++ rest → I done ρ → forGo dg body (rest.map enc) ρ E
  | done, [], ρ, e, h => hend ρ (by rw [e, List.append_nil]; exact h)
  | done, x :: rest, ρ, e, h => hstep done x rest ρ e h _ (fun ρ' h' => for_go xs I hstep hend (done ++ [x]) rest ρ' (by rw [e, List.append_assoc]; rfl) h') (fun ρ' h' => for_go xs I hstep hend (done ++ [x]) rest ρ' (by rw [e, List.append_assoc]; rfl) h') rfl rfl
/-! ### data with a type -/
section
open PySem.W
instance : Datum Nat where
  toD n := .int (n : Int)
  plain _ := rfl
  eqv a b := (Datum.eqv (a : Int) (b : Int)).trans (decide_eq_decide.mpr Int.ofNat_inj)
  depth := 0
  depth_le _ := Nat.le_refl _
instance : DatumOrd Nat where
  lt a b := decide (a < b)
  alike a b := DatumOrd.alike (a : Int) (b : Int)
  notNone a := fun e => by cases e
  lt_eq a b := (dataLt_int a b).trans (decide_eq_decide.mpr Int.ofNat_lt)
section
variable {α : Type} [DecidableEq α]
theorem okD_of [Datum α] (a : α) (h : Datum.depth α ≤ 60 := by decide) : okD (Datum.toD a) = true := by
  unfold okD
  rw [Datum.plain, decide_eq_true (Nat.le_trans (Datum.depth_le a) h)]
  rfl
theorem any_of [Datum α] (l : List α) (a : α) : ((l.map Datum.toD).any fun z => PyData.eqv z (Datum.toD a)) = decide (a ∈ l) := by
  induction l with
  | nil => simp
  | cons x l ih =>
    rw [List.map_cons, List.any_cons, ih, Datum.eqv, ← Bool.decide_or]
    exact decide_eq_decide.mpr (by rw [List.mem_cons]; exact or_congr eq_comm Iff.rfl)
theorem ordOk_of [DatumOrd α] (a b : α) (h : Datum.depth α ≤ 60 := by decide) : ordOk (Datum.toD a) (Datum.toD b) = true := by
  unfold ordOk
  rw [DatumOrd.alike, Datum.plain, Datum.plain, decide_eq_true (Nat.le_trans (Datum.depth_le a) h)]
  have : isNone (Datum.toD a) = false := by
    cases e : (Datum.toD a : D) <;> first | rfl | exact absurd e (DatumOrd.notNone a)
  rw [this]
  rfl
/-- sorted rows of typed data -/
def sortT [DatumOrd α] (l : List α) : List α := l.mergeSort fun a b => !DatumOrd.lt b a
theorem srtD_of [DatumOrd α] (l : List α) : srtD false (l.map Datum.toD) = (sortT l).map Datum.toD := by
  unfold srtD sortT
  exact (sort_maps (r := fun a b : α => !DatumOrd.lt b a) (s := dataLe false id) Datum.toD fun a _ b _ => by
    rw [dataLe_eq]
    show (!DatumOrd.lt b a) = (!dataLt (Datum.toD b) (Datum.toD a))
    rw [DatumOrd.lt_eq]).symm
theorem srtOk_of [DatumOrd α] (l : List α) (hl : l.length ≤ 100000) (hs : Sortable (l.map Datum.toD)) (h : Datum.depth α ≤ 60 := by decide) : srtOk (l.map Datum.toD) := by
  refine ⟨fun d hd d' hd' => ?_, hs, by rw [List.length_map]; exact hl, fun d hd => ?_⟩
  · obtain ⟨a, _, rfl⟩ := List.mem_map.mp hd
    obtain ⟨b, _, rfl⟩ := List.mem_map.mp hd'
    exact DatumOrd.alike a b
  · obtain ⟨a, _, rfl⟩ := List.mem_map.mp hd
    exact ⟨Datum.plain a, Nat.le_trans (Datum.depth_le a) h⟩
end
end
/-! ### readings -/
section
variable {a b : Int} {l r : List D} {P : D → Prop} {Q : List D → Prop} {x y : D}
theorem e_le : fLe (.int a) (.int b) P = P (.bool (decide (a ≤ b))) := rfl
theorem e_lt : fLt (.int a) (.int b) P = P (.bool (decide (a < b))) := rfl
theorem e_ge : fGe (.int a) (.int b) P = P (.bool (decide (b ≤ a))) := rfl
theorem e_gt : fGt (.int a) (.int b) P = P (.bool (decide (b < a))) := rfl
theorem e_lenT : fLen [.tuple l] P = P (.int (l.length : Int)) := rfl
theorem e_lenL : fLen [.list l] P = P (.int (l.length : Int)) := rfl
theorem e_add : fPlus (.int a) (.int b) P = P (.int (a + b)) := rfl
theorem e_cat : fPlus (.tuple l) (.tuple r) P = (l.length + r.length ≤ 100000 ∧ P (.tuple (l ++ r))) := rfl
theorem e_sub : fSub (.int a) (.int b) P = P (.int (a - b)) := rfl
theorem e_mul : fMul (.int a) (.int b) P = (CMul a b ∧ P (.int (a * b))) := rfl
theorem e_div : fDiv (.int a) (.int b) P = (CDiv a b ∧ P (.int (a / b))) := rfl
theorem e_mod : fMod (.int a) (.int b) P = (0 < b ∧ P (.int (a % b))) := rfl
theorem e_tupL : fTuple [.list l] P = P (.tuple l) := rfl
theorem e_tupT : fTuple [.tuple l] P = P (.tuple l) := rfl
theorem e_listL : fList [.list l] Q = Q l := rfl
theorem e_listT : fList [.tuple l] Q = Q l := rfl
theorem e_fcat : fCat (.list l) (.list r) Q = (l.length + r.length ≤ 100000 ∧ Q (l ++ r)) := rfl
theorem e_srtL : fSrt false [.list l] Q = (srtOk l ∧ Q (srtD false l)) := rfl
theorem e_srtT : fSrt false [.tuple l] Q = (srtOk l ∧ Q (srtD false l)) := rfl
theorem e_isN {g : Bool → Bool} : fIs g x .none P = P (.bool (g (isNone x))) := by cases x <;> rfl
theorem e_eq {g : Bool → Bool} (h : okD x = true) (h' : okD y = true) : fEqG g x y P = P (.bool (g (PyData.eqv x y))) := by
  unfold fEqG
  rw [h, h']
  simp
theorem e_eqi {g : Bool → Bool} : fEqG g (.int a) (.int b) P = P (.bool (g (decide (a = b)))) := by rw [e_eq rfl rfl, show PyData.eqv (.int a) (.int b) = decide (a = b) from PySem.W.Datum.eqv (α := Int) a b]
theorem e_eqs {a b : Str} {g : Bool → Bool} : fEqG g (.str a) (.str b) P = P (.bool (g (decide (a = b)))) := by rw [e_eq rfl rfl, show PyData.eqv (.str a) (.str b) = decide (a = b) from PySem.W.Datum.eqv (α := Str) a b]
theorem e_all {bs : List Bool} : fAll [.list (bs.map .bool)] P = P (.bool (bs.all id)) := by
  unfold fAll fBools
  simp only [bools_map]
theorem e_any {bs : List Bool} : fAny [.list (bs.map .bool)] P = P (.bool (bs.any id)) := by
  unfold fAny fBools
  simp only [bools_map]
theorem e_allq {α : Type} {xs : List α} {q : α → Bool} : fAll [.list (xs.map fun x => .bool (q x))] P = P (.bool (xs.all q)) := by
  have := e_all (bs := xs.map q) (P := P)
  rw [List.map_map, List.all_map] at this
  exact this
theorem e_anyq {α : Type} {xs : List α} {q : α → Bool} : fAny [.list (xs.map fun x => .bool (q x))] P = P (.bool (xs.any q)) := by
  have := e_any (bs := xs.map q) (P := P)
  rw [List.map_map, List.any_map] at this
  exact this
theorem atI_nat {α : Type} (xs : List α) (k : Nat) : atI xs (k : Int) = xs[k]? := by
  unfold atI ixN
  rw [if_pos (Int.natCast_nonneg k)]
  by_cases h : k < xs.length
  · rw [if_pos (Int.ofNat_lt.mpr h)]
    rfl
  · rw [if_neg (fun z => h (Int.ofNat_lt.mp z)), List.getElem?_eq_none (by omega)]
    rfl
theorem e_ixT {k : Nat} (h : l[k]? = some x) : fIx (.tuple l) (.int (k : Int)) P = P x := by
  show (match atI l (k : Int) with | some d => P d | none => False) = P x
  rw [atI_nat, h]
theorem e_ixL {k : Nat} (h : l[k]? = some x) : fIx (.list l) (.int (k : Int)) P = P x := by
  show (match atI l (k : Int) with | some d => P d | none => False) = P x
  rw [atI_nat, h]
theorem e_ixT0 : fIx (.tuple (x :: l)) (.int 0) P = P x := e_ixT (k := 0) rfl
theorem e_ixL0 : fIx (.list (x :: l)) (.int 0) P = P x := e_ixL (k := 0) rfl
theorem e_ixT1 {z : D} : fIx (.tuple (x :: z :: l)) (.int 1) P = P z := e_ixT (k := 1) rfl
theorem e_ixT2 {z w : D} : fIx (.tuple (x :: z :: w :: l)) (.int 2) P = P w := e_ixT (k := 2) rfl
theorem e_max2 : fMax2 [.int a, .int b] P = P (.int (if b > a then b else a)) := rfl
theorem e_min2 : fMin2 [.int a, .int b] P = P (.int (if b < a then b else a)) := rfl
theorem e_abs : fAbs [.int a] P = P (.int (if a < 0 then -a else a)) := rfl
theorem e_int : fInt [.int a] P = P (.int a) := rfl
theorem e_pow : fPow (.int a) (.int b) P = (CPow a b ∧ P (.int (a ^ b.toNat))) := rfl
theorem e_in {α : Type} [DecidableEq α] [PySem.W.Datum α] {g : Bool → Bool} {s : List α} {z : α} (h : PySem.W.Datum.depth α ≤ 50 := by decide) : fInG g (PySem.W.Datum.toD z) (.tuple (s.map PySem.W.Datum.toD)) P = P (.bool (g (decide (z ∈ s)))) := by
  unfold fInG
  simp only
  rw [any_of, okD_of z (Nat.le_trans h (by decide)), show okD (.tuple (s.map PySem.W.Datum.toD)) = true from okD_of (PySem.W.Tup.mk s) (show PySem.W.Datum.depth α + 1 ≤ 60 by omega)]
  simp
end
end TL

/-! TL, part 15: the law's own head: the script, the pots made of it. -/
namespace TL
open PySem L2
open PySem.Spec PyProof.Rows
variable {K : PySem.W.Frag} {X : Cx}
/-- nothing is written; B stands -/
def mdL (B : Hp) : Md := ⟨fun _ => False, B, fun _ => True, fun _ _ _ h => h.elim, fun _ _ _ h => h.elim, fun _ _ _ _ => trivial⟩
theorem sqL_mono {H H' : Hp} (e : Same H H') {a : Addr} {xs : List V} (h : SqL K H a xs) : SqL K H' a xs := by
  rcases h with (h | ⟨o, h⟩) | h
  · exact .inl (.inl (e _ _ h))
  · exact .inl (.inr ⟨o, e _ _ h⟩)
  · exact .inr h
section
variable {B : Hp} {a : Addr} {ns : List Int} {i : Nat} {y : Str} {p q pos : Pos} {e : Expr} {de : TD}
/-- len(script) -/
def dLenS (i : Nat) (a : Addr) (ns : List Int) : TD := fun ρ P => ρ[i]? = some (.hd a) ∧ P (.int (ns.length : Int))
theorem b_lenS (hs : SqL X.K B a (ns.map V.int)) (hg : Gl X "len") (hm : X.mg "len" = none) (hv : PE X (.Name y q) (tVar i)) (he : starEach [.Name y q] X.env = (false, eval (.Name y q) X.env) :: starEach [] X.env := by rfl) (hpl : (backTo pos (starEach [] X.env)).any (·.1) = false := by rfl) :
    BE X (mdL B) (.Call (.Name "len" p) [.Name y q] [] pos) (dLenS i a ns) := fun W => pew (pe_callB call_len_seq hg hm bt_len (pa_cons hv pa_nil he) (by decide) (by decide) he hpl) fun σ H Q ⟨ρ, P, o, n, ⟨e0, h⟩, k⟩ => by
  obtain ⟨_, e1, e2⟩ := n.get e0
  cases e2
  refine ⟨_, e1, a, _, rfl, .inl (sqL_mono o.sB hs), ?_⟩
  rw [List.length_map]
  exact k _ _ _ (.refl o.R) (.int _) h
/-- script[e] -/
def dIxS (i : Nat) (a : Addr) (ns : List Int) (de : TD) : TD := fun ρ P => ρ[i]? = some (.hd a) ∧ de ρ fun x => match x with
  | .int j => match atI ns j with
    | some z => P (.int z)
    | none => False
  | _ => False
theorem b_ixS (hs : SqL X.K B a (ns.map V.int)) (hv : PE X (.Name y q) (tVar i)) (he : BE X (mdL B) e de) (hp : PlainIx e := by exact fun _ _ => rfl) : BE X (mdL B) (.Subscript (.Name y q) e pos) (dIxS i a ns de) := fun W => pew (pe_ix ix_seq hv (he W) hp) fun σ H Q ⟨ρ, P, o, n, ⟨e0, h⟩, k⟩ => by
  obtain ⟨_, e1, e2⟩ := n.get e0
  cases e2
  refine ⟨_, e1, tD_at o n h fun v H1 x e1 o1 n1 i1 h1 => ?_⟩
  cases x <;> first | exact h1.elim | skip
  cases i1
  rename_i j
  cases q : atI ns j with
  | none => simp only [q] at h1
  | some z =>
    simp only [q] at h1
    refine .inl ⟨a, ns.map V.int, j, .int z, rfl, rfl, sqL_mono o1.sB hs, ?_, k _ _ _ e1 (.int _) h1⟩
    unfold atI at q ⊢
    rw [List.length_map]
    cases r : ixN ns.length j with
    | none =>
      rw [r] at q
      cases q
    | some t =>
      rw [r] at q
      have q' : ns[t]? = some z := q
      show (ns.map V.int)[t]? = _
      rw [List.getElem?_map, q']
      rfl
/-- the pot's promise -/
def spPot (K : PySem.W.Frag) : Sp := fun vs H Q _ => ∃ (W : Addr → Prop) (B : Hp) (a : Addr) (ns : List Int) (k : Nat), vs = [.ref a, .int (k : Int)] ∧ Ok (mdL B) W H ∧ SqL K B a (ns.map V.int) ∧ k ≤ 1000 ∧
  ∀ (p : Addr) (H' : Hp) (x y : Int), Evo md0 H H' → H p = none → H' p = some (.lst [.int x, .int y]) → 0 ≤ x → 0 ≤ y → y < 4294967296 → Q (.ref p) H'
/-- _law_pot(script, e) -/
def dPotS (i : Nat) (a : Addr) (de : TD) : TDA := fun ρ P => ρ[i]? = some (.hd a) ∧ de ρ fun x => ∃ k : Nat, x = .int (k : Int) ∧ k ≤ 1000 ∧ ∀ x y : Int, 0 ≤ x → 0 ≤ y → y < 4294967296 → P [.int x, .int y]
theorem f_potS {k : Nat} {f : Addr} {fd : FuncData} {ps : List Str} {x : Str} (F : FnOk X.prog X.w X.K X.mg X.base CX0 k f fd ps (spPot X.K)) (hr : Room k X.A) (hg : Gl X x) (hm : X.mg x = some (.ref f)) (hk : PySem.W.keepIn X.K (.ref f) = true) (hb : Binds X.K fd ps []) (hs : SqL X.K B a (ns.map V.int)) (hv : PE X (.Name y q) (tVar i)) (ha : BE X (mdL B) e de)
    (hdb : (x == ("__debug__" : Str)) = false := by decide) (he : starEach (.Name y q :: [e]) X.env = (false, eval (.Name y q) X.env) :: starEach [e] X.env := by rfl) (he2 : starEach [e] X.env = (false, eval e X.env) :: starEach [] X.env := by rfl) (hpl : (backTo pos (starEach [e] X.env)).any (·.1) = false := by rfl) :
    BF X (mdL B) (.Call (.Name x p) [.Name y q, e] [] pos) (dPotS i a de) := fun W => pew (pe_call F hr hg hm hk hb .nil (pass0 (X := X)) (pa_cons hv (pa_cons (ha W) pa_nil he2) he) hdb he hpl) fun σ H Q ⟨ρ, P, o, n, ⟨e0, h⟩, kk⟩ => by
  obtain ⟨_, e1, e2⟩ := n.get e0
  cases e2
  refine ⟨_, e1, tD_at o n h fun v H1 z e1 o1 n1 i1 ⟨k, ez, hk, h1⟩ => ?_⟩
  subst ez
  cases i1
  exact ⟨W, B, a, ns, k, rfl, o1, hs, hk, fun p H' x y e2 hp hx a1 a2 a3 => kk p H' _ [.int x, .int y] (e1.trans ⟨fun b o q _ => e2.1 b o q fun z => z, trivial⟩) (back_none e1 o hp) hx (.cons (.int x) (.cons (.int y) .nil)) (h1 x y a1 a2 a3)⟩
end
section
variable {P : Program} {w : World} {mg : Str → Option Value} {base : Heap} {qual x : Str} {st : Stmt} {f : Addr} {fd : FuncData} {N ps : List Str} {k : Nat}
/-- the pot is made -/
theorem fn_okPot {d : Addr → List Int → DR} (F : Fun K x qual st f fd) (S : FnScope N ["script", "k"] (defScope st))
    (hbody : ∀ (B : Hp) (a : Addr) (ns : List Int), SqL K B a (ns.map V.int) → ∀ (cdv : Value) (A : Around) (outer : List Env) (s : Shared) (H : Hp) (E : XK), Room k (A.deeper (envOfC qual (defScope st) s.heap.objs.size f cdv)) → BR (cxOf CX0 P w K mg base N qual (defScope st) f cdv A outer s H E).nox (mdL B) (defBody st) (d a ns))
    (hd : ∀ (a : Addr) (ns : List Int) (j : Nat) (Q : List D → Prop), j ≤ 1000 → (∀ x y : Int, 0 ≤ x → 0 ≤ y → y < 4294967296 → Q [.int x, .int y]) → d a ns (.hd a :: .d (.int (j : Int)) :: List.replicate (N.length - 2) .no) Q) :
    FnOk P w K mg base CX0 (k + 1) f fd ["script", "k"] (spPot K) :=
  F.ok S (fun vs H Q E ⟨W, B, a, ns, j, e, _⟩ => by rw [e]; rfl) fun cdv A outer s H vs Q E hr ⟨W, B, a, ns, j, e, o, hs, hj, q⟩ => by
    refine ⟨_, hbody B a ns hs cdv A outer s H E hr, W, ⟨H, fun a => H a ≠ none⟩, _, fun l => ∃ x y : Int, l = [.int x, .int y] ∧ 0 ≤ x ∧ 0 ≤ y ∧ y < 4294967296, ?_, hd a ns j _ hj fun x y a b c => ⟨x, y, rfl, a, b, c⟩, fun p H' xs l e hp hx i ⟨u, v, el, a, b, c⟩ => ?_⟩
    · have e2 : L2.start N vs = some (.ref a) :: ([V.int (j : Int)].map some ++ List.replicate (N.length - 2) none) := by
        unfold L2.start
        rw [e]
        rfl
      rw [e2]
      exact st_startP (ds := [.int (j : Int)]) o (.cons (.int _) .nil)
    · subst el
      have hx2 : xs = [V.int u, V.int v] := by
        cases i with
        | cons a b =>
          cases b with
          | cons b c =>
            cases c
            cases a
            cases b
            rfl
      subst hx2
      exact q p H' u v ⟨fun b o q _ => e.1 b o q fun z => z, trivial⟩ hp hx a b c
/-- law's promise: True for every script of at most 63 ints -/
def spLaw (K : PySem.W.Frag) : Sp := fun vs H Q _ => ∃ (a : Addr) (ns : List Int), vs = [.ref a] ∧ SqL K H a (ns.map V.int) ∧ ns.length ≤ 63 ∧ ∀ H', Q (.bl true) H'
open Classical in
theorem fn_okLaw {d : Addr → List Int → DS} (F : Fun K x qual st f fd) (S : FnScope N ["script"] (defScope st))
    (hbody : ∀ (B : Hp) (a : Addr) (ns : List Int), SqL K B a (ns.map V.int) → ∀ (cdv : Value) (A : Around) (outer : List Env) (s : Shared) (H : Hp) (E : XK), Room k (A.deeper (envOfC qual (defScope st) s.heap.objs.size f cdv)) → BSs (cxOf CX0 P w K mg base N qual (defScope st) f cdv A outer s H E).nox (mdL B) (defBody st) (d a ns))
    (hd : ∀ (a : Addr) (ns : List Int), ns.length ≤ 63 → d a ns (.hd a :: List.replicate (N.length - 1) .no) { nx := fun _ => False, rt := fun x => x = .bool true }) :
    FnOk P w K mg base CX0 (k + 1) f fd ["script"] (spLaw K) :=
  F.ok S (fun vs H Q E ⟨a, ns, e, _⟩ => by rw [e]; rfl) fun cdv A outer s H vs Q E hr ⟨a, ns, e, hs, hl, q⟩ => by
    let B : Hp := fun b => if b = a then H a else none
    have hB : SqL K B a (ns.map V.int) := by
      have e : B a = H a := if_pos rfl
      rcases hs with (h | ⟨o, h⟩) | h
      · exact .inl (.inl (e.trans h))
      · exact .inl (.inr ⟨o, e.trans h⟩)
      · exact .inr h
    have oB : Same B H := fun b u z => by
      have z' : (if b = a then H a else none) = some u := z
      by_cases y : b = a
      · rw [if_pos y] at z'
        rw [y]
        exact z'
      · rw [if_neg y] at z'
        cases z'
    have o : Ok (mdL B) (fun _ => False) H := ⟨trivial, fun _ z => z.elim, fun _ z => z.elim, oB, fun _ z => z.elim⟩
    refine ⟨_, hbody B a ns hB cdv A outer s H E hr, fun _ => False, ⟨H, fun a => H a ≠ none⟩, _, _, ?_, hd a ns hl, ?_⟩
    · have e2 : L2.start N vs = some (.ref a) :: (([] : List V).map some ++ List.replicate (N.length - 1) none) := by
        unfold L2.start
        rw [e]
        rfl
      rw [e2]
      exact st_startP (ds := []) o .nil
    · exact ⟨fun _ _ _ _ z => z.elim, fun v H' x e i z => by
        subst z
        cases i
        exact q H', fun _ _ _ _ z => z.elim, fun _ _ _ _ z => z.elim⟩
end
/-! ### pot = a new pot -/
section
variable {B : Hp} {W : Addr → Prop} {b : Bs} {p : Addr}
theorem StIs.outL {H : Hp} {σ : L2.St} {ρ : List Sl} (hb : b.H p = none) (bB : Same B b.H) (dB : ∀ a, W a → B a = none) (S : StIs K (mdP p) (fun a => W a ∨ a = p) b H σ ρ) : StIs K (mdL B) W b H σ ρ := by
  have mo : Same (era (fun a => (W a ∨ a = p) ∨ Ow σ ρ a) H) (era (fun a => W a ∨ Ow σ ρ a) H) := era_mono (fun _ _ y _ => y) fun a z => z.elim (fun z => .inl (.inl z)) .inr
  have kp : ∀ c o, b.H c = some o → H c = some o := fun c o e => S.evo.1 c o e fun (z : c = p) => by
    rw [z, hb] at e
    cases e
  refine ⟨⟨trivial, fun _ z => z.elim, fun a z => S.ok.tr a (.inl z), fun c o e => kp c o (bB c o e), dB⟩, ⟨fun c o e _ => kp c o e, trivial⟩, S.keep, S.sub, bB, S.env.mono mo, fun i l h => ?_, S.inj⟩
  obtain ⟨a, xs, e1, w1, b1, x1, i1⟩ := S.own i l h
  exact ⟨a, xs, e1, fun z => w1 (.inl z), b1, x1, i1.up mo⟩
theorem Good.outL {E : DE} {D : Ends} (hb : b.H p = none) (bB : Same B b.H) (dB : ∀ a, W a → B a = none) (G : Good K (mdL B) W b E D) : Good K (mdP p) (fun a => W a ∨ a = p) b E D :=
  ⟨fun σ H ρ S q => G.nx _ _ _ (S.outL hb bB dB) q, fun v H x e i q => G.rt v H x ⟨fun c o h _ => e.1 c o h fun (z : c = p) => (by
    rw [z, hb] at h
    cases h), trivial⟩ (i.up (era_mono (fun _ _ y _ => y) fun _ z => .inl z)) q, fun σ H ρ S q => G.bk _ _ _ (S.outL hb bB dB) q, fun σ H ρ S q => G.ct _ _ _ (S.outL hb bB dB) q⟩
end
theorem ss_potL {B : Hp} {e : Expr} {rest : List Stmt} {pos pos' : Pos} {x : Str} {i : Nat} {df : TDA} {dr : Addr → DS} (hN : X.N.Nodup) (hi : X.N[i]? = some x) (hx : Loc X.env.scope x) (he : BF X (mdL B) e df) (hr : ∀ p, BSs X (mdP p) rest (dr p))
    (hs : swapsWith e (some (.Name x pos')) pos.line X.env = pure false := by rfl) (hf : X.fn x = true ∨ X.env.scope.names.lookup x = some .local := by first | exact .inl rfl | exact .inr rfl | assumption) :
    BSs X (mdL B) (.Assign [.Name x pos'] e pos :: rest) (dPot i df dr) := pssw (pss_cons (ps_set hN hi hx (pe_ex (T := fun W => tF X.K (mdL B) W df) he) hs hf) (pss_ex (T := fun p => tS X.K (mdP p) (dr p)) hr)) fun D σ H ⟨W, b, ρ, E, S, ⟨⟨no, hi⟩, h⟩, G⟩ =>
  ⟨W, _, _, S.ok, S.vis, h, fun p H1 xs l e1 hp hx i1 ⟨u, v, el, hb, h1⟩ => by
    subst el
    have hx2 : xs = [V.int u, V.int v] := by
      cases i1 with
      | cons a b =>
        cases b with
        | cons b c =>
          cases c
          cases a
          cases b
          rfl
    subst hx2
    obtain ⟨nW, nO, nb⟩ := S.new hp
    have no1 : ∀ a, ¬ Ow (σ.set i (some (.ref p))) (ρ.set i (.hd p)) a := fun a => noOw_no (noOw_set no)
    have S1 := S.step e1
    have notOw : ∀ (k : Nat) (l : List PyData), (ρ.set i (.hd p))[k]? ≠ some (.ow l) := fun k l h => by
      have := noOw_set (i := i) (p := p) no
      unfold noOw at this
      rw [List.all_eq_true] at this
      have := this _ (List.mem_of_getElem? h)
      simp [isOw] at this
    refine ⟨p, fun a => W a ∨ a = p, b, ρ.set i (.hd p), E, ⟨⟨⟨u, v, hx, hb⟩, fun a z => .inr z, fun a z => z.elim (S1.ok.tr a) fun z => (by rw [z, hx]; simp), none_same, fun _ _ => rfl⟩, ⟨fun c o e _ => S1.evo.1 c o e fun z => z, ⟨u, v, hx, hb⟩⟩, S1.keep, S1.sub, none_same, ?_, fun k l h => absurd h (notOw k l), fun k k' l l' a h => absurd h (notOw k l)⟩, h1 p, G.outL nb S.bB S.ok.dB⟩
    rw [List.map_set]
    have mo : Same (era (fun a => W a ∨ Ow σ ρ a) H) (era (fun a => (W a ∨ a = p) ∨ Ow (σ.set i (some (.ref p))) (ρ.set i (.hd p)) a) H1) := fun c o q => by
      obtain ⟨q1, q2⟩ := era_to q
      refine era_of (e1.1 c o q1 fun z => z) fun z => ?_
      rcases z with (z | z) | z
      · exact q2 (.inl z)
      · rw [z, hp] at q1
        cases q1
      · exact no1 c z
    exact (S.env.mono mo).set .hd i⟩
end TL

/-! Webs and counts in plain Lean: pairs, degrees, parts of a web, how many there are. -/
namespace HM
abbrev P2 := Nat × Nat
/-- how many of some pairs a person is in -/
def deg : List P2 → Nat → Nat
  | [], _ => 0
  | p :: l, q => (if p.1 = q then 1 else 0) + (if p.2 = q then 1 else 0) + deg l q
theorem deg_append (l r : List P2) (q : Nat) : deg (l ++ r) q = deg l q + deg r q := by
  induction l with
  | nil => simp [deg]
  | cons p l ih => simp [deg, ih]; omega
def degL (n : Nat) (l : List P2) : List Int := (List.range n).map fun q => (deg l q : Int)
/-- all pairs of n persons -/
def allP (n : Nat) : List P2 := (List.range n).flatMap fun a => (List.range (n - (a + 1))).map fun i => (a, a + 1 + i)
def okP (n : Nat) (p : P2) : Prop := p.1 < p.2 ∧ p.2 < n
theorem mem_allP {n : Nat} {p : P2} : p ∈ allP n ↔ okP n p := by
  unfold allP okP
  rw [List.mem_flatMap]
  constructor
  · rintro ⟨a, ha, h⟩
    obtain ⟨i, hi, rfl⟩ := List.mem_map.mp h
    rw [List.mem_range] at ha hi
    constructor <;> simp <;> omega
  · rintro ⟨h1, h2⟩
    refine ⟨p.1, List.mem_range.mpr (by omega), List.mem_map.mpr ⟨p.2 - (p.1 + 1), List.mem_range.mpr (by omega), ?_⟩⟩
    apply Prod.ext
    · rfl
    · show p.1 + 1 + (p.2 - (p.1 + 1)) = p.2
      omega
/-- smaller first, then second -/
def ltP (p q : P2) : Prop := p.1 < q.1 ∨ (p.1 = q.1 ∧ p.2 < q.2)
theorem ltP_trans {p q r : P2} (a : ltP p q) (b : ltP q r) : ltP p r := by
  unfold ltP at *
  omega
theorem ltP_irrefl (p : P2) : ¬ ltP p p := by unfold ltP; omega
def rising (l : List P2) : Prop := l.Pairwise ltP
theorem rising_nodup {l : List P2} (h : rising l) : l.Nodup := h.imp fun {a b} q e => by rw [e] at q; exact ltP_irrefl b q
theorem allP_rising (n : Nat) : rising (allP n) := by
  unfold rising allP
  rw [List.flatMap_def, List.pairwise_flatten]
  constructor
  · intro l hl
    obtain ⟨a, _, rfl⟩ := List.mem_map.mp hl
    rw [List.pairwise_map]
    exact List.pairwise_lt_range.imp fun {i j} h => .inr ⟨rfl, by show a + 1 + i < a + 1 + j; omega⟩
  · rw [List.pairwise_map]
    refine List.pairwise_lt_range.imp fun {a b} h x hx y hy => ?_
    obtain ⟨i, _, rfl⟩ := List.mem_map.mp hx
    obtain ⟨j, _, rfl⟩ := List.mem_map.mp hy
    exact .inl h
theorem rising_filter {l : List P2} (h : rising l) (q : P2 → Bool) : rising (l.filter q) := List.Pairwise.filter q h

/-! ### sublists, counted -/
def subs {α : Type} : List α → List (List α)
  | [] => [[]]
  | x :: l => (subs l).map (x :: ·) ++ subs l
theorem mem_subs {α : Type} {l s : List α} : s ∈ subs l ↔ s.Sublist l := by
  induction l generalizing s with
  | nil => simp [subs]
  | cons x l ih =>
    rw [subs, List.mem_append, List.mem_map]
    constructor
    · rintro (⟨t, ht, rfl⟩ | h)
      · exact (ih.mp ht).cons_cons x
      · exact (ih.mp h).cons x
    · intro h
      cases h with
      | cons _ h => exact .inr (ih.mpr h)
      | cons_cons _ h => exact .inl ⟨_, ih.mpr h, rfl⟩
theorem subs_nodup {α : Type} {l : List α} (h : l.Nodup) : (subs l).Nodup := by
  induction l with
  | nil => simp [subs]
  | cons x l ih =>
    obtain ⟨n1, n2⟩ := List.nodup_cons.mp h
    rw [subs, List.nodup_append]
    refine ⟨?_, ih n2, ?_⟩
    · exact List.Pairwise.map _ (fun a b hab e => hab (List.cons.inj e).2) (ih n2)
    · intro a ha b hb e
      obtain ⟨t, _, rfl⟩ := List.mem_map.mp ha
      rw [← e] at hb
      exact n1 ((mem_subs.mp hb).subset (List.mem_cons_self ..))
/-- a part has just the counts -/
def meets (n : Nat) (f : Nat → Int) (s : List P2) : Prop := ∀ q, q < n → (deg s q : Int) = f q
instance (n : Nat) (f : Nat → Int) (s : List P2) : Decidable (meets n f s) := Nat.decidableBallLT n _
/-- a part of a web with just the counts -/
def Sol (n : Nat) (E : List P2) (f : Nat → Int) (s : List P2) : Prop := s.Sublist E ∧ meets n f s
/-- how many of them -/
def cnt (n : Nat) (E : List P2) (f : Nat → Int) : Nat := ((subs E).filter fun s => decide (meets n f s)).length
/-- what is left behind a pair -/
def less (f : Nat → Int) (p : P2) (q : Nat) : Int := f q - (if p.1 = q then 1 else 0) - (if p.2 = q then 1 else 0)
theorem meets_cons {n : Nat} {f : Nat → Int} {p : P2} {s : List P2} : meets n f (p :: s) ↔ meets n (less f p) s := by
  unfold meets less
  constructor <;> intro h q hq <;> have := h q hq <;> simp only [deg, Int.natCast_add] at * <;> (by_cases a : p.1 = q <;> by_cases b : p.2 = q <;> simp [a, b] at * <;> omega)
theorem cnt_cons (n : Nat) (p : P2) (E : List P2) (f : Nat → Int) : cnt n (p :: E) f = cnt n E (less f p) + cnt n E f := by
  unfold cnt
  rw [subs, List.filter_append, List.length_append, List.filter_map, List.length_map]
  congr 1
  congr 1
  apply List.filter_congr
  intro s _
  exact decide_eq_decide.mpr meets_cons
theorem meets_congr {n : Nat} {f g : Nat → Int} (h : ∀ q, q < n → f q = g q) (s : List P2) : meets n f s ↔ meets n g s := by
  unfold meets
  constructor <;> intro k q hq
  · rw [← h q hq]; exact k q hq
  · rw [h q hq]; exact k q hq
theorem cnt_congr {n : Nat} {f g : Nat → Int} (E : List P2) (h : ∀ q, q < n → f q = g q) : cnt n E f = cnt n E g := by
  unfold cnt
  congr 1
  apply List.filter_congr
  intro s _
  exact decide_eq_decide.mpr (meets_congr h s)
theorem less_comm (f : Nat → Int) (p r : P2) : less (less f p) r = less (less f r) p := by
  funext q
  unfold less
  omega
theorem cnt_perm {n : Nat} {E E' : List P2} (h : E.Perm E') : ∀ f : Nat → Int, cnt n E f = cnt n E' f := by
  induction h with
  | nil => intro f; rfl
  | cons x _ ih => intro f; rw [cnt_cons, cnt_cons, ih, ih]
  | swap x y l =>
    intro f
    rw [cnt_cons, cnt_cons, cnt_cons, cnt_cons, cnt_cons, cnt_cons, less_comm]
    omega
  | trans _ _ ih1 ih2 => intro f; rw [ih1, ih2]
theorem cnt_pos {n : Nat} {E : List P2} {f : Nat → Int} : 0 < cnt n E f ↔ ∃ s, Sol n E f s := by
  unfold cnt Sol
  rw [List.length_pos_iff_exists_mem]
  constructor
  · rintro ⟨s, hs⟩
    obtain ⟨h1, h2⟩ := List.mem_filter.mp hs
    exact ⟨s, mem_subs.mp h1, by simpa using h2⟩
  · rintro ⟨s, h1, h2⟩
    exact ⟨s, List.mem_filter.mpr ⟨mem_subs.mpr h1, by simpa using h2⟩⟩
/-- where there is just one, two of them are one -/
theorem cnt_one {n : Nat} {E : List P2} {f : Nat → Int} (h : cnt n E f = 1) {s t : List P2} (hs : Sol n E f s) (ht : Sol n E f t) : s = t := by
  unfold cnt at h
  obtain ⟨u, hu⟩ := List.length_eq_one_iff.mp h
  have a : s ∈ (subs E).filter fun s => decide (meets n f s) := List.mem_filter.mpr ⟨mem_subs.mpr hs.1, by simpa using hs.2⟩
  have b : t ∈ (subs E).filter fun s => decide (meets n f s) := List.mem_filter.mpr ⟨mem_subs.mpr ht.1, by simpa using ht.2⟩
  rw [hu, List.mem_singleton] at a b
  rw [a, b]
theorem cnt_neg {n : Nat} {E : List P2} {f : Nat → Int} {q : Nat} (hq : q < n) (h : f q < 0) : cnt n E f = 0 := by
  cases e : cnt n E f with
  | zero => rfl
  | succ k =>
    obtain ⟨s, _, h2⟩ := cnt_pos.mp (show 0 < cnt n E f by omega)
    have := h2 q hq
    omega
end HM

/-! Person by person: what each takes of the later ones. -/
namespace HM
def takenL (left : List Int) (p : Nat) (c : List Nat) : List Int := c.foldl (fun l q => l.set q (l.getD q 0 - 1)) (left.set p (left.getD p 0 - c.length))
def okL (l : List Int) : Bool := l.all fun x => decide (0 ≤ x)
def stepsF (cs : List (List Nat)) (p : Nat) (left : List Int) : List (List Nat × List Int) := (cs.map fun c => (c, takenL left p c)).filter fun s => okL s.2
def maxI : List Int → Int
  | [] => 0
  | x :: r => r.foldl max x
def mostF : List (List (List Nat)) → Nat → List Int → Int
  | [], _, _ => 0
  | cs :: Ls, p, left => maxI ((stepsF cs p left).map fun s => (s.1.length : Int) + mostF Ls (p + 1) s.2)
def manyF : List (List (List Nat)) → Nat → List Int → Nat
  | [], _, _ => 1
  | cs :: Ls, p, left => (((stepsF cs p left).filter fun s => decide (s.2.getD p 0 = 0)).map fun s => manyF Ls (p + 1) s.2).sum
/-- the steps that the first part goes by -/
def dueF (cs : List (List Nat)) (Ls : List (List (List Nat))) (p : Nat) (left : List Int) : List (List Nat × List Int) := (stepsF cs p left).filter fun s => decide ((s.1.length : Int) + mostF Ls (p + 1) s.2 = mostF (cs :: Ls) p left)
def firstF : List (List (List Nat)) → Nat → List Int → List P2
  | [], _, _ => []
  | cs :: Ls, p, left => match dueF cs Ls p left with
    | [] => []
    | s :: _ => s.1.map (fun q => (p, q)) ++ firstF Ls (p + 1) s.2

theorem getD_set (l : List Int) (i q : Nat) (a : Int) : (l.set i a).getD q 0 = if i = q ∧ q < l.length then a else l.getD q 0 := by
  rw [List.getD_eq_getElem?_getD, List.getD_eq_getElem?_getD]
  by_cases e : i = q
  · subst e
    by_cases h : i < l.length
    · rw [List.getElem?_set_self h, if_pos ⟨rfl, h⟩]
      rfl
    · rw [if_neg (fun z => h z.2), List.getElem?_eq_none (by rw [List.length_set]; omega), List.getElem?_eq_none (by omega)]
  · rw [List.getElem?_set_ne e, if_neg (fun z => e z.1)]
theorem takenL_len (left : List Int) (p : Nat) (c : List Nat) : (takenL left p c).length = left.length := by
  unfold takenL
  have : ∀ (c : List Nat) (l : List Int), (c.foldl (fun l q => l.set q (l.getD q 0 - 1)) l).length = l.length := by
    intro c
    induction c with
    | nil => intro l; rfl
    | cons x c ih => intro l; rw [List.foldl_cons, ih, List.length_set]
  rw [this, List.length_set]
theorem deg_row (p : Nat) (c : List Nat) (q : Nat) : deg (c.map fun x => (p, x)) q = (if p = q then c.length else 0) + (c.filter fun x => decide (x = q)).length := by
  induction c with
  | nil => simp [deg]
  | cons x c ih =>
    rw [List.map_cons, deg, ih, List.filter_cons]
    by_cases a : p = q <;> by_cases b : x = q <;> simp [a, b] <;> omega
theorem row_low {p q : Nat} {c : List Nat} (h : ∀ x, x ∈ c → p < x) (hq : q < p) : deg (c.map fun x => (p, x)) q = 0 := by
  rw [deg_row, if_neg (by omega), List.length_eq_zero_iff.mpr]
  rw [List.filter_eq_nil_iff]
  intro x hx
  have := h x hx
  simp
  omega
theorem takenL_at (left : List Int) (p : Nat) (c : List Nat) (q : Nat) (hq : q < left.length) : (takenL left p c).getD q 0 = left.getD q 0 - (deg (c.map fun x => (p, x)) q : Nat) := by
  have key : ∀ (c : List Nat) (l : List Int), q < l.length → (c.foldl (fun l q => l.set q (l.getD q 0 - 1)) l).getD q 0 = l.getD q 0 - ((c.filter fun x => decide (x = q)).length : Nat) := by
    intro c
    induction c with
    | nil => intro l _; simp
    | cons x c ih =>
      intro l hl
      rw [List.foldl_cons, ih _ (by rw [List.length_set]; exact hl), getD_set, List.filter_cons]
      by_cases b : x = q
      · subst b
        simp [hl]
        omega
      · simp [b]
  unfold takenL
  rw [key _ _ (by rw [List.length_set]; exact hq), getD_set, deg_row]
  by_cases a : p = q
  · subst a
    rw [if_pos ⟨rfl, hq⟩, if_pos rfl]
    omega
  · rw [if_neg (fun z => a z.1), if_neg a]
    omega
theorem okL_iff (l : List Int) : okL l = true ↔ ∀ q, q < l.length → 0 ≤ l.getD q 0 := by
  unfold okL
  rw [List.all_eq_true]
  constructor
  · intro h q hq
    rw [List.getD_eq_getElem?_getD, List.getElem?_eq_getElem hq]
    simpa using h _ (List.getElem_mem hq)
  · intro h x hx
    obtain ⟨q, hq, rfl⟩ := List.mem_iff_getElem.mp hx
    have := h q hq
    rw [List.getD_eq_getElem?_getD, List.getElem?_eq_getElem hq] at this
    simpa using this
theorem mem_steps {cs : List (List Nat)} {p : Nat} {left : List Int} {s : List Nat × List Int} : s ∈ stepsF cs p left ↔ s.1 ∈ cs ∧ s.2 = takenL left p s.1 ∧ okL s.2 = true := by
  unfold stepsF
  rw [List.mem_filter, List.mem_map]
  constructor
  · rintro ⟨⟨c, hc, rfl⟩, h⟩
    exact ⟨hc, rfl, h⟩
  · rintro ⟨h1, h2, h3⟩
    exact ⟨⟨s.1, h1, by rw [← h2]⟩, h3⟩

/-! ### only what stands from p on tells -/
structure Alike (p : Nat) (l r : List Int) : Prop where
  len : l.length = r.length
  at_ : ∀ q, p ≤ q → l.getD q 0 = r.getD q 0
  okl : ∀ q, q < p → 0 ≤ l.getD q 0
  okr : ∀ q, q < p → 0 ≤ r.getD q 0
theorem getD_out {l : List Int} {q : Nat} (h : l.length ≤ q) : l.getD q 0 = 0 := by
  rw [List.getD_eq_getElem?_getD, List.getElem?_eq_none h]
  rfl
theorem Alike.taken {p : Nat} {l r : List Int} (a : Alike p l r) {c : List Nat} (hc : ∀ x, x ∈ c → p < x) : okL (takenL l p c) = okL (takenL r p c) ∧ (takenL l p c).getD p 0 = (takenL r p c).getD p 0 ∧ (okL (takenL l p c) = true → Alike (p + 1) (takenL l p c) (takenL r p c)) := by
  have low : ∀ q, q < p → deg (c.map fun x => (p, x)) q = 0 := fun q hq => by
    rw [deg_row, if_neg (by omega)]
    rw [List.length_eq_zero_iff.mpr]
    rw [List.filter_eq_nil_iff]
    intro x hx
    have := hc x hx
    simp
    omega
  have same : ∀ q, p ≤ q → (takenL l p c).getD q 0 = (takenL r p c).getD q 0 := fun q hq => by
    by_cases h : q < l.length
    · rw [takenL_at _ _ _ _ h, takenL_at _ _ _ _ (by rw [← a.len]; exact h), a.at_ q hq]
    · rw [getD_out (by rw [takenL_len]; omega), getD_out (by rw [takenL_len, ← a.len]; omega)]
  have pl : ∀ q, q < p → 0 ≤ (takenL l p c).getD q 0 := fun q hq => by
    by_cases h : q < l.length
    · rw [takenL_at _ _ _ _ h, low q hq]
      have := a.okl q hq
      simpa using this
    · rw [getD_out (by rw [takenL_len]; omega)]
      exact Int.le_refl _
  have pr : ∀ q, q < p → 0 ≤ (takenL r p c).getD q 0 := fun q hq => by
    by_cases h : q < r.length
    · rw [takenL_at _ _ _ _ h, low q hq]
      have := a.okr q hq
      simpa using this
    · rw [getD_out (by rw [takenL_len]; omega)]
      exact Int.le_refl _
  have e : okL (takenL l p c) = okL (takenL r p c) := by
    rw [Bool.eq_iff_iff, okL_iff, okL_iff]
    constructor
    · intro h q hq
      by_cases z : q < p
      · exact pr q z
      · rw [← same q (by omega)]
        exact h q (by rw [takenL_len] at *; rw [a.len]; exact hq)
    · intro h q hq
      by_cases z : q < p
      · exact pl q z
      · rw [same q (by omega)]
        exact h q (by rw [takenL_len] at *; rw [← a.len]; exact hq)
  refine ⟨e, same p (Nat.le_refl p), fun h => ⟨by rw [takenL_len, takenL_len, a.len], fun q hq => same q (by omega), fun q hq => ?_, fun q hq => ?_⟩⟩
  · by_cases z : q < (takenL l p c).length
    · exact (okL_iff _).mp h q z
    · rw [getD_out (by omega)]
      exact Int.le_refl _
  · by_cases z : q < (takenL r p c).length
    · exact (okL_iff _).mp (by rw [← e]; exact h) q z
    · rw [getD_out (by omega)]
      exact Int.le_refl _
/-- choices of persons behind p -/
def Late : Nat → List (List (List Nat)) → Prop
  | _, [] => True
  | p, cs :: Ls => (∀ c, c ∈ cs → ∀ x, x ∈ c → p < x) ∧ Late (p + 1) Ls
theorem steps_alike {p : Nat} {l r : List Int} (a : Alike p l r) {cs : List (List Nat)} (hc : ∀ c, c ∈ cs → ∀ x, x ∈ c → p < x) {β : Type} (F : List Nat × List Int → β) (hF : ∀ c l' r', Alike (p + 1) l' r' → F (c, l') = F (c, r')) (g : List Nat × List Int → Bool) (hg : ∀ c l' r', Alike (p + 1) l' r' → l'.getD p 0 = r'.getD p 0 → g (c, l') = g (c, r')) :
    ((stepsF cs p l).filter g).map F = ((stepsF cs p r).filter g).map F := by
  induction cs with
  | nil => rfl
  | cons c cs ih =>
    have ih := ih fun c' h' => hc c' (List.mem_cons_of_mem _ h')
    obtain ⟨e, ep, h⟩ := a.taken (hc c (List.mem_cons_self ..))
    unfold stepsF at *
    rw [List.map_cons, List.map_cons, List.filter_cons, List.filter_cons]
    cases ek : okL (takenL l p c) with
    | false =>
      have ek2 : okL (takenL r p c) = false := by rw [← e]; exact ek
      simp only [ek, ek2]
      exact ih
    | true =>
      have ek2 : okL (takenL r p c) = true := by rw [← e]; exact ek
      have al := h ek
      simp only [ek, ek2, if_true]
      rw [List.filter_cons, List.filter_cons, hg c _ _ al ep]
      cases g (c, takenL r p c) with
      | false => exact ih
      | true => rw [if_pos rfl, if_pos rfl, List.map_cons, List.map_cons, hF c _ _ al, ih]
theorem filter_true {α : Type} (l : List α) : l.filter (fun _ => true) = l := by
  induction l with
  | nil => rfl
  | cons x l ih => rw [List.filter_cons_of_pos rfl, ih]
theorem most_alike : ∀ (Ls : List (List (List Nat))) (p : Nat) (l r : List Int), Late p Ls → Alike p l r → mostF Ls p l = mostF Ls p r
  | [], _, _, _, _, _ => rfl
  | cs :: Ls, p, l, r, hl, a => by
    unfold mostF
    have := steps_alike a hl.1 (fun s => (s.1.length : Int) + mostF Ls (p + 1) s.2) (fun c l' r' al => by show (c.length : Int) + mostF Ls (p + 1) l' = (c.length : Int) + mostF Ls (p + 1) r'; rw [most_alike Ls (p + 1) l' r' hl.2 al]) (fun _ => true) (fun _ _ _ _ _ => rfl)
    rw [filter_true, filter_true] at this
    rw [this]
theorem many_alike : ∀ (Ls : List (List (List Nat))) (p : Nat) (l r : List Int), Late p Ls → Alike p l r → manyF Ls p l = manyF Ls p r
  | [], _, _, _, _, _ => rfl
  | cs :: Ls, p, l, r, hl, a => by
    unfold manyF
    rw [steps_alike a hl.1 (fun s => manyF Ls (p + 1) s.2) (fun c l' r' al => many_alike Ls (p + 1) l' r' hl.2 al) (fun s => decide (s.2.getD p 0 = 0)) (fun c l' r' al e => by show decide (l'.getD p 0 = 0) = decide (r'.getD p 0 = 0); rw [e])]

/-! ### what they tell of the parts of a web -/
def flatE : Nat → List (List Nat) → List P2
  | _, [] => []
  | p, l :: ls => l.map (fun q => (p, q)) ++ flatE (p + 1) ls
theorem cnt_block (n : Nat) (p : Nat) (R : List P2) : ∀ (l : List Nat) (f : Nat → Int), cnt n (l.map (fun q => (p, q)) ++ R) f = ((subs l).map fun c => cnt n R fun q => f q - (deg (c.map fun x => (p, x)) q : Nat)).sum
  | [], f => by
    simp only [List.map_nil, List.nil_append, subs, List.map_cons, List.sum_cons, List.sum_nil, deg]
    rw [cnt_congr R fun q _ => show f q = f q - ((0 : Nat) : Int) by simp]
    rfl
  | x :: l, f => by
    rw [List.map_cons, List.cons_append, cnt_cons, cnt_block n p R l, cnt_block n p R l, subs, List.map_append, List.sum_append, List.map_map]
    congr 2
    apply List.map_congr_left
    intro c _
    show cnt n R _ = cnt n R _
    apply cnt_congr
    intro q _
    rw [List.map_cons, deg]
    unfold less
    simp only [Int.natCast_add]
    by_cases a : p = q <;> by_cases b : x = q <;> simp [a, b] <;> omega
/-- the later ones of each person from p on -/
def Laters (n : Nat) : Nat → List (List Nat) → Prop
  | p, [] => p = n
  | p, l :: ls => p < n ∧ (∀ q, q ∈ l → p < q ∧ q < n) ∧ Laters n (p + 1) ls
theorem Laters.le {n : Nat} : ∀ {ls : List (List Nat)} {p : Nat}, Laters n p ls → p ≤ n
  | [], p, h => Nat.le_of_eq h
  | l :: ls, p, h => Nat.le_of_lt h.1
theorem flat_deg {n : Nat} : ∀ {ls : List (List Nat)} {p q : Nat}, Laters n p ls → q < p → ∀ s, s.Sublist (flatE p ls) → deg s q = 0
  | [], p, q, _, _, s, h => by
    rw [List.sublist_nil.mp h]
    rfl
  | l :: ls, p, q, hl, hq, s, h => by
    obtain ⟨a, b, e, h1, h2⟩ := List.sublist_append_iff.mp h
    rw [e, deg_append, flat_deg hl.2.2 (by omega) b h2]
    obtain ⟨c, hc, rfl⟩ := List.sublist_map_iff.mp h1
    rw [deg_row, if_neg (by omega)]
    rw [List.length_eq_zero_iff.mpr]
    rw [List.filter_eq_nil_iff]
    intro x hx
    have := (hl.2.1 x (hc.subset hx)).1
    simp
    omega
theorem sum_filter {α : Type} (g : α → Bool) (F G : α → Nat) : ∀ l : List α, (∀ x, x ∈ l → g x = true → F x = G x) → (∀ x, x ∈ l → g x = false → G x = 0) → ((l.filter g).map F).sum = (l.map G).sum
  | [], _, _ => rfl
  | x :: l, h1, h2 => by
    have ih := sum_filter g F G l (fun y hy => h1 y (List.mem_cons_of_mem _ hy)) (fun y hy => h2 y (List.mem_cons_of_mem _ hy))
    rw [List.filter_cons, List.map_cons, List.sum_cons]
    cases e : g x with
    | true => rw [if_pos rfl, List.map_cons, List.sum_cons, ih, h1 x (List.mem_cons_self ..) e]
    | false =>
      rw [if_neg Bool.false_ne_true, ih, h2 x (List.mem_cons_self ..) e]
      omega
/-- counts as a function; nought below p -/
def fromP (p : Nat) (left : List Int) (q : Nat) : Int := if q < p then 0 else left.getD q 0
theorem many_cnt {n : Nat} : ∀ (ls : List (List Nat)) (p : Nat) (left : List Int), Laters n p ls → left.length = n → (∀ q, q < n → 0 ≤ left.getD q 0) → manyF (ls.map subs) p left = cnt n (flatE p ls) (fromP p left)
  | [], p, left, hl, hn, h0 => by
    have hp : p = n := hl
    subst hp
    have : meets p (fromP p left) [] := fun q hq => by
      unfold fromP
      rw [if_pos hq]
      rfl
    unfold cnt flatE
    simp only [subs, List.filter_cons, List.filter_nil, decide_eq_true this, if_true]
    rfl
  | l :: ls, p, left, hl, hn, h0 => by
    unfold flatE
    rw [cnt_block, List.map_cons, manyF]
    unfold stepsF
    rw [List.filter_filter, List.filter_map, List.map_map]
    refine sum_filter _ _ _ _ (fun c hc hg => ?_) (fun c hc hg => ?_)
    · have hg' : (takenL left p c).getD p 0 = 0 ∧ okL (takenL left p c) = true := by simpa using hg
      have len := takenL_len left p c
      show manyF (ls.map subs) (p + 1) (takenL left p c) = _
      rw [many_cnt ls (p + 1) _ hl.2.2 (by rw [len, hn]) (fun q hq => (okL_iff _).mp hg'.2 q (by rw [len, hn]; exact hq))]
      apply cnt_congr
      intro q hq
      unfold fromP
      have cl : ∀ x, x ∈ c → p < x := fun x hx => (hl.2.1 x ((mem_subs.mp hc).subset hx)).1
      by_cases z : q < p
      · have low : deg (c.map fun x => (p, x)) q = 0 := row_low cl z
        rw [if_pos (by omega), if_pos z, low]
        rfl
      · have e1 := takenL_at left p c q (by rw [hn]; exact hq)
        by_cases y : q < p + 1
        · have e : q = p := by omega
          subst e
          rw [if_pos y, if_neg z, ← e1, hg'.1]
        · rw [if_neg y, if_neg z, e1]
    · have cl : ∀ x, x ∈ c → p < x := fun x hx => (hl.2.1 x ((mem_subs.mp hc).subset hx)).1
      have atq : ∀ q, p ≤ q → q < n → fromP p left q - (deg (c.map fun x => (p, x)) q : Nat) = (takenL left p c).getD q 0 := fun q h1 h2 => by
        unfold fromP
        rw [if_neg (by omega), takenL_at left p c q (by rw [hn]; exact h2)]
      cases eo : okL (takenL left p c) with
      | false =>
        have : ∃ q, q < n ∧ (takenL left p c).getD q 0 < 0 := Classical.byContradiction fun hne => by
          have : okL (takenL left p c) = true := (okL_iff _).mpr fun q hq => by
            rw [takenL_len, hn] at hq
            exact Int.not_lt.mp fun z => hne ⟨q, hq, z⟩
          rw [eo] at this
          cases this
        obtain ⟨q, hq, hneg⟩ := this
        have hpq : p ≤ q := Nat.not_lt.mp fun z => by
          rw [takenL_at left p c q (by rw [hn]; exact hq), row_low cl z] at hneg
          have := h0 q hq
          omega
        exact cnt_neg hq (by rw [atq q hpq hq]; exact hneg)
      | true =>
        have hz : (takenL left p c).getD p 0 ≠ 0 := fun z => by
          have : (decide ((takenL left p c).getD p 0 = 0) && okL (takenL left p c)) = true := by rw [z, eo]; rfl
          rw [show (decide ((takenL left p c).getD p 0 = 0) && okL (takenL left p c)) = false from hg] at this
          cases this
        cases e : cnt n (flatE (p + 1) ls) (fun q => fromP p left q - (deg (c.map fun x => (p, x)) q : Nat)) with
        | zero => rfl
        | succ k =>
          obtain ⟨s, h1, h2⟩ := cnt_pos.mp (show 0 < _ by rw [e]; exact Nat.succ_pos k)
          have h3 : (deg s p : Int) = fromP p left p - (deg (c.map fun x => (p, x)) p : Nat) := h2 p hl.1
          rw [flat_deg hl.2.2 (Nat.lt_succ_self p) s h1, atq p (Nat.le_refl p) hl.1] at h3
          exact absurd h3.symm hz

/-! ### the most pairs, the first part -/
theorem le_maxI : ∀ {l : List Int} {x : Int}, x ∈ l → x ≤ maxI l
  | [], _, h => absurd h List.not_mem_nil
  | y :: r, x, h => by
    have fold : ∀ (r : List Int) (a : Int), a ≤ r.foldl max a ∧ ∀ z, z ∈ r → z ≤ r.foldl max a := by
      intro r
      induction r with
      | nil => intro a; exact ⟨Int.le_refl _, fun z hz => absurd hz List.not_mem_nil⟩
      | cons b r ih =>
        intro a
        obtain ⟨h1, h2⟩ := ih (max a b)
        rw [List.foldl_cons]
        refine ⟨by omega, fun z hz => ?_⟩
        rcases List.mem_cons.mp hz with e | e
        · rw [e]; omega
        · exact h2 z e
    obtain ⟨h1, h2⟩ := fold r y
    rcases List.mem_cons.mp h with e | e
    · rw [e]; exact h1
    · exact h2 x e
theorem maxI_mem : ∀ {l : List Int}, l ≠ [] → maxI l ∈ l
  | [], h => absurd rfl h
  | y :: r, _ => by
    have fold : ∀ (r : List Int) (a : Int), r.foldl max a = a ∨ r.foldl max a ∈ r := by
      intro r
      induction r with
      | nil => intro a; exact .inl rfl
      | cons b r ih =>
        intro a
        rw [List.foldl_cons]
        rcases ih (max a b) with h | h
        · rw [h]
          by_cases z : a ≤ b
          · exact .inr (by rw [Int.max_eq_right z]; exact List.mem_cons_self ..)
          · exact .inl (Int.max_eq_left (by omega))
        · exact .inr (List.mem_cons_of_mem _ h)
    show r.foldl max y ∈ y :: r
    rcases fold r y with h | h
    · rw [h]; exact List.mem_cons_self ..
    · exact List.mem_cons_of_mem _ h
/-- a part of at most the counts -/
def under (p n : Nat) (left : List Int) (s : List P2) : Prop := ∀ q, p ≤ q → q < n → (deg s q : Int) ≤ left.getD q 0
theorem most_le {n : Nat} : ∀ (ls : List (List Nat)) (p : Nat) (left : List Int), Laters n p ls → left.length = n → (∀ q, q < n → 0 ≤ left.getD q 0) → ∀ s, s.Sublist (flatE p ls) → under p n left s → (s.length : Int) ≤ mostF (ls.map subs) p left
  | [], p, left, hl, hn, h0, s, hs, hu => by
    rw [List.sublist_nil.mp hs]
    exact Int.le_refl _
  | l :: ls, p, left, hl, hn, h0, s, hs, hu => by
    obtain ⟨a, b, e, h1, h2⟩ := List.sublist_append_iff.mp hs
    obtain ⟨c, hc, rfl⟩ := List.sublist_map_iff.mp h1
    have cl : ∀ x, x ∈ c → p < x := fun x hx => (hl.2.1 x (hc.subset hx)).1
    have at_ : ∀ q, p ≤ q → q < n → (deg b q : Int) ≤ (takenL left p c).getD q 0 := fun q hq hqn => by
      have := hu q hq hqn
      rw [e, deg_append] at this
      rw [takenL_at left p c q (by rw [hn]; exact hqn)]
      omega
    have ok : okL (takenL left p c) = true := (okL_iff _).mpr fun q hq => by
      rw [takenL_len, hn] at hq
      by_cases z : q < p
      · rw [takenL_at left p c q (by rw [hn]; exact hq), row_low cl z]
        have := h0 q hq
        simpa using this
      · have := at_ q (by omega) hq
        omega
    have ih := most_le ls (p + 1) (takenL left p c) hl.2.2 (by rw [takenL_len, hn]) (fun q hq => (okL_iff _).mp ok q (by rw [takenL_len, hn]; exact hq)) b h2 fun q hq hqn => at_ q (by omega) hqn
    rw [List.map_cons, mostF]
    have m := le_maxI (List.mem_map.mpr ⟨(c, takenL left p c), mem_steps.mpr ⟨mem_subs.mpr hc, rfl, ok⟩, rfl⟩ : ((c.length : Int) + mostF (ls.map subs) (p + 1) (takenL left p c)) ∈ (stepsF (subs l) p left).map fun s => (s.1.length : Int) + mostF (ls.map subs) (p + 1) s.2)
    rw [e, List.length_append, List.length_map]
    omega
theorem steps_ne {l : List Nat} {p : Nat} {left : List Int} (h0 : okL left = true) : stepsF (subs l) p left ≠ [] := by
  have e : takenL left p [] = left := by
    unfold takenL
    rw [List.foldl_nil]
    apply List.ext_getElem (by rw [List.length_set])
    intro i h1 h2
    by_cases z : p = i
    · subst z
      rw [List.getElem_set_self, List.getD_eq_getElem?_getD, List.getElem?_eq_getElem h2]
      simp
    · rw [List.getElem_set_ne z]
  intro z
  have : (([] : List Nat), left) ∈ stepsF (subs l) p left := mem_steps.mpr ⟨mem_subs.mpr (List.nil_sublist l), e.symm, h0⟩
  rw [z] at this
  exact absurd this List.not_mem_nil
theorem dueF_ne {l : List Nat} {ls : List (List Nat)} {p : Nat} {left : List Int} (h0 : okL left = true) : dueF (subs l) (ls.map subs) p left ≠ [] := by
  have ne : ((stepsF (subs l) p left).map fun s => (s.1.length : Int) + mostF (ls.map subs) (p + 1) s.2) ≠ [] := fun z => steps_ne h0 (List.map_eq_nil_iff.mp z)
  have m := maxI_mem ne
  obtain ⟨s, hs, e⟩ := List.mem_map.mp m
  intro z
  have : s ∈ dueF (subs l) (ls.map subs) p left := by
    unfold dueF
    rw [List.mem_filter]
    exact ⟨hs, by rw [mostF]; exact decide_eq_true e⟩
  rw [z] at this
  exact absurd this List.not_mem_nil
theorem first_ok {n : Nat} : ∀ (ls : List (List Nat)) (p : Nat) (left : List Int), Laters n p ls → left.length = n → (∀ q, q < n → 0 ≤ left.getD q 0) →
    (firstF (ls.map subs) p left).Sublist (flatE p ls) ∧ under p n left (firstF (ls.map subs) p left) ∧ ((firstF (ls.map subs) p left).length : Int) = mostF (ls.map subs) p left
  | [], p, left, hl, hn, h0 => ⟨List.Sublist.refl _, fun q hq hqn => h0 q hqn, rfl⟩
  | l :: ls, p, left, hl, hn, h0 => by
    have ok : okL left = true := (okL_iff _).mpr fun q hq => h0 q (by rw [← hn]; exact hq)
    rw [List.map_cons, firstF]
    cases e : dueF (subs l) (ls.map subs) p left with
    | nil => exact absurd e (dueF_ne ok)
    | cons s r =>
      have hs : s ∈ dueF (subs l) (ls.map subs) p left := by rw [e]; exact List.mem_cons_self ..
      unfold dueF at hs
      obtain ⟨h1, h2⟩ := List.mem_filter.mp hs
      obtain ⟨m1, m2, m3⟩ := mem_steps.mp h1
      have hc := mem_subs.mp m1
      have len : s.2.length = n := by rw [m2, takenL_len, hn]
      obtain ⟨i1, i2, i3⟩ := first_ok ls (p + 1) s.2 hl.2.2 len (fun q hq => (okL_iff _).mp m3 q (by rw [len]; exact hq))
      refine ⟨?_, fun q hq hqn => ?_, ?_⟩
      · exact (hc.map _).append i1
      · rw [deg_append]
        have e2 : s.2.getD q 0 = left.getD q 0 - (deg (s.1.map fun x => (p, x)) q : Nat) := by rw [m2]; exact takenL_at left p s.1 q (by rw [hn]; exact hqn)
        by_cases z : p + 1 ≤ q
        · have := i2 q z hqn
          rw [Int.natCast_add]
          omega
        · have e3 : q = p := by omega
          subst e3
          rw [flat_deg hl.2.2 (Nat.lt_succ_self q) _ i1]
          have := (okL_iff _).mp m3 q (by rw [len]; exact hqn)
          simp only [Nat.add_zero]
          omega
      · have e4 : (s.1.length : Int) + mostF (ls.map subs) (p + 1) s.2 = mostF (subs l :: ls.map subs) p left := by simpa using h2
        rw [List.length_append, List.length_map, Int.natCast_add, i3]
        exact e4
end HM

/-! A web's parts as a whole. -/
namespace HM
def later (E : List P2) (p : Nat) : List Nat := (E.filter fun e => decide (e.1 = p)).map (·.2)
def lts (E : List P2) (n : Nat) : List (List Nat) := (List.range n).map (later E)
/-- the choices of each person -/
def chs (E : List P2) (n : Nat) : List (List (List Nat)) := (lts E n).map subs
theorem split_first {E : List P2} (h : rising E) (p : Nat) : (E.filter fun e => decide (p ≤ e.1)) = (E.filter fun e => decide (e.1 = p)) ++ E.filter fun e => decide (p + 1 ≤ e.1) := by
  induction E with
  | nil => rfl
  | cons x E ih =>
    obtain ⟨h1, h2⟩ := List.pairwise_cons.mp h
    have ih := ih h2
    rw [List.filter_cons, List.filter_cons, List.filter_cons, ih]
    by_cases a : x.1 = p
    · simp [a]
    · by_cases b : p ≤ x.1
      · have e : (E.filter fun e => decide (e.1 = p)) = [] := by
          rw [List.filter_eq_nil_iff]
          intro y hy
          have := h1 y hy
          unfold ltP at this
          simp
          omega
        have c : p + 1 ≤ x.1 := by omega
        simp [a, b, c, e]
      · have c : ¬ p + 1 ≤ x.1 := by omega
        simp [a, b, c]
theorem row_later (E : List P2) (p : Nat) : (later E p).map (fun q => (p, q)) = E.filter fun e => decide (e.1 = p) := by
  unfold later
  rw [List.map_map]
  induction E with
  | nil => rfl
  | cons x E ih =>
    rw [List.filter_cons]
    by_cases a : x.1 = p
    · rw [if_pos (decide_eq_true a), List.map_cons, ih]
      congr 1
      apply Prod.ext
      · exact a.symm
      · rfl
    · rw [if_neg (by simpa using a), ih]
theorem flat_later {n : Nat} {E : List P2} (h : rising E) (ho : ∀ e, e ∈ E → okP n e) : ∀ (k p : Nat), p + k = n → flatE p ((List.range' p k).map (later E)) = E.filter fun e => decide (p ≤ e.1)
  | 0, p, e => by
    simp only [List.range'_zero, List.map_nil, flatE]
    symm
    rw [List.filter_eq_nil_iff]
    intro x hx
    have := ho x hx
    unfold okP at this
    simp
    omega
  | k + 1, p, e => by
    rw [List.range'_succ, List.map_cons, flatE, flat_later h ho k (p + 1) (by omega), row_later, split_first h p]
theorem flat_all {n : Nat} {E : List P2} (h : rising E) (ho : ∀ e, e ∈ E → okP n e) : flatE 0 (lts E n) = E := by
  unfold lts
  rw [List.range_eq_range', flat_later h ho n 0 (by omega)]
  exact List.filter_eq_self.mpr fun x _ => by simp
theorem laters_from {n : Nat} {E : List P2} (ho : ∀ e, e ∈ E → okP n e) : ∀ (k p : Nat), p + k = n → Laters n p ((List.range' p k).map (later E))
  | 0, p, e => by
    show p = n
    omega
  | k + 1, p, e => by
    rw [List.range'_succ, List.map_cons]
    refine ⟨by omega, fun q hq => ?_, laters_from ho k (p + 1) (by omega)⟩
    unfold later at hq
    obtain ⟨x, hx, rfl⟩ := List.mem_map.mp hq
    obtain ⟨hx1, hx2⟩ := List.mem_filter.mp hx
    have := ho x hx1
    have e2 : x.1 = p := by simpa using hx2
    unfold okP at this
    omega
theorem laters_all {n : Nat} {E : List P2} (ho : ∀ e, e ∈ E → okP n e) : Laters n 0 (lts E n) := by
  unfold lts
  rw [List.range_eq_range']
  exact laters_from ho n 0 (by omega)
def lf (l : List Int) (q : Nat) : Int := l.getD q 0
theorem fromP_zero (l : List Int) : fromP 0 l = lf l := by
  funext q
  unfold fromP lf
  rw [if_neg (by omega)]
theorem many_all {n : Nat} {E : List P2} {l : List Int} (h : rising E) (ho : ∀ e, e ∈ E → okP n e) (hl : l.length = n) (h0 : okL l = true) : manyF (chs E n) 0 l = cnt n E (lf l) := by
  unfold chs
  rw [many_cnt (lts E n) 0 l (laters_all ho) hl (fun q hq => (okL_iff l).mp h0 q (by rw [hl]; exact hq)), flat_all h ho, fromP_zero]

/-! ### sums -/
theorem sum_deg {n : Nat} : ∀ {s : List P2}, (∀ e, e ∈ s → okP n e) → ((List.range n).map (deg s)).sum = 2 * s.length
  | [], _ => by
    have : ∀ l : List Nat, (l.map (deg [])).sum = 0 := by
      intro l
      induction l with
      | nil => rfl
      | cons x l ih => rw [List.map_cons, List.sum_cons, ih]; rfl
    rw [this]
    rfl
  | p :: s, h => by
    have ih := sum_deg (s := s) fun e he => h e (List.mem_cons_of_mem _ he)
    have hp := h p (List.mem_cons_self ..)
    unfold okP at hp
    have one : ∀ (n a : Nat), a < n → ((List.range n).map fun q => if a = q then 1 else 0).sum = 1 := by
      intro n
      induction n with
      | zero => intro a ha; omega
      | succ n ihn =>
        intro a ha
        rw [List.range_succ, List.map_append, List.sum_append]
        by_cases z : a < n
        · rw [ihn a z]
          simp
          omega
        · have e : a = n := by omega
          subst e
          have z : ((List.range a).map fun q => if a = q then 1 else 0) = (List.range a).map fun _ => 0 := List.map_congr_left fun q hq => if_neg fun e => by
            have := List.mem_range.mp hq
            omega
          rw [z]
          have : ∀ l : List Nat, (l.map fun _ => 0).sum = 0 := by
            intro l
            induction l with
            | nil => rfl
            | cons x l ih => rw [List.map_cons, List.sum_cons, ih]
          rw [this]
          simp
    have add : ∀ (f g h : Nat → Nat) (l : List Nat), (l.map fun q => f q + g q + h q).sum = (l.map f).sum + (l.map g).sum + (l.map h).sum := by
      intro f g h l
      induction l with
      | nil => rfl
      | cons x l ih => simp only [List.map_cons, List.sum_cons, ih]; omega
    have e : (List.range n).map (deg (p :: s)) = (List.range n).map fun q => (if p.1 = q then 1 else 0) + (if p.2 = q then 1 else 0) + deg s q := rfl
    rw [e, add, one n p.1 (by omega), one n p.2 hp.2, ih, List.length_cons]
    omega
theorem sum_lf : ∀ (l : List Int), l.sum = ((List.range l.length).map (lf l)).sum
  | [] => rfl
  | x :: l => by
    rw [List.length_cons, List.range_succ_eq_map, List.map_cons, List.sum_cons, List.sum_cons, List.map_map, sum_lf l]
    rfl
theorem sum_le {f g : Nat → Int} : ∀ (l : List Nat), (∀ q, q ∈ l → f q ≤ g q) → (l.map f).sum ≤ (l.map g).sum ∧ ((l.map f).sum = (l.map g).sum → ∀ q, q ∈ l → f q = g q)
  | [], _ => ⟨Int.le_refl _, fun _ q hq => absurd hq List.not_mem_nil⟩
  | x :: l, h => by
    obtain ⟨i1, i2⟩ := sum_le l fun q hq => h q (List.mem_cons_of_mem _ hq)
    have hx := h x (List.mem_cons_self ..)
    simp only [List.map_cons, List.sum_cons]
    refine ⟨by omega, fun e q hq => ?_⟩
    rcases List.mem_cons.mp hq with z | z
    · rw [z]; omega
    · exact i2 (by omega) q z
theorem sum_cast (f : Nat → Nat) : ∀ l : List Nat, (l.map fun q => (f q : Int)).sum = ((l.map f).sum : Nat)
  | [] => rfl
  | x :: l => by simp only [List.map_cons, List.sum_cons, sum_cast f l, Int.natCast_add]
/-- the first part with just the counts -/
def factF (n : Nat) (E : List P2) (l : List Int) : Option (List P2) := if (2 : Int) * (firstF (chs E n) 0 l).length = l.sum then some (firstF (chs E n) 0 l) else none
section
variable {n : Nat} {E : List P2} {l : List Int}
theorem first_all (h : rising E) (ho : ∀ e, e ∈ E → okP n e) (hl : l.length = n) (h0 : okL l = true) :
    (firstF (chs E n) 0 l).Sublist E ∧ (∀ q, q < n → (deg (firstF (chs E n) 0 l) q : Int) ≤ lf l q) ∧ ∀ s, s.Sublist E → (∀ q, q < n → (deg s q : Int) ≤ lf l q) → s.length ≤ (firstF (chs E n) 0 l).length := by
  have h0' : ∀ q, q < n → 0 ≤ l.getD q 0 := fun q hq => (okL_iff l).mp h0 q (by rw [hl]; exact hq)
  obtain ⟨a, b, c⟩ := first_ok (lts E n) 0 l (laters_all ho) hl h0'
  rw [flat_all h ho] at a
  refine ⟨a, fun q hq => b q (Nat.zero_le q) hq, fun s hs hu => ?_⟩
  have := most_le (lts E n) 0 l (laters_all ho) hl h0' s (by rw [flat_all h ho]; exact hs) fun q _ hq => hu q hq
  rw [← c] at this
  exact Int.ofNat_le.mp this
theorem fact_some (h : rising E) (ho : ∀ e, e ∈ E → okP n e) (hl : l.length = n) (h0 : okL l = true) {f : List P2} (e : factF n E l = some f) : Sol n E (lf l) f := by
  unfold factF at e
  split at e
  · rename_i e2
    cases e
    obtain ⟨a, b, c⟩ := first_all h ho hl h0
    refine ⟨a, ?_⟩
    have s1 := sum_deg (n := n) (s := firstF (chs E n) 0 l) fun x hx => ho x (a.subset hx)
    have s2 : ((List.range n).map fun q => (deg (firstF (chs E n) 0 l) q : Int)).sum = ((List.range n).map (lf l)).sum := by
      rw [sum_cast, s1, ← hl, ← sum_lf, ← e2, hl]
      simp
    intro q hq
    exact (sum_le (List.range n) (f := fun q => (deg (firstF (chs E n) 0 l) q : Int)) (g := lf l) fun q hq => b q (List.mem_range.mp hq)).2 s2 q (List.mem_range.mpr hq)
  · cases e
theorem fact_of (h : rising E) (ho : ∀ e, e ∈ E → okP n e) (hl : l.length = n) (h0 : okL l = true) {s : List P2} (hs : Sol n E (lf l) s) : ∃ f, factF n E l = some f := by
  obtain ⟨a, b, c⟩ := first_all h ho hl h0
  have s1 := sum_deg (n := n) (s := firstF (chs E n) 0 l) fun x hx => ho x (a.subset hx)
  have s2 := sum_deg (n := n) (s := s) fun x hx => ho x (hs.1.subset hx)
  have e : (2 : Int) * s.length = l.sum := by
    rw [sum_lf l, hl]
    have : ((List.range n).map fun q => (deg s q : Int)) = (List.range n).map (lf l) := List.map_congr_left fun q hq => hs.2 q (List.mem_range.mp hq)
    rw [← this, sum_cast, s2]
    simp
  have le1 := c s hs.1 fun q hq => Int.le_of_eq (hs.2 q hq)
  have le2 : (2 : Int) * (firstF (chs E n) 0 l).length ≤ l.sum := by
    have := (sum_le (List.range n) (f := fun q => (deg (firstF (chs E n) 0 l) q : Int)) (g := lf l) fun q hq => b q (List.mem_range.mp hq)).1
    rw [sum_cast, s1] at this
    rw [sum_lf l, hl]
    have e3 : ((2 * (firstF (chs E n) 0 l).length : Nat) : Int) = (2 : Int) * (firstF (chs E n) 0 l).length := by simp
    rw [← e3]
    exact this
  refine ⟨firstF (chs E n) 0 l, ?_⟩
  unfold factF
  rw [if_pos (by omega)]
theorem fact_none (h : rising E) (ho : ∀ e, e ∈ E → okP n e) (hl : l.length = n) (h0 : okL l = true) : factF n E l = none ↔ cnt n E (lf l) = 0 := by
  constructor
  · intro e
    cases k : cnt n E (lf l) with
    | zero => rfl
    | succ m =>
      obtain ⟨s, hs⟩ := cnt_pos.mp (show 0 < cnt n E (lf l) by omega)
      obtain ⟨f, hf⟩ := fact_of h ho hl h0 hs
      rw [hf] at e
      cases e
  · intro e
    cases k : factF n E l with
    | none => rfl
    | some f =>
      have := cnt_pos.mpr ⟨f, fact_some h ho hl h0 k⟩
      omega
end
end HM

/-! What the program's small defs tell. -/
namespace HM
open PySem L2 TL
/-! ### trees -/
abbrev nD (n : Nat) : D := .int (n : Int)
abbrev pD (p : P2) : D := .tuple [nD p.1, nD p.2]
abbrev psD (l : List P2) : D := .tuple (l.map pD)
abbrev isD (l : List Int) : D := .tuple (l.map .int)
abbrev webD (n : Nat) (l : List P2) : D := .tuple [.str "web", nD n, psD l]
theorem eqv_int (a b : Int) : PyData.eqv (.int a) (.int b) = decide (a = b) := PySem.W.Datum.eqv a b

/-- is_integer(value): names 0 value -/
def d_is_integer : DS := (dRet (dAndV (dIsi isInt (dV 0)) (dNotV (dIsi isBool (dV 0)))))
def g_is_integer : List D → (D → Prop) → Prop := fun ds P => ∃ v, ds = [v] ∧ P (.bool (isInt v && !isBool v))
theorem ok_is_integer : ∀ ds P, g_is_integer ds P → semOf 1 1 d_is_integer ds P := by
  rintro ds P ⟨v, rfl, h⟩
  refine ⟨rfl, ?_⟩
  simp only [semOf, semP, semF, semT, semM, List.map_cons, List.map_nil, List.cons_append, List.nil_append, List.append_nil, List.replicate_succ, List.replicate_zero, Nat.reduceSub, Nat.reduceAdd, Nat.sub_self, Nat.sub_zero, List.length_cons, List.length_nil, Nat.zero_add, dSeq, dSet, dSetF, dSetH, dSetFH, dRet, dRetN, dIf, dNext, dFor, dExt, dApp, dSub, dFrz, dDrop, dNever, dBrk, dCnt, dAsg, dAsgH, dPar, dcNil, dcD, dcF, storesD, dV, dC, d1, d2, dN, dNF, d2F, dCons, dNil, dTup, dLst, asL, asB, dtAnd, dtOr, dtNot, dYes, dAndV, dOrV, dNotV, dIte, dCh, dLc, dSeqI, dRg1, dRg2, dEnum, dZip, dgN, dgT, dgCons, dgNil, sgN, sgT, sgCons, sgNil, dSlT, dSlL, dSome, dNo, dRev, dIsi, dNP, dNew, dFld, dMe, dMeN, dNCat, dMemo, dRF, dRC, dPot, wipeE, vis, hid, noOw, isOw, List.all_cons, List.all_nil, Bool.not_false, Bool.not_true, Bool.and_true, Bool.true_and, Bool.or_true, Bool.true_or, Bool.false_or, Bool.or_false, List.getElem?_cons_zero, List.getElem?_cons_succ, List.set_cons_zero, List.set_cons_succ, List.length_map, e_le, e_lt, e_ge, e_gt, e_lenT, e_lenL, e_add, e_cat, e_sub, e_mul, e_div, e_mod, e_tupL, e_tupT, e_listL, e_listT, e_fcat, e_isN, e_eqi, e_eqs, fEq, fNe, fIn, fNotIn, decide_true, id_eq, e_all, e_any, e_ixT0, e_ixL0, e_ixT1, e_ixT2, e_max2, e_min2, e_abs, e_int, e_pow, true_and, and_true, forall_const, d_is_integer]
  cases e : isInt v <;> rw [e] at h <;> exact h
def withinD (v : D) (a b : Int) : Bool := match v with
  | .int i => decide (a ≤ i) && decide (i ≤ b)
  | _ => false
/-- is_within(value, least, most): names 0 value 1 least 2 most -/
def d_is_within : DS := (dRet (dAndV (dN g_is_integer (dCons (dV 0) dNil)) (dCh fLe fLe (dV 1) (dV 0) (dV 2))))
def g_is_within : List D → (D → Prop) → Prop := fun ds P => ∃ v a b, ds = [v, .int a, .int b] ∧ P (.bool (withinD v a b))
theorem ok_is_within : ∀ ds P, g_is_within ds P → semOf 3 3 d_is_within ds P := by
  rintro ds P ⟨v, a, b, rfl, h⟩
  refine ⟨rfl, ?_⟩
  simp only [semOf, semP, semF, semT, semM, List.map_cons, List.map_nil, List.cons_append, List.nil_append, List.append_nil, List.replicate_succ, List.replicate_zero, Nat.reduceSub, Nat.reduceAdd, Nat.sub_self, Nat.sub_zero, List.length_cons, List.length_nil, Nat.zero_add, dSeq, dSet, dSetF, dSetH, dSetFH, dRet, dRetN, dIf, dNext, dFor, dExt, dApp, dSub, dFrz, dDrop, dNever, dBrk, dCnt, dAsg, dAsgH, dPar, dcNil, dcD, dcF, storesD, dV, dC, d1, d2, dN, dNF, d2F, dCons, dNil, dTup, dLst, asL, asB, dtAnd, dtOr, dtNot, dYes, dAndV, dOrV, dNotV, dIte, dCh, dLc, dSeqI, dRg1, dRg2, dEnum, dZip, dgN, dgT, dgCons, dgNil, sgN, sgT, sgCons, sgNil, dSlT, dSlL, dSome, dNo, dRev, dIsi, dNP, dNew, dFld, dMe, dMeN, dNCat, dMemo, dRF, dRC, dPot, wipeE, vis, hid, noOw, isOw, List.all_cons, List.all_nil, Bool.not_false, Bool.not_true, Bool.and_true, Bool.true_and, Bool.or_true, Bool.true_or, Bool.false_or, Bool.or_false, List.getElem?_cons_zero, List.getElem?_cons_succ, List.set_cons_zero, List.set_cons_succ, List.length_map, e_le, e_lt, e_ge, e_gt, e_lenT, e_lenL, e_add, e_cat, e_sub, e_mul, e_div, e_mod, e_tupL, e_tupT, e_listL, e_listT, e_fcat, e_isN, e_eqi, e_eqs, fEq, fNe, fIn, fNotIn, decide_true, id_eq, e_all, e_any, e_ixT0, e_ixL0, e_ixT1, e_ixT2, e_max2, e_min2, e_abs, e_int, e_pow, true_and, and_true, forall_const, d_is_within]
  refine ⟨v, rfl, ?_⟩
  cases v <;> try exact h
  rename_i i
  show fLe (.int a) (.int i) _
  show (match (.bool (decide (a ≤ i)) : D) with | .bool true => _ | .bool false => _ | _ => _)
  cases e : decide (a ≤ i) with
  | false =>
    have h' : P (.bool (decide (a ≤ i) && decide (i ≤ b))) := h
    rw [e] at h'
    exact h'
  | true =>
    have h' : P (.bool (decide (a ≤ i) && decide (i ≤ b))) := h
    rw [e] at h'
    exact h'
/-- is_tuple(value, many): names 0 value 1 many -/
def d_is_tuple : DS := (dRet (dAndV (dIsi isTup (dV 0)) (d2 fEq (dN fLen (dCons (dV 0) dNil)) (dV 1))))
def g_is_tuple : List D → (D → Prop) → Prop := fun ds P => ∃ v n, ds = [v, .int n] ∧ P (.bool (match v with | .tuple l => decide ((l.length : Int) = n) | _ => false))
theorem ok_is_tuple : ∀ ds P, g_is_tuple ds P → semOf 2 2 d_is_tuple ds P := by
  rintro ds P ⟨v, n, rfl, h⟩
  refine ⟨rfl, ?_⟩
  simp only [semOf, semP, semF, semT, semM, List.map_cons, List.map_nil, List.cons_append, List.nil_append, List.append_nil, List.replicate_succ, List.replicate_zero, Nat.reduceSub, Nat.reduceAdd, Nat.sub_self, Nat.sub_zero, List.length_cons, List.length_nil, Nat.zero_add, dSeq, dSet, dSetF, dSetH, dSetFH, dRet, dRetN, dIf, dNext, dFor, dExt, dApp, dSub, dFrz, dDrop, dNever, dBrk, dCnt, dAsg, dAsgH, dPar, dcNil, dcD, dcF, storesD, dV, dC, d1, d2, dN, dNF, d2F, dCons, dNil, dTup, dLst, asL, asB, dtAnd, dtOr, dtNot, dYes, dAndV, dOrV, dNotV, dIte, dCh, dLc, dSeqI, dRg1, dRg2, dEnum, dZip, dgN, dgT, dgCons, dgNil, sgN, sgT, sgCons, sgNil, dSlT, dSlL, dSome, dNo, dRev, dIsi, dNP, dNew, dFld, dMe, dMeN, dNCat, dMemo, dRF, dRC, dPot, wipeE, vis, hid, noOw, isOw, List.all_cons, List.all_nil, Bool.not_false, Bool.not_true, Bool.and_true, Bool.true_and, Bool.or_true, Bool.true_or, Bool.false_or, Bool.or_false, List.getElem?_cons_zero, List.getElem?_cons_succ, List.set_cons_zero, List.set_cons_succ, List.length_map, e_le, e_lt, e_ge, e_gt, e_lenT, e_lenL, e_add, e_cat, e_sub, e_mul, e_div, e_mod, e_tupL, e_tupT, e_listL, e_listT, e_fcat, e_isN, e_eqi, e_eqs, fEq, fNe, fIn, fNotIn, decide_true, id_eq, e_all, e_any, e_ixT0, e_ixL0, e_ixT1, e_ixT2, e_max2, e_min2, e_abs, e_int, e_pow, true_and, and_true, forall_const, d_is_tuple]
  cases v <;> try exact h
  rename_i l
  refine ⟨⟨rfl, rfl⟩, ?_⟩
  show P (.bool (PyData.eqv (.int (l.length : Int)) (.int n)))
  rw [eqv_int]
  exact h
def okC (l : List Int) : Prop := 1 ≤ l.length ∧ l.length ≤ 10 ∧ ∀ x, x ∈ l → 0 ≤ x ∧ x ≤ 40
/-- is_list_value(value): names 0 value 1 one -/
def d_is_list_value : DS := (dSeq (dIf (dtOr (dtNot (asB (dIsi isTup (dV 0)))) (dtNot (asB (dCh fLe fLe (dC (.int 1)) (dN fLen (dCons (dV 0) dNil)) (dC (.int 10)))))) (dRet (dC (.bool false))) dNext)
  (dRet (dN fAll (dCons (asL (dLc (dSeqI (dV 0)) (dgN 1) dYes (dN g_is_within (dCons (dV 1) (dCons (dC (.int 0)) (dCons (dC (.int 40)) dNil)))) [1])) dNil))))
def g_is_list_value : List D → (D → Prop) → Prop := fun ds P => ∃ l, ds = [isD l] ∧ okC l ∧ P (.bool true)
theorem ok_is_list_value : ∀ ds P, g_is_list_value ds P → semOf 2 1 d_is_list_value ds P := by
  rintro ds P ⟨l, rfl, ⟨h1, h2, h3⟩, h⟩
  refine ⟨rfl, ?_⟩
  simp only [semOf, semP, semF, semT, semM, List.map_cons, List.map_nil, List.cons_append, List.nil_append, List.append_nil, List.replicate_succ, List.replicate_zero, Nat.reduceSub, Nat.reduceAdd, Nat.sub_self, Nat.sub_zero, List.length_cons, List.length_nil, Nat.zero_add, dSeq, dSet, dSetF, dSetH, dSetFH, dRet, dRetN, dIf, dNext, dFor, dExt, dApp, dSub, dFrz, dDrop, dNever, dBrk, dCnt, dAsg, dAsgH, dPar, dcNil, dcD, dcF, storesD, dV, dC, d1, d2, dN, dNF, d2F, dCons, dNil, dTup, dLst, asL, asB, dtAnd, dtOr, dtNot, dYes, dAndV, dOrV, dNotV, dIte, dCh, dLc, dSeqI, dRg1, dRg2, dEnum, dZip, dgN, dgT, dgCons, dgNil, sgN, sgT, sgCons, sgNil, dSlT, dSlL, dSome, dNo, dRev, dIsi, dNP, dNew, dFld, dMe, dMeN, dNCat, dMemo, dRF, dRC, dPot, wipeE, vis, hid, noOw, isOw, List.all_cons, List.all_nil, Bool.not_false, Bool.not_true, Bool.and_true, Bool.true_and, Bool.or_true, Bool.true_or, Bool.false_or, Bool.or_false, List.getElem?_cons_zero, List.getElem?_cons_succ, List.set_cons_zero, List.set_cons_succ, List.length_map, e_le, e_lt, e_ge, e_gt, e_lenT, e_lenL, e_add, e_cat, e_sub, e_mul, e_div, e_mod, e_tupL, e_tupT, e_listL, e_listT, e_fcat, e_isN, e_eqi, e_eqs, fEq, fNe, fIn, fNotIn, decide_true, id_eq, e_all, e_any, e_ixT0, e_ixL0, e_ixT1, e_ixT2, e_max2, e_min2, e_abs, e_int, e_pow, true_and, and_true, forall_const, d_is_list_value, isTup]
  rw [decide_eq_true (by omega), decide_eq_true (by omega)]
  refine ⟨by omega, lc_map l (h := fun _ => .bool true) (fun x hx R hR => ?_) ?_⟩
  · simp only [semOf, semP, semF, semT, semM, List.map_cons, List.map_nil, List.cons_append, List.nil_append, List.append_nil, List.replicate_succ, List.replicate_zero, Nat.reduceSub, Nat.reduceAdd, Nat.sub_self, Nat.sub_zero, List.length_cons, List.length_nil, Nat.zero_add, dSeq, dSet, dSetF, dSetH, dSetFH, dRet, dRetN, dIf, dNext, dFor, dExt, dApp, dSub, dFrz, dDrop, dNever, dBrk, dCnt, dAsg, dAsgH, dPar, dcNil, dcD, dcF, storesD, dV, dC, d1, d2, dN, dNF, d2F, dCons, dNil, dTup, dLst, asL, asB, dtAnd, dtOr, dtNot, dYes, dAndV, dOrV, dNotV, dIte, dCh, dLc, dSeqI, dRg1, dRg2, dEnum, dZip, dgN, dgT, dgCons, dgNil, sgN, sgT, sgCons, sgNil, dSlT, dSlL, dSome, dNo, dRev, dIsi, dNP, dNew, dFld, dMe, dMeN, dNCat, dMemo, dRF, dRC, dPot, wipeE, vis, hid, noOw, isOw, List.all_cons, List.all_nil, Bool.not_false, Bool.not_true, Bool.and_true, Bool.true_and, Bool.or_true, Bool.true_or, Bool.false_or, Bool.or_false, List.getElem?_cons_zero, List.getElem?_cons_succ, List.set_cons_zero, List.set_cons_succ, List.length_map, e_le, e_lt, e_ge, e_gt, e_lenT, e_lenL, e_add, e_cat, e_sub, e_mul, e_div, e_mod, e_tupL, e_tupT, e_listL, e_listT, e_fcat, e_isN, e_eqi, e_eqs, fEq, fNe, fIn, fNotIn, decide_true, id_eq, e_all, e_any, e_ixT0, e_ixL0, e_ixT1, e_ixT2, e_max2, e_min2, e_abs, e_int, e_pow, true_and, and_true, forall_const, lcTurn]
    refine ⟨_, _, _, rfl, ?_⟩
    obtain ⟨q1, q2⟩ := h3 x hx
    show R (some (.bool (decide (0 ≤ x) && decide (x ≤ 40))))
    rw [decide_eq_true q1, decide_eq_true q2]
    exact hR
  · rw [e_allq (q := fun _ => true), List.all_eq_true.mpr fun _ _ => rfl]
    exact h
/-- want_list(counts): names 0 counts -/
def d_want_list : DS := (dIf (dtNot (asB (dN g_is_list_value (dCons (dV 0) dNil)))) dNever dNext)
def g_want_list : List D → (D → Prop) → Prop := fun ds P => ∃ l, ds = [isD l] ∧ okC l ∧ P .none
theorem ok_want_list : ∀ ds P, g_want_list ds P → semOf 1 1 d_want_list ds P := by
  rintro ds P ⟨l, rfl, h1, h⟩
  refine ⟨rfl, ?_⟩
  simp only [semOf, semP, semF, semT, semM, List.map_cons, List.map_nil, List.cons_append, List.nil_append, List.append_nil, List.replicate_succ, List.replicate_zero, Nat.reduceSub, Nat.reduceAdd, Nat.sub_self, Nat.sub_zero, List.length_cons, List.length_nil, Nat.zero_add, dSeq, dSet, dSetF, dSetH, dSetFH, dRet, dRetN, dIf, dNext, dFor, dExt, dApp, dSub, dFrz, dDrop, dNever, dBrk, dCnt, dAsg, dAsgH, dPar, dcNil, dcD, dcF, storesD, dV, dC, d1, d2, dN, dNF, d2F, dCons, dNil, dTup, dLst, asL, asB, dtAnd, dtOr, dtNot, dYes, dAndV, dOrV, dNotV, dIte, dCh, dLc, dSeqI, dRg1, dRg2, dEnum, dZip, dgN, dgT, dgCons, dgNil, sgN, sgT, sgCons, sgNil, dSlT, dSlL, dSome, dNo, dRev, dIsi, dNP, dNew, dFld, dMe, dMeN, dNCat, dMemo, dRF, dRC, dPot, wipeE, vis, hid, noOw, isOw, List.all_cons, List.all_nil, Bool.not_false, Bool.not_true, Bool.and_true, Bool.true_and, Bool.or_true, Bool.true_or, Bool.false_or, Bool.or_false, List.getElem?_cons_zero, List.getElem?_cons_succ, List.set_cons_zero, List.set_cons_succ, List.length_map, e_le, e_lt, e_ge, e_gt, e_lenT, e_lenL, e_add, e_cat, e_sub, e_mul, e_div, e_mod, e_tupL, e_tupT, e_listL, e_listT, e_fcat, e_isN, e_eqi, e_eqs, fEq, fNe, fIn, fNotIn, decide_true, id_eq, e_all, e_any, e_ixT0, e_ixL0, e_ixT1, e_ixT2, e_max2, e_min2, e_abs, e_int, e_pow, true_and, and_true, forall_const, d_want_list]
  exact ⟨l, rfl, h1, h⟩
/-- is_pair_of(persons, value): names 0 persons 1 value 2 one -/
def d_is_pair_of : DS := (dRet (dAndV (dN g_is_tuple (dCons (dV 1) (dCons (dC (.int 2)) dNil))) (dAndV (dN fAll (dCons (asL (dLc (dSeqI (dV 1)) (dgN 2) dYes (dN g_is_within (dCons (dV 2) (dCons (dC (.int 0)) (dCons (d2 fSub (dV 0) (dC (.int 1))) dNil)))) [2])) dNil)) (d2 fLt (d2 fIx (dV 1) (dC (.int 0))) (d2 fIx (dV 1) (dC (.int 1)))))))
def g_is_pair_of : List D → (D → Prop) → Prop := fun ds P => ∃ n p, ds = [nD n, pD p] ∧ okP n p ∧ P (.bool true)
theorem ok_is_pair_of : ∀ ds P, g_is_pair_of ds P → semOf 3 2 d_is_pair_of ds P := by
  rintro ds P ⟨n, p, rfl, ⟨h1, h2⟩, h⟩
  refine ⟨rfl, ?_⟩
  simp only [semOf, semP, semF, semT, semM, List.map_cons, List.map_nil, List.cons_append, List.nil_append, List.append_nil, List.replicate_succ, List.replicate_zero, Nat.reduceSub, Nat.reduceAdd, Nat.sub_self, Nat.sub_zero, List.length_cons, List.length_nil, Nat.zero_add, dSeq, dSet, dSetF, dSetH, dSetFH, dRet, dRetN, dIf, dNext, dFor, dExt, dApp, dSub, dFrz, dDrop, dNever, dBrk, dCnt, dAsg, dAsgH, dPar, dcNil, dcD, dcF, storesD, dV, dC, d1, d2, dN, dNF, d2F, dCons, dNil, dTup, dLst, asL, asB, dtAnd, dtOr, dtNot, dYes, dAndV, dOrV, dNotV, dIte, dCh, dLc, dSeqI, dRg1, dRg2, dEnum, dZip, dgN, dgT, dgCons, dgNil, sgN, sgT, sgCons, sgNil, dSlT, dSlL, dSome, dNo, dRev, dIsi, dNP, dNew, dFld, dMe, dMeN, dNCat, dMemo, dRF, dRC, dPot, wipeE, vis, hid, noOw, isOw, List.all_cons, List.all_nil, Bool.not_false, Bool.not_true, Bool.and_true, Bool.true_and, Bool.or_true, Bool.true_or, Bool.false_or, Bool.or_false, List.getElem?_cons_zero, List.getElem?_cons_succ, List.set_cons_zero, List.set_cons_succ, List.length_map, e_le, e_lt, e_ge, e_gt, e_lenT, e_lenL, e_add, e_cat, e_sub, e_mul, e_div, e_mod, e_tupL, e_tupT, e_listL, e_listT, e_fcat, e_isN, e_eqi, e_eqs, fEq, fNe, fIn, fNotIn, decide_true, id_eq, e_all, e_any, e_ixT0, e_ixL0, e_ixT1, e_ixT2, e_max2, e_min2, e_abs, e_int, e_pow, true_and, and_true, forall_const, d_is_pair_of]
  refine ⟨_, _, rfl, ?_⟩
  show (_ ∧ _)
  refine ⟨by decide, lc_map (α := D) (enc := id) [nD p.1, nD p.2] (h := fun _ => .bool true) (fun x hx R hR => ?_) ?_⟩
  · simp only [semOf, semP, semF, semT, semM, List.map_cons, List.map_nil, List.cons_append, List.nil_append, List.append_nil, List.replicate_succ, List.replicate_zero, Nat.reduceSub, Nat.reduceAdd, Nat.sub_self, Nat.sub_zero, List.length_cons, List.length_nil, Nat.zero_add, dSeq, dSet, dSetF, dSetH, dSetFH, dRet, dRetN, dIf, dNext, dFor, dExt, dApp, dSub, dFrz, dDrop, dNever, dBrk, dCnt, dAsg, dAsgH, dPar, dcNil, dcD, dcF, storesD, dV, dC, d1, d2, dN, dNF, d2F, dCons, dNil, dTup, dLst, asL, asB, dtAnd, dtOr, dtNot, dYes, dAndV, dOrV, dNotV, dIte, dCh, dLc, dSeqI, dRg1, dRg2, dEnum, dZip, dgN, dgT, dgCons, dgNil, sgN, sgT, sgCons, sgNil, dSlT, dSlL, dSome, dNo, dRev, dIsi, dNP, dNew, dFld, dMe, dMeN, dNCat, dMemo, dRF, dRC, dPot, wipeE, vis, hid, noOw, isOw, List.all_cons, List.all_nil, Bool.not_false, Bool.not_true, Bool.and_true, Bool.true_and, Bool.or_true, Bool.true_or, Bool.false_or, Bool.or_false, List.getElem?_cons_zero, List.getElem?_cons_succ, List.set_cons_zero, List.set_cons_succ, List.length_map, e_le, e_lt, e_ge, e_gt, e_lenT, e_lenL, e_add, e_cat, e_sub, e_mul, e_div, e_mod, e_tupL, e_tupT, e_listL, e_listT, e_fcat, e_isN, e_eqi, e_eqs, fEq, fNe, fIn, fNotIn, decide_true, id_eq, e_all, e_any, e_ixT0, e_ixL0, e_ixT1, e_ixT2, e_max2, e_min2, e_abs, e_int, e_pow, true_and, and_true, forall_const, lcTurn]
    refine ⟨_, _, _, rfl, ?_⟩
    rcases List.mem_cons.mp hx with rfl | hx
    · show R (some (.bool (decide ((0 : Int) ≤ p.1) && decide ((p.1 : Int) ≤ n - 1))))
      rw [decide_eq_true (by omega), decide_eq_true (by omega)]
      exact hR
    · rw [List.mem_singleton] at hx
      subst hx
      show R (some (.bool (decide ((0 : Int) ≤ p.2) && decide ((p.2 : Int) ≤ n - 1))))
      rw [decide_eq_true (by omega), decide_eq_true (by omega)]
      exact hR
  · show P (.bool (decide ((p.1 : Int) < p.2)))
    rw [decide_eq_true (by omega)]
    exact h
/-! ### pairs in their sequence -/
instance (p q : P2) : Decidable (ltP p q) := by unfold ltP; infer_instance
theorem lt_P2 (p q : P2) : PySem.W.DatumOrd.lt p q = decide (ltP p q) := by
  show (if p.1 = q.1 then decide (p.2 < q.2) else decide (p.1 < q.1)) = _
  unfold ltP
  by_cases h : p.1 = q.1
  · rw [if_pos h]
    exact decide_eq_decide.mpr (by omega)
  · rw [if_neg h]
    exact decide_eq_decide.mpr (by omega)
theorem e_ltP {p q : P2} {P : D → Prop} : fLt (pD p) (pD q) P = P (.bool (decide (ltP p q))) := by
  show (ordOk (PySem.W.Datum.toD p) (PySem.W.Datum.toD q) = true ∧ P (.bool (PySem.W.dataLt (PySem.W.Datum.toD p) (PySem.W.Datum.toD q)))) = _
  rw [ordOk_of, PySem.W.DatumOrd.lt_eq, lt_P2]
  simp
theorem cut_from (l : List D) (k : Nat) : cutD l (some (k : Int)) none = l.drop k := by
  unfold cutD
  rw [HT.sIx_nat, HT.sIx_none]
  by_cases h : k ≤ l.length
  · rw [Nat.min_eq_left h, List.take_of_length_le (by rw [List.length_drop]; omega)]
  · rw [Nat.min_eq_right (by omega), List.drop_length, List.drop_of_length_le (by omega), List.take_nil]
def okPs (n : Nat) (l : List P2) : Prop := (∀ p, p ∈ l → okP n p) ∧ rising l ∧ l.length ≤ 1000
theorem zip_next {l : List P2} (h : rising l) : ∀ x, x ∈ l.zip (l.drop 1) → ltP x.1 x.2 := by
  cases l with
  | nil => simp
  | cons a l =>
    rw [List.drop_one, List.tail_cons]
    induction l generalizing a with
    | nil => simp
    | cons b l ih =>
      intro x hx
      obtain ⟨h1, h2⟩ := List.pairwise_cons.mp h
      rw [List.zip_cons_cons] at hx
      rcases List.mem_cons.mp hx with rfl | hx
      · exact h1 b (List.mem_cons_self ..)
      · exact ih b h2 x hx
theorem zipD_map {α β : Type} (f : α → D) (g : β → D) : ∀ (l : List α) (r : List β), zipD (l.map f) (r.map g) = (l.zip r).map fun x => .tuple [f x.1, g x.2]
  | [], _ => rfl
  | _ :: _, [] => rfl
  | a :: l, b :: r => by
    rw [List.zip_cons_cons, List.map_cons, List.map_cons, List.map_cons, ← zipD_map f g l r]
    rfl
/-- are_pairs_of(persons, value): names 0 persons 1 value 2 one 3 near 4 far -/
def d_are_pairs_of : DS := (dSeq (dIf (dtOr (dtNot (asB (dIsi isTup (dV 1)))) (dtNot (asB (dN fAll (dCons (asL (dLc (dSeqI (dV 1)) (dgN 2) dYes (dN g_is_pair_of (dCons (dV 0) (dCons (dV 2) dNil))) [2])) dNil))))) (dRet (dC (.bool false))) dNext)
  (dRet (dN fAll (dCons (asL (dLc (dZip (dCons (dV 1) (dCons (dSlT (dV 1) (dSome (dC (.int 1))) dNo) dNil))) (dgT 2 (dgCons (dgN 3) (dgCons (dgN 4) dgNil))) dYes (d2 fLt (dV 3) (dV 4)) [3, 4])) dNil))))
def g_are_pairs_of : List D → (D → Prop) → Prop := fun ds P => ∃ n l, ds = [nD n, psD l] ∧ okPs n l ∧ P (.bool true)
theorem ok_are_pairs_of : ∀ ds P, g_are_pairs_of ds P → semOf 5 2 d_are_pairs_of ds P := by
  rintro ds P ⟨n, l, rfl, ⟨h1, h2, h3⟩, h⟩
  refine ⟨rfl, ?_⟩
  simp only [semOf, semP, semF, semT, semM, List.map_cons, List.map_nil, List.cons_append, List.nil_append, List.append_nil, List.replicate_succ, List.replicate_zero, Nat.reduceSub, Nat.reduceAdd, Nat.sub_self, Nat.sub_zero, List.length_cons, List.length_nil, Nat.zero_add, dSeq, dSet, dSetF, dSetH, dSetFH, dRet, dRetN, dIf, dNext, dFor, dExt, dApp, dSub, dFrz, dDrop, dNever, dBrk, dCnt, dAsg, dAsgH, dPar, dcNil, dcD, dcF, storesD, dV, dC, d1, d2, dN, dNF, d2F, dCons, dNil, dTup, dLst, asL, asB, dtAnd, dtOr, dtNot, dYes, dAndV, dOrV, dNotV, dIte, dCh, dLc, dSeqI, dRg1, dRg2, dEnum, dZip, dgN, dgT, dgCons, dgNil, sgN, sgT, sgCons, sgNil, dSlT, dSlL, dSome, dNo, dRev, dIsi, dNP, dNew, dFld, dMe, dMeN, dNCat, dMemo, dRF, dRC, dPot, wipeE, vis, hid, noOw, isOw, List.all_cons, List.all_nil, Bool.not_false, Bool.not_true, Bool.and_true, Bool.true_and, Bool.or_true, Bool.true_or, Bool.false_or, Bool.or_false, List.getElem?_cons_zero, List.getElem?_cons_succ, List.set_cons_zero, List.set_cons_succ, List.length_map, e_le, e_lt, e_ge, e_gt, e_lenT, e_lenL, e_add, e_cat, e_sub, e_mul, e_div, e_mod, e_tupL, e_tupT, e_listL, e_listT, e_fcat, e_isN, e_eqi, e_eqs, fEq, fNe, fIn, fNotIn, decide_true, id_eq, e_all, e_any, e_ixT0, e_ixL0, e_ixT1, e_ixT2, e_max2, e_min2, e_abs, e_int, e_pow, true_and, and_true, forall_const, d_are_pairs_of, isTup]
  refine ⟨by omega, lc_map l (h := fun _ => .bool true) (fun x hx R hR => ?_) ?_⟩
  · simp only [semOf, semP, semF, semT, semM, List.map_cons, List.map_nil, List.cons_append, List.nil_append, List.append_nil, List.replicate_succ, List.replicate_zero, Nat.reduceSub, Nat.reduceAdd, Nat.sub_self, Nat.sub_zero, List.length_cons, List.length_nil, Nat.zero_add, dSeq, dSet, dSetF, dSetH, dSetFH, dRet, dRetN, dIf, dNext, dFor, dExt, dApp, dSub, dFrz, dDrop, dNever, dBrk, dCnt, dAsg, dAsgH, dPar, dcNil, dcD, dcF, storesD, dV, dC, d1, d2, dN, dNF, d2F, dCons, dNil, dTup, dLst, asL, asB, dtAnd, dtOr, dtNot, dYes, dAndV, dOrV, dNotV, dIte, dCh, dLc, dSeqI, dRg1, dRg2, dEnum, dZip, dgN, dgT, dgCons, dgNil, sgN, sgT, sgCons, sgNil, dSlT, dSlL, dSome, dNo, dRev, dIsi, dNP, dNew, dFld, dMe, dMeN, dNCat, dMemo, dRF, dRC, dPot, wipeE, vis, hid, noOw, isOw, List.all_cons, List.all_nil, Bool.not_false, Bool.not_true, Bool.and_true, Bool.true_and, Bool.or_true, Bool.true_or, Bool.false_or, Bool.or_false, List.getElem?_cons_zero, List.getElem?_cons_succ, List.set_cons_zero, List.set_cons_succ, List.length_map, e_le, e_lt, e_ge, e_gt, e_lenT, e_lenL, e_add, e_cat, e_sub, e_mul, e_div, e_mod, e_tupL, e_tupT, e_listL, e_listT, e_fcat, e_isN, e_eqi, e_eqs, fEq, fNe, fIn, fNotIn, decide_true, id_eq, e_all, e_any, e_ixT0, e_ixL0, e_ixT1, e_ixT2, e_max2, e_min2, e_abs, e_int, e_pow, true_and, and_true, forall_const, lcTurn]
    exact ⟨n, x, rfl, h1 x hx, hR⟩
  · rw [e_allq (q := fun _ => true), List.all_eq_true.mpr fun _ _ => rfl]
    simp only [semOf, semP, semF, semT, semM, List.map_cons, List.map_nil, List.cons_append, List.nil_append, List.append_nil, List.replicate_succ, List.replicate_zero, Nat.reduceSub, Nat.reduceAdd, Nat.sub_self, Nat.sub_zero, List.length_cons, List.length_nil, Nat.zero_add, dSeq, dSet, dSetF, dSetH, dSetFH, dRet, dRetN, dIf, dNext, dFor, dExt, dApp, dSub, dFrz, dDrop, dNever, dBrk, dCnt, dAsg, dAsgH, dPar, dcNil, dcD, dcF, storesD, dV, dC, d1, d2, dN, dNF, d2F, dCons, dNil, dTup, dLst, asL, asB, dtAnd, dtOr, dtNot, dYes, dAndV, dOrV, dNotV, dIte, dCh, dLc, dSeqI, dRg1, dRg2, dEnum, dZip, dgN, dgT, dgCons, dgNil, sgN, sgT, sgCons, sgNil, dSlT, dSlL, dSome, dNo, dRev, dIsi, dNP, dNew, dFld, dMe, dMeN, dNCat, dMemo, dRF, dRC, dPot, wipeE, vis, hid, noOw, isOw, List.all_cons, List.all_nil, Bool.not_false, Bool.not_true, Bool.and_true, Bool.true_and, Bool.or_true, Bool.true_or, Bool.false_or, Bool.or_false, List.getElem?_cons_zero, List.getElem?_cons_succ, List.set_cons_zero, List.set_cons_succ, List.length_map, e_le, e_lt, e_ge, e_gt, e_lenT, e_lenL, e_add, e_cat, e_sub, e_mul, e_div, e_mod, e_tupL, e_tupT, e_listL, e_listT, e_fcat, e_isN, e_eqi, e_eqs, fEq, fNe, fIn, fNotIn, decide_true, id_eq, e_all, e_any, e_ixT0, e_ixL0, e_ixT1, e_ixT2, e_max2, e_min2, e_abs, e_int, e_pow, true_and, and_true, forall_const]
    show (_ ∧ _)
    rw [show cutD (l.map pD) (some 1) none = (l.drop 1).map pD by rw [List.map_drop]; exact cut_from _ 1, zipD_map]
    refine ⟨by rw [List.length_map, List.length_zip]; omega, lc_map (l.zip (l.drop 1)) (h := fun _ => .bool true) (fun x hx R hR => ?_) ?_⟩
    · simp only [semOf, semP, semF, semT, semM, List.map_cons, List.map_nil, List.cons_append, List.nil_append, List.append_nil, List.replicate_succ, List.replicate_zero, Nat.reduceSub, Nat.reduceAdd, Nat.sub_self, Nat.sub_zero, List.length_cons, List.length_nil, Nat.zero_add, dSeq, dSet, dSetF, dSetH, dSetFH, dRet, dRetN, dIf, dNext, dFor, dExt, dApp, dSub, dFrz, dDrop, dNever, dBrk, dCnt, dAsg, dAsgH, dPar, dcNil, dcD, dcF, storesD, dV, dC, d1, d2, dN, dNF, d2F, dCons, dNil, dTup, dLst, asL, asB, dtAnd, dtOr, dtNot, dYes, dAndV, dOrV, dNotV, dIte, dCh, dLc, dSeqI, dRg1, dRg2, dEnum, dZip, dgN, dgT, dgCons, dgNil, sgN, sgT, sgCons, sgNil, dSlT, dSlL, dSome, dNo, dRev, dIsi, dNP, dNew, dFld, dMe, dMeN, dNCat, dMemo, dRF, dRC, dPot, wipeE, vis, hid, noOw, isOw, List.all_cons, List.all_nil, Bool.not_false, Bool.not_true, Bool.and_true, Bool.true_and, Bool.or_true, Bool.true_or, Bool.false_or, Bool.or_false, List.getElem?_cons_zero, List.getElem?_cons_succ, List.set_cons_zero, List.set_cons_succ, List.length_map, e_le, e_lt, e_ge, e_gt, e_lenT, e_lenL, e_add, e_cat, e_sub, e_mul, e_div, e_mod, e_tupL, e_tupT, e_listL, e_listT, e_fcat, e_isN, e_eqi, e_eqs, fEq, fNe, fIn, fNotIn, decide_true, id_eq, e_all, e_any, e_ixT0, e_ixL0, e_ixT1, e_ixT2, e_max2, e_min2, e_abs, e_int, e_pow, true_and, and_true, forall_const, lcTurn]
      show fLt (pD x.1) (pD x.2) _
      rw [e_ltP, decide_eq_true (zip_next h2 x hx)]
      exact hR
    · rw [e_allq (q := fun _ => true), List.all_eq_true.mpr fun _ _ => rfl]
      exact h
/-- is_web_value(value): names 0 value -/
def d_is_web_value : DS := (dSeq (dIf (dtOr (dtNot (asB (dN g_is_tuple (dCons (dV 0) (dCons (dC (.int 3)) dNil))))) (dtOr (dtNot (asB (dIsi isStr (d2 fIx (dV 0) (dC (.int 0)))))) (asB (d2 fNe (d2 fIx (dV 0) (dC (.int 0))) (dC (.str "web")))))) (dRet (dC (.bool false))) dNext)
  (dRet (dAndV (dN g_is_within (dCons (d2 fIx (dV 0) (dC (.int 1))) (dCons (dC (.int 1)) (dCons (dC (.int 10)) dNil)))) (dN g_are_pairs_of (dCons (d2 fIx (dV 0) (dC (.int 1))) (dCons (d2 fIx (dV 0) (dC (.int 2))) dNil))))))
def g_is_web_value : List D → (D → Prop) → Prop := fun ds P => ∃ n l, ds = [webD n l] ∧ (1 ≤ n ∧ n ≤ 10) ∧ okPs n l ∧ P (.bool true)
theorem ok_is_web_value : ∀ ds P, g_is_web_value ds P → semOf 1 1 d_is_web_value ds P := by
  rintro ds P ⟨n, l, rfl, ⟨h1, h2⟩, h3, h⟩
  refine ⟨rfl, ?_⟩
  simp only [semOf, semP, semF, semT, semM, List.map_cons, List.map_nil, List.cons_append, List.nil_append, List.append_nil, List.replicate_succ, List.replicate_zero, Nat.reduceSub, Nat.reduceAdd, Nat.sub_self, Nat.sub_zero, List.length_cons, List.length_nil, Nat.zero_add, dSeq, dSet, dSetF, dSetH, dSetFH, dRet, dRetN, dIf, dNext, dFor, dExt, dApp, dSub, dFrz, dDrop, dNever, dBrk, dCnt, dAsg, dAsgH, dPar, dcNil, dcD, dcF, storesD, dV, dC, d1, d2, dN, dNF, d2F, dCons, dNil, dTup, dLst, asL, asB, dtAnd, dtOr, dtNot, dYes, dAndV, dOrV, dNotV, dIte, dCh, dLc, dSeqI, dRg1, dRg2, dEnum, dZip, dgN, dgT, dgCons, dgNil, sgN, sgT, sgCons, sgNil, dSlT, dSlL, dSome, dNo, dRev, dIsi, dNP, dNew, dFld, dMe, dMeN, dNCat, dMemo, dRF, dRC, dPot, wipeE, vis, hid, noOw, isOw, List.all_cons, List.all_nil, Bool.not_false, Bool.not_true, Bool.and_true, Bool.true_and, Bool.or_true, Bool.true_or, Bool.false_or, Bool.or_false, List.getElem?_cons_zero, List.getElem?_cons_succ, List.set_cons_zero, List.set_cons_succ, List.length_map, e_le, e_lt, e_ge, e_gt, e_lenT, e_lenL, e_add, e_cat, e_sub, e_mul, e_div, e_mod, e_tupL, e_tupT, e_listL, e_listT, e_fcat, e_isN, e_eqi, e_eqs, fEq, fNe, fIn, fNotIn, decide_true, id_eq, e_all, e_any, e_ixT0, e_ixL0, e_ixT1, e_ixT2, e_max2, e_min2, e_abs, e_int, e_pow, true_and, and_true, forall_const, d_is_web_value]
  refine ⟨_, _, rfl, ?_⟩
  simp only [semOf, semP, semF, semT, semM, List.map_cons, List.map_nil, List.cons_append, List.nil_append, List.append_nil, List.replicate_succ, List.replicate_zero, Nat.reduceSub, Nat.reduceAdd, Nat.sub_self, Nat.sub_zero, List.length_cons, List.length_nil, Nat.zero_add, dSeq, dSet, dSetF, dSetH, dSetFH, dRet, dRetN, dIf, dNext, dFor, dExt, dApp, dSub, dFrz, dDrop, dNever, dBrk, dCnt, dAsg, dAsgH, dPar, dcNil, dcD, dcF, storesD, dV, dC, d1, d2, dN, dNF, d2F, dCons, dNil, dTup, dLst, asL, asB, dtAnd, dtOr, dtNot, dYes, dAndV, dOrV, dNotV, dIte, dCh, dLc, dSeqI, dRg1, dRg2, dEnum, dZip, dgN, dgT, dgCons, dgNil, sgN, sgT, sgCons, sgNil, dSlT, dSlL, dSome, dNo, dRev, dIsi, dNP, dNew, dFld, dMe, dMeN, dNCat, dMemo, dRF, dRC, dPot, wipeE, vis, hid, noOw, isOw, List.all_cons, List.all_nil, Bool.not_false, Bool.not_true, Bool.and_true, Bool.true_and, Bool.or_true, Bool.true_or, Bool.false_or, Bool.or_false, List.getElem?_cons_zero, List.getElem?_cons_succ, List.set_cons_zero, List.set_cons_succ, List.length_map, e_le, e_lt, e_ge, e_gt, e_lenT, e_lenL, e_add, e_cat, e_sub, e_mul, e_div, e_mod, e_tupL, e_tupT, e_listL, e_listT, e_fcat, e_isN, e_eqi, e_eqs, fEq, fNe, fIn, fNotIn, decide_true, id_eq, e_all, e_any, e_ixT0, e_ixL0, e_ixT1, e_ixT2, e_max2, e_min2, e_abs, e_int, e_pow, true_and, and_true, forall_const]
  refine ⟨_, _, _, rfl, ?_⟩
  show (match (.bool (decide ((1 : Int) ≤ n) && decide ((n : Int) ≤ 10)) : D) with | .bool true => _ | .bool false => _ | _ => _)
  rw [decide_eq_true (by omega), decide_eq_true (by omega)]
  exact ⟨n, l, rfl, h3, h⟩
/-- want_web(web): names 0 web -/
def d_want_web : DS := (dIf (dtNot (asB (dN g_is_web_value (dCons (dV 0) dNil)))) dNever dNext)
def g_want_web : List D → (D → Prop) → Prop := fun ds P => ∃ n l, ds = [webD n l] ∧ (1 ≤ n ∧ n ≤ 10) ∧ okPs n l ∧ P .none
theorem ok_want_web : ∀ ds P, g_want_web ds P → semOf 1 1 d_want_web ds P := by
  rintro ds P ⟨n, l, rfl, h1, h2, h⟩
  refine ⟨rfl, ?_⟩
  simp only [semOf, semP, semF, semT, semM, List.map_cons, List.map_nil, List.cons_append, List.nil_append, List.append_nil, List.replicate_succ, List.replicate_zero, Nat.reduceSub, Nat.reduceAdd, Nat.sub_self, Nat.sub_zero, List.length_cons, List.length_nil, Nat.zero_add, dSeq, dSet, dSetF, dSetH, dSetFH, dRet, dRetN, dIf, dNext, dFor, dExt, dApp, dSub, dFrz, dDrop, dNever, dBrk, dCnt, dAsg, dAsgH, dPar, dcNil, dcD, dcF, storesD, dV, dC, d1, d2, dN, dNF, d2F, dCons, dNil, dTup, dLst, asL, asB, dtAnd, dtOr, dtNot, dYes, dAndV, dOrV, dNotV, dIte, dCh, dLc, dSeqI, dRg1, dRg2, dEnum, dZip, dgN, dgT, dgCons, dgNil, sgN, sgT, sgCons, sgNil, dSlT, dSlL, dSome, dNo, dRev, dIsi, dNP, dNew, dFld, dMe, dMeN, dNCat, dMemo, dRF, dRC, dPot, wipeE, vis, hid, noOw, isOw, List.all_cons, List.all_nil, Bool.not_false, Bool.not_true, Bool.and_true, Bool.true_and, Bool.or_true, Bool.true_or, Bool.false_or, Bool.or_false, List.getElem?_cons_zero, List.getElem?_cons_succ, List.set_cons_zero, List.set_cons_succ, List.length_map, e_le, e_lt, e_ge, e_gt, e_lenT, e_lenL, e_add, e_cat, e_sub, e_mul, e_div, e_mod, e_tupL, e_tupT, e_listL, e_listT, e_fcat, e_isN, e_eqi, e_eqs, fEq, fNe, fIn, fNotIn, decide_true, id_eq, e_all, e_any, e_ixT0, e_ixL0, e_ixT1, e_ixT2, e_max2, e_min2, e_abs, e_int, e_pow, true_and, and_true, forall_const, d_want_web]
  exact ⟨n, l, rfl, h1, h2, h⟩
/-- want_pair(persons, pair): names 0 persons 1 pair -/
def d_want_pair : DS := (dIf (dtNot (asB (dN g_is_pair_of (dCons (dV 0) (dCons (dV 1) dNil))))) dNever dNext)
def g_want_pair : List D → (D → Prop) → Prop := fun ds P => ∃ n p, ds = [nD n, pD p] ∧ okP n p ∧ P .none
theorem ok_want_pair : ∀ ds P, g_want_pair ds P → semOf 2 2 d_want_pair ds P := by
  rintro ds P ⟨n, l, rfl, h1, h⟩
  refine ⟨rfl, ?_⟩
  simp only [semOf, semP, semF, semT, semM, List.map_cons, List.map_nil, List.cons_append, List.nil_append, List.append_nil, List.replicate_succ, List.replicate_zero, Nat.reduceSub, Nat.reduceAdd, Nat.sub_self, Nat.sub_zero, List.length_cons, List.length_nil, Nat.zero_add, dSeq, dSet, dSetF, dSetH, dSetFH, dRet, dRetN, dIf, dNext, dFor, dExt, dApp, dSub, dFrz, dDrop, dNever, dBrk, dCnt, dAsg, dAsgH, dPar, dcNil, dcD, dcF, storesD, dV, dC, d1, d2, dN, dNF, d2F, dCons, dNil, dTup, dLst, asL, asB, dtAnd, dtOr, dtNot, dYes, dAndV, dOrV, dNotV, dIte, dCh, dLc, dSeqI, dRg1, dRg2, dEnum, dZip, dgN, dgT, dgCons, dgNil, sgN, sgT, sgCons, sgNil, dSlT, dSlL, dSome, dNo, dRev, dIsi, dNP, dNew, dFld, dMe, dMeN, dNCat, dMemo, dRF, dRC, dPot, wipeE, vis, hid, noOw, isOw, List.all_cons, List.all_nil, Bool.not_false, Bool.not_true, Bool.and_true, Bool.true_and, Bool.or_true, Bool.true_or, Bool.false_or, Bool.or_false, List.getElem?_cons_zero, List.getElem?_cons_succ, List.set_cons_zero, List.set_cons_succ, List.length_map, e_le, e_lt, e_ge, e_gt, e_lenT, e_lenL, e_add, e_cat, e_sub, e_mul, e_div, e_mod, e_tupL, e_tupT, e_listL, e_listT, e_fcat, e_isN, e_eqi, e_eqs, fEq, fNe, fIn, fNotIn, decide_true, id_eq, e_all, e_any, e_ixT0, e_ixL0, e_ixT1, e_ixT2, e_max2, e_min2, e_abs, e_int, e_pow, true_and, and_true, forall_const, d_want_pair]
  exact ⟨n, l, rfl, h1, h⟩
/-- want_pairs(persons, pairs): names 0 persons 1 pairs -/
def d_want_pairs : DS := (dIf (dtNot (asB (dN g_are_pairs_of (dCons (dV 0) (dCons (dV 1) dNil))))) dNever dNext)
def g_want_pairs : List D → (D → Prop) → Prop := fun ds P => ∃ n l, ds = [nD n, psD l] ∧ okPs n l ∧ P .none
theorem ok_want_pairs : ∀ ds P, g_want_pairs ds P → semOf 2 2 d_want_pairs ds P := by
  rintro ds P ⟨n, l, rfl, h1, h⟩
  refine ⟨rfl, ?_⟩
  simp only [semOf, semP, semF, semT, semM, List.map_cons, List.map_nil, List.cons_append, List.nil_append, List.append_nil, List.replicate_succ, List.replicate_zero, Nat.reduceSub, Nat.reduceAdd, Nat.sub_self, Nat.sub_zero, List.length_cons, List.length_nil, Nat.zero_add, dSeq, dSet, dSetF, dSetH, dSetFH, dRet, dRetN, dIf, dNext, dFor, dExt, dApp, dSub, dFrz, dDrop, dNever, dBrk, dCnt, dAsg, dAsgH, dPar, dcNil, dcD, dcF, storesD, dV, dC, d1, d2, dN, dNF, d2F, dCons, dNil, dTup, dLst, asL, asB, dtAnd, dtOr, dtNot, dYes, dAndV, dOrV, dNotV, dIte, dCh, dLc, dSeqI, dRg1, dRg2, dEnum, dZip, dgN, dgT, dgCons, dgNil, sgN, sgT, sgCons, sgNil, dSlT, dSlL, dSome, dNo, dRev, dIsi, dNP, dNew, dFld, dMe, dMeN, dNCat, dMemo, dRF, dRC, dPot, wipeE, vis, hid, noOw, isOw, List.all_cons, List.all_nil, Bool.not_false, Bool.not_true, Bool.and_true, Bool.true_and, Bool.or_true, Bool.true_or, Bool.false_or, Bool.or_false, List.getElem?_cons_zero, List.getElem?_cons_succ, List.set_cons_zero, List.set_cons_succ, List.length_map, e_le, e_lt, e_ge, e_gt, e_lenT, e_lenL, e_add, e_cat, e_sub, e_mul, e_div, e_mod, e_tupL, e_tupT, e_listL, e_listT, e_fcat, e_isN, e_eqi, e_eqs, fEq, fNe, fIn, fNotIn, decide_true, id_eq, e_all, e_any, e_ixT0, e_ixL0, e_ixT1, e_ixT2, e_max2, e_min2, e_abs, e_int, e_pow, true_and, and_true, forall_const, d_want_pairs]
  exact ⟨n, l, rfl, h1, h⟩
/-! ### all pairs -/
theorem rangeD_nat (lo k : Nat) : rangeD (lo : Int) k = (List.range k).map fun i => nD (lo + i) := by
  unfold rangeD
  apply List.map_congr_left
  intro i _
  show (.int _ : D) = .int _
  rw [Int.natCast_add]
def prows (n : Nat) (l : List Nat) : List P2 := l.flatMap fun a => (List.range (n - (a + 1))).map fun i => (a, a + 1 + i)
theorem allP_len (n : Nat) : (allP n).length ≤ n * n := by
  have : ∀ l : List Nat, (prows n l).length ≤ l.length * n := by
    intro l
    induction l with
    | nil => simp [prows]
    | cons a l ih =>
      unfold prows at *
      rw [List.flatMap_cons, List.length_append, List.length_map, List.length_range, List.length_cons, Nat.succ_mul]
      omega
  have := this (List.range n)
  rw [List.length_range] at this
  exact this
theorem immAll_ps : ∀ l : List P2, immAll (l.map pD) = true
  | [] => rfl
  | p :: l => by
    rw [List.map_cons]
    show (imm (pD p) && immAll (l.map pD)) = true
    rw [immAll_ps l]
    rfl
/-- all_pairs(persons): names 0 persons 1 found 2 one 3 other -/
def d_all_pairs : DS := (dSeq (dSetF 1 (dLst dNil))
  (dSeq (dFor (dRg1 (dCons (dV 0) dNil)) (sgN 2) (dExt 1 (asL (dLc (dRg2 (dCons (d2 fPlus (dV 2) (dC (.int 1))) (dCons (dV 0) dNil))) (dgN 3) dYes (dTup (dCons (dV 2) (dCons (dV 3) dNil))) [3]))))
  (dRet (dV 1))))
def g_all_pairs : List D → (D → Prop) → Prop := fun ds P => ∃ n, ds = [nD n] ∧ n ≤ 100 ∧ P (.list ((allP n).map pD))
theorem ok_all_pairs : ∀ ds P, g_all_pairs ds P → semOf 4 1 d_all_pairs ds P := by
  rintro ds P ⟨n, rfl, hn, h⟩
  refine ⟨rfl, ?_⟩
  simp only [semOf, semP, semF, semT, semM, List.map_cons, List.map_nil, List.cons_append, List.nil_append, List.append_nil, List.replicate_succ, List.replicate_zero, Nat.reduceSub, Nat.reduceAdd, Nat.sub_self, Nat.sub_zero, List.length_cons, List.length_nil, Nat.zero_add, dSeq, dSet, dSetF, dSetH, dSetFH, dRet, dRetN, dIf, dNext, dFor, dExt, dApp, dSub, dFrz, dDrop, dNever, dBrk, dCnt, dAsg, dAsgH, dPar, dcNil, dcD, dcF, storesD, dV, dC, d1, d2, dN, dNF, d2F, dCons, dNil, dTup, dLst, asL, asB, dtAnd, dtOr, dtNot, dYes, dAndV, dOrV, dNotV, dIte, dCh, dLc, dSeqI, dRg1, dRg2, dEnum, dZip, dgN, dgT, dgCons, dgNil, sgN, sgT, sgCons, sgNil, dSlT, dSlL, dSome, dNo, dRev, dIsi, dNP, dNew, dFld, dMe, dMeN, dNCat, dMemo, dRF, dRC, dPot, wipeE, vis, hid, noOw, isOw, List.all_cons, List.all_nil, Bool.not_false, Bool.not_true, Bool.and_true, Bool.true_and, Bool.or_true, Bool.true_or, Bool.false_or, Bool.or_false, List.getElem?_cons_zero, List.getElem?_cons_succ, List.set_cons_zero, List.set_cons_succ, List.length_map, e_le, e_lt, e_ge, e_gt, e_lenT, e_lenL, e_add, e_cat, e_sub, e_mul, e_div, e_mod, e_tupL, e_tupT, e_listL, e_listT, e_fcat, e_isN, e_eqi, e_eqs, fEq, fNe, fIn, fNotIn, decide_true, id_eq, e_all, e_any, e_ixT0, e_ixL0, e_ixT1, e_ixT2, e_max2, e_min2, e_abs, e_int, e_pow, true_and, and_true, forall_const, d_all_pairs]
  refine ⟨by omega, by decide, ⟨by omega, by omega⟩, ?_⟩
  rw [show ((n : Int)).toNat = n from Int.toNat_natCast n, show rangeD 0 n = (List.range n).map nD from (rangeD_nat 0 n).trans (List.map_congr_left fun i _ => by rw [Nat.zero_add])]
  refine for_go (List.range n) (fun done ρ => ∃ s2 s3, ρ = [.d (nD n), .ow ((prows n done).map pD), s2, s3] ∧ isOw s2 = false ∧ isOw s3 = false) ?step ?fin [] (List.range n) _ rfl ⟨.no, .no, rfl, rfl, rfl⟩
  case step =>
    rintro done a rest ρ e ⟨s2, s3, rfl, i2, i3⟩ E' h1 h2 h3 h4
    have ha : a < n := List.mem_range.mp (by rw [e]; exact List.mem_append_right _ (List.mem_cons_self ..))
    have hd : done.length ≤ n := by
      have := congrArg List.length e
      rw [List.length_range, List.length_append] at this
      omega
    simp only [semOf, semP, semF, semT, semM, List.map_cons, List.map_nil, List.cons_append, List.nil_append, List.append_nil, List.replicate_succ, List.replicate_zero, Nat.reduceSub, Nat.reduceAdd, Nat.sub_self, Nat.sub_zero, List.length_cons, List.length_nil, Nat.zero_add, dSeq, dSet, dSetF, dSetH, dSetFH, dRet, dRetN, dIf, dNext, dFor, dExt, dApp, dSub, dFrz, dDrop, dNever, dBrk, dCnt, dAsg, dAsgH, dPar, dcNil, dcD, dcF, storesD, dV, dC, d1, d2, dN, dNF, d2F, dCons, dNil, dTup, dLst, asL, asB, dtAnd, dtOr, dtNot, dYes, dAndV, dOrV, dNotV, dIte, dCh, dLc, dSeqI, dRg1, dRg2, dEnum, dZip, dgN, dgT, dgCons, dgNil, sgN, sgT, sgCons, sgNil, dSlT, dSlL, dSome, dNo, dRev, dIsi, dNP, dNew, dFld, dMe, dMeN, dNCat, dMemo, dRF, dRC, dPot, wipeE, vis, hid, noOw, isOw, List.all_cons, List.all_nil, Bool.not_false, Bool.not_true, Bool.and_true, Bool.true_and, Bool.or_true, Bool.true_or, Bool.false_or, Bool.or_false, List.getElem?_cons_zero, List.getElem?_cons_succ, List.set_cons_zero, List.set_cons_succ, List.length_map, e_le, e_lt, e_ge, e_gt, e_lenT, e_lenL, e_add, e_cat, e_sub, e_mul, e_div, e_mod, e_tupL, e_tupT, e_listL, e_listT, e_fcat, e_isN, e_eqi, e_eqs, fEq, fNe, fIn, fNotIn, decide_true, id_eq, e_all, e_any, e_ixT0, e_ixL0, e_ixT1, e_ixT2, e_max2, e_min2, e_abs, e_int, e_pow, true_and, and_true, forall_const]
    refine ⟨⟨by omega, by omega, by omega, by omega⟩, ?_⟩
    rw [show ((n : Int) - ((a : Int) + 1)).toNat = n - (a + 1) by omega, show ((a : Int) + 1) = ((a + 1 : Nat) : Int) by omega, rangeD_nat]
    refine ⟨by rw [List.length_map, List.length_range]; omega, lc_map (List.range (n - (a + 1))) (h := fun i => pD (a, a + 1 + i)) (fun i hi R hR => ?_) ?_⟩
    · simp only [semOf, semP, semF, semT, semM, List.map_cons, List.map_nil, List.cons_append, List.nil_append, List.append_nil, List.replicate_succ, List.replicate_zero, Nat.reduceSub, Nat.reduceAdd, Nat.sub_self, Nat.sub_zero, List.length_cons, List.length_nil, Nat.zero_add, dSeq, dSet, dSetF, dSetH, dSetFH, dRet, dRetN, dIf, dNext, dFor, dExt, dApp, dSub, dFrz, dDrop, dNever, dBrk, dCnt, dAsg, dAsgH, dPar, dcNil, dcD, dcF, storesD, dV, dC, d1, d2, dN, dNF, d2F, dCons, dNil, dTup, dLst, asL, asB, dtAnd, dtOr, dtNot, dYes, dAndV, dOrV, dNotV, dIte, dCh, dLc, dSeqI, dRg1, dRg2, dEnum, dZip, dgN, dgT, dgCons, dgNil, sgN, sgT, sgCons, sgNil, dSlT, dSlL, dSome, dNo, dRev, dIsi, dNP, dNew, dFld, dMe, dMeN, dNCat, dMemo, dRF, dRC, dPot, wipeE, vis, hid, noOw, isOw, List.all_cons, List.all_nil, Bool.not_false, Bool.not_true, Bool.and_true, Bool.true_and, Bool.or_true, Bool.true_or, Bool.false_or, Bool.or_false, List.getElem?_cons_zero, List.getElem?_cons_succ, List.set_cons_zero, List.set_cons_succ, List.length_map, e_le, e_lt, e_ge, e_gt, e_lenT, e_lenL, e_add, e_cat, e_sub, e_mul, e_div, e_mod, e_tupL, e_tupT, e_listL, e_listT, e_fcat, e_isN, e_eqi, e_eqs, fEq, fNe, fIn, fNotIn, decide_true, id_eq, e_all, e_any, e_ixT0, e_ixL0, e_ixT1, e_ixT2, e_max2, e_min2, e_abs, e_int, e_pow, true_and, and_true, forall_const, lcTurn]
      exact ⟨by omega, hR⟩
    · rw [show ((List.range (n - (a + 1))).map fun i => pD (a, a + 1 + i)) = ((List.range (n - (a + 1))).map fun i => (a, a + 1 + i)).map pD by rw [List.map_map]; rfl]
      have hl : (prows n done).length ≤ done.length * n := by
        unfold prows
        clear e hd h1 h2 h3 h4
        induction done with
        | nil => simp
        | cons a l ih =>
          rw [List.flatMap_cons, List.length_append, List.length_map, List.length_range, List.length_cons, Nat.succ_mul]
          omega
      have hm : done.length * n ≤ 100 * 100 := Nat.mul_le_mul (by omega) hn
      refine ⟨⟨by rw [List.length_map, List.length_map, List.length_range]; omega, immAll_ps _⟩, h1 _ ⟨.d (nD a), s3, ?_, rfl, i3⟩⟩
      rw [← List.map_append]
      show _ = [Sl.d (nD n), Sl.ow ((prows n (done ++ [a])).map pD), _, _]
      unfold prows
      rw [List.flatMap_append, List.flatMap_singleton]
  case fin =>
    rintro ρ ⟨s2, s3, rfl, _, _⟩
    simp only [semOf, semP, semF, semT, semM, List.map_cons, List.map_nil, List.cons_append, List.nil_append, List.append_nil, List.replicate_succ, List.replicate_zero, Nat.reduceSub, Nat.reduceAdd, Nat.sub_self, Nat.sub_zero, List.length_cons, List.length_nil, Nat.zero_add, dSeq, dSet, dSetF, dSetH, dSetFH, dRet, dRetN, dIf, dNext, dFor, dExt, dApp, dSub, dFrz, dDrop, dNever, dBrk, dCnt, dAsg, dAsgH, dPar, dcNil, dcD, dcF, storesD, dV, dC, d1, d2, dN, dNF, d2F, dCons, dNil, dTup, dLst, asL, asB, dtAnd, dtOr, dtNot, dYes, dAndV, dOrV, dNotV, dIte, dCh, dLc, dSeqI, dRg1, dRg2, dEnum, dZip, dgN, dgT, dgCons, dgNil, sgN, sgT, sgCons, sgNil, dSlT, dSlL, dSome, dNo, dRev, dIsi, dNP, dNew, dFld, dMe, dMeN, dNCat, dMemo, dRF, dRC, dPot, wipeE, vis, hid, noOw, isOw, List.all_cons, List.all_nil, Bool.not_false, Bool.not_true, Bool.and_true, Bool.true_and, Bool.or_true, Bool.true_or, Bool.false_or, Bool.or_false, List.getElem?_cons_zero, List.getElem?_cons_succ, List.set_cons_zero, List.set_cons_succ, List.length_map, e_le, e_lt, e_ge, e_gt, e_lenT, e_lenL, e_add, e_cat, e_sub, e_mul, e_div, e_mod, e_tupL, e_tupT, e_listL, e_listT, e_fcat, e_isN, e_eqi, e_eqs, fEq, fNe, fIn, fNotIn, decide_true, id_eq, e_all, e_any, e_ixT0, e_ixL0, e_ixT1, e_ixT2, e_max2, e_min2, e_abs, e_int, e_pow, true_and, and_true, forall_const]
    exact h
end HM

/-! What the program's small defs tell: counts. -/
namespace HM
open PySem L2 TL
theorem ixN_nat {n k : Nat} (h : k < n) : ixN n (k : Int) = some k := by
  unfold ixN
  rw [if_pos (Int.natCast_nonneg k), if_pos (Int.ofNat_lt.mpr h)]
  rfl
theorem degL_len (n : Nat) (l : List P2) : (degL n l).length = n := by unfold degL; rw [List.length_map, List.length_range]
theorem degL_get {n : Nat} (l : List P2) {q : Nat} (h : q < n) : (degL n l)[q]? = some (deg l q : Int) := by
  unfold degL
  rw [List.getElem?_map, List.getElem?_range h]
  rfl
theorem degL_put {n : Nat} {l : List P2} {p : P2} (h : okP n p) (x y : Int) (hx : x = deg l p.1 + 1) (hy : y = deg l p.2 + 1) : ((degL n l).set p.1 x).set p.2 y = degL n (l ++ [p]) := by
  obtain ⟨h1, h2⟩ := h
  apply List.ext_getElem?
  intro q
  by_cases hq : q < n
  · rw [degL_get _ hq, deg_append]
    by_cases a : p.2 = q
    · subst a
      rw [List.getElem?_set_self (by rw [List.length_set, degL_len]; exact h2), hy]
      congr 1
      simp [deg, Nat.ne_of_lt h1]
    · rw [List.getElem?_set_ne a]
      by_cases b : p.1 = q
      · subst b
        rw [List.getElem?_set_self (by rw [degL_len]; omega), hx]
        congr 1
        simp [deg, a]
      · rw [List.getElem?_set_ne b, degL_get _ hq]
        congr 1
        simp [deg, a, b]
  · rw [List.getElem?_eq_none (by rw [List.length_set, List.length_set, degL_len]; omega), List.getElem?_eq_none (by rw [degL_len]; omega)]
theorem imm_ints (l : List Int) : immAll (l.map .int) = true := by
  induction l with
  | nil => rfl
  | cons x l ih => exact ih
theorem map_set_int (l : List Int) (k : Nat) (x : Int) : (l.map PyData.int).set k (.int x) = (l.set k x).map .int := by rw [List.map_set]
theorem zeros (n : Nat) : (List.replicate n [PyData.int 0]).flatten = (degL n []).map .int := by
  rw [List.flatten_replicate_singleton]
  unfold degL
  rw [List.map_map, show (PyData.int ∘ fun q => ((deg [] q : Nat) : Int)) = fun _ => PyData.int 0 from rfl, List.map_const', List.length_range]
/-- counts_in(persons, pairs): names 0 persons 1 pairs 2 found 3 one 4 other -/
def d_counts_in : DS := (dSeq (dSetF 2 (d2F fRep (asL (dLst (dCons (dC (.int 0)) dNil))) (dV 0)))
  (dSeq (dFor (dSeqI (dV 1)) (sgT 2 (sgCons 3 (sgCons 4 sgNil))) (dSeq (dSub 2 (dV 3) (d2 fPlus (d2 fIx (dV 2) (dV 3)) (dC (.int 1))))
  (dSub 2 (dV 4) (d2 fPlus (d2 fIx (dV 2) (dV 4)) (dC (.int 1))))))
  (dRet (dN fTuple (dCons (dV 2) dNil)))))
def g_counts_in : List D → (D → Prop) → Prop := fun ds P => ∃ n l, ds = [nD n, psD l] ∧ n ≤ 1000 ∧ (∀ p, p ∈ l → okP n p) ∧ P (isD (degL n l))
theorem ok_counts_in : ∀ ds P, g_counts_in ds P → semOf 5 2 d_counts_in ds P := by
  rintro ds P ⟨n, l, rfl, hn, ho, h⟩
  refine ⟨rfl, ?_⟩
  simp only [semOf, semP, semF, semT, semM, List.map_cons, List.map_nil, List.cons_append, List.nil_append, List.append_nil, List.replicate_succ, List.replicate_zero, Nat.reduceSub, Nat.reduceAdd, Nat.sub_self, Nat.sub_zero, List.length_cons, List.length_nil, Nat.zero_add, dSeq, dSet, dSetF, dSetH, dSetFH, dRet, dRetN, dIf, dNext, dFor, dExt, dApp, dSub, dFrz, dDrop, dNever, dBrk, dCnt, dAsg, dAsgH, dPar, dcNil, dcD, dcF, storesD, dV, dC, d1, d2, dN, dNF, d2F, dCons, dNil, dTup, dLst, asL, asB, dtAnd, dtOr, dtNot, dYes, dAndV, dOrV, dNotV, dIte, dCh, dLc, dSeqI, dRg1, dRg2, dEnum, dZip, dgN, dgT, dgCons, dgNil, sgN, sgT, sgCons, sgNil, dSlT, dSlL, dSome, dNo, dRev, dIsi, dNP, dNew, dFld, dMe, dMeN, dNCat, dMemo, dRF, dRC, dPot, wipeE, vis, hid, noOw, isOw, List.all_cons, List.all_nil, Bool.not_false, Bool.not_true, Bool.and_true, Bool.true_and, Bool.or_true, Bool.true_or, Bool.false_or, Bool.or_false, List.getElem?_cons_zero, List.getElem?_cons_succ, List.set_cons_zero, List.set_cons_succ, List.length_map, e_le, e_lt, e_ge, e_gt, e_lenT, e_lenL, e_add, e_cat, e_sub, e_mul, e_div, e_mod, e_tupL, e_tupT, e_listL, e_listT, e_fcat, e_isN, e_eqi, e_eqs, fEq, fNe, fIn, fNotIn, decide_true, id_eq, e_all, e_any, e_ixT0, e_ixL0, e_ixT1, e_ixT2, e_max2, e_min2, e_abs, e_int, e_pow, true_and, and_true, forall_const, d_counts_in, fRep]
  refine ⟨by decide, ⟨by omega, by omega, by omega⟩, by decide, ?_⟩
  rw [Int.toNat_natCast, zeros n]
  refine for_go l (fun done ρ => ∃ s3 s4, ρ = [.d (nD n), .d (psD l), .ow ((degL n done).map .int), s3, s4] ∧ isOw s3 = false ∧ isOw s4 = false) ?step ?fin [] l _ rfl ⟨.no, .no, rfl, rfl, rfl⟩
  case step =>
    rintro done p rest ρ e ⟨s3, s4, rfl, i3, i4⟩ E' h1 h2 h3 h4
    simp only [semOf, semP, semF, semT, semM, List.map_cons, List.map_nil, List.cons_append, List.nil_append, List.append_nil, List.replicate_succ, List.replicate_zero, Nat.reduceSub, Nat.reduceAdd, Nat.sub_self, Nat.sub_zero, List.length_cons, List.length_nil, Nat.zero_add, dSeq, dSet, dSetF, dSetH, dSetFH, dRet, dRetN, dIf, dNext, dFor, dExt, dApp, dSub, dFrz, dDrop, dNever, dBrk, dCnt, dAsg, dAsgH, dPar, dcNil, dcD, dcF, storesD, dV, dC, d1, d2, dN, dNF, d2F, dCons, dNil, dTup, dLst, asL, asB, dtAnd, dtOr, dtNot, dYes, dAndV, dOrV, dNotV, dIte, dCh, dLc, dSeqI, dRg1, dRg2, dEnum, dZip, dgN, dgT, dgCons, dgNil, sgN, sgT, sgCons, sgNil, dSlT, dSlL, dSome, dNo, dRev, dIsi, dNP, dNew, dFld, dMe, dMeN, dNCat, dMemo, dRF, dRC, dPot, wipeE, vis, hid, noOw, isOw, List.all_cons, List.all_nil, Bool.not_false, Bool.not_true, Bool.and_true, Bool.true_and, Bool.or_true, Bool.true_or, Bool.false_or, Bool.or_false, List.getElem?_cons_zero, List.getElem?_cons_succ, List.set_cons_zero, List.set_cons_succ, List.length_map, e_le, e_lt, e_ge, e_gt, e_lenT, e_lenL, e_add, e_cat, e_sub, e_mul, e_div, e_mod, e_tupL, e_tupT, e_listL, e_listT, e_fcat, e_isN, e_eqi, e_eqs, fEq, fNe, fIn, fNotIn, decide_true, id_eq, e_all, e_any, e_ixT0, e_ixL0, e_ixT1, e_ixT2, e_max2, e_min2, e_abs, e_int, e_pow, true_and, and_true, forall_const]
    have hp : okP n p := ho p (by rw [e]; exact List.mem_append_right _ (List.mem_cons_self ..))
    obtain ⟨q1, q2⟩ := hp
    rw [e_ixL (x := .int (deg done p.1 : Int)) (by rw [List.getElem?_map, degL_get _ (by omega)]; rfl)]
    simp only [semOf, semP, semF, semT, semM, List.map_cons, List.map_nil, List.cons_append, List.nil_append, List.append_nil, List.replicate_succ, List.replicate_zero, Nat.reduceSub, Nat.reduceAdd, Nat.sub_self, Nat.sub_zero, List.length_cons, List.length_nil, Nat.zero_add, dSeq, dSet, dSetF, dSetH, dSetFH, dRet, dRetN, dIf, dNext, dFor, dExt, dApp, dSub, dFrz, dDrop, dNever, dBrk, dCnt, dAsg, dAsgH, dPar, dcNil, dcD, dcF, storesD, dV, dC, d1, d2, dN, dNF, d2F, dCons, dNil, dTup, dLst, asL, asB, dtAnd, dtOr, dtNot, dYes, dAndV, dOrV, dNotV, dIte, dCh, dLc, dSeqI, dRg1, dRg2, dEnum, dZip, dgN, dgT, dgCons, dgNil, sgN, sgT, sgCons, sgNil, dSlT, dSlL, dSome, dNo, dRev, dIsi, dNP, dNew, dFld, dMe, dMeN, dNCat, dMemo, dRF, dRC, dPot, wipeE, vis, hid, noOw, isOw, List.all_cons, List.all_nil, Bool.not_false, Bool.not_true, Bool.and_true, Bool.true_and, Bool.or_true, Bool.true_or, Bool.false_or, Bool.or_false, List.getElem?_cons_zero, List.getElem?_cons_succ, List.set_cons_zero, List.set_cons_succ, List.length_map, e_le, e_lt, e_ge, e_gt, e_lenT, e_lenL, e_add, e_cat, e_sub, e_mul, e_div, e_mod, e_tupL, e_tupT, e_listL, e_listT, e_fcat, e_isN, e_eqi, e_eqs, fEq, fNe, fIn, fNotIn, decide_true, id_eq, e_all, e_any, e_ixT0, e_ixL0, e_ixT1, e_ixT2, e_max2, e_min2, e_abs, e_int, e_pow, true_and, and_true, forall_const]
    rw [degL_len, ixN_nat (by omega)]
    simp only
    refine ⟨rfl, ?_⟩
    rw [map_set_int]
    rw [e_ixL (x := .int (deg done p.2 : Int)) (by rw [List.getElem?_map, List.getElem?_set_ne (by omega), degL_get _ q2]; rfl)]
    simp only [semOf, semP, semF, semT, semM, List.map_cons, List.map_nil, List.cons_append, List.nil_append, List.append_nil, List.replicate_succ, List.replicate_zero, Nat.reduceSub, Nat.reduceAdd, Nat.sub_self, Nat.sub_zero, List.length_cons, List.length_nil, Nat.zero_add, dSeq, dSet, dSetF, dSetH, dSetFH, dRet, dRetN, dIf, dNext, dFor, dExt, dApp, dSub, dFrz, dDrop, dNever, dBrk, dCnt, dAsg, dAsgH, dPar, dcNil, dcD, dcF, storesD, dV, dC, d1, d2, dN, dNF, d2F, dCons, dNil, dTup, dLst, asL, asB, dtAnd, dtOr, dtNot, dYes, dAndV, dOrV, dNotV, dIte, dCh, dLc, dSeqI, dRg1, dRg2, dEnum, dZip, dgN, dgT, dgCons, dgNil, sgN, sgT, sgCons, sgNil, dSlT, dSlL, dSome, dNo, dRev, dIsi, dNP, dNew, dFld, dMe, dMeN, dNCat, dMemo, dRF, dRC, dPot, wipeE, vis, hid, noOw, isOw, List.all_cons, List.all_nil, Bool.not_false, Bool.not_true, Bool.and_true, Bool.true_and, Bool.or_true, Bool.true_or, Bool.false_or, Bool.or_false, List.getElem?_cons_zero, List.getElem?_cons_succ, List.set_cons_zero, List.set_cons_succ, List.length_map, e_le, e_lt, e_ge, e_gt, e_lenT, e_lenL, e_add, e_cat, e_sub, e_mul, e_div, e_mod, e_tupL, e_tupT, e_listL, e_listT, e_fcat, e_isN, e_eqi, e_eqs, fEq, fNe, fIn, fNotIn, decide_true, id_eq, e_all, e_any, e_ixT0, e_ixL0, e_ixT1, e_ixT2, e_max2, e_min2, e_abs, e_int, e_pow, true_and, and_true, forall_const]
    rw [List.length_set, degL_len, ixN_nat q2]
    simp only
    refine ⟨rfl, h1 _ ⟨.d (nD p.1), .d (nD p.2), ?_, rfl, rfl⟩⟩
    rw [map_set_int, degL_put ⟨q1, q2⟩ _ _ rfl rfl]
  case fin =>
    rintro ρ ⟨s3, s4, rfl, _, _⟩
    simp only [semOf, semP, semF, semT, semM, List.map_cons, List.map_nil, List.cons_append, List.nil_append, List.append_nil, List.replicate_succ, List.replicate_zero, Nat.reduceSub, Nat.reduceAdd, Nat.sub_self, Nat.sub_zero, List.length_cons, List.length_nil, Nat.zero_add, dSeq, dSet, dSetF, dSetH, dSetFH, dRet, dRetN, dIf, dNext, dFor, dExt, dApp, dSub, dFrz, dDrop, dNever, dBrk, dCnt, dAsg, dAsgH, dPar, dcNil, dcD, dcF, storesD, dV, dC, d1, d2, dN, dNF, d2F, dCons, dNil, dTup, dLst, asL, asB, dtAnd, dtOr, dtNot, dYes, dAndV, dOrV, dNotV, dIte, dCh, dLc, dSeqI, dRg1, dRg2, dEnum, dZip, dgN, dgT, dgCons, dgNil, sgN, sgT, sgCons, sgNil, dSlT, dSlL, dSome, dNo, dRev, dIsi, dNP, dNew, dFld, dMe, dMeN, dNCat, dMemo, dRF, dRC, dPot, wipeE, vis, hid, noOw, isOw, List.all_cons, List.all_nil, Bool.not_false, Bool.not_true, Bool.and_true, Bool.true_and, Bool.or_true, Bool.true_or, Bool.false_or, Bool.or_false, List.getElem?_cons_zero, List.getElem?_cons_succ, List.set_cons_zero, List.set_cons_succ, List.length_map, e_le, e_lt, e_ge, e_gt, e_lenT, e_lenL, e_add, e_cat, e_sub, e_mul, e_div, e_mod, e_tupL, e_tupT, e_listL, e_listT, e_fcat, e_isN, e_eqi, e_eqs, fEq, fNe, fIn, fNotIn, decide_true, id_eq, e_all, e_any, e_ixT0, e_ixL0, e_ixT1, e_ixT2, e_max2, e_min2, e_abs, e_int, e_pow, true_and, and_true, forall_const]
    exact h
/-- counts_of(web): names 0 web -/
def d_counts_of : DS := (dSeq (dDrop (dN g_want_web (dCons (dV 0) dNil)))
  (dRet (dN g_counts_in (dCons (d2 fIx (dV 0) (dC (.int 1))) (dCons (d2 fIx (dV 0) (dC (.int 2))) dNil)))))
def g_counts_of : List D → (D → Prop) → Prop := fun ds P => ∃ n l, ds = [webD n l] ∧ (1 ≤ n ∧ n ≤ 10) ∧ okPs n l ∧ P (isD (degL n l))
theorem ok_counts_of : ∀ ds P, g_counts_of ds P → semOf 1 1 d_counts_of ds P := by
  rintro ds P ⟨n, l, rfl, h1, h2, h⟩
  refine ⟨rfl, ?_⟩
  simp only [semOf, semP, semF, semT, semM, List.map_cons, List.map_nil, List.cons_append, List.nil_append, List.append_nil, List.replicate_succ, List.replicate_zero, Nat.reduceSub, Nat.reduceAdd, Nat.sub_self, Nat.sub_zero, List.length_cons, List.length_nil, Nat.zero_add, dSeq, dSet, dSetF, dSetH, dSetFH, dRet, dRetN, dIf, dNext, dFor, dExt, dApp, dSub, dFrz, dDrop, dNever, dBrk, dCnt, dAsg, dAsgH, dPar, dcNil, dcD, dcF, storesD, dV, dC, d1, d2, dN, dNF, d2F, dCons, dNil, dTup, dLst, asL, asB, dtAnd, dtOr, dtNot, dYes, dAndV, dOrV, dNotV, dIte, dCh, dLc, dSeqI, dRg1, dRg2, dEnum, dZip, dgN, dgT, dgCons, dgNil, sgN, sgT, sgCons, sgNil, dSlT, dSlL, dSome, dNo, dRev, dIsi, dNP, dNew, dFld, dMe, dMeN, dNCat, dMemo, dRF, dRC, dPot, wipeE, vis, hid, noOw, isOw, List.all_cons, List.all_nil, Bool.not_false, Bool.not_true, Bool.and_true, Bool.true_and, Bool.or_true, Bool.true_or, Bool.false_or, Bool.or_false, List.getElem?_cons_zero, List.getElem?_cons_succ, List.set_cons_zero, List.set_cons_succ, List.length_map, e_le, e_lt, e_ge, e_gt, e_lenT, e_lenL, e_add, e_cat, e_sub, e_mul, e_div, e_mod, e_tupL, e_tupT, e_listL, e_listT, e_fcat, e_isN, e_eqi, e_eqs, fEq, fNe, fIn, fNotIn, decide_true, id_eq, e_all, e_any, e_ixT0, e_ixL0, e_ixT1, e_ixT2, e_max2, e_min2, e_abs, e_int, e_pow, true_and, and_true, forall_const, d_counts_of]
  exact ⟨n, l, rfl, h1, h2, n, l, rfl, by omega, h2.1, h⟩
/-- later_of(web): names 0 web 1 person 2 one 3 late -/
def d_later_of : DS := (dRet (asL (dLc (dRg1 (dCons (d2 fIx (dV 0) (dC (.int 1))) dNil)) (dgN 1) dYes (asL (dLc (dSeqI (d2 fIx (dV 0) (dC (.int 2)))) (dgT 2 (dgCons (dgN 2) (dgCons (dgN 3) dgNil))) (asB (d2 fEq (dV 2) (dV 1))) (dV 3) [2, 3])) [1])))
def g_later_of : List D → (D → Prop) → Prop := fun ds P => ∃ n l, ds = [webD n l] ∧ n ≤ 1000 ∧ l.length ≤ 1000 ∧ P (.list ((lts l n).map fun c => .list (c.map nD)))
theorem ok_later_of : ∀ ds P, g_later_of ds P → semOf 4 1 d_later_of ds P := by
  rintro ds P ⟨n, l, rfl, h1, h2, h⟩
  refine ⟨rfl, ?_⟩
  simp only [semOf, semP, semF, semT, semM, List.map_cons, List.map_nil, List.cons_append, List.nil_append, List.append_nil, List.replicate_succ, List.replicate_zero, Nat.reduceSub, Nat.reduceAdd, Nat.sub_self, Nat.sub_zero, List.length_cons, List.length_nil, Nat.zero_add, dSeq, dSet, dSetF, dSetH, dSetFH, dRet, dRetN, dIf, dNext, dFor, dExt, dApp, dSub, dFrz, dDrop, dNever, dBrk, dCnt, dAsg, dAsgH, dPar, dcNil, dcD, dcF, storesD, dV, dC, d1, d2, dN, dNF, d2F, dCons, dNil, dTup, dLst, asL, asB, dtAnd, dtOr, dtNot, dYes, dAndV, dOrV, dNotV, dIte, dCh, dLc, dSeqI, dRg1, dRg2, dEnum, dZip, dgN, dgT, dgCons, dgNil, sgN, sgT, sgCons, sgNil, dSlT, dSlL, dSome, dNo, dRev, dIsi, dNP, dNew, dFld, dMe, dMeN, dNCat, dMemo, dRF, dRC, dPot, wipeE, vis, hid, noOw, isOw, List.all_cons, List.all_nil, Bool.not_false, Bool.not_true, Bool.and_true, Bool.true_and, Bool.or_true, Bool.true_or, Bool.false_or, Bool.or_false, List.getElem?_cons_zero, List.getElem?_cons_succ, List.set_cons_zero, List.set_cons_succ, List.length_map, e_le, e_lt, e_ge, e_gt, e_lenT, e_lenL, e_add, e_cat, e_sub, e_mul, e_div, e_mod, e_tupL, e_tupT, e_listL, e_listT, e_fcat, e_isN, e_eqi, e_eqs, fEq, fNe, fIn, fNotIn, decide_true, id_eq, e_all, e_any, e_ixT0, e_ixL0, e_ixT1, e_ixT2, e_max2, e_min2, e_abs, e_int, e_pow, true_and, and_true, forall_const, d_later_of]
  refine ⟨⟨by omega, by omega⟩, ?_⟩
  rw [Int.toNat_natCast, show rangeD 0 n = (List.range n).map nD from (rangeD_nat 0 n).trans (List.map_congr_left fun i _ => by rw [Nat.zero_add])]
  refine ⟨by rw [List.length_map, List.length_range]; omega, lc_map (List.range n) (h := fun p => .list ((later l p).map nD)) (fun p hp R hR => ?_) ?_⟩
  · simp only [semOf, semP, semF, semT, semM, List.map_cons, List.map_nil, List.cons_append, List.nil_append, List.append_nil, List.replicate_succ, List.replicate_zero, Nat.reduceSub, Nat.reduceAdd, Nat.sub_self, Nat.sub_zero, List.length_cons, List.length_nil, Nat.zero_add, dSeq, dSet, dSetF, dSetH, dSetFH, dRet, dRetN, dIf, dNext, dFor, dExt, dApp, dSub, dFrz, dDrop, dNever, dBrk, dCnt, dAsg, dAsgH, dPar, dcNil, dcD, dcF, storesD, dV, dC, d1, d2, dN, dNF, d2F, dCons, dNil, dTup, dLst, asL, asB, dtAnd, dtOr, dtNot, dYes, dAndV, dOrV, dNotV, dIte, dCh, dLc, dSeqI, dRg1, dRg2, dEnum, dZip, dgN, dgT, dgCons, dgNil, sgN, sgT, sgCons, sgNil, dSlT, dSlL, dSome, dNo, dRev, dIsi, dNP, dNew, dFld, dMe, dMeN, dNCat, dMemo, dRF, dRC, dPot, wipeE, vis, hid, noOw, isOw, List.all_cons, List.all_nil, Bool.not_false, Bool.not_true, Bool.and_true, Bool.true_and, Bool.or_true, Bool.true_or, Bool.false_or, Bool.or_false, List.getElem?_cons_zero, List.getElem?_cons_succ, List.set_cons_zero, List.set_cons_succ, List.length_map, e_le, e_lt, e_ge, e_gt, e_lenT, e_lenL, e_add, e_cat, e_sub, e_mul, e_div, e_mod, e_tupL, e_tupT, e_listL, e_listT, e_fcat, e_isN, e_eqi, e_eqs, fEq, fNe, fIn, fNotIn, decide_true, id_eq, e_all, e_any, e_ixT0, e_ixL0, e_ixT1, e_ixT2, e_max2, e_min2, e_abs, e_int, e_pow, true_and, and_true, forall_const, lcTurn]
    refine ⟨by omega, lc_filter (fun e : P2 => decide (e.1 = p)) l (h := fun e => nD e.2) (fun e he R' h1 h2 => ?_) ?_⟩
    · simp only [semOf, semP, semF, semT, semM, List.map_cons, List.map_nil, List.cons_append, List.nil_append, List.append_nil, List.replicate_succ, List.replicate_zero, Nat.reduceSub, Nat.reduceAdd, Nat.sub_self, Nat.sub_zero, List.length_cons, List.length_nil, Nat.zero_add, dSeq, dSet, dSetF, dSetH, dSetFH, dRet, dRetN, dIf, dNext, dFor, dExt, dApp, dSub, dFrz, dDrop, dNever, dBrk, dCnt, dAsg, dAsgH, dPar, dcNil, dcD, dcF, storesD, dV, dC, d1, d2, dN, dNF, d2F, dCons, dNil, dTup, dLst, asL, asB, dtAnd, dtOr, dtNot, dYes, dAndV, dOrV, dNotV, dIte, dCh, dLc, dSeqI, dRg1, dRg2, dEnum, dZip, dgN, dgT, dgCons, dgNil, sgN, sgT, sgCons, sgNil, dSlT, dSlL, dSome, dNo, dRev, dIsi, dNP, dNew, dFld, dMe, dMeN, dNCat, dMemo, dRF, dRC, dPot, wipeE, vis, hid, noOw, isOw, List.all_cons, List.all_nil, Bool.not_false, Bool.not_true, Bool.and_true, Bool.true_and, Bool.or_true, Bool.true_or, Bool.false_or, Bool.or_false, List.getElem?_cons_zero, List.getElem?_cons_succ, List.set_cons_zero, List.set_cons_succ, List.length_map, e_le, e_lt, e_ge, e_gt, e_lenT, e_lenL, e_add, e_cat, e_sub, e_mul, e_div, e_mod, e_tupL, e_tupT, e_listL, e_listT, e_fcat, e_isN, e_eqi, e_eqs, fEq, fNe, fIn, fNotIn, decide_true, id_eq, e_all, e_any, e_ixT0, e_ixL0, e_ixT1, e_ixT2, e_max2, e_min2, e_abs, e_int, e_pow, true_and, and_true, forall_const, lcTurn]
      rw [show decide ((e.1 : Int) = p) = decide (e.1 = p) from decide_eq_decide.mpr Int.ofNat_inj]
      cases k : decide (e.1 = p) with
      | true => exact h1 k
      | false => exact h2 k
    · show R _
      rw [show ((l.filter fun e => decide (e.1 = p)).map fun e => nD e.2) = (later l p).map nD by unfold later; rw [List.map_map]; rfl]
      exact hR
  · show P _
    unfold lts at h
    rw [List.map_map] at h
    exact h
end HM

/-! What the program's small defs tell: choices. -/
namespace HM
open PySem L2 TL
abbrev nT (c : List Nat) : D := .tuple (c.map nD)
theorem immAll_nT : ∀ l : List (List Nat), immAll (l.map nT) = true
  | [] => rfl
  | c :: l => by
    rw [List.map_cons]
    show (immAll (c.map nD) && immAll (l.map nT)) = true
    rw [immAll_nT l, show immAll (c.map nD) = true from imm_nats c]
    rfl
where
  imm_nats (c : List Nat) : immAll (c.map nD) = true := by
    induction c with
    | nil => rfl
    | cons x l ih => exact ih
theorem subs_len {α : Type} : ∀ l : List α, (subs l).length = 2 ^ l.length
  | [] => rfl
  | x :: l => by
    rw [subs, List.length_append, List.length_map, subs_len l, List.length_cons, Nat.pow_succ]
    omega
/-- choices_of(some): names 0 some 1 found 2 one 3 late -/
def d_choices_of : DS := (dSeq (dSetF 1 (dLst (dCons (dTup dNil) dNil)))
  (dSeq (dFor (dSeqI (asL (dRev (dV 0)))) (sgN 2) (dSetF 1 (d2F fCat (asL (dLc (dSeqI (dV 1)) (dgN 3) dYes (d2 fPlus (dTup (dCons (dV 2) dNil)) (dV 3)) [3])) (dV 1))))
  (dRet (dV 1))))
def g_choices_of : List D → (D → Prop) → Prop := fun ds P => ∃ c : List Nat, ds = [.list (c.map nD)] ∧ c.length ≤ 10 ∧ P (.list ((subs c).map nT))
theorem ok_choices_of : ∀ ds P, g_choices_of ds P → semOf 4 1 d_choices_of ds P := by
  rintro ds P ⟨c, rfl, hc, h⟩
  refine ⟨rfl, ?_⟩
  simp only [semOf, semP, semF, semT, semM, List.map_cons, List.map_nil, List.cons_append, List.nil_append, List.append_nil, List.replicate_succ, List.replicate_zero, Nat.reduceSub, Nat.reduceAdd, Nat.sub_self, Nat.sub_zero, List.length_cons, List.length_nil, Nat.zero_add, dSeq, dSet, dSetF, dSetH, dSetFH, dRet, dRetN, dIf, dNext, dFor, dExt, dApp, dSub, dFrz, dDrop, dNever, dBrk, dCnt, dAsg, dAsgH, dPar, dcNil, dcD, dcF, storesD, dV, dC, d1, d2, dN, dNF, d2F, dCons, dNil, dTup, dLst, asL, asB, dtAnd, dtOr, dtNot, dYes, dAndV, dOrV, dNotV, dIte, dCh, dLc, dSeqI, dRg1, dRg2, dEnum, dZip, dgN, dgT, dgCons, dgNil, sgN, sgT, sgCons, sgNil, dSlT, dSlL, dSome, dNo, dRev, dIsi, dNP, dNew, dFld, dMe, dMeN, dNCat, dMemo, dRF, dRC, dPot, wipeE, vis, hid, noOw, isOw, List.all_cons, List.all_nil, Bool.not_false, Bool.not_true, Bool.and_true, Bool.true_and, Bool.or_true, Bool.true_or, Bool.false_or, Bool.or_false, List.getElem?_cons_zero, List.getElem?_cons_succ, List.set_cons_zero, List.set_cons_succ, List.length_map, e_le, e_lt, e_ge, e_gt, e_lenT, e_lenL, e_add, e_cat, e_sub, e_mul, e_div, e_mod, e_tupL, e_tupT, e_listL, e_listT, e_fcat, e_isN, e_eqi, e_eqs, fEq, fNe, fIn, fNotIn, decide_true, id_eq, e_all, e_any, e_ixT0, e_ixL0, e_ixT1, e_ixT2, e_max2, e_min2, e_abs, e_int, e_pow, true_and, and_true, forall_const, d_choices_of]
  refine ⟨by decide, by decide, by decide, ?_⟩
  rw [← List.map_reverse]
  refine for_go c.reverse (fun done ρ => ∃ s2 s3, ρ = [.d (.list (c.map nD)), .ow ((subs done.reverse).map nT), s2, s3] ∧ isOw s2 = false ∧ isOw s3 = false) ?step ?fin [] c.reverse _ rfl ⟨.no, .no, rfl, rfl, rfl⟩
  case step =>
    rintro done x rest ρ e ⟨s2, s3, rfl, i2, i3⟩ E' h1 h2 h3 h4
    simp only [semOf, semP, semF, semT, semM, List.map_cons, List.map_nil, List.cons_append, List.nil_append, List.append_nil, List.replicate_succ, List.replicate_zero, Nat.reduceSub, Nat.reduceAdd, Nat.sub_self, Nat.sub_zero, List.length_cons, List.length_nil, Nat.zero_add, dSeq, dSet, dSetF, dSetH, dSetFH, dRet, dRetN, dIf, dNext, dFor, dExt, dApp, dSub, dFrz, dDrop, dNever, dBrk, dCnt, dAsg, dAsgH, dPar, dcNil, dcD, dcF, storesD, dV, dC, d1, d2, dN, dNF, d2F, dCons, dNil, dTup, dLst, asL, asB, dtAnd, dtOr, dtNot, dYes, dAndV, dOrV, dNotV, dIte, dCh, dLc, dSeqI, dRg1, dRg2, dEnum, dZip, dgN, dgT, dgCons, dgNil, sgN, sgT, sgCons, sgNil, dSlT, dSlL, dSome, dNo, dRev, dIsi, dNP, dNew, dFld, dMe, dMeN, dNCat, dMemo, dRF, dRC, dPot, wipeE, vis, hid, noOw, isOw, List.all_cons, List.all_nil, Bool.not_false, Bool.not_true, Bool.and_true, Bool.true_and, Bool.or_true, Bool.true_or, Bool.false_or, Bool.or_false, List.getElem?_cons_zero, List.getElem?_cons_succ, List.set_cons_zero, List.set_cons_succ, List.length_map, e_le, e_lt, e_ge, e_gt, e_lenT, e_lenL, e_add, e_cat, e_sub, e_mul, e_div, e_mod, e_tupL, e_tupT, e_listL, e_listT, e_fcat, e_isN, e_eqi, e_eqs, fEq, fNe, fIn, fNotIn, decide_true, id_eq, e_all, e_any, e_ixT0, e_ixL0, e_ixT1, e_ixT2, e_max2, e_min2, e_abs, e_int, e_pow, true_and, and_true, forall_const]
    have hd : done.length + 1 ≤ c.length := by
      have := congrArg List.length e
      rw [List.length_reverse, List.length_append, List.length_cons] at this
      omega
    have hs : (subs done.reverse).length ≤ 512 := by
      rw [subs_len, List.length_reverse]
      exact Nat.pow_le_pow_right (by decide) (show done.length ≤ 9 by omega)
    refine ⟨by omega, lc_map (subs done.reverse) (h := fun late => nT (x :: late)) (fun late hl R hR => ?_) ?_⟩
    · simp only [semOf, semP, semF, semT, semM, List.map_cons, List.map_nil, List.cons_append, List.nil_append, List.append_nil, List.replicate_succ, List.replicate_zero, Nat.reduceSub, Nat.reduceAdd, Nat.sub_self, Nat.sub_zero, List.length_cons, List.length_nil, Nat.zero_add, dSeq, dSet, dSetF, dSetH, dSetFH, dRet, dRetN, dIf, dNext, dFor, dExt, dApp, dSub, dFrz, dDrop, dNever, dBrk, dCnt, dAsg, dAsgH, dPar, dcNil, dcD, dcF, storesD, dV, dC, d1, d2, dN, dNF, d2F, dCons, dNil, dTup, dLst, asL, asB, dtAnd, dtOr, dtNot, dYes, dAndV, dOrV, dNotV, dIte, dCh, dLc, dSeqI, dRg1, dRg2, dEnum, dZip, dgN, dgT, dgCons, dgNil, sgN, sgT, sgCons, sgNil, dSlT, dSlL, dSome, dNo, dRev, dIsi, dNP, dNew, dFld, dMe, dMeN, dNCat, dMemo, dRF, dRC, dPot, wipeE, vis, hid, noOw, isOw, List.all_cons, List.all_nil, Bool.not_false, Bool.not_true, Bool.and_true, Bool.true_and, Bool.or_true, Bool.true_or, Bool.false_or, Bool.or_false, List.getElem?_cons_zero, List.getElem?_cons_succ, List.set_cons_zero, List.set_cons_succ, List.length_map, e_le, e_lt, e_ge, e_gt, e_lenT, e_lenL, e_add, e_cat, e_sub, e_mul, e_div, e_mod, e_tupL, e_tupT, e_listL, e_listT, e_fcat, e_isN, e_eqi, e_eqs, fEq, fNe, fIn, fNotIn, decide_true, id_eq, e_all, e_any, e_ixT0, e_ixL0, e_ixT1, e_ixT2, e_max2, e_min2, e_abs, e_int, e_pow, true_and, and_true, forall_const, lcTurn]
      have : late.length ≤ 10 := by
        have := (mem_subs.mp hl).length_le
        rw [List.length_reverse] at this
        omega
      exact ⟨by omega, by omega, hR⟩
    · simp only [semOf, semP, semF, semT, semM, List.map_cons, List.map_nil, List.cons_append, List.nil_append, List.append_nil, List.replicate_succ, List.replicate_zero, Nat.reduceSub, Nat.reduceAdd, Nat.sub_self, Nat.sub_zero, List.length_cons, List.length_nil, Nat.zero_add, dSeq, dSet, dSetF, dSetH, dSetFH, dRet, dRetN, dIf, dNext, dFor, dExt, dApp, dSub, dFrz, dDrop, dNever, dBrk, dCnt, dAsg, dAsgH, dPar, dcNil, dcD, dcF, storesD, dV, dC, d1, d2, dN, dNF, d2F, dCons, dNil, dTup, dLst, asL, asB, dtAnd, dtOr, dtNot, dYes, dAndV, dOrV, dNotV, dIte, dCh, dLc, dSeqI, dRg1, dRg2, dEnum, dZip, dgN, dgT, dgCons, dgNil, sgN, sgT, sgCons, sgNil, dSlT, dSlL, dSome, dNo, dRev, dIsi, dNP, dNew, dFld, dMe, dMeN, dNCat, dMemo, dRF, dRC, dPot, wipeE, vis, hid, noOw, isOw, List.all_cons, List.all_nil, Bool.not_false, Bool.not_true, Bool.and_true, Bool.true_and, Bool.or_true, Bool.true_or, Bool.false_or, Bool.or_false, List.getElem?_cons_zero, List.getElem?_cons_succ, List.set_cons_zero, List.set_cons_succ, List.length_map, e_le, e_lt, e_ge, e_gt, e_lenT, e_lenL, e_add, e_cat, e_sub, e_mul, e_div, e_mod, e_tupL, e_tupT, e_listL, e_listT, e_fcat, e_isN, e_eqi, e_eqs, fEq, fNe, fIn, fNotIn, decide_true, id_eq, e_all, e_any, e_ixT0, e_ixL0, e_ixT1, e_ixT2, e_max2, e_min2, e_abs, e_int, e_pow, true_and, and_true, forall_const]
      refine ⟨by omega, ⟨?_, by decide⟩, h1 _ ⟨.d (nD x), s3, ?_, rfl, i3⟩⟩
      · rw [show ((subs done.reverse).map fun late => nT (x :: late)) = ((subs done.reverse).map (x :: ·)).map nT by rw [List.map_map]; rfl, ← List.map_append]
        exact immAll_nT _
      · rw [List.reverse_append]
        show _ = [_, Sl.ow ((subs (x :: done.reverse)).map nT), _, _]
        rw [subs, List.map_append, List.map_map]
        rfl
  case fin =>
    rintro ρ ⟨s2, s3, rfl, _, _⟩
    simp only [semOf, semP, semF, semT, semM, List.map_cons, List.map_nil, List.cons_append, List.nil_append, List.append_nil, List.replicate_succ, List.replicate_zero, Nat.reduceSub, Nat.reduceAdd, Nat.sub_self, Nat.sub_zero, List.length_cons, List.length_nil, Nat.zero_add, dSeq, dSet, dSetF, dSetH, dSetFH, dRet, dRetN, dIf, dNext, dFor, dExt, dApp, dSub, dFrz, dDrop, dNever, dBrk, dCnt, dAsg, dAsgH, dPar, dcNil, dcD, dcF, storesD, dV, dC, d1, d2, dN, dNF, d2F, dCons, dNil, dTup, dLst, asL, asB, dtAnd, dtOr, dtNot, dYes, dAndV, dOrV, dNotV, dIte, dCh, dLc, dSeqI, dRg1, dRg2, dEnum, dZip, dgN, dgT, dgCons, dgNil, sgN, sgT, sgCons, sgNil, dSlT, dSlL, dSome, dNo, dRev, dIsi, dNP, dNew, dFld, dMe, dMeN, dNCat, dMemo, dRF, dRC, dPot, wipeE, vis, hid, noOw, isOw, List.all_cons, List.all_nil, Bool.not_false, Bool.not_true, Bool.and_true, Bool.true_and, Bool.or_true, Bool.true_or, Bool.false_or, Bool.or_false, List.getElem?_cons_zero, List.getElem?_cons_succ, List.set_cons_zero, List.set_cons_succ, List.length_map, e_le, e_lt, e_ge, e_gt, e_lenT, e_lenL, e_add, e_cat, e_sub, e_mul, e_div, e_mod, e_tupL, e_tupT, e_listL, e_listT, e_fcat, e_isN, e_eqi, e_eqs, fEq, fNe, fIn, fNotIn, decide_true, id_eq, e_all, e_any, e_ixT0, e_ixL0, e_ixT1, e_ixT2, e_max2, e_min2, e_abs, e_int, e_pow, true_and, and_true, forall_const]
    rw [List.reverse_reverse]
    exact h
theorem minD_ok (x : Int) (l : List Int) : (0 ≤ l.foldl min x) ↔ okL (x :: l) = true := by
  unfold okL
  rw [List.all_cons, Bool.and_eq_true, decide_eq_true_eq]
  induction l generalizing x with
  | nil => simp
  | cons y l ih =>
    rw [List.foldl_cons, ih, List.all_cons, Bool.and_eq_true, decide_eq_true_eq]
    constructor
    · rintro ⟨a, b⟩
      exact ⟨by omega, by omega, b⟩
    · rintro ⟨a, b, c⟩
      exact ⟨by omega, c⟩
theorem e_minI {x : Int} {l : List Int} {P : D → Prop} : fMin [.list ((x :: l).map .int)] P = P (.int (l.foldl min x)) := by
  show ((PySem.W.AlikeAll _ ∧ minOk _ = true) ∧ P _) = _
  have a : PySem.W.AlikeAll ((x :: l).map PyData.int) := PySem.W.alikeAll_datum (α := Int) (x :: l)
  have b : minOk ((x :: l).map PyData.int) = true := by
    show (PyData.plainAll ((x :: l).map PyData.int) && decide (PyData.depthAll ((x :: l).map PyData.int) ≤ 60)) = true
    rw [show PyData.plainAll ((x :: l).map PyData.int) = true from PySem.W.plainAll_map (α := Int) (x :: l), decide_eq_true (show PyData.depthAll ((x :: l).map PyData.int) ≤ 60 from Nat.le_trans (PySem.W.depthAll_map (α := Int) (x :: l)) (by decide))]
    rfl
  rw [show PySem.W.minD (PyData.int x) (l.map PyData.int) = .int (l.foldl min x) from PySem.W.minD_ints x l]
  exact propext ⟨fun z => z.2, fun z => ⟨⟨a, b⟩, z⟩⟩
/-- taken(left, person, choice): names 0 left 1 person 2 choice 3 found 4 late -/
def d_taken : DS := (dSeq (dSetF 3 (dNF fList (dCons (dV 0) dNil)))
  (dSeq (dSub 3 (dV 1) (d2 fSub (d2 fIx (dV 3) (dV 1)) (dN fLen (dCons (dV 2) dNil))))
  (dSeq (dFor (dSeqI (dV 2)) (sgN 4) (dSub 3 (dV 4) (d2 fSub (d2 fIx (dV 3) (dV 4)) (dC (.int 1)))))
  (dRet (dIte (asB (d2 fGe (dN fMin (dCons (dV 3) dNil)) (dC (.int 0)))) (dN fTuple (dCons (dV 3) dNil)) (dC .none))))))
def g_taken : List D → (D → Prop) → Prop := fun ds P => ∃ (left : List Int) (p : Nat) (c : List Nat), ds = [isD left, nD p, nT c] ∧ p < left.length ∧ left.length ≤ 1000 ∧ (∀ x, x ∈ c → x < left.length) ∧ P (if okL (takenL left p c) = true then isD (takenL left p c) else .none)
theorem ok_taken : ∀ ds P, g_taken ds P → semOf 5 3 d_taken ds P := by
  rintro ds P ⟨left, p, c, rfl, hp, hn, hc, h⟩
  refine ⟨rfl, ?_⟩
  simp only [semOf, semP, semF, semT, semM, List.map_cons, List.map_nil, List.cons_append, List.nil_append, List.append_nil, List.replicate_succ, List.replicate_zero, Nat.reduceSub, Nat.reduceAdd, Nat.sub_self, Nat.sub_zero, List.length_cons, List.length_nil, Nat.zero_add, dSeq, dSet, dSetF, dSetH, dSetFH, dRet, dRetN, dIf, dNext, dFor, dExt, dApp, dSub, dFrz, dDrop, dNever, dBrk, dCnt, dAsg, dAsgH, dPar, dcNil, dcD, dcF, storesD, dV, dC, d1, d2, dN, dNF, d2F, dCons, dNil, dTup, dLst, asL, asB, dtAnd, dtOr, dtNot, dYes, dAndV, dOrV, dNotV, dIte, dCh, dLc, dSeqI, dRg1, dRg2, dEnum, dZip, dgN, dgT, dgCons, dgNil, sgN, sgT, sgCons, sgNil, dSlT, dSlL, dSome, dNo, dRev, dIsi, dNP, dNew, dFld, dMe, dMeN, dNCat, dMemo, dRF, dRC, dPot, wipeE, vis, hid, noOw, isOw, List.all_cons, List.all_nil, Bool.not_false, Bool.not_true, Bool.and_true, Bool.true_and, Bool.or_true, Bool.true_or, Bool.false_or, Bool.or_false, List.getElem?_cons_zero, List.getElem?_cons_succ, List.set_cons_zero, List.set_cons_succ, List.length_map, e_le, e_lt, e_ge, e_gt, e_lenT, e_lenL, e_add, e_cat, e_sub, e_mul, e_div, e_mod, e_tupL, e_tupT, e_listL, e_listT, e_fcat, e_isN, e_eqi, e_eqs, fEq, fNe, fIn, fNotIn, decide_true, id_eq, e_all, e_any, e_ixT0, e_ixL0, e_ixT1, e_ixT2, e_max2, e_min2, e_abs, e_int, e_pow, true_and, and_true, forall_const, d_taken]
  refine ⟨by decide, ?_⟩
  have at_ : ∀ (l : List Int) (q : Nat), q < l.length → (l.map PyData.int)[q]? = some (.int (l.getD q 0)) := fun l q h => by
    rw [List.getElem?_map, List.getD_eq_getElem?_getD, List.getElem?_eq_getElem h]
    rfl
  rw [e_ixL (at_ left p hp)]
  simp only [semOf, semP, semF, semT, semM, List.map_cons, List.map_nil, List.cons_append, List.nil_append, List.append_nil, List.replicate_succ, List.replicate_zero, Nat.reduceSub, Nat.reduceAdd, Nat.sub_self, Nat.sub_zero, List.length_cons, List.length_nil, Nat.zero_add, dSeq, dSet, dSetF, dSetH, dSetFH, dRet, dRetN, dIf, dNext, dFor, dExt, dApp, dSub, dFrz, dDrop, dNever, dBrk, dCnt, dAsg, dAsgH, dPar, dcNil, dcD, dcF, storesD, dV, dC, d1, d2, dN, dNF, d2F, dCons, dNil, dTup, dLst, asL, asB, dtAnd, dtOr, dtNot, dYes, dAndV, dOrV, dNotV, dIte, dCh, dLc, dSeqI, dRg1, dRg2, dEnum, dZip, dgN, dgT, dgCons, dgNil, sgN, sgT, sgCons, sgNil, dSlT, dSlL, dSome, dNo, dRev, dIsi, dNP, dNew, dFld, dMe, dMeN, dNCat, dMemo, dRF, dRC, dPot, wipeE, vis, hid, noOw, isOw, List.all_cons, List.all_nil, Bool.not_false, Bool.not_true, Bool.and_true, Bool.true_and, Bool.or_true, Bool.true_or, Bool.false_or, Bool.or_false, List.getElem?_cons_zero, List.getElem?_cons_succ, List.set_cons_zero, List.set_cons_succ, List.length_map, e_le, e_lt, e_ge, e_gt, e_lenT, e_lenL, e_add, e_cat, e_sub, e_mul, e_div, e_mod, e_tupL, e_tupT, e_listL, e_listT, e_fcat, e_isN, e_eqi, e_eqs, fEq, fNe, fIn, fNotIn, decide_true, id_eq, e_all, e_any, e_ixT0, e_ixL0, e_ixT1, e_ixT2, e_max2, e_min2, e_abs, e_int, e_pow, true_and, and_true, forall_const]
  rw [ixN_nat hp]
  simp only
  refine ⟨rfl, ?_⟩
  rw [map_set_int]
  refine for_go c (fun done ρ => ∃ s4, ρ = [.d (isD left), .d (nD p), .d (nT c), .ow ((done.foldl (fun l q => l.set q (l.getD q 0 - 1)) (left.set p (left.getD p 0 - c.length))).map .int), s4] ∧ isOw s4 = false) ?step ?fin [] c _ rfl ⟨.no, rfl, rfl⟩
  case step =>
    rintro done x rest ρ e ⟨s4, rfl, i4⟩ E' h1 h2 h3 h4
    have hx : x < left.length := hc x (by rw [e]; exact List.mem_append_right _ (List.mem_cons_self ..))
    have len : ∀ (d : List Nat) (l : List Int), (d.foldl (fun l q => l.set q (l.getD q 0 - 1)) l).length = l.length := by
      intro d
      induction d with
      | nil => intro l; rfl
      | cons y d ih => intro l; rw [List.foldl_cons, ih, List.length_set]
    have hx2 : x < (done.foldl (fun l q => l.set q (l.getD q 0 - 1)) (left.set p (left.getD p 0 - c.length))).length := by rw [len, List.length_set]; exact hx
    simp only [semOf, semP, semF, semT, semM, List.map_cons, List.map_nil, List.cons_append, List.nil_append, List.append_nil, List.replicate_succ, List.replicate_zero, Nat.reduceSub, Nat.reduceAdd, Nat.sub_self, Nat.sub_zero, List.length_cons, List.length_nil, Nat.zero_add, dSeq, dSet, dSetF, dSetH, dSetFH, dRet, dRetN, dIf, dNext, dFor, dExt, dApp, dSub, dFrz, dDrop, dNever, dBrk, dCnt, dAsg, dAsgH, dPar, dcNil, dcD, dcF, storesD, dV, dC, d1, d2, dN, dNF, d2F, dCons, dNil, dTup, dLst, asL, asB, dtAnd, dtOr, dtNot, dYes, dAndV, dOrV, dNotV, dIte, dCh, dLc, dSeqI, dRg1, dRg2, dEnum, dZip, dgN, dgT, dgCons, dgNil, sgN, sgT, sgCons, sgNil, dSlT, dSlL, dSome, dNo, dRev, dIsi, dNP, dNew, dFld, dMe, dMeN, dNCat, dMemo, dRF, dRC, dPot, wipeE, vis, hid, noOw, isOw, List.all_cons, List.all_nil, Bool.not_false, Bool.not_true, Bool.and_true, Bool.true_and, Bool.or_true, Bool.true_or, Bool.false_or, Bool.or_false, List.getElem?_cons_zero, List.getElem?_cons_succ, List.set_cons_zero, List.set_cons_succ, List.length_map, e_le, e_lt, e_ge, e_gt, e_lenT, e_lenL, e_add, e_cat, e_sub, e_mul, e_div, e_mod, e_tupL, e_tupT, e_listL, e_listT, e_fcat, e_isN, e_eqi, e_eqs, fEq, fNe, fIn, fNotIn, decide_true, id_eq, e_all, e_any, e_ixT0, e_ixL0, e_ixT1, e_ixT2, e_max2, e_min2, e_abs, e_int, e_pow, true_and, and_true, forall_const]
    rw [e_ixL (at_ _ x hx2)]
    simp only [semOf, semP, semF, semT, semM, List.map_cons, List.map_nil, List.cons_append, List.nil_append, List.append_nil, List.replicate_succ, List.replicate_zero, Nat.reduceSub, Nat.reduceAdd, Nat.sub_self, Nat.sub_zero, List.length_cons, List.length_nil, Nat.zero_add, dSeq, dSet, dSetF, dSetH, dSetFH, dRet, dRetN, dIf, dNext, dFor, dExt, dApp, dSub, dFrz, dDrop, dNever, dBrk, dCnt, dAsg, dAsgH, dPar, dcNil, dcD, dcF, storesD, dV, dC, d1, d2, dN, dNF, d2F, dCons, dNil, dTup, dLst, asL, asB, dtAnd, dtOr, dtNot, dYes, dAndV, dOrV, dNotV, dIte, dCh, dLc, dSeqI, dRg1, dRg2, dEnum, dZip, dgN, dgT, dgCons, dgNil, sgN, sgT, sgCons, sgNil, dSlT, dSlL, dSome, dNo, dRev, dIsi, dNP, dNew, dFld, dMe, dMeN, dNCat, dMemo, dRF, dRC, dPot, wipeE, vis, hid, noOw, isOw, List.all_cons, List.all_nil, Bool.not_false, Bool.not_true, Bool.and_true, Bool.true_and, Bool.or_true, Bool.true_or, Bool.false_or, Bool.or_false, List.getElem?_cons_zero, List.getElem?_cons_succ, List.set_cons_zero, List.set_cons_succ, List.length_map, e_le, e_lt, e_ge, e_gt, e_lenT, e_lenL, e_add, e_cat, e_sub, e_mul, e_div, e_mod, e_tupL, e_tupT, e_listL, e_listT, e_fcat, e_isN, e_eqi, e_eqs, fEq, fNe, fIn, fNotIn, decide_true, id_eq, e_all, e_any, e_ixT0, e_ixL0, e_ixT1, e_ixT2, e_max2, e_min2, e_abs, e_int, e_pow, true_and, and_true, forall_const]
    rw [ixN_nat hx2]
    simp only
    refine ⟨rfl, h1 _ ⟨.d (nD x), ?_, rfl⟩⟩
    rw [map_set_int, List.foldl_append]
    rfl
  case fin =>
    rintro ρ ⟨s4, rfl, _⟩
    simp only [semOf, semP, semF, semT, semM, List.map_cons, List.map_nil, List.cons_append, List.nil_append, List.append_nil, List.replicate_succ, List.replicate_zero, Nat.reduceSub, Nat.reduceAdd, Nat.sub_self, Nat.sub_zero, List.length_cons, List.length_nil, Nat.zero_add, dSeq, dSet, dSetF, dSetH, dSetFH, dRet, dRetN, dIf, dNext, dFor, dExt, dApp, dSub, dFrz, dDrop, dNever, dBrk, dCnt, dAsg, dAsgH, dPar, dcNil, dcD, dcF, storesD, dV, dC, d1, d2, dN, dNF, d2F, dCons, dNil, dTup, dLst, asL, asB, dtAnd, dtOr, dtNot, dYes, dAndV, dOrV, dNotV, dIte, dCh, dLc, dSeqI, dRg1, dRg2, dEnum, dZip, dgN, dgT, dgCons, dgNil, sgN, sgT, sgCons, sgNil, dSlT, dSlL, dSome, dNo, dRev, dIsi, dNP, dNew, dFld, dMe, dMeN, dNCat, dMemo, dRF, dRC, dPot, wipeE, vis, hid, noOw, isOw, List.all_cons, List.all_nil, Bool.not_false, Bool.not_true, Bool.and_true, Bool.true_and, Bool.or_true, Bool.true_or, Bool.false_or, Bool.or_false, List.getElem?_cons_zero, List.getElem?_cons_succ, List.set_cons_zero, List.set_cons_succ, List.length_map, e_le, e_lt, e_ge, e_gt, e_lenT, e_lenL, e_add, e_cat, e_sub, e_mul, e_div, e_mod, e_tupL, e_tupT, e_listL, e_listT, e_fcat, e_isN, e_eqi, e_eqs, fEq, fNe, fIn, fNotIn, decide_true, id_eq, e_all, e_any, e_ixT0, e_ixL0, e_ixT1, e_ixT2, e_max2, e_min2, e_abs, e_int, e_pow, true_and, and_true, forall_const]
    show fMin [.list ((takenL left p c).map .int)] _
    have hne : takenL left p c ≠ [] := fun z => by
      have := takenL_len left p c
      rw [z] at this
      simp at this
      omega
    cases e : takenL left p c with
    | nil => exact absurd e hne
    | cons y l =>
      rw [e_minI]
      simp only [semOf, semP, semF, semT, semM, List.map_cons, List.map_nil, List.cons_append, List.nil_append, List.append_nil, List.replicate_succ, List.replicate_zero, Nat.reduceSub, Nat.reduceAdd, Nat.sub_self, Nat.sub_zero, List.length_cons, List.length_nil, Nat.zero_add, dSeq, dSet, dSetF, dSetH, dSetFH, dRet, dRetN, dIf, dNext, dFor, dExt, dApp, dSub, dFrz, dDrop, dNever, dBrk, dCnt, dAsg, dAsgH, dPar, dcNil, dcD, dcF, storesD, dV, dC, d1, d2, dN, dNF, d2F, dCons, dNil, dTup, dLst, asL, asB, dtAnd, dtOr, dtNot, dYes, dAndV, dOrV, dNotV, dIte, dCh, dLc, dSeqI, dRg1, dRg2, dEnum, dZip, dgN, dgT, dgCons, dgNil, sgN, sgT, sgCons, sgNil, dSlT, dSlL, dSome, dNo, dRev, dIsi, dNP, dNew, dFld, dMe, dMeN, dNCat, dMemo, dRF, dRC, dPot, wipeE, vis, hid, noOw, isOw, List.all_cons, List.all_nil, Bool.not_false, Bool.not_true, Bool.and_true, Bool.true_and, Bool.or_true, Bool.true_or, Bool.false_or, Bool.or_false, List.getElem?_cons_zero, List.getElem?_cons_succ, List.set_cons_zero, List.set_cons_succ, List.length_map, e_le, e_lt, e_ge, e_gt, e_lenT, e_lenL, e_add, e_cat, e_sub, e_mul, e_div, e_mod, e_tupL, e_tupT, e_listL, e_listT, e_fcat, e_isN, e_eqi, e_eqs, fEq, fNe, fIn, fNotIn, decide_true, id_eq, e_all, e_any, e_ixT0, e_ixL0, e_ixT1, e_ixT2, e_max2, e_min2, e_abs, e_int, e_pow, true_and, and_true, forall_const]
      rw [e] at h
      have := minD_ok y l
      cases k : okL (y :: l) with
      | true =>
        rw [k] at h
        rw [decide_eq_true (this.mpr k)]
        show P (isD (takenL left p c))
        rw [e]
        exact h
      | false =>
        rw [k] at h
        rw [decide_eq_false (fun z => by rw [this.mp z] at k; cases k)]
        exact h
end HM

/-! What the methods of Grown tell. -/
namespace HM
open PySem L2 TL
abbrev ltD (L : List (List (List Nat))) : D := .list (L.map fun cs => .list (cs.map nT))
abbrev stD (s : List Nat × List Int) : D := .tuple [nT s.1, isD s.2]
/-- choices of n persons -/
structure OkCh (n : Nat) (L : List (List (List Nat))) : Prop where
  len : L.length = n
  few : n ≤ 10
  row : ∀ cs, cs ∈ L → cs.length ≤ 1024 ∧ ∀ c, c ∈ cs → c.length ≤ 10 ∧ ∀ x, x ∈ c → x < n
theorem immAll_st : ∀ l : List (List Nat × List Int), immAll (l.map stD) = true
  | [] => rfl
  | s :: l => by
    rw [List.map_cons]
    show ((immAll (s.1.map nD) && (immAll (s.2.map PyData.int) && true)) && immAll (l.map stD)) = true
    rw [immAll_st l, show immAll (s.1.map nD) = true from immAll_nT.imm_nats s.1, imm_ints]
    rfl
/-- Grown.steps: names 0 self 1 person 2 left 3 some 4 choice 5 late -/
def d_Grown_steps (gg : Addr) (L : List (List (List Nat))) : DS := (dSeq (dSetF 3 (dLc (dSeqI (d2 fIx (dFld 0 gg (ltD L)) (dV 1))) (dgN 4) dYes (dTup (dCons (dV 4) (dCons (dN g_taken (dCons (dV 2) (dCons (dV 1) (dCons (dV 4) dNil)))) dNil))) [4]))
  (dRet (asL (dLc (dSeqI (dV 3)) (dgT 2 (dgCons (dgN 4) (dgCons (dgN 5) dgNil))) (asB (d2 (fIs not) (dV 5) (dC .none))) (dTup (dCons (dV 4) (dCons (dV 5) dNil))) [4, 5]))))
def g_Grown_steps (L : List (List (List Nat))) : List D → (D → Prop) → Prop := fun ds P => ∃ (p : Nat) (left : List Int), ds = [nD p, isD left] ∧ OkCh left.length L ∧ p < L.length ∧ P (.list ((stepsF (L.getD p []) p left).map stD))
theorem ok_Grown_steps (gg : Addr) (L : List (List (List Nat))) : ∀ ds P, g_Grown_steps L ds P → semM gg 6 3 (d_Grown_steps gg L) ds P := by
  rintro ds P ⟨p, left, rfl, ok, hp, h⟩
  refine ⟨rfl, ?_⟩
  have hL : L[p]? = some (L.getD p []) := by rw [List.getD_eq_getElem?_getD, List.getElem?_eq_getElem hp]; rfl
  have hm : L.getD p [] ∈ L := List.mem_of_getElem? hL
  obtain ⟨r1, r2⟩ := ok.row _ hm
  have hn : left.length ≤ 10 := ok.few
  have hpn : p < left.length := by rw [← ok.len]; exact hp
  simp only [semOf, semP, semF, semT, semM, List.map_cons, List.map_nil, List.cons_append, List.nil_append, List.append_nil, List.replicate_succ, List.replicate_zero, Nat.reduceSub, Nat.reduceAdd, Nat.sub_self, Nat.sub_zero, List.length_cons, List.length_nil, Nat.zero_add, dSeq, dSet, dSetF, dSetH, dSetFH, dRet, dRetN, dIf, dNext, dFor, dExt, dApp, dSub, dFrz, dDrop, dNever, dBrk, dCnt, dAsg, dAsgH, dPar, dcNil, dcD, dcF, storesD, dV, dC, d1, d2, dN, dNF, d2F, dCons, dNil, dTup, dLst, asL, asB, dtAnd, dtOr, dtNot, dYes, dAndV, dOrV, dNotV, dIte, dCh, dLc, dSeqI, dRg1, dRg2, dEnum, dZip, dgN, dgT, dgCons, dgNil, sgN, sgT, sgCons, sgNil, dSlT, dSlL, dSome, dNo, dRev, dIsi, dNP, dNew, dFld, dMe, dMeN, dNCat, dMemo, dRF, dRC, dPot, wipeE, vis, hid, noOw, isOw, List.all_cons, List.all_nil, Bool.not_false, Bool.not_true, Bool.and_true, Bool.true_and, Bool.or_true, Bool.true_or, Bool.false_or, Bool.or_false, List.getElem?_cons_zero, List.getElem?_cons_succ, List.set_cons_zero, List.set_cons_succ, List.length_map, e_le, e_lt, e_ge, e_gt, e_lenT, e_lenL, e_add, e_cat, e_sub, e_mul, e_div, e_mod, e_tupL, e_tupT, e_listL, e_listT, e_fcat, e_isN, e_eqi, e_eqs, fEq, fNe, fIn, fNotIn, decide_true, id_eq, e_all, e_any, e_ixT0, e_ixL0, e_ixT1, e_ixT2, e_max2, e_min2, e_abs, e_int, e_pow, true_and, and_true, forall_const, d_Grown_steps]
  rw [e_ixL (x := .list ((L.getD p []).map nT)) (by rw [List.getElem?_map, hL]; rfl)]
  simp only [semOf, semP, semF, semT, semM, List.map_cons, List.map_nil, List.cons_append, List.nil_append, List.append_nil, List.replicate_succ, List.replicate_zero, Nat.reduceSub, Nat.reduceAdd, Nat.sub_self, Nat.sub_zero, List.length_cons, List.length_nil, Nat.zero_add, dSeq, dSet, dSetF, dSetH, dSetFH, dRet, dRetN, dIf, dNext, dFor, dExt, dApp, dSub, dFrz, dDrop, dNever, dBrk, dCnt, dAsg, dAsgH, dPar, dcNil, dcD, dcF, storesD, dV, dC, d1, d2, dN, dNF, d2F, dCons, dNil, dTup, dLst, asL, asB, dtAnd, dtOr, dtNot, dYes, dAndV, dOrV, dNotV, dIte, dCh, dLc, dSeqI, dRg1, dRg2, dEnum, dZip, dgN, dgT, dgCons, dgNil, sgN, sgT, sgCons, sgNil, dSlT, dSlL, dSome, dNo, dRev, dIsi, dNP, dNew, dFld, dMe, dMeN, dNCat, dMemo, dRF, dRC, dPot, wipeE, vis, hid, noOw, isOw, List.all_cons, List.all_nil, Bool.not_false, Bool.not_true, Bool.and_true, Bool.true_and, Bool.or_true, Bool.true_or, Bool.false_or, Bool.or_false, List.getElem?_cons_zero, List.getElem?_cons_succ, List.set_cons_zero, List.set_cons_succ, List.length_map, e_le, e_lt, e_ge, e_gt, e_lenT, e_lenL, e_add, e_cat, e_sub, e_mul, e_div, e_mod, e_tupL, e_tupT, e_listL, e_listT, e_fcat, e_isN, e_eqi, e_eqs, fEq, fNe, fIn, fNotIn, decide_true, id_eq, e_all, e_any, e_ixT0, e_ixL0, e_ixT1, e_ixT2, e_max2, e_min2, e_abs, e_int, e_pow, true_and, and_true, forall_const]
  refine ⟨by omega, lc_map (L.getD p []) (h := fun c => .tuple [nT c, if okL (takenL left p c) = true then isD (takenL left p c) else .none]) (fun c hc R hR => ?_) ?_⟩
  · simp only [semOf, semP, semF, semT, semM, List.map_cons, List.map_nil, List.cons_append, List.nil_append, List.append_nil, List.replicate_succ, List.replicate_zero, Nat.reduceSub, Nat.reduceAdd, Nat.sub_self, Nat.sub_zero, List.length_cons, List.length_nil, Nat.zero_add, dSeq, dSet, dSetF, dSetH, dSetFH, dRet, dRetN, dIf, dNext, dFor, dExt, dApp, dSub, dFrz, dDrop, dNever, dBrk, dCnt, dAsg, dAsgH, dPar, dcNil, dcD, dcF, storesD, dV, dC, d1, d2, dN, dNF, d2F, dCons, dNil, dTup, dLst, asL, asB, dtAnd, dtOr, dtNot, dYes, dAndV, dOrV, dNotV, dIte, dCh, dLc, dSeqI, dRg1, dRg2, dEnum, dZip, dgN, dgT, dgCons, dgNil, sgN, sgT, sgCons, sgNil, dSlT, dSlL, dSome, dNo, dRev, dIsi, dNP, dNew, dFld, dMe, dMeN, dNCat, dMemo, dRF, dRC, dPot, wipeE, vis, hid, noOw, isOw, List.all_cons, List.all_nil, Bool.not_false, Bool.not_true, Bool.and_true, Bool.true_and, Bool.or_true, Bool.true_or, Bool.false_or, Bool.or_false, List.getElem?_cons_zero, List.getElem?_cons_succ, List.set_cons_zero, List.set_cons_succ, List.length_map, e_le, e_lt, e_ge, e_gt, e_lenT, e_lenL, e_add, e_cat, e_sub, e_mul, e_div, e_mod, e_tupL, e_tupT, e_listL, e_listT, e_fcat, e_isN, e_eqi, e_eqs, fEq, fNe, fIn, fNotIn, decide_true, id_eq, e_all, e_any, e_ixT0, e_ixL0, e_ixT1, e_ixT2, e_max2, e_min2, e_abs, e_int, e_pow, true_and, and_true, forall_const, lcTurn]
    refine ⟨left, p, c, rfl, hpn, by omega, (r2 c hc).2, by decide, hR⟩
  · refine ⟨by decide, ?_⟩
    · simp only [semOf, semP, semF, semT, semM, List.map_cons, List.map_nil, List.cons_append, List.nil_append, List.append_nil, List.replicate_succ, List.replicate_zero, Nat.reduceSub, Nat.reduceAdd, Nat.sub_self, Nat.sub_zero, List.length_cons, List.length_nil, Nat.zero_add, dSeq, dSet, dSetF, dSetH, dSetFH, dRet, dRetN, dIf, dNext, dFor, dExt, dApp, dSub, dFrz, dDrop, dNever, dBrk, dCnt, dAsg, dAsgH, dPar, dcNil, dcD, dcF, storesD, dV, dC, d1, d2, dN, dNF, d2F, dCons, dNil, dTup, dLst, asL, asB, dtAnd, dtOr, dtNot, dYes, dAndV, dOrV, dNotV, dIte, dCh, dLc, dSeqI, dRg1, dRg2, dEnum, dZip, dgN, dgT, dgCons, dgNil, sgN, sgT, sgCons, sgNil, dSlT, dSlL, dSome, dNo, dRev, dIsi, dNP, dNew, dFld, dMe, dMeN, dNCat, dMemo, dRF, dRC, dPot, wipeE, vis, hid, noOw, isOw, List.all_cons, List.all_nil, Bool.not_false, Bool.not_true, Bool.and_true, Bool.true_and, Bool.or_true, Bool.true_or, Bool.false_or, Bool.or_false, List.getElem?_cons_zero, List.getElem?_cons_succ, List.set_cons_zero, List.set_cons_succ, List.length_map, e_le, e_lt, e_ge, e_gt, e_lenT, e_lenL, e_add, e_cat, e_sub, e_mul, e_div, e_mod, e_tupL, e_tupT, e_listL, e_listT, e_fcat, e_isN, e_eqi, e_eqs, fEq, fNe, fIn, fNotIn, decide_true, id_eq, e_all, e_any, e_ixT0, e_ixL0, e_ixT1, e_ixT2, e_max2, e_min2, e_abs, e_int, e_pow, true_and, and_true, forall_const]
      refine ⟨by omega, lc_filter (fun c => okL (takenL left p c)) (L.getD p []) (h := fun c => stD (c, takenL left p c)) (fun c hc R h1 h2 => ?_) ?_⟩
      · cases k : okL (takenL left p c) with
        | true =>
          simp only [semOf, semP, semF, semT, semM, List.map_cons, List.map_nil, List.cons_append, List.nil_append, List.append_nil, List.replicate_succ, List.replicate_zero, Nat.reduceSub, Nat.reduceAdd, Nat.sub_self, Nat.sub_zero, List.length_cons, List.length_nil, Nat.zero_add, dSeq, dSet, dSetF, dSetH, dSetFH, dRet, dRetN, dIf, dNext, dFor, dExt, dApp, dSub, dFrz, dDrop, dNever, dBrk, dCnt, dAsg, dAsgH, dPar, dcNil, dcD, dcF, storesD, dV, dC, d1, d2, dN, dNF, d2F, dCons, dNil, dTup, dLst, asL, asB, dtAnd, dtOr, dtNot, dYes, dAndV, dOrV, dNotV, dIte, dCh, dLc, dSeqI, dRg1, dRg2, dEnum, dZip, dgN, dgT, dgCons, dgNil, sgN, sgT, sgCons, sgNil, dSlT, dSlL, dSome, dNo, dRev, dIsi, dNP, dNew, dFld, dMe, dMeN, dNCat, dMemo, dRF, dRC, dPot, wipeE, vis, hid, noOw, isOw, List.all_cons, List.all_nil, Bool.not_false, Bool.not_true, Bool.and_true, Bool.true_and, Bool.or_true, Bool.true_or, Bool.false_or, Bool.or_false, List.getElem?_cons_zero, List.getElem?_cons_succ, List.set_cons_zero, List.set_cons_succ, List.length_map, e_le, e_lt, e_ge, e_gt, e_lenT, e_lenL, e_add, e_cat, e_sub, e_mul, e_div, e_mod, e_tupL, e_tupT, e_listL, e_listT, e_fcat, e_isN, e_eqi, e_eqs, fEq, fNe, fIn, fNotIn, decide_true, id_eq, e_all, e_any, e_ixT0, e_ixL0, e_ixT1, e_ixT2, e_max2, e_min2, e_abs, e_int, e_pow, true_and, and_true, forall_const, lcTurn, k, if_true]
          exact ⟨by decide, h1 k⟩
        | false =>
          simp only [semOf, semP, semF, semT, semM, List.map_cons, List.map_nil, List.cons_append, List.nil_append, List.append_nil, List.replicate_succ, List.replicate_zero, Nat.reduceSub, Nat.reduceAdd, Nat.sub_self, Nat.sub_zero, List.length_cons, List.length_nil, Nat.zero_add, dSeq, dSet, dSetF, dSetH, dSetFH, dRet, dRetN, dIf, dNext, dFor, dExt, dApp, dSub, dFrz, dDrop, dNever, dBrk, dCnt, dAsg, dAsgH, dPar, dcNil, dcD, dcF, storesD, dV, dC, d1, d2, dN, dNF, d2F, dCons, dNil, dTup, dLst, asL, asB, dtAnd, dtOr, dtNot, dYes, dAndV, dOrV, dNotV, dIte, dCh, dLc, dSeqI, dRg1, dRg2, dEnum, dZip, dgN, dgT, dgCons, dgNil, sgN, sgT, sgCons, sgNil, dSlT, dSlL, dSome, dNo, dRev, dIsi, dNP, dNew, dFld, dMe, dMeN, dNCat, dMemo, dRF, dRC, dPot, wipeE, vis, hid, noOw, isOw, List.all_cons, List.all_nil, Bool.not_false, Bool.not_true, Bool.and_true, Bool.true_and, Bool.or_true, Bool.true_or, Bool.false_or, Bool.or_false, List.getElem?_cons_zero, List.getElem?_cons_succ, List.set_cons_zero, List.set_cons_succ, List.length_map, e_le, e_lt, e_ge, e_gt, e_lenT, e_lenL, e_add, e_cat, e_sub, e_mul, e_div, e_mod, e_tupL, e_tupT, e_listL, e_listT, e_fcat, e_isN, e_eqi, e_eqs, fEq, fNe, fIn, fNotIn, decide_true, id_eq, e_all, e_any, e_ixT0, e_ixL0, e_ixT1, e_ixT2, e_max2, e_min2, e_abs, e_int, e_pow, true_and, and_true, forall_const, lcTurn, k]
          exact h2 k
      · show P _
        unfold stepsF at h
        rw [List.filter_map, List.map_map] at h
        exact h
/-- Grown.rest: names 0 self 1 person 2 left -/
def d_Grown_rest : TDA := (dNCat (dCons (dV 1) dNil) (dSlT (dV 2) (dSome (dV 1)) dNo))
def g_Grown_rest : List D → (List D → Prop) → Prop := fun ds P => ∃ (p : Nat) (left : List Int), ds = [nD p, isD left] ∧ left.length ≤ 1000 ∧ P (.int p :: (left.drop p).map .int)
theorem ok_Grown_rest (gg : Addr) : ∀ ds P, g_Grown_rest ds P → semT gg 3 3 d_Grown_rest ds P := by
  rintro ds P ⟨p, left, rfl, hl, h⟩
  refine ⟨rfl, ?_⟩
  simp only [semOf, semP, semF, semT, semM, List.map_cons, List.map_nil, List.cons_append, List.nil_append, List.append_nil, List.replicate_succ, List.replicate_zero, Nat.reduceSub, Nat.reduceAdd, Nat.sub_self, Nat.sub_zero, List.length_cons, List.length_nil, Nat.zero_add, dSeq, dSet, dSetF, dSetH, dSetFH, dRet, dRetN, dIf, dNext, dFor, dExt, dApp, dSub, dFrz, dDrop, dNever, dBrk, dCnt, dAsg, dAsgH, dPar, dcNil, dcD, dcF, storesD, dV, dC, d1, d2, dN, dNF, d2F, dCons, dNil, dTup, dLst, asL, asB, dtAnd, dtOr, dtNot, dYes, dAndV, dOrV, dNotV, dIte, dCh, dLc, dSeqI, dRg1, dRg2, dEnum, dZip, dgN, dgT, dgCons, dgNil, sgN, sgT, sgCons, sgNil, dSlT, dSlL, dSome, dNo, dRev, dIsi, dNP, dNew, dFld, dMe, dMeN, dNCat, dMemo, dRF, dRC, dPot, wipeE, vis, hid, noOw, isOw, List.all_cons, List.all_nil, Bool.not_false, Bool.not_true, Bool.and_true, Bool.true_and, Bool.or_true, Bool.true_or, Bool.false_or, Bool.or_false, List.getElem?_cons_zero, List.getElem?_cons_succ, List.set_cons_zero, List.set_cons_succ, List.length_map, e_le, e_lt, e_ge, e_gt, e_lenT, e_lenL, e_add, e_cat, e_sub, e_mul, e_div, e_mod, e_tupL, e_tupT, e_listL, e_listT, e_fcat, e_isN, e_eqi, e_eqs, fEq, fNe, fIn, fNotIn, decide_true, id_eq, e_all, e_any, e_ixT0, e_ixL0, e_ixT1, e_ixT2, e_max2, e_min2, e_abs, e_int, e_pow, true_and, and_true, forall_const, d_Grown_rest]
  refine ⟨⟨by simp, by decide⟩, ?_⟩
  rw [cut_from, ← List.map_drop]
  refine ⟨by rw [List.length_map, List.length_drop]; omega, h⟩
/-! ### what stands from a person on -/
structure Val (cs : List Int) (p : Nat) (left : List Int) : Prop where
  len : left.length = cs.length
  pos : ∀ q, q < cs.length → 0 ≤ left.getD q 0
  box : ∀ q, p ≤ q → q < cs.length → cs.getD q 0 - p ≤ left.getD q 0 ∧ left.getD q 0 ≤ cs.getD q 0
def boxes (p : Nat) : List Int → List (List Int)
  | [] => [[]]
  | c :: cs => (List.range (p + 1)).flatMap fun d => (boxes p cs).map fun r => (c - (d : Nat)) :: r
theorem boxes_len (p : Nat) : ∀ cs : List Int, (boxes p cs).length = (p + 1) ^ cs.length
  | [] => rfl
  | c :: cs => by
    unfold boxes
    rw [List.length_flatMap]
    simp only [List.length_map]
    rw [List.map_const', List.sum_replicate_nat, List.length_range, boxes_len p cs, List.length_cons, Nat.pow_succ, Nat.mul_comm]
theorem mem_boxes (p : Nat) : ∀ (cs r : List Int), r.length = cs.length → (∀ i, i < cs.length → cs.getD i 0 - p ≤ r.getD i 0 ∧ r.getD i 0 ≤ cs.getD i 0) → r ∈ boxes p cs
  | [], [], _, _ => List.mem_cons_self ..
  | [], _ :: _, h, _ => by simp at h
  | _ :: _, [], h, _ => by simp at h
  | c :: cs, x :: r, h, k => by
    have k0 := k 0 (by simp)
    have k0' : c - p ≤ x ∧ x ≤ c := k0
    unfold boxes
    rw [List.mem_flatMap]
    refine ⟨(c - x).toNat, List.mem_range.mpr (by omega), List.mem_map.mpr ⟨r, mem_boxes p cs r (by simpa using h) (fun i hi => ?_), ?_⟩⟩
    · have := k (i + 1) (by rw [List.length_cons]; omega)
      exact this
    · congr 1
      omega
def keyOf (p : Nat) (left : List Int) : List Key := .inl (p : Int) :: (left.drop p).map .inl
def Kss (cs : List Int) : List (List Key) := (List.range cs.length).flatMap fun p => (boxes p (cs.drop p)).map fun r => .inl (p : Int) :: r.map .inl
theorem Kss_few (cs : List Int) (h : cs.length ≤ 10) : (Kss cs).length ≤ 1000000 := by
  unfold Kss
  rw [List.length_flatMap]
  have e : ((List.range cs.length).map fun p => ((boxes p (cs.drop p)).map fun r => (Sum.inl (p : Int) :: r.map Sum.inl : List Key)).length) = (List.range cs.length).map fun p => (p + 1) ^ (cs.length - p) := List.map_congr_left fun p _ => by rw [List.length_map, boxes_len, List.length_drop]
  rw [e]
  have : ∀ n, n < 11 → ((List.range n).map fun p => (p + 1) ^ (n - p)).sum ≤ 1000000 := by decide +kernel
  exact this _ (by omega)
theorem key_mem {cs left : List Int} {p : Nat} (v : Val cs p left) (hp : p < cs.length) : keyOf p left ∈ Kss cs := by
  unfold Kss keyOf
  rw [List.mem_flatMap]
  refine ⟨p, List.mem_range.mpr hp, List.mem_map.mpr ⟨left.drop p, mem_boxes p _ _ (by rw [List.length_drop, List.length_drop, v.len]) (fun i hi => ?_), rfl⟩⟩
  rw [List.length_drop] at hi
  have := v.box (p + i) (by omega) (by omega)
  rw [List.getD_eq_getElem?_getD, List.getD_eq_getElem?_getD, List.getElem?_drop, List.getElem?_drop, ← List.getD_eq_getElem?_getD, ← List.getD_eq_getElem?_getD]
  exact this
def unI : Key → Int
  | .inl i => i
  | .inr _ => 0
def padF (z : Nat) (r : List Key) : List Int := List.replicate z 0 ++ r.map unI
def S1F (L : List (List (List Nat))) : List Key → Int
  | .inl z :: r => mostF (L.drop z.toNat) z.toNat (padF z.toNat r)
  | _ => 0
def S2F (L : List (List (List Nat))) : List Key → Int
  | .inl z :: r => (manyF (L.drop z.toNat) z.toNat (padF z.toNat r) : Nat)
  | _ => 0
theorem pad_alike {cs left : List Int} {p : Nat} (v : Val cs p left) (hp : p ≤ cs.length) : Alike p left (padF p ((left.drop p).map .inl)) := by
  have e : padF p ((left.drop p).map (Sum.inl : Int → Key)) = List.replicate p 0 ++ left.drop p := by
    unfold padF
    rw [List.map_map, show (unI ∘ (Sum.inl : Int → Key)) = id from rfl, List.map_id]
  have low : ∀ q, q < p → (List.replicate p (0 : Int) ++ left.drop p).getD q 0 = 0 := fun q hq => by
    rw [List.getD_eq_getElem?_getD, List.getElem?_append_left (by rw [List.length_replicate]; exact hq), List.getElem?_replicate, if_pos hq]
    rfl
  rw [e]
  refine ⟨?_, fun q hq => ?_, fun q hq => v.pos q (by omega), fun q hq => by rw [low q hq]; exact Int.le_refl _⟩
  · rw [List.length_append, List.length_replicate, List.length_drop, v.len]
    omega
  · rw [List.getD_eq_getElem?_getD, List.getD_eq_getElem?_getD, List.getElem?_append_right (by rw [List.length_replicate]; exact hq), List.length_replicate, List.getElem?_drop]
    congr 2
    omega
theorem late_drop {n : Nat} {E : List P2} (ho : ∀ e, e ∈ E → okP n e) : ∀ (k p : Nat), p + k = n → Late p (((List.range' p k).map (later E)).map subs)
  | 0, p, _ => True.intro
  | k + 1, p, e => by
    rw [List.range'_succ, List.map_cons, List.map_cons]
    refine ⟨fun c hc x hx => ?_, late_drop ho k (p + 1) (by omega)⟩
    have := (mem_subs.mp hc).subset hx
    unfold later at this
    obtain ⟨y, hy, rfl⟩ := List.mem_map.mp this
    obtain ⟨h1, h2⟩ := List.mem_filter.mp hy
    have := ho y h1
    have e2 : y.1 = p := by simpa using h2
    unfold okP at this
    omega
theorem chs_drop (E : List P2) (n p : Nat) (hp : p ≤ n) : (chs E n).drop p = ((List.range' p (n - p)).map (later E)).map subs := by
  unfold chs lts
  rw [← List.map_drop, ← List.map_drop, List.range_eq_range', List.drop_range']
  congr 3
  omega
theorem chs_late {n : Nat} {E : List P2} (ho : ∀ e, e ∈ E → okP n e) {p : Nat} (hp : p ≤ n) : Late p ((chs E n).drop p) := by
  rw [chs_drop E n p hp]
  exact late_drop ho (n - p) p (by omega)
theorem S1_key {E : List P2} {cs left : List Int} {p : Nat} (ho : ∀ e, e ∈ E → okP cs.length e) (v : Val cs p left) (hp : p ≤ cs.length) : S1F (chs E cs.length) (keyOf p left) = mostF ((chs E cs.length).drop p) p left := by
  show mostF ((chs E cs.length).drop (p : Int).toNat) (p : Int).toNat (padF (p : Int).toNat _) = _
  rw [Int.toNat_natCast]
  exact (most_alike _ p _ _ (chs_late ho hp) (pad_alike v hp)).symm
theorem S2_key {E : List P2} {cs left : List Int} {p : Nat} (ho : ∀ e, e ∈ E → okP cs.length e) (v : Val cs p left) (hp : p ≤ cs.length) : S2F (chs E cs.length) (keyOf p left) = (manyF ((chs E cs.length).drop p) p left : Nat) := by
  show ((manyF ((chs E cs.length).drop (p : Int).toNat) (p : Int).toNat (padF (p : Int).toNat _) : Nat) : Int) = _
  rw [Int.toNat_natCast, many_alike _ p _ _ (chs_late ho hp) (pad_alike v hp)]
/-- a web's rows -/
theorem later_ok {n : Nat} {E : List P2} (h : rising E) (ho : ∀ e, e ∈ E → okP n e) (p : Nat) : (later E p).Nodup ∧ ∀ x, x ∈ later E p → p < x ∧ x < n := by
  constructor
  · unfold later
    have : (E.filter fun e => decide (e.1 = p)).Nodup := (rising_nodup h).sublist List.filter_sublist
    refine List.Pairwise.map _ ?_ (List.Pairwise.imp_of_mem (S := fun a b => a.1 = p ∧ b.1 = p ∧ a ≠ b) (fun {a b} ha hb hab => ?_) this)
    · rintro a b ⟨h1, h2, h3⟩ e
      exact h3 (Prod.ext (h1.trans h2.symm) e)
    · exact ⟨by simpa using (List.mem_filter.mp ha).2, by simpa using (List.mem_filter.mp hb).2, hab⟩
  · intro x hx
    unfold later at hx
    obtain ⟨y, hy, rfl⟩ := List.mem_map.mp hx
    obtain ⟨h1, h2⟩ := List.mem_filter.mp hy
    have := ho y h1
    have e2 : y.1 = p := by simpa using h2
    unfold okP at this
    omega
theorem len_below {n : Nat} {l : List Nat} (h : l.Nodup) (hb : ∀ x, x ∈ l → x < n) : l.length ≤ n := by
  have := nodup_few h (s := List.range n) fun x hx => List.mem_range.mpr (hb x hx)
  rw [List.length_range] at this
  exact this
theorem chs_ok {n : Nat} {E : List P2} (h : rising E) (ho : ∀ e, e ∈ E → okP n e) (hn : n ≤ 10) : OkCh n (chs E n) := by
  refine ⟨by unfold chs lts; rw [List.length_map, List.length_map, List.length_range], hn, fun cs hcs => ?_⟩
  unfold chs lts at hcs
  rw [List.map_map] at hcs
  obtain ⟨p, hp, rfl⟩ := List.mem_map.mp hcs
  obtain ⟨h1, h2⟩ := later_ok h ho p
  have hl : (later E p).length ≤ 10 := Nat.le_trans (len_below h1 fun x hx => (h2 x hx).2) hn
  constructor
  · show (subs (later E p)).length ≤ 1024
    rw [subs_len]
    exact Nat.pow_le_pow_right (n := 2) (by decide) hl
  · intro c hc
    have s := mem_subs.mp hc
    exact ⟨Nat.le_trans s.length_le hl, fun x hx => (h2 x (s.subset hx)).2⟩
theorem chs_at {n : Nat} {E : List P2} {p : Nat} (hp : p < n) : (chs E n).getD p [] = subs (later E p) := by
  unfold chs lts
  rw [List.getD_eq_getElem?_getD, List.map_map, List.getElem?_map, List.getElem?_range hp]
  rfl
theorem chs_next {n : Nat} {E : List P2} {p : Nat} (hp : p < n) : (chs E n).drop p = subs (later E p) :: (chs E n).drop (p + 1) := by
  rw [chs_drop E n p (by omega), chs_drop E n (p + 1) (by omega), show n - p = (n - (p + 1)) + 1 by omega, List.range'_succ]
  rfl
theorem Val.next {E : List P2} {cs left : List Int} {p : Nat} (h : rising E) (ho : ∀ e, e ∈ E → okP cs.length e) (v : Val cs p left) {c : List Nat} (hc : c ∈ subs (later E p)) (ok : okL (takenL left p c) = true) : Val cs (p + 1) (takenL left p c) := by
  refine ⟨by rw [takenL_len, v.len], fun q hq => (okL_iff _).mp ok q (by rw [takenL_len, v.len]; exact hq), fun q hq hqn => ?_⟩
  have b := v.box q (by omega) hqn
  rw [takenL_at left p c q (by rw [v.len]; exact hqn), deg_row, if_neg (by omega)]
  have nd : c.Nodup := ((later_ok h ho p).1).sublist (mem_subs.mp hc)
  have : (c.filter fun x => decide (x = q)).length ≤ 1 := by
    clear b hc ok
    induction c with
    | nil => exact Nat.zero_le _
    | cons x c ih =>
      obtain ⟨n1, n2⟩ := List.nodup_cons.mp nd
      rw [List.filter_cons]
      by_cases e : x = q
      · subst e
        rw [if_pos (by simp)]
        have : (c.filter fun y => decide (y = x)) = [] := by
          rw [List.filter_eq_nil_iff]
          intro y hy
          simp
          intro e
          rw [e] at hy
          exact n1 hy
        rw [this]
        exact Nat.le_refl _
      · rw [if_neg (by simpa using e)]
        exact ih n2
  omega
end HM

/-! What the methods of Grown tell, further: most, many, first. -/
namespace HM
open PySem L2 TL
theorem e_maxI {x : Int} {l : List Int} {P : D → Prop} : fMax [.list ((x :: l).map .int)] P = P (.int (l.foldl max x)) := by
  show ((PySem.W.AlikeAll _ ∧ minOk _ = true) ∧ P _) = _
  have a : PySem.W.AlikeAll ((x :: l).map PyData.int) := PySem.W.alikeAll_datum (α := Int) (x :: l)
  have b : minOk ((x :: l).map PyData.int) = true := by
    show (PyData.plainAll ((x :: l).map PyData.int) && decide (PyData.depthAll ((x :: l).map PyData.int) ≤ 60)) = true
    rw [show PyData.plainAll ((x :: l).map PyData.int) = true from PySem.W.plainAll_map (α := Int) (x :: l), decide_eq_true (show PyData.depthAll ((x :: l).map PyData.int) ≤ 60 from Nat.le_trans (PySem.W.depthAll_map (α := Int) (x :: l)) (by decide))]
    rfl
  rw [show PySem.W.maxD (PyData.int x) (l.map PyData.int) = .int (l.foldl max x) from PySem.W.maxD_ints x l]
  exact propext ⟨fun z => z.2, fun z => ⟨⟨a, b⟩, z⟩⟩
theorem e_sumL {l : List Int} {P : D → Prop} : fSum [.list (l.map .int)] P = P (.int l.sum) := by
  unfold fSum
  simp only [ints_map]
theorem e_sumT {l : List Int} {P : D → Prop} : fSum [.tuple (l.map .int)] P = P (.int l.sum) := by
  unfold fSum
  simp only [ints_map]
theorem key_tree (p : Nat) (left : List Int) : (.int (p : Int) :: (left.drop p).map .int : List D) = (keyOf p left).map keyD := by
  unfold keyOf
  rw [List.map_cons, List.map_map]
  rfl
theorem steps_few {cs : List (List Nat)} {p : Nat} {left : List Int} (h : cs.length ≤ 1024) : (stepsF cs p left).length ≤ 1024 := by
  unfold stepsF
  have := List.length_filter_le (fun s : List Nat × List Int => okL s.2) (cs.map fun c => (c, takenL left p c))
  rw [List.length_map] at this
  omega
/-- the web and the counts of a Grown -/
structure GrW (E : List P2) (cs : List Int) : Prop where
  up : rising E
  ok : ∀ e, e ∈ E → okP cs.length e
  few : cs.length ≤ 10
/-- Grown.most: names 0 self 1 person 2 left 3 key 4 some 5 choice 6 late -/
def d_Grown_most (gg : Addr) (L : List (List (List Nat))) (Ks : List (List Key)) (S : List Key → Int) (gr : List D → (D → Prop) → Prop) : DS := (dSeq (dIf (asB (d2 fEq (dV 1) (dN fLen (dCons (dV 2) dNil)))) (dRet (dC (.int 0))) dNext)
  (dMemo 3 0 gg Ks S (dMeN 0 gg g_Grown_rest (dCons (dV 1) (dCons (dV 2) dNil))) (dSetF 4 (dLc (dSeqI (dMe 0 gg (g_Grown_steps L) (dCons (dV 1) (dCons (dV 2) dNil)))) (dgT 2 (dgCons (dgN 5) (dgCons (dgN 6) dgNil))) dYes (d2 fPlus (dN fLen (dCons (dV 5) dNil)) (dMe 0 gg gr (dCons (d2 fPlus (dV 1) (dC (.int 1))) (dCons (dV 6) dNil)))) [5, 6])) (dN fMax (dCons (dV 4) dNil))))
def g_Grown_most (E : List P2) (cs : List Int) (j : Nat) : List D → (D → Prop) → Prop := fun ds P => ∃ (p : Nat) (left : List Int), ds = [nD p, isD left] ∧ p ≤ cs.length ∧ cs.length < p + j ∧ Val cs p left ∧ P (.int (mostF ((chs E cs.length).drop p) p left))
theorem ok_Grown_most {E : List P2} {cs : List Int} (w : GrW E cs) (gg : Addr) (j : Nat) : ∀ ds P, g_Grown_most E cs (j + 1) ds P → semM gg 7 3 (d_Grown_most gg (chs E cs.length) (Kss cs) (S1F (chs E cs.length)) (g_Grown_most E cs j)) ds P := by
  rintro ds P ⟨p, left, rfl, hp, hj, v, h⟩
  refine ⟨rfl, ?_⟩
  have co := chs_ok w.up w.ok w.few
  simp only [semOf, semP, semF, semT, semM, List.map_cons, List.map_nil, List.cons_append, List.nil_append, List.append_nil, List.replicate_succ, List.replicate_zero, Nat.reduceSub, Nat.reduceAdd, Nat.sub_self, Nat.sub_zero, List.length_cons, List.length_nil, Nat.zero_add, dSeq, dSet, dSetF, dSetH, dSetFH, dRet, dRetN, dIf, dNext, dFor, dExt, dApp, dSub, dFrz, dDrop, dNever, dBrk, dCnt, dAsg, dAsgH, dPar, dcNil, dcD, dcF, storesD, dV, dC, d1, d2, dN, dNF, d2F, dCons, dNil, dTup, dLst, asL, asB, dtAnd, dtOr, dtNot, dYes, dAndV, dOrV, dNotV, dIte, dCh, dLc, dSeqI, dRg1, dRg2, dEnum, dZip, dgN, dgT, dgCons, dgNil, sgN, sgT, sgCons, sgNil, dSlT, dSlL, dSome, dNo, dRev, dIsi, dNP, dNew, dFld, dMe, dMeN, dNCat, dMemo, dRF, dRC, dPot, wipeE, vis, hid, noOw, isOw, List.all_cons, List.all_nil, Bool.not_false, Bool.not_true, Bool.and_true, Bool.true_and, Bool.or_true, Bool.true_or, Bool.false_or, Bool.or_false, List.getElem?_cons_zero, List.getElem?_cons_succ, List.set_cons_zero, List.set_cons_succ, List.length_map, e_le, e_lt, e_ge, e_gt, e_lenT, e_lenL, e_add, e_cat, e_sub, e_mul, e_div, e_mod, e_tupL, e_tupT, e_listL, e_listT, e_fcat, e_isN, e_eqi, e_eqs, fEq, fNe, fIn, fNotIn, decide_true, id_eq, e_all, e_any, e_ixT0, e_ixL0, e_ixT1, e_ixT2, e_max2, e_min2, e_abs, e_int, e_pow, true_and, and_true, forall_const, d_Grown_most]
  rw [show decide ((p : Int) = (left.length : Int)) = decide (p = cs.length) from decide_eq_decide.mpr (by rw [v.len]; exact Int.ofNat_inj)]
  by_cases e : p = cs.length
  · subst e
    rw [decide_eq_true rfl]
    rw [List.drop_of_length_le (by rw [co.len]; exact Nat.le_refl _)] at h
    exact h
  · rw [decide_eq_false e]
    have hpn : p < cs.length := by omega
    refine ⟨by decide, by decide, p, left, rfl, by have := v.len; have := w.few; omega, keyOf p left, key_tree p left, key_mem v hpn, fun a => ?_, ?_⟩
    · have r := co.row _ (show subs (later E p) ∈ chs E cs.length by rw [← chs_at (n := cs.length) hpn, List.getD_eq_getElem?_getD, List.getElem?_eq_getElem (by rw [co.len]; exact hpn)]; exact List.getElem_mem _)
      refine ⟨p, left, rfl, by rw [v.len]; exact co, by rw [co.len]; exact hpn, ?_⟩
      rw [chs_at hpn]
      refine ⟨Nat.le_trans (by rw [List.length_map]; exact steps_few r.1) (by decide), lc_map (stepsF (subs (later E p)) p left) (h := fun s => .int ((s.1.length : Int) + mostF ((chs E cs.length).drop (p + 1)) (p + 1) s.2)) (fun s hs R hR => ?_) ?_⟩
      · obtain ⟨m1, m2, m3⟩ := mem_steps.mp hs
        simp only [semOf, semP, semF, semT, semM, List.map_cons, List.map_nil, List.cons_append, List.nil_append, List.append_nil, List.replicate_succ, List.replicate_zero, Nat.reduceSub, Nat.reduceAdd, Nat.sub_self, Nat.sub_zero, List.length_cons, List.length_nil, Nat.zero_add, dSeq, dSet, dSetF, dSetH, dSetFH, dRet, dRetN, dIf, dNext, dFor, dExt, dApp, dSub, dFrz, dDrop, dNever, dBrk, dCnt, dAsg, dAsgH, dPar, dcNil, dcD, dcF, storesD, dV, dC, d1, d2, dN, dNF, d2F, dCons, dNil, dTup, dLst, asL, asB, dtAnd, dtOr, dtNot, dYes, dAndV, dOrV, dNotV, dIte, dCh, dLc, dSeqI, dRg1, dRg2, dEnum, dZip, dgN, dgT, dgCons, dgNil, sgN, sgT, sgCons, sgNil, dSlT, dSlL, dSome, dNo, dRev, dIsi, dNP, dNew, dFld, dMe, dMeN, dNCat, dMemo, dRF, dRC, dPot, wipeE, vis, hid, noOw, isOw, List.all_cons, List.all_nil, Bool.not_false, Bool.not_true, Bool.and_true, Bool.true_and, Bool.or_true, Bool.true_or, Bool.false_or, Bool.or_false, List.getElem?_cons_zero, List.getElem?_cons_succ, List.set_cons_zero, List.set_cons_succ, List.length_map, e_le, e_lt, e_ge, e_gt, e_lenT, e_lenL, e_add, e_cat, e_sub, e_mul, e_div, e_mod, e_tupL, e_tupT, e_listL, e_listT, e_fcat, e_isN, e_eqi, e_eqs, fEq, fNe, fIn, fNotIn, decide_true, id_eq, e_all, e_any, e_ixT0, e_ixL0, e_ixT1, e_ixT2, e_max2, e_min2, e_abs, e_int, e_pow, true_and, and_true, forall_const, lcTurn]
        refine ⟨p + 1, s.2, rfl, by omega, by omega, ?_, hR⟩
        rw [m2]
        exact v.next w.up w.ok m1 (by rw [← m2]; exact m3)
      · refine ⟨by decide, ?_⟩
        rw [show ((stepsF (subs (later E p)) p left).map fun s => PyData.int ((s.1.length : Int) + mostF ((chs E cs.length).drop (p + 1)) (p + 1) s.2)) = ((stepsF (subs (later E p)) p left).map fun s => (s.1.length : Int) + mostF ((chs E cs.length).drop (p + 1)) (p + 1) s.2).map .int by rw [List.map_map]; rfl]
        have ne : ((stepsF (subs (later E p)) p left).map fun s => (s.1.length : Int) + mostF ((chs E cs.length).drop (p + 1)) (p + 1) s.2) ≠ [] := fun z => steps_ne ((okL_iff left).mpr fun q hq => v.pos q (by rw [← v.len]; exact hq)) (List.map_eq_nil_iff.mp z)
        have q : S1F (chs E cs.length) (keyOf p left) = maxI ((stepsF (subs (later E p)) p left).map fun s => (s.1.length : Int) + mostF ((chs E cs.length).drop (p + 1)) (p + 1) s.2) := by
          rw [S1_key w.ok v hp, chs_next hpn, mostF]
        rw [q]
        generalize ((stepsF (subs (later E p)) p left).map fun s => (s.1.length : Int) + mostF ((chs E cs.length).drop (p + 1)) (p + 1) s.2) = l at ne
        cases l with
        | nil => exact absurd rfl ne
        | cons x l =>
          rw [e_maxI]
          rfl
    · rw [S1_key w.ok v hp]
      exact h
/-- Grown.many: names 0 self 1 person 2 left 3 key 4 some 5 choice 6 late -/
def d_Grown_many (gg : Addr) (L : List (List (List Nat))) (Ks : List (List Key)) (S : List Key → Int) (gr : List D → (D → Prop) → Prop) : DS := (dSeq (dIf (asB (d2 fEq (dV 1) (dN fLen (dCons (dV 2) dNil)))) (dRet (dC (.int 1))) dNext)
  (dMemo 3 0 gg Ks S (dMeN 0 gg g_Grown_rest (dCons (dV 1) (dCons (dV 2) dNil))) (dSetF 4 (dLc (dSeqI (dMe 0 gg (g_Grown_steps L) (dCons (dV 1) (dCons (dV 2) dNil)))) (dgT 2 (dgCons (dgN 5) (dgCons (dgN 6) dgNil))) (asB (d2 fEq (d2 fIx (dV 6) (dV 1)) (dC (.int 0)))) (dMe 0 gg gr (dCons (d2 fPlus (dV 1) (dC (.int 1))) (dCons (dV 6) dNil))) [5, 6])) (dN fSum (dCons (dV 4) dNil))))
def g_Grown_many (E : List P2) (cs : List Int) (j : Nat) : List D → (D → Prop) → Prop := fun ds P => ∃ (p : Nat) (left : List Int), ds = [nD p, isD left] ∧ p ≤ cs.length ∧ cs.length < p + j ∧ Val cs p left ∧ P (nD (manyF ((chs E cs.length).drop p) p left))
theorem ok_Grown_many {E : List P2} {cs : List Int} (w : GrW E cs) (gg : Addr) (j : Nat) : ∀ ds P, g_Grown_many E cs (j + 1) ds P → semM gg 7 3 (d_Grown_many gg (chs E cs.length) (Kss cs) (S2F (chs E cs.length)) (g_Grown_many E cs j)) ds P := by
  rintro ds P ⟨p, left, rfl, hp, hj, v, h⟩
  refine ⟨rfl, ?_⟩
  have co := chs_ok w.up w.ok w.few
  simp only [semOf, semP, semF, semT, semM, List.map_cons, List.map_nil, List.cons_append, List.nil_append, List.append_nil, List.replicate_succ, List.replicate_zero, Nat.reduceSub, Nat.reduceAdd, Nat.sub_self, Nat.sub_zero, List.length_cons, List.length_nil, Nat.zero_add, dSeq, dSet, dSetF, dSetH, dSetFH, dRet, dRetN, dIf, dNext, dFor, dExt, dApp, dSub, dFrz, dDrop, dNever, dBrk, dCnt, dAsg, dAsgH, dPar, dcNil, dcD, dcF, storesD, dV, dC, d1, d2, dN, dNF, d2F, dCons, dNil, dTup, dLst, asL, asB, dtAnd, dtOr, dtNot, dYes, dAndV, dOrV, dNotV, dIte, dCh, dLc, dSeqI, dRg1, dRg2, dEnum, dZip, dgN, dgT, dgCons, dgNil, sgN, sgT, sgCons, sgNil, dSlT, dSlL, dSome, dNo, dRev, dIsi, dNP, dNew, dFld, dMe, dMeN, dNCat, dMemo, dRF, dRC, dPot, wipeE, vis, hid, noOw, isOw, List.all_cons, List.all_nil, Bool.not_false, Bool.not_true, Bool.and_true, Bool.true_and, Bool.or_true, Bool.true_or, Bool.false_or, Bool.or_false, List.getElem?_cons_zero, List.getElem?_cons_succ, List.set_cons_zero, List.set_cons_succ, List.length_map, e_le, e_lt, e_ge, e_gt, e_lenT, e_lenL, e_add, e_cat, e_sub, e_mul, e_div, e_mod, e_tupL, e_tupT, e_listL, e_listT, e_fcat, e_isN, e_eqi, e_eqs, fEq, fNe, fIn, fNotIn, decide_true, id_eq, e_all, e_any, e_ixT0, e_ixL0, e_ixT1, e_ixT2, e_max2, e_min2, e_abs, e_int, e_pow, true_and, and_true, forall_const, d_Grown_many]
  rw [show decide ((p : Int) = (left.length : Int)) = decide (p = cs.length) from decide_eq_decide.mpr (by rw [v.len]; exact Int.ofNat_inj)]
  by_cases e : p = cs.length
  · subst e
    rw [decide_eq_true rfl]
    rw [List.drop_of_length_le (by rw [co.len]; exact Nat.le_refl _)] at h
    exact h
  · rw [decide_eq_false e]
    have hpn : p < cs.length := by omega
    refine ⟨by decide, by decide, p, left, rfl, by have := v.len; have := w.few; omega, keyOf p left, key_tree p left, key_mem v hpn, fun a => ?_, ?_⟩
    · have r := co.row _ (show subs (later E p) ∈ chs E cs.length by rw [← chs_at (n := cs.length) hpn, List.getD_eq_getElem?_getD, List.getElem?_eq_getElem (by rw [co.len]; exact hpn)]; exact List.getElem_mem _)
      refine ⟨p, left, rfl, by rw [v.len]; exact co, by rw [co.len]; exact hpn, ?_⟩
      rw [chs_at hpn]
      refine ⟨Nat.le_trans (by rw [List.length_map]; exact steps_few r.1) (by decide), lc_filter (fun s => decide (s.2.getD p 0 = 0)) (stepsF (subs (later E p)) p left) (h := fun s => nD (manyF ((chs E cs.length).drop (p + 1)) (p + 1) s.2)) (fun s hs R h1 h2 => ?_) ?_⟩
      · obtain ⟨m1, m2, m3⟩ := mem_steps.mp hs
        have hl : s.2.length = cs.length := by rw [m2, takenL_len, v.len]
        simp only [semOf, semP, semF, semT, semM, List.map_cons, List.map_nil, List.cons_append, List.nil_append, List.append_nil, List.replicate_succ, List.replicate_zero, Nat.reduceSub, Nat.reduceAdd, Nat.sub_self, Nat.sub_zero, List.length_cons, List.length_nil, Nat.zero_add, dSeq, dSet, dSetF, dSetH, dSetFH, dRet, dRetN, dIf, dNext, dFor, dExt, dApp, dSub, dFrz, dDrop, dNever, dBrk, dCnt, dAsg, dAsgH, dPar, dcNil, dcD, dcF, storesD, dV, dC, d1, d2, dN, dNF, d2F, dCons, dNil, dTup, dLst, asL, asB, dtAnd, dtOr, dtNot, dYes, dAndV, dOrV, dNotV, dIte, dCh, dLc, dSeqI, dRg1, dRg2, dEnum, dZip, dgN, dgT, dgCons, dgNil, sgN, sgT, sgCons, sgNil, dSlT, dSlL, dSome, dNo, dRev, dIsi, dNP, dNew, dFld, dMe, dMeN, dNCat, dMemo, dRF, dRC, dPot, wipeE, vis, hid, noOw, isOw, List.all_cons, List.all_nil, Bool.not_false, Bool.not_true, Bool.and_true, Bool.true_and, Bool.or_true, Bool.true_or, Bool.false_or, Bool.or_false, List.getElem?_cons_zero, List.getElem?_cons_succ, List.set_cons_zero, List.set_cons_succ, List.length_map, e_le, e_lt, e_ge, e_gt, e_lenT, e_lenL, e_add, e_cat, e_sub, e_mul, e_div, e_mod, e_tupL, e_tupT, e_listL, e_listT, e_fcat, e_isN, e_eqi, e_eqs, fEq, fNe, fIn, fNotIn, decide_true, id_eq, e_all, e_any, e_ixT0, e_ixL0, e_ixT1, e_ixT2, e_max2, e_min2, e_abs, e_int, e_pow, true_and, and_true, forall_const, lcTurn]
        rw [e_ixT (x := .int (s.2.getD p 0)) (by rw [List.getElem?_map, List.getD_eq_getElem?_getD, List.getElem?_eq_getElem (by rw [hl]; exact hpn)]; rfl)]
        simp only [semOf, semP, semF, semT, semM, List.map_cons, List.map_nil, List.cons_append, List.nil_append, List.append_nil, List.replicate_succ, List.replicate_zero, Nat.reduceSub, Nat.reduceAdd, Nat.sub_self, Nat.sub_zero, List.length_cons, List.length_nil, Nat.zero_add, dSeq, dSet, dSetF, dSetH, dSetFH, dRet, dRetN, dIf, dNext, dFor, dExt, dApp, dSub, dFrz, dDrop, dNever, dBrk, dCnt, dAsg, dAsgH, dPar, dcNil, dcD, dcF, storesD, dV, dC, d1, d2, dN, dNF, d2F, dCons, dNil, dTup, dLst, asL, asB, dtAnd, dtOr, dtNot, dYes, dAndV, dOrV, dNotV, dIte, dCh, dLc, dSeqI, dRg1, dRg2, dEnum, dZip, dgN, dgT, dgCons, dgNil, sgN, sgT, sgCons, sgNil, dSlT, dSlL, dSome, dNo, dRev, dIsi, dNP, dNew, dFld, dMe, dMeN, dNCat, dMemo, dRF, dRC, dPot, wipeE, vis, hid, noOw, isOw, List.all_cons, List.all_nil, Bool.not_false, Bool.not_true, Bool.and_true, Bool.true_and, Bool.or_true, Bool.true_or, Bool.false_or, Bool.or_false, List.getElem?_cons_zero, List.getElem?_cons_succ, List.set_cons_zero, List.set_cons_succ, List.length_map, e_le, e_lt, e_ge, e_gt, e_lenT, e_lenL, e_add, e_cat, e_sub, e_mul, e_div, e_mod, e_tupL, e_tupT, e_listL, e_listT, e_fcat, e_isN, e_eqi, e_eqs, fEq, fNe, fIn, fNotIn, decide_true, id_eq, e_all, e_any, e_ixT0, e_ixL0, e_ixT1, e_ixT2, e_max2, e_min2, e_abs, e_int, e_pow, true_and, and_true, forall_const]
        cases k : decide (s.2.getD p 0 = 0) with
        | true =>
          refine ⟨p + 1, s.2, rfl, by omega, by omega, ?_, h1 k⟩
          rw [m2]
          exact v.next w.up w.ok m1 (by rw [← m2]; exact m3)
        | false => exact h2 k
      · refine ⟨by decide, ?_⟩
        rw [show (((stepsF (subs (later E p)) p left).filter fun s => decide (s.2.getD p 0 = 0)).map fun s => nD (manyF ((chs E cs.length).drop (p + 1)) (p + 1) s.2)) = (((stepsF (subs (later E p)) p left).filter fun s => decide (s.2.getD p 0 = 0)).map fun s => (manyF ((chs E cs.length).drop (p + 1)) (p + 1) s.2 : Int)).map .int by rw [List.map_map]; rfl, e_sumL]
        rw [S2_key w.ok v hp, chs_next hpn, manyF]
        congr 1
        generalize ((stepsF (subs (later E p)) p left).filter fun s => decide (s.2.getD p 0 = 0)) = l
        induction l with
        | nil => rfl
        | cons x l ih =>
          rw [List.map_cons, List.map_cons, List.sum_cons, List.sum_cons, ih, Int.natCast_add]
    · rw [S2_key w.ok v hp]
      exact h
end HM

/-! What the methods of Grown tell, further: first. -/
namespace HM
open PySem L2 TL
theorem range_at {n : Nat} {done rest : List Nat} {x : Nat} (e : List.range n = done ++ x :: rest) : x = done.length ∧ x < n := by
  have h : (List.range n)[done.length]? = some x := by
    rw [e, List.getElem?_append_right (Nat.le_refl _), Nat.sub_self]
    rfl
  have hx : x < n := List.mem_range.mp (by rw [e]; exact List.mem_append_right _ (List.mem_cons_self ..))
  have hl : done.length < n := by
    have := congrArg List.length e
    rw [List.length_range, List.length_append, List.length_cons] at this
    omega
  rw [List.getElem?_range hl] at h
  exact ⟨(Option.some.inj h).symm, hx⟩
/-- Grown.first: names 0 self 1 left 2 found 3 person 4 due 5 some 6 step 7 late -/
def d_Grown_first (gg : Addr) (E : List P2) (cs : List Int) (L : List (List (List Nat))) (BT : D) : DS := (dSeq (dPar [1, 2] (dcD (dFld 0 gg BT) (dcF (dLst dNil) dcNil)))
  (dSeq (dFor (dRg1 (dCons (dN fLen (dCons (dV 1) dNil)) dNil)) (sgN 3) (dSeq (dSet 4 (dMe 0 gg (g_Grown_most E cs 11) (dCons (dV 3) (dCons (dV 1) dNil))))
  (dSeq (dSetF 5 (dLc (dSeqI (dMe 0 gg (g_Grown_steps L) (dCons (dV 3) (dCons (dV 1) dNil)))) (dgN 6) (asB (d2 fEq (d2 fPlus (dN fLen (dCons (d2 fIx (dV 6) (dC (.int 0))) dNil)) (dMe 0 gg (g_Grown_most E cs 11) (dCons (d2 fPlus (dV 3) (dC (.int 1))) (dCons (d2 fIx (dV 6) (dC (.int 1))) dNil)))) (dV 4))) (dV 6) [6]))
  (dSeq (dExt 2 (asL (dLc (dSeqI (d2 fIx (d2 fIx (dV 5) (dC (.int 0))) (dC (.int 0)))) (dgN 7) dYes (dTup (dCons (dV 3) (dCons (dV 7) dNil))) [7])))
  (dSet 1 (d2 fIx (d2 fIx (dV 5) (dC (.int 0))) (dC (.int 1))))))))
  (dRet (dN fTuple (dCons (dV 2) dNil)))))
def g_Grown_first (E : List P2) (cs : List Int) : List D → (D → Prop) → Prop := fun ds P => ds = [] ∧ P (psD (firstF (chs E cs.length) 0 cs))
theorem ok_Grown_first {E : List P2} {cs : List Int} (w : GrW E cs) (h0 : okL cs = true) (gg : Addr) : ∀ ds P, g_Grown_first E cs ds P → semM gg 8 1 (d_Grown_first gg E cs (chs E cs.length) (isD cs)) ds P := by
  rintro ds P ⟨rfl, h⟩
  refine ⟨rfl, ?_⟩
  have co := chs_ok w.up w.ok w.few
  have hf := w.few
  simp only [semOf, semP, semF, semT, semM, List.map_cons, List.map_nil, List.cons_append, List.nil_append, List.append_nil, List.replicate_succ, List.replicate_zero, Nat.reduceSub, Nat.reduceAdd, Nat.sub_self, Nat.sub_zero, List.length_cons, List.length_nil, Nat.zero_add, dSeq, dSet, dSetF, dSetH, dSetFH, dRet, dRetN, dIf, dNext, dFor, dExt, dApp, dSub, dFrz, dDrop, dNever, dBrk, dCnt, dAsg, dAsgH, dPar, dcNil, dcD, dcF, storesD, dV, dC, d1, d2, dN, dNF, d2F, dCons, dNil, dTup, dLst, asL, asB, dtAnd, dtOr, dtNot, dYes, dAndV, dOrV, dNotV, dIte, dCh, dLc, dSeqI, dRg1, dRg2, dEnum, dZip, dgN, dgT, dgCons, dgNil, sgN, sgT, sgCons, sgNil, dSlT, dSlL, dSome, dNo, dRev, dIsi, dNP, dNew, dLenS, dIxS, dPotS, dFld, dMe, dMeN, dNCat, dMemo, dRF, dRC, dPot, wipeE, vis, hid, noOw, isOw, List.all_cons, List.all_nil, Bool.not_false, Bool.not_true, Bool.and_true, Bool.true_and, Bool.or_true, Bool.true_or, Bool.false_or, Bool.or_false, List.getElem?_cons_zero, List.getElem?_cons_succ, List.set_cons_zero, List.set_cons_succ, List.length_map, e_le, e_lt, e_ge, e_gt, e_lenT, e_lenL, e_add, e_cat, e_sub, e_mul, e_div, e_mod, e_tupL, e_tupT, e_listL, e_listT, e_fcat, e_isN, e_eqi, e_eqs, fEq, fNe, fIn, fNotIn, decide_true, id_eq, e_all, e_any, e_ixT0, e_ixL0, e_ixT1, e_ixT2, e_max2, e_min2, e_abs, e_int, e_pow, true_and, and_true, forall_const, d_Grown_first]
  refine ⟨by decide, by decide, ⟨by omega, by omega⟩, ?_⟩
  rw [Int.toNat_natCast, show rangeD 0 cs.length = (List.range cs.length).map nD from (rangeD_nat 0 cs.length).trans (List.map_congr_left fun i _ => by rw [Nat.zero_add])]
  refine for_go (List.range cs.length) (fun done ρ => ∃ left found s3 s4 s5 s6 s7, ρ = [.hd gg, .d (isD left), .ow (found.map pD), s3, s4, s5, s6, s7] ∧ Val cs done.length left ∧ found ++ firstF ((chs E cs.length).drop done.length) done.length left = firstF (chs E cs.length) 0 cs ∧ found.length ≤ done.length * 10) ?step ?fin [] (List.range cs.length) _ rfl
    ⟨cs, [], .no, .no, .no, .no, .no, rfl, ⟨rfl, fun q hq => (okL_iff cs).mp h0 q hq, fun q _ _ => ⟨by simp, Int.le_refl _⟩⟩, rfl, Nat.zero_le _⟩
  case step =>
    rintro done x rest ρ e ⟨left, found, s3, s4, s5, s6, s7, rfl, v, hfo, hlen⟩ E' h1 h2 h3 h4
    obtain ⟨hx, hxn⟩ := range_at e
    rw [← hx] at v hfo hlen
    have okl : okL left = true := (okL_iff left).mpr fun q hq => v.pos q (by rw [← v.len]; exact hq)
    have r := co.row _ (show subs (later E x) ∈ chs E cs.length by rw [← chs_at (n := cs.length) hxn, List.getD_eq_getElem?_getD, List.getElem?_eq_getElem (by rw [co.len]; exact hxn)]; exact List.getElem_mem _)
    simp only [semOf, semP, semF, semT, semM, List.map_cons, List.map_nil, List.cons_append, List.nil_append, List.append_nil, List.replicate_succ, List.replicate_zero, Nat.reduceSub, Nat.reduceAdd, Nat.sub_self, Nat.sub_zero, List.length_cons, List.length_nil, Nat.zero_add, dSeq, dSet, dSetF, dSetH, dSetFH, dRet, dRetN, dIf, dNext, dFor, dExt, dApp, dSub, dFrz, dDrop, dNever, dBrk, dCnt, dAsg, dAsgH, dPar, dcNil, dcD, dcF, storesD, dV, dC, d1, d2, dN, dNF, d2F, dCons, dNil, dTup, dLst, asL, asB, dtAnd, dtOr, dtNot, dYes, dAndV, dOrV, dNotV, dIte, dCh, dLc, dSeqI, dRg1, dRg2, dEnum, dZip, dgN, dgT, dgCons, dgNil, sgN, sgT, sgCons, sgNil, dSlT, dSlL, dSome, dNo, dRev, dIsi, dNP, dNew, dLenS, dIxS, dPotS, dFld, dMe, dMeN, dNCat, dMemo, dRF, dRC, dPot, wipeE, vis, hid, noOw, isOw, List.all_cons, List.all_nil, Bool.not_false, Bool.not_true, Bool.and_true, Bool.true_and, Bool.or_true, Bool.true_or, Bool.false_or, Bool.or_false, List.getElem?_cons_zero, List.getElem?_cons_succ, List.set_cons_zero, List.set_cons_succ, List.length_map, e_le, e_lt, e_ge, e_gt, e_lenT, e_lenL, e_add, e_cat, e_sub, e_mul, e_div, e_mod, e_tupL, e_tupT, e_listL, e_listT, e_fcat, e_isN, e_eqi, e_eqs, fEq, fNe, fIn, fNotIn, decide_true, id_eq, e_all, e_any, e_ixT0, e_ixL0, e_ixT1, e_ixT2, e_max2, e_min2, e_abs, e_int, e_pow, true_and, and_true, forall_const]
    refine ⟨x, left, rfl, by omega, by omega, v, by simp [imm], ?_⟩
    refine ⟨x, left, rfl, by rw [v.len]; exact co, by rw [co.len]; exact hxn, ?_⟩
    rw [chs_at hxn]
    refine ⟨Nat.le_trans (by rw [List.length_map]; exact steps_few r.1) (by decide), lc_filter (fun s => decide ((s.1.length : Int) + mostF ((chs E cs.length).drop (x + 1)) (x + 1) s.2 = mostF ((chs E cs.length).drop x) x left)) (stepsF (subs (later E x)) x left) (h := stD) (fun s hs R k1 k2 => ?_) ?_⟩
    · obtain ⟨m1, m2, m3⟩ := mem_steps.mp hs
      simp only [semOf, semP, semF, semT, semM, List.map_cons, List.map_nil, List.cons_append, List.nil_append, List.append_nil, List.replicate_succ, List.replicate_zero, Nat.reduceSub, Nat.reduceAdd, Nat.sub_self, Nat.sub_zero, List.length_cons, List.length_nil, Nat.zero_add, dSeq, dSet, dSetF, dSetH, dSetFH, dRet, dRetN, dIf, dNext, dFor, dExt, dApp, dSub, dFrz, dDrop, dNever, dBrk, dCnt, dAsg, dAsgH, dPar, dcNil, dcD, dcF, storesD, dV, dC, d1, d2, dN, dNF, d2F, dCons, dNil, dTup, dLst, asL, asB, dtAnd, dtOr, dtNot, dYes, dAndV, dOrV, dNotV, dIte, dCh, dLc, dSeqI, dRg1, dRg2, dEnum, dZip, dgN, dgT, dgCons, dgNil, sgN, sgT, sgCons, sgNil, dSlT, dSlL, dSome, dNo, dRev, dIsi, dNP, dNew, dLenS, dIxS, dPotS, dFld, dMe, dMeN, dNCat, dMemo, dRF, dRC, dPot, wipeE, vis, hid, noOw, isOw, List.all_cons, List.all_nil, Bool.not_false, Bool.not_true, Bool.and_true, Bool.true_and, Bool.or_true, Bool.true_or, Bool.false_or, Bool.or_false, List.getElem?_cons_zero, List.getElem?_cons_succ, List.set_cons_zero, List.set_cons_succ, List.length_map, e_le, e_lt, e_ge, e_gt, e_lenT, e_lenL, e_add, e_cat, e_sub, e_mul, e_div, e_mod, e_tupL, e_tupT, e_listL, e_listT, e_fcat, e_isN, e_eqi, e_eqs, fEq, fNe, fIn, fNotIn, decide_true, id_eq, e_all, e_any, e_ixT0, e_ixL0, e_ixT1, e_ixT2, e_max2, e_min2, e_abs, e_int, e_pow, true_and, and_true, forall_const, lcTurn]
      refine ⟨x + 1, s.2, rfl, by omega, by omega, ?_, ?_⟩
      · rw [m2]
        exact v.next w.up w.ok m1 (by rw [← m2]; exact m3)
      · simp only [semOf, semP, semF, semT, semM, List.map_cons, List.map_nil, List.cons_append, List.nil_append, List.append_nil, List.replicate_succ, List.replicate_zero, Nat.reduceSub, Nat.reduceAdd, Nat.sub_self, Nat.sub_zero, List.length_cons, List.length_nil, Nat.zero_add, dSeq, dSet, dSetF, dSetH, dSetFH, dRet, dRetN, dIf, dNext, dFor, dExt, dApp, dSub, dFrz, dDrop, dNever, dBrk, dCnt, dAsg, dAsgH, dPar, dcNil, dcD, dcF, storesD, dV, dC, d1, d2, dN, dNF, d2F, dCons, dNil, dTup, dLst, asL, asB, dtAnd, dtOr, dtNot, dYes, dAndV, dOrV, dNotV, dIte, dCh, dLc, dSeqI, dRg1, dRg2, dEnum, dZip, dgN, dgT, dgCons, dgNil, sgN, sgT, sgCons, sgNil, dSlT, dSlL, dSome, dNo, dRev, dIsi, dNP, dNew, dLenS, dIxS, dPotS, dFld, dMe, dMeN, dNCat, dMemo, dRF, dRC, dPot, wipeE, vis, hid, noOw, isOw, List.all_cons, List.all_nil, Bool.not_false, Bool.not_true, Bool.and_true, Bool.true_and, Bool.or_true, Bool.true_or, Bool.false_or, Bool.or_false, List.getElem?_cons_zero, List.getElem?_cons_succ, List.set_cons_zero, List.set_cons_succ, List.length_map, e_le, e_lt, e_ge, e_gt, e_lenT, e_lenL, e_add, e_cat, e_sub, e_mul, e_div, e_mod, e_tupL, e_tupT, e_listL, e_listT, e_fcat, e_isN, e_eqi, e_eqs, fEq, fNe, fIn, fNotIn, decide_true, id_eq, e_all, e_any, e_ixT0, e_ixL0, e_ixT1, e_ixT2, e_max2, e_min2, e_abs, e_int, e_pow, true_and, and_true, forall_const]
        cases k : decide ((s.1.length : Int) + mostF ((chs E cs.length).drop (x + 1)) (x + 1) s.2 = mostF ((chs E cs.length).drop x) x left) with
        | true => exact k1 k
        | false => exact k2 k
    · have hd : ((stepsF (subs (later E x)) x left).filter fun s => decide ((s.1.length : Int) + mostF ((chs E cs.length).drop (x + 1)) (x + 1) s.2 = mostF ((chs E cs.length).drop x) x left)) = dueF (subs (later E x)) ((chs E cs.length).drop (x + 1)) x left := by
        rw [chs_next hxn]
        rfl
      rw [hd]
      have ne : dueF (subs (later E x)) ((chs E cs.length).drop (x + 1)) x left ≠ [] := by
        rw [chs_drop E cs.length (x + 1) (by omega)]
        exact dueF_ne okl
      have hfirst : firstF ((chs E cs.length).drop x) x left = match dueF (subs (later E x)) ((chs E cs.length).drop (x + 1)) x left with
          | [] => []
          | s :: _ => s.1.map (fun q => (x, q)) ++ firstF ((chs E cs.length).drop (x + 1)) (x + 1) s.2 := by
        rw [chs_next hxn, firstF]
        all_goals rfl
      have hsub : ∀ s, s ∈ dueF (subs (later E x)) ((chs E cs.length).drop (x + 1)) x left → s ∈ stepsF (subs (later E x)) x left := fun s hs => by
        unfold dueF at hs
        exact (List.mem_filter.mp hs).1
      generalize dueF (subs (later E x)) ((chs E cs.length).drop (x + 1)) x left = du at ne hfirst hsub
      cases du with
      | nil => exact absurd rfl ne
      | cons s du =>
        obtain ⟨m1, m2, m3⟩ := mem_steps.mp (hsub s (List.mem_cons_self ..))
        have hc := (r.2 s.1 m1).1
        have ims : immAll ((s :: du).map stD) = true := immAll_st _
        rw [ims]
        simp only [semOf, semP, semF, semT, semM, List.map_cons, List.map_nil, List.cons_append, List.nil_append, List.append_nil, List.replicate_succ, List.replicate_zero, Nat.reduceSub, Nat.reduceAdd, Nat.sub_self, Nat.sub_zero, List.length_cons, List.length_nil, Nat.zero_add, dSeq, dSet, dSetF, dSetH, dSetFH, dRet, dRetN, dIf, dNext, dFor, dExt, dApp, dSub, dFrz, dDrop, dNever, dBrk, dCnt, dAsg, dAsgH, dPar, dcNil, dcD, dcF, storesD, dV, dC, d1, d2, dN, dNF, d2F, dCons, dNil, dTup, dLst, asL, asB, dtAnd, dtOr, dtNot, dYes, dAndV, dOrV, dNotV, dIte, dCh, dLc, dSeqI, dRg1, dRg2, dEnum, dZip, dgN, dgT, dgCons, dgNil, sgN, sgT, sgCons, sgNil, dSlT, dSlL, dSome, dNo, dRev, dIsi, dNP, dNew, dLenS, dIxS, dPotS, dFld, dMe, dMeN, dNCat, dMemo, dRF, dRC, dPot, wipeE, vis, hid, noOw, isOw, List.all_cons, List.all_nil, Bool.not_false, Bool.not_true, Bool.and_true, Bool.true_and, Bool.or_true, Bool.true_or, Bool.false_or, Bool.or_false, List.getElem?_cons_zero, List.getElem?_cons_succ, List.set_cons_zero, List.set_cons_succ, List.length_map, e_le, e_lt, e_ge, e_gt, e_lenT, e_lenL, e_add, e_cat, e_sub, e_mul, e_div, e_mod, e_tupL, e_tupT, e_listL, e_listT, e_fcat, e_isN, e_eqi, e_eqs, fEq, fNe, fIn, fNotIn, decide_true, id_eq, e_all, e_any, e_ixT0, e_ixL0, e_ixT1, e_ixT2, e_max2, e_min2, e_abs, e_int, e_pow, true_and, and_true, forall_const]
        refine ⟨by decide, by omega, lc_map s.1 (h := fun q => pD (x, q)) (fun q hq R hR => ?_) ?_⟩
        · simp only [semOf, semP, semF, semT, semM, List.map_cons, List.map_nil, List.cons_append, List.nil_append, List.append_nil, List.replicate_succ, List.replicate_zero, Nat.reduceSub, Nat.reduceAdd, Nat.sub_self, Nat.sub_zero, List.length_cons, List.length_nil, Nat.zero_add, dSeq, dSet, dSetF, dSetH, dSetFH, dRet, dRetN, dIf, dNext, dFor, dExt, dApp, dSub, dFrz, dDrop, dNever, dBrk, dCnt, dAsg, dAsgH, dPar, dcNil, dcD, dcF, storesD, dV, dC, d1, d2, dN, dNF, d2F, dCons, dNil, dTup, dLst, asL, asB, dtAnd, dtOr, dtNot, dYes, dAndV, dOrV, dNotV, dIte, dCh, dLc, dSeqI, dRg1, dRg2, dEnum, dZip, dgN, dgT, dgCons, dgNil, sgN, sgT, sgCons, sgNil, dSlT, dSlL, dSome, dNo, dRev, dIsi, dNP, dNew, dLenS, dIxS, dPotS, dFld, dMe, dMeN, dNCat, dMemo, dRF, dRC, dPot, wipeE, vis, hid, noOw, isOw, List.all_cons, List.all_nil, Bool.not_false, Bool.not_true, Bool.and_true, Bool.true_and, Bool.or_true, Bool.true_or, Bool.false_or, Bool.or_false, List.getElem?_cons_zero, List.getElem?_cons_succ, List.set_cons_zero, List.set_cons_succ, List.length_map, e_le, e_lt, e_ge, e_gt, e_lenT, e_lenL, e_add, e_cat, e_sub, e_mul, e_div, e_mod, e_tupL, e_tupT, e_listL, e_listT, e_fcat, e_isN, e_eqi, e_eqs, fEq, fNe, fIn, fNotIn, decide_true, id_eq, e_all, e_any, e_ixT0, e_ixL0, e_ixT1, e_ixT2, e_max2, e_min2, e_abs, e_int, e_pow, true_and, and_true, forall_const, lcTurn]
          exact ⟨by decide, hR⟩
        · rw [show (s.1.map fun q => pD (x, q)) = (s.1.map fun q => (x, q)).map pD by rw [List.map_map]; rfl]
          have imp : imm (isD s.2) = true := by
            show immAll (s.2.map PyData.int) = true
            exact imm_ints _
          refine ⟨⟨by rw [List.length_map, List.length_map]; omega, immAll_ps _⟩, by simp [imp], h1 _ ⟨s.2, found ++ s.1.map fun q => (x, q), .d (nD x), .d (.int (mostF ((chs E cs.length).drop x) x left)), .ow (stD s :: du.map stD), s6, s7, ?_, ?_, ?_, ?_⟩⟩
          · rw [List.map_append]
          · rw [List.length_append, ← hx, List.length_singleton, m2]
            exact v.next w.up w.ok m1 (by rw [← m2]; exact m3)
          · rw [List.length_append, ← hx, List.length_singleton, List.append_assoc, ← hfo, hfirst]
          · rw [List.length_append, List.length_append, List.length_map, ← hx, List.length_singleton]
            omega
  case fin =>
    rintro ρ ⟨left, found, s3, s4, s5, s6, s7, rfl, v, hfo, hlen⟩
    simp only [semOf, semP, semF, semT, semM, List.map_cons, List.map_nil, List.cons_append, List.nil_append, List.append_nil, List.replicate_succ, List.replicate_zero, Nat.reduceSub, Nat.reduceAdd, Nat.sub_self, Nat.sub_zero, List.length_cons, List.length_nil, Nat.zero_add, dSeq, dSet, dSetF, dSetH, dSetFH, dRet, dRetN, dIf, dNext, dFor, dExt, dApp, dSub, dFrz, dDrop, dNever, dBrk, dCnt, dAsg, dAsgH, dPar, dcNil, dcD, dcF, storesD, dV, dC, d1, d2, dN, dNF, d2F, dCons, dNil, dTup, dLst, asL, asB, dtAnd, dtOr, dtNot, dYes, dAndV, dOrV, dNotV, dIte, dCh, dLc, dSeqI, dRg1, dRg2, dEnum, dZip, dgN, dgT, dgCons, dgNil, sgN, sgT, sgCons, sgNil, dSlT, dSlL, dSome, dNo, dRev, dIsi, dNP, dNew, dLenS, dIxS, dPotS, dFld, dMe, dMeN, dNCat, dMemo, dRF, dRC, dPot, wipeE, vis, hid, noOw, isOw, List.all_cons, List.all_nil, Bool.not_false, Bool.not_true, Bool.and_true, Bool.true_and, Bool.or_true, Bool.true_or, Bool.false_or, Bool.or_false, List.getElem?_cons_zero, List.getElem?_cons_succ, List.set_cons_zero, List.set_cons_succ, List.length_map, e_le, e_lt, e_ge, e_gt, e_lenT, e_lenL, e_add, e_cat, e_sub, e_mul, e_div, e_mod, e_tupL, e_tupT, e_listL, e_listT, e_fcat, e_isN, e_eqi, e_eqs, fEq, fNe, fIn, fNotIn, decide_true, id_eq, e_all, e_any, e_ixT0, e_ixL0, e_ixT1, e_ixT2, e_max2, e_min2, e_abs, e_int, e_pow, true_and, and_true, forall_const]
    rw [List.length_range, List.drop_of_length_le (by rw [co.len]; exact Nat.le_refl _)] at hfo
    rw [← hfo] at h
    simpa [firstF] using h
end HM

/-! A Grown is made, one of its methods called, and it is forgotten. -/
namespace HM
open PySem L2 TL
open PySem.Spec PyProof.Rows
variable {K : PySem.W.Frag} {X : Cx} {m : Md}
abbrev methN : List Str := ["steps", "rest", "most", "many", "first", "every"]
/-- the object as it stands when a method runs -/
structure GrD (K : PySem.W.Frag) (C : Addr) (G : Gr) (vl vb : V) (L : List (List (List Nat))) (BT : D) : Prop where
  ok : GrOk K G
  hC : G.C = C
  l_own_later : G.fs.lookup ("own_later" : Str) = some vl
  l_own_begin : G.fs.lookup ("own_begin" : Str) = some vb
  l_own_most : G.fs.lookup ("own_most" : Str) = some (.ref G.dm)
  l_own_many : G.fs.lookup ("own_many" : Str) = some (.ref G.dn)
  no : ∀ x : Str, x ∈ methN → G.fs.lookup x = none
  i_own_later : Is K G.B vl (ltD L)
  i_own_begin : Is K G.B vb BT
theorem GrD.na {C : Addr} {G : Gr} {vl vb : V} {L : List (List (List Nat))} {BT : D} (GD : GrD K C G vl vb L BT) {f : Str} (h : NoAttr K C f) : NoAttr K G.C f := by rw [GD.hC]; exact h
theorem GrD.me {C : Addr} {G : Gr} {vl vb : V} {L : List (List (List Nat))} {BT : D} (GD : GrD K C G vl vb L BT) {f : Str} {fa : Addr} (h : Meth K C f fa) : Meth K G.C f fa := by rw [GD.hC]; exact h
def spInit (K : PySem.W.Frag) (C : Addr) : Sp := fun vs H Q _ => ∃ (W : Addr → Prop) (g dx : Addr) (vw vc : V) (E : List P2) (cs : List Int), vs = [.ref g, vw, vc] ∧ W g ∧ Ok md0 W H ∧ H g = some (.ins C dx []) ∧ Is K (era W H) vw (webD cs.length E) ∧ Is K (era W H) vc (isD cs) ∧ GrW E cs ∧
  ∀ (H' : Hp) (vl vb : V) (dm dn : Addr) (fs : List (Str × V)), (∀ b o, H b = some o → b ≠ g → H' b = some o) → H' g = some (.ins C dx fs) → fs.lookup ("own_later" : Str) = some vl → fs.lookup ("own_begin" : Str) = some vb → fs.lookup ("own_most" : Str) = some (.ref dm) → fs.lookup ("own_many" : Str) = some (.ref dn) →
    (∀ x : Str, x ∈ methN → fs.lookup x = none) → dm ≠ dn → H dm = none → H dn = none → H' dm = some (.dT []) → H' dn = some (.dT []) →
    Is K (era (fun b => W b ∨ b = dm ∨ b = dn) H') vl (ltD (chs E cs.length)) → Is K (era (fun b => W b ∨ b = dm ∨ b = dn) H') vb (isD cs) → Q .non H'
/-- a method of some Grown -/
def spMeth (K : PySem.W.Frag) (C : Addr) (f : List P2 → List Int → List D → (D → Prop) → Prop) : Sp := fun vs H Q E => ∃ (G : Gr) (vl vb : V) (Ew : List P2) (cs : List Int), GrW Ew cs ∧ okL cs = true ∧ GrD K C G vl vb (chs Ew cs.length) (isD cs) ∧ (G.S1 = S1F (chs Ew cs.length) ∧ G.S2 = S2F (chs Ew cs.length) ∧ G.Ks = Kss cs) ∧ spM K (mdG G) G.g (f Ew cs) vs H Q E
theorem fn_ex {P : Program} {w : World} {mg : Str → Option Value} {base : Heap} {k : Nat} {f : Addr} {fd : FuncData} {ps : List Str} {C : Addr} {fm : List P2 → List Int → List D → (D → Prop) → Prop}
    (h : ∀ (G : Gr) (vl vb : V) (Ew : List P2) (cs : List Int), GrW Ew cs → okL cs = true → GrD K C G vl vb (chs Ew cs.length) (isD cs) → (G.S1 = S1F (chs Ew cs.length) ∧ G.S2 = S2F (chs Ew cs.length) ∧ G.Ks = Kss cs) → FnOk P w K mg base CX0 k f fd ps (spM K (mdG G) G.g (fm Ew cs))) :
    FnOk P w K mg base CX0 k f fd ps (spMeth K C fm) :=
  ⟨fun vs H Q E ⟨G, vl, vb, Ew, cs, a, b, c, d, e⟩ => (h G vl vb Ew cs a b c d).len vs H Q E e, fun A outer s H args us vs Q E hr he hb hv ⟨G, vl, vb, Ew, cs, a, b, c, d, e⟩ => (h G vl vb Ew cs a b c d).run A outer s H args us vs Q E hr he hb hv e⟩
/-- Grown(web, counts).m(..) -/
def dGrow (f : List P2 → List Int → List D → (D → Prop) → Prop) (da db : TDA) : TD := fun ρ P => da ρ fun l => ∃ E cs, l = [webD cs.length E, isD cs] ∧ GrW E cs ∧ okL cs = true ∧ db ρ fun l2 => f E cs l2 P
theorem grow_to {C : Addr} {mn : Str} {f : List P2 → List Int → List D → (D → Prop) → Prop} {da db : TDA} {EE EE' : XK} (cl : Cls K C) (hmn : mn ∈ methN) {t : TA} (ht : ∀ W σ H Q, tDA K m W db σ H Q → t σ H Q) {W : Addr → Prop} : ∀ σ H Q, tD K m W (dGrow f da db) σ H Q →
    tMeth C mn (spMeth K C f) [] EE (tMake C (spInit K C) [] EE' (tDA K m W da)) t σ H Q := by
  intro σ H Q ⟨ρ, P, o, n, h, k⟩
  refine tDA_at o n h fun vs H1 l e1 o1 n1 i1 ⟨E, cs, el, w, h0, h2⟩ => ?_
  subst el
  match vs, i1 with
  | [vw, vc], .cons iw (.cons ic .nil) =>
  intro x dx hx hdx ne
  have hn : ∀ b o', H1 b = some o' → upd (upd H1 dx (.own x)) x (.ins C dx []) b = some o' := fun b o' e => by
    rw [upd_ne (ne_of_none e hx), upd_ne (ne_of_none e hdx)]
    exact e
  have hW : ∀ b, W b → b ≠ x := fun b wb z => o1.tr b wb (by rw [z]; exact hx)
  have s1 : Same (era W H1) (era (fun b => W b ∨ b = x) (upd (upd H1 dx (.own x)) x (.ins C dx []))) := fun b o' e => by
    obtain ⟨q1, q2⟩ := era_to e
    exact era_of (hn b o' q1) fun z => z.elim q2 (ne_of_none q1 hx)
  refine ⟨fun b => W b ∨ b = x, x, dx, vw, vc, E, cs, by rw [List.append_nil], .inr rfl, ⟨trivial, fun _ z => z.elim, fun b z => ?_, none_same, fun _ _ => rfl⟩, upd_same, iw.up s1, ic.up s1, w, fun H2 vl vb dm dn fs kp hg l1 l2 l3 l4 hno hne fm fn tm tn il ib => ⟨rfl, x, dx, fs, rfl, hg, hno mn hmn, ?_⟩⟩
  · rcases z with z | z
    · cases q : H1 b with
      | none => exact absurd q (o1.tr b z)
      | some u => rw [hn b u q]; simp
    · rw [z, upd_same]
      simp
  · have s2 : ∀ b o', H1 b = some o' → H2 b = some o' := fun b o' e => kp b o' (hn b o' e) (ne_of_none e hx)
    have ev2 : Evo m H1 H2 := .same o1.R s2
    have o2 := o1.evo ev2
    have nx1 : ∀ b, H1 b ≠ none → b ≠ x := fun b hb z => hb (by rw [z]; exact hx)
    have none1 : ∀ b, upd (upd H1 dx (.own x)) x (.ins C dx []) b = none → H1 b = none := fun b hb => by
      cases q : H1 b with
      | none => rfl
      | some u =>
        rw [hn b u q] at hb
        cases hb
    have xm : dm ≠ x := fun z => by rw [z, upd_same] at fm; cases fm
    have xn : dn ≠ x := fun z => by rw [z, upd_same] at fn; cases fn
    have hm1 : H1 dm = none := none1 dm fm
    have hn1 : H1 dn = none := none1 dn fn
    let W2 : Addr → Prop := fun b => W b ∨ b = dm ∨ b = dn
    have nW : ∀ b, H1 b = none → ¬ W b := fun b hb z => o1.tr b z hb
    have oW2 : Ok m W2 H2 := ⟨o2.R, fun a z => .inl (o2.sub a z), fun a z => by
      rcases z with z | z | z
      · exact o2.tr a z
      · rw [z, tm]; simp
      · rw [z, tn]; simp, o2.sB, fun a z => by
      rcases z with z | z | z
      · exact o2.dB a z
      · rw [z]; exact o1.noB hm1
      · rw [z]; exact o1.noB hn1⟩
    have vW2 : Same (era W H1) (era W2 H2) := fun b o' e => by
      obtain ⟨q1, q2⟩ := era_to e
      refine era_of (s2 b o' q1) fun z => ?_
      rcases z with z | z | z
      · exact q2 z
      · exact ne_of_none q1 hm1 z
      · exact ne_of_none q1 hn1 z
    refine ht W2 _ _ _ (tDA_at oW2 (n1.mono vW2) h2 fun us H3 ds e3 o3 n3 i3 h3 => ?_)
    have nM : ∀ b, H1 b = none → ¬ m.M b := fun b hb z => nW b hb (o1.sub b z)
    have hg3 : H3 x = some (.ins C dx fs) := e3.1 x _ hg (nM x hx)
    have tm3 : H3 dm = some (.dT []) := e3.1 dm _ tm (nM dm hm1)
    have tn3 : H3 dn = some (.dT []) := e3.1 dn _ tn (nM dn hn1)
    have vB : Same (era (fun b => (W b ∨ b = x) ∨ b = dm ∨ b = dn) H2) (era W2 H3) := fun b o' e => by
      obtain ⟨q1, q2⟩ := era_to e
      refine era_of (e3.1 b o' q1 fun z => q2 (.inl (.inl (o1.sub b z)))) fun z => ?_
      rcases z with z | z
      · exact q2 (.inl (.inl z))
      · exact q2 (.inr z)
    let G : Gr := ⟨C, x, dx, fs, dm, dn, era W2 H3, S1F (chs E cs.length), S2F (chs E cs.length), Kss cs⟩
    have nxW2 : ¬ W2 x := fun z => by
      rcases z with z | z | z
      · exact nW x hx z
      · exact xm z.symm
      · exact xn z.symm
    refine ⟨G, vl, vb, E, cs, w, h0, ⟨⟨era_of hg3 nxW2, cl, hne, Kss_few cs w.few⟩, rfl, l1, l2, l3, l4, hno, il.up vB, ib.up vB⟩, ⟨rfl, rfl, rfl⟩, W2, us, ds, P, by rw [List.append_nil], ⟨⟨⟨[], tm3, List.nodup_nil, fun e he => absurd he List.not_mem_nil⟩, ⟨[], tn3, List.nodup_nil, fun e he => absurd he List.not_mem_nil⟩⟩, fun a z => .inr z, o3.tr, era_sub, fun a z => ?_⟩, i3, h3, fun v H4 y e4 i4 q => ?_⟩
    · show era W2 H3 a = none
      unfold era
      rw [if_pos z]
    · have sub4 : ∀ b o', H3 b = some o' → b ≠ dm → b ≠ dn → H4 b = some o' := fun b o' e n1 n2 => e4.1 b o' e fun z => z.elim n1 n2
      refine k v H4 y ⟨fun b o' e nb => ?_, ?_⟩ (i4.up (era_mono (fun _ _ y _ => y) fun _ z => .inl z)) q
      · have q1 := e1.1 b o' e nb
        exact sub4 b o' (e3.1 b o' (s2 b o' q1) nb) (ne_of_none q1 hm1) (ne_of_none q1 hn1)
      · refine m.st H3 H4 e3.2 fun b o' e q => ?_
        refine sub4 b o' e (fun z => ?_) fun z => ?_
        · rcases q with q | q
          · rw [z] at q; exact nM dm hm1 q
          · rw [z] at q; exact q (o1.noB hm1)
        · rcases q with q | q
          · rw [z] at q; exact nM dn hn1 q
          · rw [z] at q; exact q (o1.noB hn1)
section
variable {C fI fm : Addr} {k j : Nat} {fdI fdM : FuncData} {psI psM : List Str} {x mn : Str} {p p1 pos apos : Pos} {e e' : Expr} {es es' : List Expr} {da db : TDA} {f : List P2 → List Int → List D → (D → Prop) → Prop} {pl : Sem Bool}
/-- with arguments -/
theorem b_growN (cl : Cls X.K C) (M : Mk X.K C fI) (FI : FnOk X.prog X.w X.K X.mg X.base CX0 j fI fdI psI (spInit X.K C)) (hj : Room (j + 1) X.A) (hg : Gl X x) (hm : X.mg x = some (.ref C)) (hbI : Binds X.K fdI psI [])
    (hM : Meth X.K C mn fm) (FM : FnOk X.prog X.w X.K X.mg X.base CX0 k fm fdM psM (spMeth X.K C f)) (hr : Room k X.A) (hbM : Binds X.K fdM psM []) (ha : BA X m (e :: es) da) (hb : BA X m (e' :: es') db) (hmn : mn ∈ methN := by decide) (hdb : (x == ("__debug__" : Str)) = false := by decide)
    (he : starEach (e :: es) X.env = (false, eval e X.env) :: starEach es X.env := by rfl) (hpl : (backTo p1 (starEach es X.env)).any (·.1) = false := by rfl)
    (hst : starEach (e' :: es') X.env = (false, eval e' X.env) :: starEach es' X.env := by rfl) (hpl2 : (backTo pos (starEach es' X.env)).any (·.1) = false := by rfl)
    (ht : eval (.Call (.Attribute (.Call (.Name x p) (e :: es) [] p1) mn apos) (e' :: es') [] pos) X.env = (do
      let ov ← eval (.Call (.Name x p) (e :: es) [] p1) X.env
      standAt apos.atName
      let (f, first) ← holding [ov] (getMethod ov mn pl)
      callWith pos f first (backTo pos (starEach (e' :: es') X.env)) (backToKw pos (keywordEach [] X.env))) := by rfl) :
    BE X m (.Call (.Attribute (.Call (.Name x p) (e :: es) [] p1) mn apos) (e' :: es') [] pos) (dGrow f da db) := fun W =>
  pew (pe_meth (pe_make M FI hj hg hm hbI .nil (pass0 (X := X)) (ha W) hdb he hpl) cl hM FM hr hbM .nil (pass0 (X := X)) (pa_ex (T := fun W => tDA X.K m W db) hb) hst hpl2 ht) (grow_to cl hmn fun W _ _ _ q => ⟨W, q⟩)
/-- without arguments -/
theorem b_grow0 (cl : Cls X.K C) (M : Mk X.K C fI) (FI : FnOk X.prog X.w X.K X.mg X.base CX0 j fI fdI psI (spInit X.K C)) (hj : Room (j + 1) X.A) (hg : Gl X x) (hm : X.mg x = some (.ref C)) (hbI : Binds X.K fdI psI [])
    (hM : Meth X.K C mn fm) (FM : FnOk X.prog X.w X.K X.mg X.base CX0 k fm fdM psM (spMeth X.K C f)) (hr : Room k X.A) (hbM : Binds X.K fdM psM []) (ha : BA X m (e :: es) da) (hmn : mn ∈ methN := by decide) (hdb : (x == ("__debug__" : Str)) = false := by decide)
    (he : starEach (e :: es) X.env = (false, eval e X.env) :: starEach es X.env := by rfl) (hpl : (backTo p1 (starEach es X.env)).any (·.1) = false := by rfl)
    (ht : eval (.Call (.Attribute (.Call (.Name x p) (e :: es) [] p1) mn apos) [] [] pos) X.env = (do
      let ov ← eval (.Call (.Name x p) (e :: es) [] p1) X.env
      standAt apos.atName
      let (f, first) ← holding [ov] (getMethod ov mn pl)
      callWith pos f first (backTo pos (starEach [] X.env)) (backToKw pos (keywordEach [] X.env))) := by rfl) :
    BE X m (.Call (.Attribute (.Call (.Name x p) (e :: es) [] p1) mn apos) [] [] pos) (dGrow f da dNil) := fun W =>
  pew (pe_meth0 (pe_make M FI hj hg hm hbI .nil (pass0 (X := X)) (ha W) hdb he hpl) cl hM FM hr hbM .nil (pass0 (X := X)) ht) (grow_to (db := dNil) cl hmn fun W σ H Q ⟨ρ, P, o, n, h, k⟩ => k [] H [] (.refl o.R) .nil h)
end
end HM

/-! The fields of a Grown, as its __init__ stores them. -/
namespace HM
open PySem L2 TL
variable {K : PySem.W.Frag}
theorem bf_at {X : Cx} {m : Md} {e : Expr} {d : TDA} (W : Addr → Prop) (h : BF X m e d) : PE X e (tF X.K m W d) := h W
theorem be_at {X : Cx} {m : Md} {e : Expr} {d : TD} (W : Addr → Prop) (h : BE X m e d) : PE X e (tD X.K m W d) := h W
abbrev nL : Str := "own_later"
abbrev nB : Str := "own_begin"
abbrev nM : Str := "own_most"
abbrev nN : Str := "own_many"
def gfs (vl vb : V) (dm dn : Addr) : List (Str × V) := putF nN (.ref dn) (putF nM (.ref dm) (putF nB vb (putF nL vl [])))
theorem gfs_L {vl vb : V} {dm dn : Addr} : (gfs vl vb dm dn).lookup nL = some vl := by
  unfold gfs
  rw [lookup_putF, if_neg (by decide +kernel), lookup_putF, if_neg (by decide +kernel), lookup_putF, if_neg (by decide +kernel), lookup_putF, if_pos rfl]
theorem gfs_B {vl vb : V} {dm dn : Addr} : (gfs vl vb dm dn).lookup nB = some vb := by
  unfold gfs
  rw [lookup_putF, if_neg (by decide +kernel), lookup_putF, if_neg (by decide +kernel), lookup_putF, if_pos rfl]
theorem gfs_M {vl vb : V} {dm dn : Addr} : (gfs vl vb dm dn).lookup nM = some (.ref dm) := by
  unfold gfs
  rw [lookup_putF, if_neg (by decide +kernel), lookup_putF, if_pos rfl]
theorem gfs_N {vl vb : V} {dm dn : Addr} : (gfs vl vb dm dn).lookup nN = some (.ref dn) := by
  unfold gfs
  rw [lookup_putF, if_pos rfl]
theorem gfs_no {vl vb : V} {dm dn : Addr} (x : Str) (h : x ∈ methN) : (gfs vl vb dm dn).lookup x = none := by
  have a : ∀ y : Str, y ∈ methN → y ≠ nL ∧ y ≠ nB ∧ y ≠ nM ∧ y ≠ nN := by decide +kernel
  obtain ⟨h1, h2, h3, h4⟩ := a x h
  unfold gfs
  rw [lookup_putF, if_neg h4, lookup_putF, if_neg h3, lookup_putF, if_neg h2, lookup_putF, if_neg h1]
  rfl
/-- the heap through __init__ -/
theorem init_end {Z : Prop} {W : Addr → Prop} {C g dx : Addr} {H H1 H2 : Hp} {p dm dn : Addr} {xs : List V} {vb : V} {L : List (List (List Nat))} {cs : List Int} {fs1 fs2 fs3 fs4 : List (Str × V)}
    (hWg : W g) (hg : H g = some (.ins C dx [])) (e1 : Evo md0 H H1) (hp : H p = none) (hx : H1 p = some (.lst xs)) (i1 : IsAll K (era (fun b => W b ∨ b = p) H1) xs (L.map fun cs => .list (cs.map nT)))
    (e2 : Evo md0 (upd H1 g (.ins C dx fs1)) H2) (i2 : Is K (era W H2) vb (isD cs)) (hdm : upd H2 g (.ins C dx fs2) dm = none) (hdn : upd (upd (upd H2 g (.ins C dx fs2)) dm (.dT [])) g (.ins C dx fs3) dn = none) (hW : ∀ b, W b → H b ≠ none)
    (k : ∀ (H' : Hp), (∀ b o, H b = some o → b ≠ g → H' b = some o) → H' g = some (.ins C dx fs4) → dm ≠ dn → H dm = none → H dn = none → H' dm = some (.dT []) → H' dn = some (.dT []) → Is K (era (fun b => W b ∨ b = dm ∨ b = dn) H') (.ref p) (ltD L) → Is K (era (fun b => W b ∨ b = dm ∨ b = dn) H') vb (isD cs) → H' = upd (upd (upd (upd (upd H2 g (.ins C dx fs2)) dm (.dT [])) g (.ins C dx fs3)) dn (.dT [])) g (.ins C dx fs4) → Z) : Z := by
  have mg : dm ≠ g := fun z => by rw [z, upd_same] at hdm; cases hdm
  have ng : dn ≠ g := fun z => by rw [z, upd_same] at hdn; cases hdn
  have mn : dm ≠ dn := fun z => by rw [← z, upd_ne mg, upd_same] at hdn; cases hdn
  have hdm2 : H2 dm = none := by rw [upd_ne mg] at hdm; exact hdm
  have hdn2 : H2 dn = none := by rw [upd_ne ng, upd_ne mn.symm, upd_ne ng] at hdn; exact hdn
  have k1 : ∀ b o, H b = some o → H1 b = some o := fun b o e => e1.1 b o e fun z => z
  have k2 : ∀ b o, H1 b = some o → b ≠ g → H2 b = some o := fun b o e nb => e2.1 b o (by rw [upd_ne nb]; exact e) fun z => z
  have top : ∀ b o, H2 b = some o → b ≠ g → upd (upd (upd (upd (upd H2 g (.ins C dx fs2)) dm (.dT [])) g (.ins C dx fs3)) dn (.dT [])) g (.ins C dx fs4) b = some o := fun b o e nb => by
    rw [upd_ne nb, upd_ne (ne_of_none e hdn2), upd_ne nb, upd_ne (ne_of_none e hdm2), upd_ne nb]
    exact e
  have low : ∀ b, H2 b = none → b ≠ g → H b = none := fun b hb nb => by
    cases q : H b with
    | none => rfl
    | some o =>
      rw [k2 b o (k1 b o q) nb] at hb
      cases hb
  have npg : p ≠ g := fun z => by rw [z, hg] at hp; cases hp
  refine k _ (fun b o e nb => top b o (k2 b o (k1 b o e) nb) nb) upd_same mn (low dm hdm2 mg) (low dn hdn2 ng) (by rw [upd_ne mg, upd_ne mn, upd_ne mg, upd_same]) (by rw [upd_ne ng, upd_same]) ?_ ?_ rfl
  · refine .lst (era_of (top p _ (k2 p _ hx npg) npg) fun z => ?_) (i1.up fun b o q => ?_)
    · rcases z with z | z | z
      · exact hW p z hp
      · rw [z] at hx
        rw [k2 dm _ hx mg] at hdm2
        cases hdm2
      · rw [z] at hx
        rw [k2 dn _ hx ng] at hdn2
        cases hdn2
    · obtain ⟨q1, q2⟩ := era_to q
      have nb : b ≠ g := fun z => q2 (.inl (by rw [z]; exact hWg))
      have q3 := k2 b o q1 nb
      refine era_of (top b o q3 nb) fun z => ?_
      rcases z with z | z | z
      · exact q2 (.inl z)
      · exact ne_of_none q3 hdm2 z
      · exact ne_of_none q3 hdn2 z
  · refine i2.up fun b o q => ?_
    obtain ⟨q1, q2⟩ := era_to q
    have nb : b ≠ g := fun z => q2 (by rw [z]; exact hWg)
    refine era_of (top b o q1 nb) fun z => ?_
    rcases z with z | z | z
    · exact q2 z
    · exact ne_of_none q1 hdm2 z
    · exact ne_of_none q1 hdn2 z
theorem GrW.len {E : List P2} {cs : List Int} (w : GrW E cs) : E.length ≤ 100 := by
  have := nodup_few (rising_nodup w.up) (s := allP cs.length) fun x hx => mem_allP.mpr (w.ok x hx)
  have h2 := allP_len cs.length
  have h3 : cs.length * cs.length ≤ 10 * 10 := Nat.mul_le_mul w.few w.few
  omega
/-- what __init__ stores first -/
def d_init_later : TDA := dLc (dSeqI (dN g_later_of (dCons (dV 1) dNil))) (dgN 3) dYes (dN g_choices_of (dCons (dV 3) dNil)) [3]
theorem init_later {E : List P2} {cs : List Int} (w : GrW E cs) (g : Addr) : d_init_later [.hd g, .d (webD cs.length E), .d (isD cs), .no] (fun l => l = (chs E cs.length).map fun cs => .list (cs.map nT)) := by
  have hf := w.few
  have hl := w.len
  refine ⟨cs.length, E, rfl, by omega, by omega, ?_⟩
  refine ⟨by rw [List.length_map]; unfold lts; rw [List.length_map, List.length_range]; omega, lc_map (lts E cs.length) (h := fun c => .list ((subs c).map nT)) (fun c hc R hR => ?_) ?_⟩
  · refine ⟨c, rfl, ?_, hR⟩
    unfold lts at hc
    obtain ⟨p, hp, rfl⟩ := List.mem_map.mp hc
    obtain ⟨h1, h2⟩ := later_ok w.up w.ok p
    exact Nat.le_trans (len_below h1 fun x hx => (h2 x hx).2) hf
  · unfold chs
    rw [List.map_map]
    rfl
end HM

/-! What the program's defs tell: told pairs. -/
namespace HM
open PySem L2 TL
theorem e_inP {p : P2} {s : List P2} {g : Bool → Bool} {P : D → Prop} : fInG g (pD p) (psD s) P = P (.bool (g (decide (p ∈ s)))) := by
  refine (e_in (α := P2) (z := p) (s := s) (g := g) (P := P)).trans ?_
  congr
theorem e_inL {p : P2} {s : List P2} {g : Bool → Bool} {P : D → Prop} : fInG g (pD p) (.list (s.map pD)) P = P (.bool (g (decide (p ∈ s)))) := by
  show fInG g (PySem.W.Datum.toD p) (.list (s.map PySem.W.Datum.toD)) P = _
  unfold fInG
  simp only
  rw [any_of, okD_of p, show okD (.list (s.map PySem.W.Datum.toD)) = true from okD_of s]
  simp only [and_self, true_and]
  congr
/-- factor_of(web, counts): names 0 web 1 counts 2 found -/
def d_factor_of : DS := (dSeq (dSet 2 (dGrow g_Grown_first (dCons (dV 0) (dCons (dV 1) dNil)) dNil))
  (dRet (dIte (asB (d2 fEq (d2 fMul (dC (.int 2)) (dN fLen (dCons (dV 2) dNil))) (dN fSum (dCons (dV 1) dNil)))) (dV 2) (dC .none))))
def g_factor_of : List D → (D → Prop) → Prop := fun ds P => ∃ (E : List P2) (cs : List Int), ds = [webD cs.length E, isD cs] ∧ GrW E cs ∧ okL cs = true ∧ P (match factF cs.length E cs with | none => .none | some f => psD f)
theorem ok_factor_of : ∀ ds P, g_factor_of ds P → semOf 3 2 d_factor_of ds P := by
  rintro ds P ⟨E, cs, rfl, w, h0, h⟩
  refine ⟨rfl, ?_⟩
  simp only [semOf, semP, semF, semT, semM, List.map_cons, List.map_nil, List.cons_append, List.nil_append, List.append_nil, List.replicate_succ, List.replicate_zero, Nat.reduceSub, Nat.reduceAdd, Nat.sub_self, Nat.sub_zero, List.length_cons, List.length_nil, Nat.zero_add, dSeq, dSet, dSetF, dSetH, dSetFH, dRet, dRetN, dIf, dNext, dFor, dExt, dApp, dSub, dFrz, dDrop, dNever, dBrk, dCnt, dAsg, dAsgH, dPar, dcNil, dcD, dcF, storesD, dV, dC, d1, d2, dN, dNF, d2F, dCons, dNil, dTup, dLst, asL, asB, dtAnd, dtOr, dtNot, dYes, dAndV, dOrV, dNotV, dIte, dCh, dLc, dSeqI, dRg1, dRg2, dEnum, dZip, dgN, dgT, dgCons, dgNil, sgN, sgT, sgCons, sgNil, dSlT, dSlL, dSome, dNo, dRev, dIsi, dNP, dNew, dFld, dMe, dMeN, dNCat, dMemo, dRF, dRC, dPot, wipeE, vis, hid, noOw, isOw, List.all_cons, List.all_nil, Bool.not_false, Bool.not_true, Bool.and_true, Bool.true_and, Bool.or_true, Bool.true_or, Bool.false_or, Bool.or_false, List.getElem?_cons_zero, List.getElem?_cons_succ, List.set_cons_zero, List.set_cons_succ, List.length_map, e_le, e_lt, e_ge, e_gt, e_lenT, e_lenL, e_add, e_cat, e_sub, e_mul, e_div, e_mod, e_tupL, e_tupT, e_listL, e_listT, e_fcat, e_isN, e_eqi, e_eqs, fEq, fNe, fIn, fNotIn, decide_true, id_eq, e_all, e_any, e_ixT0, e_ixL0, e_ixT1, e_ixT2, e_max2, e_min2, e_abs, e_int, e_pow, true_and, and_true, forall_const, d_factor_of]
  refine ⟨E, cs, rfl, w, h0, rfl, ?_⟩
  simp only [semOf, semP, semF, semT, semM, List.map_cons, List.map_nil, List.cons_append, List.nil_append, List.append_nil, List.replicate_succ, List.replicate_zero, Nat.reduceSub, Nat.reduceAdd, Nat.sub_self, Nat.sub_zero, List.length_cons, List.length_nil, Nat.zero_add, dSeq, dSet, dSetF, dSetH, dSetFH, dRet, dRetN, dIf, dNext, dFor, dExt, dApp, dSub, dFrz, dDrop, dNever, dBrk, dCnt, dAsg, dAsgH, dPar, dcNil, dcD, dcF, storesD, dV, dC, d1, d2, dN, dNF, d2F, dCons, dNil, dTup, dLst, asL, asB, dtAnd, dtOr, dtNot, dYes, dAndV, dOrV, dNotV, dIte, dCh, dLc, dSeqI, dRg1, dRg2, dEnum, dZip, dgN, dgT, dgCons, dgNil, sgN, sgT, sgCons, sgNil, dSlT, dSlL, dSome, dNo, dRev, dIsi, dNP, dNew, dFld, dMe, dMeN, dNCat, dMemo, dRF, dRC, dPot, wipeE, vis, hid, noOw, isOw, List.all_cons, List.all_nil, Bool.not_false, Bool.not_true, Bool.and_true, Bool.true_and, Bool.or_true, Bool.true_or, Bool.false_or, Bool.or_false, List.getElem?_cons_zero, List.getElem?_cons_succ, List.set_cons_zero, List.set_cons_succ, List.length_map, e_le, e_lt, e_ge, e_gt, e_lenT, e_lenL, e_add, e_cat, e_sub, e_mul, e_div, e_mod, e_tupL, e_tupT, e_listL, e_listT, e_fcat, e_isN, e_eqi, e_eqs, fEq, fNe, fIn, fNotIn, decide_true, id_eq, e_all, e_any, e_ixT0, e_ixL0, e_ixT1, e_ixT2, e_max2, e_min2, e_abs, e_int, e_pow, true_and, and_true, forall_const, e_sumT]
  refine ⟨.inl ⟨by decide, by decide⟩, ?_⟩
  unfold factF at h
  by_cases k : (2 : Int) * (firstF (chs E cs.length) 0 cs).length = cs.sum
  · rw [if_pos k] at h
    rw [decide_eq_true k]
    exact h
  · rw [if_neg k] at h
    rw [decide_eq_false k]
    exact h
/-- many_of(web, counts): names 0 web 1 counts -/
def d_many_of : DS := (dRet (dGrow (fun E cs => g_Grown_many E cs 11) (dCons (dV 0) (dCons (dV 1) dNil)) (dCons (dC (.int 0)) (dCons (dN fTuple (dCons (dV 1) dNil)) dNil))))
def g_many_of : List D → (D → Prop) → Prop := fun ds P => ∃ (E : List P2) (cs : List Int), ds = [webD cs.length E, isD cs] ∧ GrW E cs ∧ okL cs = true ∧ P (nD (cnt cs.length E (lf cs)))
theorem ok_many_of : ∀ ds P, g_many_of ds P → semOf 2 2 d_many_of ds P := by
  rintro ds P ⟨E, cs, rfl, w, h0, h⟩
  refine ⟨rfl, ?_⟩
  simp only [semOf, semP, semF, semT, semM, List.map_cons, List.map_nil, List.cons_append, List.nil_append, List.append_nil, List.replicate_succ, List.replicate_zero, Nat.reduceSub, Nat.reduceAdd, Nat.sub_self, Nat.sub_zero, List.length_cons, List.length_nil, Nat.zero_add, dSeq, dSet, dSetF, dSetH, dSetFH, dRet, dRetN, dIf, dNext, dFor, dExt, dApp, dSub, dFrz, dDrop, dNever, dBrk, dCnt, dAsg, dAsgH, dPar, dcNil, dcD, dcF, storesD, dV, dC, d1, d2, dN, dNF, d2F, dCons, dNil, dTup, dLst, asL, asB, dtAnd, dtOr, dtNot, dYes, dAndV, dOrV, dNotV, dIte, dCh, dLc, dSeqI, dRg1, dRg2, dEnum, dZip, dgN, dgT, dgCons, dgNil, sgN, sgT, sgCons, sgNil, dSlT, dSlL, dSome, dNo, dRev, dIsi, dNP, dNew, dFld, dMe, dMeN, dNCat, dMemo, dRF, dRC, dPot, wipeE, vis, hid, noOw, isOw, List.all_cons, List.all_nil, Bool.not_false, Bool.not_true, Bool.and_true, Bool.true_and, Bool.or_true, Bool.true_or, Bool.false_or, Bool.or_false, List.getElem?_cons_zero, List.getElem?_cons_succ, List.set_cons_zero, List.set_cons_succ, List.length_map, e_le, e_lt, e_ge, e_gt, e_lenT, e_lenL, e_add, e_cat, e_sub, e_mul, e_div, e_mod, e_tupL, e_tupT, e_listL, e_listT, e_fcat, e_isN, e_eqi, e_eqs, fEq, fNe, fIn, fNotIn, decide_true, id_eq, e_all, e_any, e_ixT0, e_ixL0, e_ixT1, e_ixT2, e_max2, e_min2, e_abs, e_int, e_pow, true_and, and_true, forall_const, d_many_of]
  have hf := w.few
  refine ⟨E, cs, rfl, w, h0, 0, cs, rfl, by omega, by omega, ⟨rfl, fun q hq => (okL_iff cs).mp h0 q hq, fun q _ _ => ⟨by simp, Int.le_refl _⟩⟩, ?_⟩
  rw [List.drop_zero, many_all w.up w.ok rfl h0]
  exact h
/-! ### what is told -/
structure Told (cs : List Int) (met apart : List P2) : Prop where
  c : okC cs
  m : okPs cs.length met
  a : okPs cs.length apart
  d : ∀ p, p ∈ apart → p ∉ met
/-- want_told(counts, met, apart): names 0 counts 1 met 2 apart 3 pair -/
def d_want_told : DS := (dSeq (dDrop (dN g_want_list (dCons (dV 0) dNil)))
  (dSeq (dIf (dtNot (asB (dN g_are_pairs_of (dCons (dN fLen (dCons (dV 0) dNil)) (dCons (dV 1) dNil))))) dNever dNext)
  (dIf (dtOr (dtNot (asB (dN g_are_pairs_of (dCons (dN fLen (dCons (dV 0) dNil)) (dCons (dV 2) dNil))))) (asB (dN fAny (dCons (asL (dLc (dSeqI (dV 2)) (dgN 3) dYes (d2 fIn (dV 3) (dV 1)) [3])) dNil)))) dNever dNext)))
def g_want_told : List D → (D → Prop) → Prop := fun ds P => ∃ cs met apart, ds = [isD cs, psD met, psD apart] ∧ Told cs met apart ∧ P .none
theorem ok_want_told : ∀ ds P, g_want_told ds P → semOf 4 3 d_want_told ds P := by
  rintro ds P ⟨cs, met, apart, rfl, t, h⟩
  refine ⟨rfl, ?_⟩
  simp only [semOf, semP, semF, semT, semM, List.map_cons, List.map_nil, List.cons_append, List.nil_append, List.append_nil, List.replicate_succ, List.replicate_zero, Nat.reduceSub, Nat.reduceAdd, Nat.sub_self, Nat.sub_zero, List.length_cons, List.length_nil, Nat.zero_add, dSeq, dSet, dSetF, dSetH, dSetFH, dRet, dRetN, dIf, dNext, dFor, dExt, dApp, dSub, dFrz, dDrop, dNever, dBrk, dCnt, dAsg, dAsgH, dPar, dcNil, dcD, dcF, storesD, dV, dC, d1, d2, dN, dNF, d2F, dCons, dNil, dTup, dLst, asL, asB, dtAnd, dtOr, dtNot, dYes, dAndV, dOrV, dNotV, dIte, dCh, dLc, dSeqI, dRg1, dRg2, dEnum, dZip, dgN, dgT, dgCons, dgNil, sgN, sgT, sgCons, sgNil, dSlT, dSlL, dSome, dNo, dRev, dIsi, dNP, dNew, dFld, dMe, dMeN, dNCat, dMemo, dRF, dRC, dPot, wipeE, vis, hid, noOw, isOw, List.all_cons, List.all_nil, Bool.not_false, Bool.not_true, Bool.and_true, Bool.true_and, Bool.or_true, Bool.true_or, Bool.false_or, Bool.or_false, List.getElem?_cons_zero, List.getElem?_cons_succ, List.set_cons_zero, List.set_cons_succ, List.length_map, e_le, e_lt, e_ge, e_gt, e_lenT, e_lenL, e_add, e_cat, e_sub, e_mul, e_div, e_mod, e_tupL, e_tupT, e_listL, e_listT, e_fcat, e_isN, e_eqi, e_eqs, fEq, fNe, fIn, fNotIn, decide_true, id_eq, e_all, e_any, e_ixT0, e_ixL0, e_ixT1, e_ixT2, e_max2, e_min2, e_abs, e_int, e_pow, true_and, and_true, forall_const, d_want_told]
  refine ⟨cs, rfl, t.c, cs.length, met, rfl, t.m, cs.length, apart, rfl, t.a, ?_⟩
  have := t.a.2.2
  refine ⟨by omega, lc_map apart (h := fun _ => .bool false) (fun p hp R hR => ?_) ?_⟩
  · simp only [semOf, semP, semF, semT, semM, List.map_cons, List.map_nil, List.cons_append, List.nil_append, List.append_nil, List.replicate_succ, List.replicate_zero, Nat.reduceSub, Nat.reduceAdd, Nat.sub_self, Nat.sub_zero, List.length_cons, List.length_nil, Nat.zero_add, dSeq, dSet, dSetF, dSetH, dSetFH, dRet, dRetN, dIf, dNext, dFor, dExt, dApp, dSub, dFrz, dDrop, dNever, dBrk, dCnt, dAsg, dAsgH, dPar, dcNil, dcD, dcF, storesD, dV, dC, d1, d2, dN, dNF, d2F, dCons, dNil, dTup, dLst, asL, asB, dtAnd, dtOr, dtNot, dYes, dAndV, dOrV, dNotV, dIte, dCh, dLc, dSeqI, dRg1, dRg2, dEnum, dZip, dgN, dgT, dgCons, dgNil, sgN, sgT, sgCons, sgNil, dSlT, dSlL, dSome, dNo, dRev, dIsi, dNP, dNew, dFld, dMe, dMeN, dNCat, dMemo, dRF, dRC, dPot, wipeE, vis, hid, noOw, isOw, List.all_cons, List.all_nil, Bool.not_false, Bool.not_true, Bool.and_true, Bool.true_and, Bool.or_true, Bool.true_or, Bool.false_or, Bool.or_false, List.getElem?_cons_zero, List.getElem?_cons_succ, List.set_cons_zero, List.set_cons_succ, List.length_map, e_le, e_lt, e_ge, e_gt, e_lenT, e_lenL, e_add, e_cat, e_sub, e_mul, e_div, e_mod, e_tupL, e_tupT, e_listL, e_listT, e_fcat, e_isN, e_eqi, e_eqs, fEq, fNe, fIn, fNotIn, decide_true, id_eq, e_all, e_any, e_ixT0, e_ixL0, e_ixT1, e_ixT2, e_max2, e_min2, e_abs, e_int, e_pow, true_and, and_true, forall_const, lcTurn, e_inP]
    rw [decide_eq_false (t.d p hp)]
    exact hR
  · rw [e_anyq (q := fun _ => false), show (apart.any fun _ => false) = false from List.any_eq_false.mpr fun _ _ => by simp]
    exact h
/-- want_few(counts): names 0 counts -/
def d_want_few : DS := (dIf (asB (d2 fGt (dN fLen (dCons (dV 0) dNil)) (dC (.int 8)))) dNever dNext)
def g_want_few : List D → (D → Prop) → Prop := fun ds P => ∃ cs, ds = [isD cs] ∧ cs.length ≤ 8 ∧ P .none
theorem ok_want_few : ∀ ds P, g_want_few ds P → semOf 1 1 d_want_few ds P := by
  rintro ds P ⟨cs, rfl, hl, h⟩
  refine ⟨rfl, ?_⟩
  simp only [semOf, semP, semF, semT, semM, List.map_cons, List.map_nil, List.cons_append, List.nil_append, List.append_nil, List.replicate_succ, List.replicate_zero, Nat.reduceSub, Nat.reduceAdd, Nat.sub_self, Nat.sub_zero, List.length_cons, List.length_nil, Nat.zero_add, dSeq, dSet, dSetF, dSetH, dSetFH, dRet, dRetN, dIf, dNext, dFor, dExt, dApp, dSub, dFrz, dDrop, dNever, dBrk, dCnt, dAsg, dAsgH, dPar, dcNil, dcD, dcF, storesD, dV, dC, d1, d2, dN, dNF, d2F, dCons, dNil, dTup, dLst, asL, asB, dtAnd, dtOr, dtNot, dYes, dAndV, dOrV, dNotV, dIte, dCh, dLc, dSeqI, dRg1, dRg2, dEnum, dZip, dgN, dgT, dgCons, dgNil, sgN, sgT, sgCons, sgNil, dSlT, dSlL, dSome, dNo, dRev, dIsi, dNP, dNew, dFld, dMe, dMeN, dNCat, dMemo, dRF, dRC, dPot, wipeE, vis, hid, noOw, isOw, List.all_cons, List.all_nil, Bool.not_false, Bool.not_true, Bool.and_true, Bool.true_and, Bool.or_true, Bool.true_or, Bool.false_or, Bool.or_false, List.getElem?_cons_zero, List.getElem?_cons_succ, List.set_cons_zero, List.set_cons_succ, List.length_map, e_le, e_lt, e_ge, e_gt, e_lenT, e_lenL, e_add, e_cat, e_sub, e_mul, e_div, e_mod, e_tupL, e_tupT, e_listL, e_listT, e_fcat, e_isN, e_eqi, e_eqs, fEq, fNe, fIn, fNotIn, decide_true, id_eq, e_all, e_any, e_ixT0, e_ixL0, e_ixT1, e_ixT2, e_max2, e_min2, e_abs, e_int, e_pow, true_and, and_true, forall_const, d_want_few]
  rw [decide_eq_false (by omega)]
  exact h
def looseP (n : Nat) (met apart : List P2) : List P2 := (allP n).filter fun p => !decide (p ∈ met) && !decide (p ∈ apart)
/-- loose_of(counts, met, apart): names 0 counts 1 met 2 apart 3 some 4 pair -/
def d_loose_of : DS := (dSeq (dSetF 3 (dLc (dSeqI (dN g_all_pairs (dCons (dN fLen (dCons (dV 0) dNil)) dNil))) (dgN 4) (dtAnd (asB (d2 fNotIn (dV 4) (dV 1))) (asB (d2 fNotIn (dV 4) (dV 2)))) (dV 4) [4]))
  (dRet (dTup (dCons (dC (.str "web")) (dCons (dN fLen (dCons (dV 0) dNil)) (dCons (dN fTuple (dCons (dV 3) dNil)) dNil))))))
def g_loose_of : List D → (D → Prop) → Prop := fun ds P => ∃ (cs : List Int) (met apart : List P2), ds = [isD cs, psD met, psD apart] ∧ cs.length ≤ 100 ∧ P (webD cs.length (looseP cs.length met apart))
theorem ok_loose_of : ∀ ds P, g_loose_of ds P → semOf 5 3 d_loose_of ds P := by
  rintro ds P ⟨cs, met, apart, rfl, hl, h⟩
  refine ⟨rfl, ?_⟩
  simp only [semOf, semP, semF, semT, semM, List.map_cons, List.map_nil, List.cons_append, List.nil_append, List.append_nil, List.replicate_succ, List.replicate_zero, Nat.reduceSub, Nat.reduceAdd, Nat.sub_self, Nat.sub_zero, List.length_cons, List.length_nil, Nat.zero_add, dSeq, dSet, dSetF, dSetH, dSetFH, dRet, dRetN, dIf, dNext, dFor, dExt, dApp, dSub, dFrz, dDrop, dNever, dBrk, dCnt, dAsg, dAsgH, dPar, dcNil, dcD, dcF, storesD, dV, dC, d1, d2, dN, dNF, d2F, dCons, dNil, dTup, dLst, asL, asB, dtAnd, dtOr, dtNot, dYes, dAndV, dOrV, dNotV, dIte, dCh, dLc, dSeqI, dRg1, dRg2, dEnum, dZip, dgN, dgT, dgCons, dgNil, sgN, sgT, sgCons, sgNil, dSlT, dSlL, dSome, dNo, dRev, dIsi, dNP, dNew, dFld, dMe, dMeN, dNCat, dMemo, dRF, dRC, dPot, wipeE, vis, hid, noOw, isOw, List.all_cons, List.all_nil, Bool.not_false, Bool.not_true, Bool.and_true, Bool.true_and, Bool.or_true, Bool.true_or, Bool.false_or, Bool.or_false, List.getElem?_cons_zero, List.getElem?_cons_succ, List.set_cons_zero, List.set_cons_succ, List.length_map, e_le, e_lt, e_ge, e_gt, e_lenT, e_lenL, e_add, e_cat, e_sub, e_mul, e_div, e_mod, e_tupL, e_tupT, e_listL, e_listT, e_fcat, e_isN, e_eqi, e_eqs, fEq, fNe, fIn, fNotIn, decide_true, id_eq, e_all, e_any, e_ixT0, e_ixL0, e_ixT1, e_ixT2, e_max2, e_min2, e_abs, e_int, e_pow, true_and, and_true, forall_const, d_loose_of]
  have := allP_len cs.length
  have h3 : cs.length * cs.length ≤ 100 * 100 := Nat.mul_le_mul hl hl
  refine ⟨cs.length, rfl, hl, by rw [List.length_map]; omega, lc_filter (fun p => !decide (p ∈ met) && !decide (p ∈ apart)) (allP cs.length) (h := pD) (fun p hp R h1 h2 => ?_) ?_⟩
  · simp only [semOf, semP, semF, semT, semM, List.map_cons, List.map_nil, List.cons_append, List.nil_append, List.append_nil, List.replicate_succ, List.replicate_zero, Nat.reduceSub, Nat.reduceAdd, Nat.sub_self, Nat.sub_zero, List.length_cons, List.length_nil, Nat.zero_add, dSeq, dSet, dSetF, dSetH, dSetFH, dRet, dRetN, dIf, dNext, dFor, dExt, dApp, dSub, dFrz, dDrop, dNever, dBrk, dCnt, dAsg, dAsgH, dPar, dcNil, dcD, dcF, storesD, dV, dC, d1, d2, dN, dNF, d2F, dCons, dNil, dTup, dLst, asL, asB, dtAnd, dtOr, dtNot, dYes, dAndV, dOrV, dNotV, dIte, dCh, dLc, dSeqI, dRg1, dRg2, dEnum, dZip, dgN, dgT, dgCons, dgNil, sgN, sgT, sgCons, sgNil, dSlT, dSlL, dSome, dNo, dRev, dIsi, dNP, dNew, dFld, dMe, dMeN, dNCat, dMemo, dRF, dRC, dPot, wipeE, vis, hid, noOw, isOw, List.all_cons, List.all_nil, Bool.not_false, Bool.not_true, Bool.and_true, Bool.true_and, Bool.or_true, Bool.true_or, Bool.false_or, Bool.or_false, List.getElem?_cons_zero, List.getElem?_cons_succ, List.set_cons_zero, List.set_cons_succ, List.length_map, e_le, e_lt, e_ge, e_gt, e_lenT, e_lenL, e_add, e_cat, e_sub, e_mul, e_div, e_mod, e_tupL, e_tupT, e_listL, e_listT, e_fcat, e_isN, e_eqi, e_eqs, fEq, fNe, fIn, fNotIn, decide_true, id_eq, e_all, e_any, e_ixT0, e_ixL0, e_ixT1, e_ixT2, e_max2, e_min2, e_abs, e_int, e_pow, true_and, and_true, forall_const, lcTurn, e_inP]
    cases k : decide (p ∈ met) with
    | true => exact h2 (by rw [k]; rfl)
    | false =>
      cases k2 : decide (p ∈ apart) with
      | true => exact h2 (by rw [k, k2]; rfl)
      | false => exact h1 (by rw [k, k2]; rfl)
  · exact ⟨by decide, by decide, h⟩
def leftL (cs : List Int) (met : List P2) : List Int := (cs.zip (degL cs.length met)).map fun x => x.1 - x.2
theorem leftL_len (cs : List Int) (met : List P2) : (leftL cs met).length = cs.length := by
  unfold leftL
  rw [List.length_map, List.length_zip, degL_len, Nat.min_self]
theorem leftL_at (cs : List Int) (met : List P2) {q : Nat} (hq : q < cs.length) : lf (leftL cs met) q = lf cs q - (deg met q : Nat) := by
  unfold lf leftL
  rw [List.getD_eq_getElem?_getD, List.getElem?_map, List.getElem?_zip_eq_some (z := (cs[q], (deg met q : Int))).mpr ⟨List.getElem?_eq_getElem hq, degL_get met hq⟩, List.getD_eq_getElem?_getD, List.getElem?_eq_getElem hq]
  rfl
/-- left_of(counts, met): names 0 counts 1 met 2 one 3 many -/
def d_left_of : DS := (dRet (dN fTuple (dCons (asL (dLc (dZip (dCons (dV 0) (dCons (dN g_counts_in (dCons (dN fLen (dCons (dV 0) dNil)) (dCons (dV 1) dNil))) dNil))) (dgT 2 (dgCons (dgN 2) (dgCons (dgN 3) dgNil))) dYes (d2 fSub (dV 2) (dV 3)) [2, 3])) dNil)))
def g_left_of : List D → (D → Prop) → Prop := fun ds P => ∃ (cs : List Int) (met : List P2), ds = [isD cs, psD met] ∧ cs.length ≤ 100 ∧ (∀ p, p ∈ met → okP cs.length p) ∧ P (isD (leftL cs met))
theorem ok_left_of : ∀ ds P, g_left_of ds P → semOf 4 2 d_left_of ds P := by
  rintro ds P ⟨cs, met, rfl, hl, ho, h⟩
  refine ⟨rfl, ?_⟩
  simp only [semOf, semP, semF, semT, semM, List.map_cons, List.map_nil, List.cons_append, List.nil_append, List.append_nil, List.replicate_succ, List.replicate_zero, Nat.reduceSub, Nat.reduceAdd, Nat.sub_self, Nat.sub_zero, List.length_cons, List.length_nil, Nat.zero_add, dSeq, dSet, dSetF, dSetH, dSetFH, dRet, dRetN, dIf, dNext, dFor, dExt, dApp, dSub, dFrz, dDrop, dNever, dBrk, dCnt, dAsg, dAsgH, dPar, dcNil, dcD, dcF, storesD, dV, dC, d1, d2, dN, dNF, d2F, dCons, dNil, dTup, dLst, asL, asB, dtAnd, dtOr, dtNot, dYes, dAndV, dOrV, dNotV, dIte, dCh, dLc, dSeqI, dRg1, dRg2, dEnum, dZip, dgN, dgT, dgCons, dgNil, sgN, sgT, sgCons, sgNil, dSlT, dSlL, dSome, dNo, dRev, dIsi, dNP, dNew, dFld, dMe, dMeN, dNCat, dMemo, dRF, dRC, dPot, wipeE, vis, hid, noOw, isOw, List.all_cons, List.all_nil, Bool.not_false, Bool.not_true, Bool.and_true, Bool.true_and, Bool.or_true, Bool.true_or, Bool.false_or, Bool.or_false, List.getElem?_cons_zero, List.getElem?_cons_succ, List.set_cons_zero, List.set_cons_succ, List.length_map, e_le, e_lt, e_ge, e_gt, e_lenT, e_lenL, e_add, e_cat, e_sub, e_mul, e_div, e_mod, e_tupL, e_tupT, e_listL, e_listT, e_fcat, e_isN, e_eqi, e_eqs, fEq, fNe, fIn, fNotIn, decide_true, id_eq, e_all, e_any, e_ixT0, e_ixL0, e_ixT1, e_ixT2, e_max2, e_min2, e_abs, e_int, e_pow, true_and, and_true, forall_const, d_left_of]
  refine ⟨cs.length, met, rfl, by omega, ho, ?_⟩
  show (_ ∧ _)
  rw [zipD_map]
  refine ⟨by rw [List.length_map, List.length_zip]; omega, lc_map (cs.zip (degL cs.length met)) (h := fun x => .int (x.1 - x.2)) (fun x hx R hR => ?_) ?_⟩
  · simp only [semOf, semP, semF, semT, semM, List.map_cons, List.map_nil, List.cons_append, List.nil_append, List.append_nil, List.replicate_succ, List.replicate_zero, Nat.reduceSub, Nat.reduceAdd, Nat.sub_self, Nat.sub_zero, List.length_cons, List.length_nil, Nat.zero_add, dSeq, dSet, dSetF, dSetH, dSetFH, dRet, dRetN, dIf, dNext, dFor, dExt, dApp, dSub, dFrz, dDrop, dNever, dBrk, dCnt, dAsg, dAsgH, dPar, dcNil, dcD, dcF, storesD, dV, dC, d1, d2, dN, dNF, d2F, dCons, dNil, dTup, dLst, asL, asB, dtAnd, dtOr, dtNot, dYes, dAndV, dOrV, dNotV, dIte, dCh, dLc, dSeqI, dRg1, dRg2, dEnum, dZip, dgN, dgT, dgCons, dgNil, sgN, sgT, sgCons, sgNil, dSlT, dSlL, dSome, dNo, dRev, dIsi, dNP, dNew, dFld, dMe, dMeN, dNCat, dMemo, dRF, dRC, dPot, wipeE, vis, hid, noOw, isOw, List.all_cons, List.all_nil, Bool.not_false, Bool.not_true, Bool.and_true, Bool.true_and, Bool.or_true, Bool.true_or, Bool.false_or, Bool.or_false, List.getElem?_cons_zero, List.getElem?_cons_succ, List.set_cons_zero, List.set_cons_succ, List.length_map, e_le, e_lt, e_ge, e_gt, e_lenT, e_lenL, e_add, e_cat, e_sub, e_mul, e_div, e_mod, e_tupL, e_tupT, e_listL, e_listT, e_fcat, e_isN, e_eqi, e_eqs, fEq, fNe, fIn, fNotIn, decide_true, id_eq, e_all, e_any, e_ixT0, e_ixL0, e_ixT1, e_ixT2, e_max2, e_min2, e_abs, e_int, e_pow, true_and, and_true, forall_const, lcTurn]
    exact hR
  · rw [show ((cs.zip (degL cs.length met)).map fun x => PyData.int (x.1 - x.2)) = (leftL cs met).map .int by unfold leftL; rw [List.map_map]; rfl]
    exact h
theorem enumD_map {α : Type} (f : α → D) : ∀ (l : List α) (k : Nat), enumD k (l.map f) = (l.zipIdx k).map fun x => .tuple [nD x.2, f x.1]
  | [], _ => rfl
  | a :: l, k => by
    rw [List.zipIdx_cons, List.map_cons, List.map_cons, ← enumD_map f l (k + 1)]
    rfl
/-- over_told(counts, met): names 0 counts 1 met 2 some 3 person 4 one -/
def d_over_told : DS := (dSeq (dSetF 2 (dLc (dEnum (dCons (dN g_left_of (dCons (dV 0) (dCons (dV 1) dNil))) dNil)) (dgT 2 (dgCons (dgN 3) (dgCons (dgN 4) dgNil))) (asB (d2 fLt (dV 4) (dC (.int 0)))) (dV 3) [3, 4]))
  (dRet (dIte (asB (d2 fNe (dV 2) (asL (dLst dNil)))) (d2 fIx (dV 2) (dC (.int 0))) (dC .none))))
def g_over_told : List D → (D → Prop) → Prop := fun ds P => ∃ (cs : List Int) (met : List P2), ds = [isD cs, psD met] ∧ cs.length ≤ 100 ∧ (∀ p, p ∈ met → okP cs.length p) ∧ (okL (leftL cs met) = true → P .none) ∧ (okL (leftL cs met) = false → ∀ i : Nat, P (nD i))
theorem ok_over_told : ∀ ds P, g_over_told ds P → semOf 5 2 d_over_told ds P := by
  rintro ds P ⟨cs, met, rfl, hl, ho, h1, h2⟩
  refine ⟨rfl, ?_⟩
  simp only [semOf, semP, semF, semT, semM, List.map_cons, List.map_nil, List.cons_append, List.nil_append, List.append_nil, List.replicate_succ, List.replicate_zero, Nat.reduceSub, Nat.reduceAdd, Nat.sub_self, Nat.sub_zero, List.length_cons, List.length_nil, Nat.zero_add, dSeq, dSet, dSetF, dSetH, dSetFH, dRet, dRetN, dIf, dNext, dFor, dExt, dApp, dSub, dFrz, dDrop, dNever, dBrk, dCnt, dAsg, dAsgH, dPar, dcNil, dcD, dcF, storesD, dV, dC, d1, d2, dN, dNF, d2F, dCons, dNil, dTup, dLst, asL, asB, dtAnd, dtOr, dtNot, dYes, dAndV, dOrV, dNotV, dIte, dCh, dLc, dSeqI, dRg1, dRg2, dEnum, dZip, dgN, dgT, dgCons, dgNil, sgN, sgT, sgCons, sgNil, dSlT, dSlL, dSome, dNo, dRev, dIsi, dNP, dNew, dFld, dMe, dMeN, dNCat, dMemo, dRF, dRC, dPot, wipeE, vis, hid, noOw, isOw, List.all_cons, List.all_nil, Bool.not_false, Bool.not_true, Bool.and_true, Bool.true_and, Bool.or_true, Bool.true_or, Bool.false_or, Bool.or_false, List.getElem?_cons_zero, List.getElem?_cons_succ, List.set_cons_zero, List.set_cons_succ, List.length_map, e_le, e_lt, e_ge, e_gt, e_lenT, e_lenL, e_add, e_cat, e_sub, e_mul, e_div, e_mod, e_tupL, e_tupT, e_listL, e_listT, e_fcat, e_isN, e_eqi, e_eqs, fEq, fNe, fIn, fNotIn, decide_true, id_eq, e_all, e_any, e_ixT0, e_ixL0, e_ixT1, e_ixT2, e_max2, e_min2, e_abs, e_int, e_pow, true_and, and_true, forall_const, d_over_told]
  refine ⟨cs, met, rfl, hl, ho, ?_⟩
  simp only
  rw [enumD_map]
  refine ⟨by rw [List.length_map, List.length_zipIdx, leftL_len]; omega, lc_filter (fun x => decide (x.1 < 0)) ((leftL cs met).zipIdx 0) (h := fun x => nD x.2) (fun x hx R k1 k2 => ?_) ?_⟩
  · simp only [semOf, semP, semF, semT, semM, List.map_cons, List.map_nil, List.cons_append, List.nil_append, List.append_nil, List.replicate_succ, List.replicate_zero, Nat.reduceSub, Nat.reduceAdd, Nat.sub_self, Nat.sub_zero, List.length_cons, List.length_nil, Nat.zero_add, dSeq, dSet, dSetF, dSetH, dSetFH, dRet, dRetN, dIf, dNext, dFor, dExt, dApp, dSub, dFrz, dDrop, dNever, dBrk, dCnt, dAsg, dAsgH, dPar, dcNil, dcD, dcF, storesD, dV, dC, d1, d2, dN, dNF, d2F, dCons, dNil, dTup, dLst, asL, asB, dtAnd, dtOr, dtNot, dYes, dAndV, dOrV, dNotV, dIte, dCh, dLc, dSeqI, dRg1, dRg2, dEnum, dZip, dgN, dgT, dgCons, dgNil, sgN, sgT, sgCons, sgNil, dSlT, dSlL, dSome, dNo, dRev, dIsi, dNP, dNew, dFld, dMe, dMeN, dNCat, dMemo, dRF, dRC, dPot, wipeE, vis, hid, noOw, isOw, List.all_cons, List.all_nil, Bool.not_false, Bool.not_true, Bool.and_true, Bool.true_and, Bool.or_true, Bool.true_or, Bool.false_or, Bool.or_false, List.getElem?_cons_zero, List.getElem?_cons_succ, List.set_cons_zero, List.set_cons_succ, List.length_map, e_le, e_lt, e_ge, e_gt, e_lenT, e_lenL, e_add, e_cat, e_sub, e_mul, e_div, e_mod, e_tupL, e_tupT, e_listL, e_listT, e_fcat, e_isN, e_eqi, e_eqs, fEq, fNe, fIn, fNotIn, decide_true, id_eq, e_all, e_any, e_ixT0, e_ixL0, e_ixT1, e_ixT2, e_max2, e_min2, e_abs, e_int, e_pow, true_and, and_true, forall_const, lcTurn]
    cases k : decide (x.1 < 0) with
    | true => exact k1 k
    | false => exact k2 k
  · refine ⟨by decide, by decide, ?_⟩
    have em : ((leftL cs met).zipIdx 0).filter (fun x => decide (x.1 < 0)) = [] ↔ okL (leftL cs met) = true := by
      rw [List.filter_eq_nil_iff]
      unfold okL
      rw [List.all_eq_true]
      constructor
      · intro k x hx
        obtain ⟨i, hi, rfl⟩ := List.mem_iff_getElem.mp hx
        have := k ((leftL cs met)[i], i) (by
          rw [List.mem_iff_getElem?]
          exact ⟨i, by rw [List.getElem?_zipIdx, List.getElem?_eq_getElem hi]; simp⟩)
        simpa using this
      · intro k x hx
        have := k x.1 (List.fst_mem_of_mem_zipIdx hx)
        simpa using this
    have e0 : ∀ l : List (Int × Nat), okD (.list (l.map fun x => nD x.2)) = true := fun l => by
      have := okD_of (l.map fun x => x.2)
      rw [show (PySem.W.Datum.toD (l.map fun x => x.2) : D) = .list (l.map fun x => nD x.2) by show PyData.list ((l.map fun x => x.2).map _) = _; rw [List.map_map]; rfl] at this
      exact this
    generalize ((leftL cs met).zipIdx 0).filter (fun x => decide (x.1 < 0)) = l at em
    rw [e_eq (e0 l) rfl]
    cases l with
    | nil =>
      have : PyData.eqv (.list (([] : List (Int × Nat)).map fun x => nD x.2)) (.list []) = true := by simp [PyData.eqv, PyData.eqvAll]
      rw [this]
      exact h1 (em.mp rfl)
    | cons x l =>
      have : PyData.eqv (.list ((x :: l).map fun x => nD x.2)) (.list []) = false := by simp [PyData.eqv, PyData.eqvAll]
      rw [this]
      have : okL (leftL cs met) = false := by
        cases k : okL (leftL cs met) with
        | false => rfl
        | true =>
          have := em.mpr k
          cases this
      simp only [semOf, semP, semF, semT, semM, List.map_cons, List.map_nil, List.cons_append, List.nil_append, List.append_nil, List.replicate_succ, List.replicate_zero, Nat.reduceSub, Nat.reduceAdd, Nat.sub_self, Nat.sub_zero, List.length_cons, List.length_nil, Nat.zero_add, dSeq, dSet, dSetF, dSetH, dSetFH, dRet, dRetN, dIf, dNext, dFor, dExt, dApp, dSub, dFrz, dDrop, dNever, dBrk, dCnt, dAsg, dAsgH, dPar, dcNil, dcD, dcF, storesD, dV, dC, d1, d2, dN, dNF, d2F, dCons, dNil, dTup, dLst, asL, asB, dtAnd, dtOr, dtNot, dYes, dAndV, dOrV, dNotV, dIte, dCh, dLc, dSeqI, dRg1, dRg2, dEnum, dZip, dgN, dgT, dgCons, dgNil, sgN, sgT, sgCons, sgNil, dSlT, dSlL, dSome, dNo, dRev, dIsi, dNP, dNew, dFld, dMe, dMeN, dNCat, dMemo, dRF, dRC, dPot, wipeE, vis, hid, noOw, isOw, List.all_cons, List.all_nil, Bool.not_false, Bool.not_true, Bool.and_true, Bool.true_and, Bool.or_true, Bool.true_or, Bool.false_or, Bool.or_false, List.getElem?_cons_zero, List.getElem?_cons_succ, List.set_cons_zero, List.set_cons_succ, List.length_map, e_le, e_lt, e_ge, e_gt, e_lenT, e_lenL, e_add, e_cat, e_sub, e_mul, e_div, e_mod, e_tupL, e_tupT, e_listL, e_listT, e_fcat, e_isN, e_eqi, e_eqs, fEq, fNe, fIn, fNotIn, decide_true, id_eq, e_all, e_any, e_ixT0, e_ixL0, e_ixT1, e_ixT2, e_max2, e_min2, e_abs, e_int, e_pow, true_and, and_true, forall_const]
      exact h2 this x.2
end HM

/-! What the program's defs tell: webs with told pairs. -/
namespace HM
open PySem L2 TL
/-! ### sorted pairs -/
def sortP (l : List P2) : List P2 := sortT l
theorem sortP_perm (l : List P2) : (sortP l).Perm l := List.mergeSort_perm _ _
theorem leP_total (a b : P2) : (!decide (ltP b a) || !decide (ltP a b)) = true := by
  unfold ltP
  by_cases h : b.1 < a.1 ∨ b.1 = a.1 ∧ b.2 < a.2
  · have : ¬ (a.1 < b.1 ∨ a.1 = b.1 ∧ a.2 < b.2) := by omega
    simp [this]
  · simp [h]
theorem leP_trans (a b c : P2) (h1 : (!decide (ltP b a)) = true) (h2 : (!decide (ltP c b)) = true) : (!decide (ltP c a)) = true := by
  have h1' : ¬ ltP b a := by simpa using h1
  have h2' : ¬ ltP c b := by simpa using h2
  have : ¬ ltP c a := by unfold ltP at *; omega
  simpa using this
theorem sortP_eq (l : List P2) : sortP l = l.mergeSort fun a b => !decide (ltP b a) := by
  unfold sortP sortT
  congr 1
  funext a b
  rw [lt_P2]
theorem sortP_rising {l : List P2} (h : l.Nodup) : rising (sortP l) := by
  have s := List.pairwise_mergeSort (le := fun a b => !decide (ltP b a)) (fun a b c h1 h2 => leP_trans a b c h1 h2) (fun a b => leP_total a b) l
  rw [← sortP_eq] at s
  have nd : (sortP l).Nodup := (sortP_perm l).nodup_iff.mpr h
  refine List.Pairwise.imp ?_ (s.and nd)
  rintro a b ⟨h1, h2⟩
  have h1' : ¬ ltP b a := by simpa using h1
  have : a.1 ≠ b.1 ∨ a.2 ≠ b.2 := Classical.byContradiction fun z => h2 (Prod.ext (by omega) (by omega))
  unfold ltP at *
  omega
theorem mem_sortP {l : List P2} {p : P2} : p ∈ sortP l ↔ p ∈ l := (sortP_perm l).mem_iff
theorem rising_ext : ∀ {a b : List P2}, rising a → rising b → (∀ x, x ∈ a ↔ x ∈ b) → a = b
  | [], [], _, _, _ => rfl
  | [], y :: b, _, _, h => absurd ((h y).mpr (List.mem_cons_self ..)) List.not_mem_nil
  | x :: a, [], _, _, h => absurd ((h x).mp (List.mem_cons_self ..)) List.not_mem_nil
  | x :: a, y :: b, ha, hb, h => by
    obtain ⟨a1, a2⟩ := List.pairwise_cons.mp ha
    obtain ⟨b1, b2⟩ := List.pairwise_cons.mp hb
    have e : x = y := by
      rcases List.mem_cons.mp ((h x).mp (List.mem_cons_self ..)) with e | e
      · exact e
      · rcases List.mem_cons.mp ((h y).mpr (List.mem_cons_self ..)) with f | f
        · exact f.symm
        · exact absurd (ltP_trans (b1 x e) (a1 y f)) (ltP_irrefl y)
    subst e
    congr 1
    refine rising_ext a2 b2 fun z => ⟨fun hz => ?_, fun hz => ?_⟩
    · rcases List.mem_cons.mp ((h z).mp (List.mem_cons_of_mem _ hz)) with f | f
      · rw [f] at hz
        exact absurd (a1 x hz) (ltP_irrefl x)
      · exact f
    · rcases List.mem_cons.mp ((h z).mpr (List.mem_cons_of_mem _ hz)) with f | f
      · rw [f] at hz
        exact absurd (b1 x hz) (ltP_irrefl x)
      · exact f
theorem srt_P {l : List P2} {Q : List D → Prop} (h : l.length ≤ 100000) (hq : Q ((sortP l).map pD)) : fSrt false [.tuple (l.map pD)] Q := by
  show (srtOk (l.map PySem.W.Datum.toD) ∧ Q (srtD false (l.map PySem.W.Datum.toD)))
  refine ⟨srtOk_of l h (.inl fun d hd => ?_), ?_⟩
  · obtain ⟨p, _, rfl⟩ := List.mem_map.mp hd
    exact ⟨_, _, rfl⟩
  · rw [srtD_of]
    exact hq
def more (pairs : List P2) (p : P2) : List P2 := sortP (pairs ++ [p])
theorem mem_more {pairs : List P2} {p q : P2} : q ∈ more pairs p ↔ q ∈ pairs ∨ q = p := by
  unfold more
  rw [mem_sortP, List.mem_append, List.mem_singleton]
theorem more_ok {n : Nat} {pairs : List P2} {p : P2} (h : okPs n pairs) (hp : okP n p) (hn : p ∉ pairs) (hl : n ≤ 10) : okPs n (more pairs p) := by
  have nd : (pairs ++ [p]).Nodup := List.nodup_append.mpr ⟨rising_nodup h.2.1, List.pairwise_singleton _ _, fun a ha b hb e => by
    rw [List.mem_singleton] at hb
    rw [e, hb] at ha
    exact hn ha⟩
  refine ⟨fun q hq => ?_, sortP_rising nd, ?_⟩
  · rcases mem_more.mp hq with e | e
    · exact h.1 q e
    · rw [e]; exact hp
  · unfold more
    rw [(sortP_perm _).length_eq]
    have := nodup_few nd (s := allP n) fun x hx => mem_allP.mpr (by
      rcases List.mem_append.mp hx with e | e
      · exact h.1 x e
      · rw [List.mem_singleton] at e
        rw [e]; exact hp)
    have h2 := allP_len n
    have h3 : n * n ≤ 10 * 10 := Nat.mul_le_mul hl hl
    omega
/-- with_more(pairs, pair): names 0 pairs 1 pair -/
def d_with_more : DS := (dRet (dN fTuple (dCons (asL (dNF (fSrt false) (dCons (d2 fPlus (dV 0) (dTup (dCons (dV 1) dNil))) dNil))) dNil)))
def g_with_more : List D → (D → Prop) → Prop := fun ds P => ∃ (pairs : List P2) (p : P2), ds = [psD pairs, pD p] ∧ pairs.length ≤ 1000 ∧ P (psD (more pairs p))
theorem ok_with_more : ∀ ds P, g_with_more ds P → semOf 2 2 d_with_more ds P := by
  rintro ds P ⟨pairs, p, rfl, hl, h⟩
  refine ⟨rfl, ?_⟩
  simp only [semOf, semP, semF, semT, semM, List.map_cons, List.map_nil, List.cons_append, List.nil_append, List.append_nil, List.replicate_succ, List.replicate_zero, Nat.reduceSub, Nat.reduceAdd, Nat.sub_self, Nat.sub_zero, List.length_cons, List.length_nil, Nat.zero_add, dSeq, dSet, dSetF, dSetH, dSetFH, dRet, dRetN, dIf, dNext, dFor, dExt, dApp, dSub, dFrz, dDrop, dNever, dBrk, dCnt, dAsg, dAsgH, dPar, dcNil, dcD, dcF, storesD, dV, dC, d1, d2, dN, dNF, d2F, dCons, dNil, dTup, dLst, asL, asB, dtAnd, dtOr, dtNot, dYes, dAndV, dOrV, dNotV, dIte, dCh, dLc, dSeqI, dRg1, dRg2, dEnum, dZip, dgN, dgT, dgCons, dgNil, sgN, sgT, sgCons, sgNil, dSlT, dSlL, dSome, dNo, dRev, dIsi, dNP, dNew, dFld, dMe, dMeN, dNCat, dMemo, dRF, dRC, dPot, wipeE, vis, hid, noOw, isOw, List.all_cons, List.all_nil, Bool.not_false, Bool.not_true, Bool.and_true, Bool.true_and, Bool.or_true, Bool.true_or, Bool.false_or, Bool.or_false, List.getElem?_cons_zero, List.getElem?_cons_succ, List.set_cons_zero, List.set_cons_succ, List.length_map, e_le, e_lt, e_ge, e_gt, e_lenT, e_lenL, e_add, e_cat, e_sub, e_mul, e_div, e_mod, e_tupL, e_tupT, e_listL, e_listT, e_fcat, e_isN, e_eqi, e_eqs, fEq, fNe, fIn, fNotIn, decide_true, id_eq, e_all, e_any, e_ixT0, e_ixL0, e_ixT1, e_ixT2, e_max2, e_min2, e_abs, e_int, e_pow, true_and, and_true, forall_const, d_with_more]
  refine ⟨by decide, by omega, ?_⟩
  rw [show pairs.map pD ++ [pD p] = (pairs ++ [p]).map pD by rw [List.map_append]; rfl]
  exact srt_P (by rw [List.length_append, List.length_singleton]; omega) h
/-! ### told pairs of at most eight persons -/
structure T8 (cs : List Int) (met apart : List P2) : Prop where
  t : Told cs met apart
  few : cs.length ≤ 8
theorem loose_w {n : Nat} (met apart : List P2) : rising (looseP n met apart) ∧ ∀ e, e ∈ looseP n met apart → okP n e :=
  ⟨rising_filter (allP_rising n) _, fun e he => mem_allP.mp (List.mem_filter.mp he).1⟩
theorem mem_loose {n : Nat} {met apart : List P2} {p : P2} : p ∈ looseP n met apart ↔ okP n p ∧ p ∉ met ∧ p ∉ apart := by
  unfold looseP
  rw [List.mem_filter, mem_allP]
  simp
theorem T8.w {cs : List Int} {met apart : List P2} (t : T8 cs met apart) : GrW (looseP cs.length met apart) (leftL cs met) :=
  ⟨(loose_w met apart).1, by rw [leftL_len]; exact (loose_w met apart).2, by rw [leftL_len]; have := t.few; omega⟩
/-- the first web with told pairs -/
def webF (cs : List Int) (met apart : List P2) : Option (List P2) := if okL (leftL cs met) = true then (factF cs.length (looseP cs.length met apart) (leftL cs met)).map fun f => sortP (f ++ met) else none
def manyW (cs : List Int) (met apart : List P2) : Nat := cnt cs.length (looseP cs.length met apart) (lf (leftL cs met))
theorem manyW_over {cs : List Int} {met apart : List P2} (h : okL (leftL cs met) = false) : manyW cs met apart = 0 := by
  have : ∃ q, q < cs.length ∧ (leftL cs met).getD q 0 < 0 := Classical.byContradiction fun hne => by
    have : okL (leftL cs met) = true := (okL_iff _).mpr fun q hq => by
      rw [leftL_len] at hq
      exact Int.not_lt.mp fun z => hne ⟨q, hq, z⟩
    rw [h] at this
    cases this
  obtain ⟨q, hq, hn⟩ := this
  exact cnt_neg hq hn
/-- web_of(counts, met, apart): names 0 counts 1 met 2 apart 3 found -/
def d_web_of : DS := (dSeq (dIf (asB (d2 (fIs not) (dN g_over_told (dCons (dV 0) (dCons (dV 1) dNil))) (dC .none))) (dRet (dC .none)) dNext)
  (dSeq (dSet 3 (dN g_factor_of (dCons (dN g_loose_of (dCons (dV 0) (dCons (dV 1) (dCons (dV 2) dNil)))) (dCons (dN g_left_of (dCons (dV 0) (dCons (dV 1) dNil))) dNil))))
  (dRet (dIte (asB (d2 (fIs id) (dV 3) (dC .none))) (dC .none) (dTup (dCons (dC (.str "web")) (dCons (dN fLen (dCons (dV 0) dNil)) (dCons (dN fTuple (dCons (asL (dNF (fSrt false) (dCons (d2 fPlus (dV 3) (dV 1)) dNil))) dNil)) dNil))))))))
def g_web_of : List D → (D → Prop) → Prop := fun ds P => ∃ cs met apart, ds = [isD cs, psD met, psD apart] ∧ T8 cs met apart ∧ P (match webF cs met apart with | none => .none | some w => webD cs.length w)
theorem ok_web_of : ∀ ds P, g_web_of ds P → semOf 4 3 d_web_of ds P := by
  rintro ds P ⟨cs, met, apart, rfl, t, h⟩
  refine ⟨rfl, ?_⟩
  have hf := t.few
  have w := t.w
  simp only [semOf, semP, semF, semT, semM, List.map_cons, List.map_nil, List.cons_append, List.nil_append, List.append_nil, List.replicate_succ, List.replicate_zero, Nat.reduceSub, Nat.reduceAdd, Nat.sub_self, Nat.sub_zero, List.length_cons, List.length_nil, Nat.zero_add, dSeq, dSet, dSetF, dSetH, dSetFH, dRet, dRetN, dIf, dNext, dFor, dExt, dApp, dSub, dFrz, dDrop, dNever, dBrk, dCnt, dAsg, dAsgH, dPar, dcNil, dcD, dcF, storesD, dV, dC, d1, d2, dN, dNF, d2F, dCons, dNil, dTup, dLst, asL, asB, dtAnd, dtOr, dtNot, dYes, dAndV, dOrV, dNotV, dIte, dCh, dLc, dSeqI, dRg1, dRg2, dEnum, dZip, dgN, dgT, dgCons, dgNil, sgN, sgT, sgCons, sgNil, dSlT, dSlL, dSome, dNo, dRev, dIsi, dNP, dNew, dFld, dMe, dMeN, dNCat, dMemo, dRF, dRC, dPot, wipeE, vis, hid, noOw, isOw, List.all_cons, List.all_nil, Bool.not_false, Bool.not_true, Bool.and_true, Bool.true_and, Bool.or_true, Bool.true_or, Bool.false_or, Bool.or_false, List.getElem?_cons_zero, List.getElem?_cons_succ, List.set_cons_zero, List.set_cons_succ, List.length_map, e_le, e_lt, e_ge, e_gt, e_lenT, e_lenL, e_add, e_cat, e_sub, e_mul, e_div, e_mod, e_tupL, e_tupT, e_listL, e_listT, e_fcat, e_isN, e_eqi, e_eqs, fEq, fNe, fIn, fNotIn, decide_true, id_eq, e_all, e_any, e_ixT0, e_ixL0, e_ixT1, e_ixT2, e_max2, e_min2, e_abs, e_int, e_pow, true_and, and_true, forall_const, d_web_of]
  refine ⟨cs, met, rfl, by omega, t.t.m.1, fun k => ?_, fun k i => ?_⟩
  · simp only [semOf, semP, semF, semT, semM, List.map_cons, List.map_nil, List.cons_append, List.nil_append, List.append_nil, List.replicate_succ, List.replicate_zero, Nat.reduceSub, Nat.reduceAdd, Nat.sub_self, Nat.sub_zero, List.length_cons, List.length_nil, Nat.zero_add, dSeq, dSet, dSetF, dSetH, dSetFH, dRet, dRetN, dIf, dNext, dFor, dExt, dApp, dSub, dFrz, dDrop, dNever, dBrk, dCnt, dAsg, dAsgH, dPar, dcNil, dcD, dcF, storesD, dV, dC, d1, d2, dN, dNF, d2F, dCons, dNil, dTup, dLst, asL, asB, dtAnd, dtOr, dtNot, dYes, dAndV, dOrV, dNotV, dIte, dCh, dLc, dSeqI, dRg1, dRg2, dEnum, dZip, dgN, dgT, dgCons, dgNil, sgN, sgT, sgCons, sgNil, dSlT, dSlL, dSome, dNo, dRev, dIsi, dNP, dNew, dFld, dMe, dMeN, dNCat, dMemo, dRF, dRC, dPot, wipeE, vis, hid, noOw, isOw, List.all_cons, List.all_nil, Bool.not_false, Bool.not_true, Bool.and_true, Bool.true_and, Bool.or_true, Bool.true_or, Bool.false_or, Bool.or_false, List.getElem?_cons_zero, List.getElem?_cons_succ, List.set_cons_zero, List.set_cons_succ, List.length_map, e_le, e_lt, e_ge, e_gt, e_lenT, e_lenL, e_add, e_cat, e_sub, e_mul, e_div, e_mod, e_tupL, e_tupT, e_listL, e_listT, e_fcat, e_isN, e_eqi, e_eqs, fEq, fNe, fIn, fNotIn, decide_true, id_eq, e_all, e_any, e_ixT0, e_ixL0, e_ixT1, e_ixT2, e_max2, e_min2, e_abs, e_int, e_pow, true_and, and_true, forall_const, isNone]
    refine ⟨cs, met, apart, rfl, by omega, cs, met, rfl, by omega, t.t.m.1, looseP cs.length met apart, leftL cs met, by rw [leftL_len], w, k, ?_⟩
    unfold webF at h
    rw [if_pos k] at h
    rw [leftL_len]
    cases e : factF cs.length (looseP cs.length met apart) (leftL cs met) with
    | none =>
      rw [e] at h
      simp only [semOf, semP, semF, semT, semM, List.map_cons, List.map_nil, List.cons_append, List.nil_append, List.append_nil, List.replicate_succ, List.replicate_zero, Nat.reduceSub, Nat.reduceAdd, Nat.sub_self, Nat.sub_zero, List.length_cons, List.length_nil, Nat.zero_add, dSeq, dSet, dSetF, dSetH, dSetFH, dRet, dRetN, dIf, dNext, dFor, dExt, dApp, dSub, dFrz, dDrop, dNever, dBrk, dCnt, dAsg, dAsgH, dPar, dcNil, dcD, dcF, storesD, dV, dC, d1, d2, dN, dNF, d2F, dCons, dNil, dTup, dLst, asL, asB, dtAnd, dtOr, dtNot, dYes, dAndV, dOrV, dNotV, dIte, dCh, dLc, dSeqI, dRg1, dRg2, dEnum, dZip, dgN, dgT, dgCons, dgNil, sgN, sgT, sgCons, sgNil, dSlT, dSlL, dSome, dNo, dRev, dIsi, dNP, dNew, dFld, dMe, dMeN, dNCat, dMemo, dRF, dRC, dPot, wipeE, vis, hid, noOw, isOw, List.all_cons, List.all_nil, Bool.not_false, Bool.not_true, Bool.and_true, Bool.true_and, Bool.or_true, Bool.true_or, Bool.false_or, Bool.or_false, List.getElem?_cons_zero, List.getElem?_cons_succ, List.set_cons_zero, List.set_cons_succ, List.length_map, e_le, e_lt, e_ge, e_gt, e_lenT, e_lenL, e_add, e_cat, e_sub, e_mul, e_div, e_mod, e_tupL, e_tupT, e_listL, e_listT, e_fcat, e_isN, e_eqi, e_eqs, fEq, fNe, fIn, fNotIn, decide_true, id_eq, e_all, e_any, e_ixT0, e_ixL0, e_ixT1, e_ixT2, e_max2, e_min2, e_abs, e_int, e_pow, true_and, and_true, forall_const, isNone]
      exact h
    | some f =>
      rw [e] at h
      simp only [semOf, semP, semF, semT, semM, List.map_cons, List.map_nil, List.cons_append, List.nil_append, List.append_nil, List.replicate_succ, List.replicate_zero, Nat.reduceSub, Nat.reduceAdd, Nat.sub_self, Nat.sub_zero, List.length_cons, List.length_nil, Nat.zero_add, dSeq, dSet, dSetF, dSetH, dSetFH, dRet, dRetN, dIf, dNext, dFor, dExt, dApp, dSub, dFrz, dDrop, dNever, dBrk, dCnt, dAsg, dAsgH, dPar, dcNil, dcD, dcF, storesD, dV, dC, d1, d2, dN, dNF, d2F, dCons, dNil, dTup, dLst, asL, asB, dtAnd, dtOr, dtNot, dYes, dAndV, dOrV, dNotV, dIte, dCh, dLc, dSeqI, dRg1, dRg2, dEnum, dZip, dgN, dgT, dgCons, dgNil, sgN, sgT, sgCons, sgNil, dSlT, dSlL, dSome, dNo, dRev, dIsi, dNP, dNew, dFld, dMe, dMeN, dNCat, dMemo, dRF, dRC, dPot, wipeE, vis, hid, noOw, isOw, List.all_cons, List.all_nil, Bool.not_false, Bool.not_true, Bool.and_true, Bool.true_and, Bool.or_true, Bool.true_or, Bool.false_or, Bool.or_false, List.getElem?_cons_zero, List.getElem?_cons_succ, List.set_cons_zero, List.set_cons_succ, List.length_map, e_le, e_lt, e_ge, e_gt, e_lenT, e_lenL, e_add, e_cat, e_sub, e_mul, e_div, e_mod, e_tupL, e_tupT, e_listL, e_listT, e_fcat, e_isN, e_eqi, e_eqs, fEq, fNe, fIn, fNotIn, decide_true, id_eq, e_all, e_any, e_ixT0, e_ixL0, e_ixT1, e_ixT2, e_max2, e_min2, e_abs, e_int, e_pow, true_and, and_true, forall_const, isNone]
      have fs := fact_some w.up (by have := w.ok; rw [leftL_len] at this; exact this) (leftL_len cs met) k e
      have fl : f.length ≤ 100 := Nat.le_trans fs.1.length_le w.len
      have ml := t.t.m.2.2
      refine ⟨by omega, ?_⟩
      rw [← List.map_append]
      exact srt_P (by rw [List.length_append]; omega) ⟨by decide, h⟩
  · simp only [semOf, semP, semF, semT, semM, List.map_cons, List.map_nil, List.cons_append, List.nil_append, List.append_nil, List.replicate_succ, List.replicate_zero, Nat.reduceSub, Nat.reduceAdd, Nat.sub_self, Nat.sub_zero, List.length_cons, List.length_nil, Nat.zero_add, dSeq, dSet, dSetF, dSetH, dSetFH, dRet, dRetN, dIf, dNext, dFor, dExt, dApp, dSub, dFrz, dDrop, dNever, dBrk, dCnt, dAsg, dAsgH, dPar, dcNil, dcD, dcF, storesD, dV, dC, d1, d2, dN, dNF, d2F, dCons, dNil, dTup, dLst, asL, asB, dtAnd, dtOr, dtNot, dYes, dAndV, dOrV, dNotV, dIte, dCh, dLc, dSeqI, dRg1, dRg2, dEnum, dZip, dgN, dgT, dgCons, dgNil, sgN, sgT, sgCons, sgNil, dSlT, dSlL, dSome, dNo, dRev, dIsi, dNP, dNew, dFld, dMe, dMeN, dNCat, dMemo, dRF, dRC, dPot, wipeE, vis, hid, noOw, isOw, List.all_cons, List.all_nil, Bool.not_false, Bool.not_true, Bool.and_true, Bool.true_and, Bool.or_true, Bool.true_or, Bool.false_or, Bool.or_false, List.getElem?_cons_zero, List.getElem?_cons_succ, List.set_cons_zero, List.set_cons_succ, List.length_map, e_le, e_lt, e_ge, e_gt, e_lenT, e_lenL, e_add, e_cat, e_sub, e_mul, e_div, e_mod, e_tupL, e_tupT, e_listL, e_listT, e_fcat, e_isN, e_eqi, e_eqs, fEq, fNe, fIn, fNotIn, decide_true, id_eq, e_all, e_any, e_ixT0, e_ixL0, e_ixT1, e_ixT2, e_max2, e_min2, e_abs, e_int, e_pow, true_and, and_true, forall_const, isNone]
    unfold webF at h
    rw [if_neg (by rw [k]; decide)] at h
    exact h
/-- many_with(counts, met, apart): names 0 counts 1 met 2 apart -/
def d_many_with : DS := (dSeq (dIf (asB (d2 (fIs not) (dN g_over_told (dCons (dV 0) (dCons (dV 1) dNil))) (dC .none))) (dRet (dC (.int 0))) dNext)
  (dRet (dN g_many_of (dCons (dN g_loose_of (dCons (dV 0) (dCons (dV 1) (dCons (dV 2) dNil)))) (dCons (dN g_left_of (dCons (dV 0) (dCons (dV 1) dNil))) dNil)))))
def g_many_with : List D → (D → Prop) → Prop := fun ds P => ∃ cs met apart, ds = [isD cs, psD met, psD apart] ∧ T8 cs met apart ∧ P (nD (manyW cs met apart))
theorem ok_many_with : ∀ ds P, g_many_with ds P → semOf 3 3 d_many_with ds P := by
  rintro ds P ⟨cs, met, apart, rfl, t, h⟩
  refine ⟨rfl, ?_⟩
  have hf := t.few
  simp only [semOf, semP, semF, semT, semM, List.map_cons, List.map_nil, List.cons_append, List.nil_append, List.append_nil, List.replicate_succ, List.replicate_zero, Nat.reduceSub, Nat.reduceAdd, Nat.sub_self, Nat.sub_zero, List.length_cons, List.length_nil, Nat.zero_add, dSeq, dSet, dSetF, dSetH, dSetFH, dRet, dRetN, dIf, dNext, dFor, dExt, dApp, dSub, dFrz, dDrop, dNever, dBrk, dCnt, dAsg, dAsgH, dPar, dcNil, dcD, dcF, storesD, dV, dC, d1, d2, dN, dNF, d2F, dCons, dNil, dTup, dLst, asL, asB, dtAnd, dtOr, dtNot, dYes, dAndV, dOrV, dNotV, dIte, dCh, dLc, dSeqI, dRg1, dRg2, dEnum, dZip, dgN, dgT, dgCons, dgNil, sgN, sgT, sgCons, sgNil, dSlT, dSlL, dSome, dNo, dRev, dIsi, dNP, dNew, dFld, dMe, dMeN, dNCat, dMemo, dRF, dRC, dPot, wipeE, vis, hid, noOw, isOw, List.all_cons, List.all_nil, Bool.not_false, Bool.not_true, Bool.and_true, Bool.true_and, Bool.or_true, Bool.true_or, Bool.false_or, Bool.or_false, List.getElem?_cons_zero, List.getElem?_cons_succ, List.set_cons_zero, List.set_cons_succ, List.length_map, e_le, e_lt, e_ge, e_gt, e_lenT, e_lenL, e_add, e_cat, e_sub, e_mul, e_div, e_mod, e_tupL, e_tupT, e_listL, e_listT, e_fcat, e_isN, e_eqi, e_eqs, fEq, fNe, fIn, fNotIn, decide_true, id_eq, e_all, e_any, e_ixT0, e_ixL0, e_ixT1, e_ixT2, e_max2, e_min2, e_abs, e_int, e_pow, true_and, and_true, forall_const, d_many_with]
  refine ⟨cs, met, rfl, by omega, t.t.m.1, fun k => ?_, fun k i => ?_⟩
  · simp only [semOf, semP, semF, semT, semM, List.map_cons, List.map_nil, List.cons_append, List.nil_append, List.append_nil, List.replicate_succ, List.replicate_zero, Nat.reduceSub, Nat.reduceAdd, Nat.sub_self, Nat.sub_zero, List.length_cons, List.length_nil, Nat.zero_add, dSeq, dSet, dSetF, dSetH, dSetFH, dRet, dRetN, dIf, dNext, dFor, dExt, dApp, dSub, dFrz, dDrop, dNever, dBrk, dCnt, dAsg, dAsgH, dPar, dcNil, dcD, dcF, storesD, dV, dC, d1, d2, dN, dNF, d2F, dCons, dNil, dTup, dLst, asL, asB, dtAnd, dtOr, dtNot, dYes, dAndV, dOrV, dNotV, dIte, dCh, dLc, dSeqI, dRg1, dRg2, dEnum, dZip, dgN, dgT, dgCons, dgNil, sgN, sgT, sgCons, sgNil, dSlT, dSlL, dSome, dNo, dRev, dIsi, dNP, dNew, dFld, dMe, dMeN, dNCat, dMemo, dRF, dRC, dPot, wipeE, vis, hid, noOw, isOw, List.all_cons, List.all_nil, Bool.not_false, Bool.not_true, Bool.and_true, Bool.true_and, Bool.or_true, Bool.true_or, Bool.false_or, Bool.or_false, List.getElem?_cons_zero, List.getElem?_cons_succ, List.set_cons_zero, List.set_cons_succ, List.length_map, e_le, e_lt, e_ge, e_gt, e_lenT, e_lenL, e_add, e_cat, e_sub, e_mul, e_div, e_mod, e_tupL, e_tupT, e_listL, e_listT, e_fcat, e_isN, e_eqi, e_eqs, fEq, fNe, fIn, fNotIn, decide_true, id_eq, e_all, e_any, e_ixT0, e_ixL0, e_ixT1, e_ixT2, e_max2, e_min2, e_abs, e_int, e_pow, true_and, and_true, forall_const, isNone]
    refine ⟨cs, met, apart, rfl, by omega, cs, met, rfl, by omega, t.t.m.1, looseP cs.length met apart, leftL cs met, by rw [leftL_len], t.w, k, ?_⟩
    rw [leftL_len]
    exact h
  · simp only [semOf, semP, semF, semT, semM, List.map_cons, List.map_nil, List.cons_append, List.nil_append, List.append_nil, List.replicate_succ, List.replicate_zero, Nat.reduceSub, Nat.reduceAdd, Nat.sub_self, Nat.sub_zero, List.length_cons, List.length_nil, Nat.zero_add, dSeq, dSet, dSetF, dSetH, dSetFH, dRet, dRetN, dIf, dNext, dFor, dExt, dApp, dSub, dFrz, dDrop, dNever, dBrk, dCnt, dAsg, dAsgH, dPar, dcNil, dcD, dcF, storesD, dV, dC, d1, d2, dN, dNF, d2F, dCons, dNil, dTup, dLst, asL, asB, dtAnd, dtOr, dtNot, dYes, dAndV, dOrV, dNotV, dIte, dCh, dLc, dSeqI, dRg1, dRg2, dEnum, dZip, dgN, dgT, dgCons, dgNil, sgN, sgT, sgCons, sgNil, dSlT, dSlL, dSome, dNo, dRev, dIsi, dNP, dNew, dFld, dMe, dMeN, dNCat, dMemo, dRF, dRC, dPot, wipeE, vis, hid, noOw, isOw, List.all_cons, List.all_nil, Bool.not_false, Bool.not_true, Bool.and_true, Bool.true_and, Bool.or_true, Bool.true_or, Bool.false_or, Bool.or_false, List.getElem?_cons_zero, List.getElem?_cons_succ, List.set_cons_zero, List.set_cons_succ, List.length_map, e_le, e_lt, e_ge, e_gt, e_lenT, e_lenL, e_add, e_cat, e_sub, e_mul, e_div, e_mod, e_tupL, e_tupT, e_listL, e_listT, e_fcat, e_isN, e_eqi, e_eqs, fEq, fNe, fIn, fNotIn, decide_true, id_eq, e_all, e_any, e_ixT0, e_ixL0, e_ixT1, e_ixT2, e_max2, e_min2, e_abs, e_int, e_pow, true_and, and_true, forall_const, isNone]
    rw [manyW_over k] at h
    exact h
/-- told_web(counts, met, apart): names 0 counts 1 met 2 apart -/
def d_told_web : DS := (dSeq (dDrop (dN g_want_told (dCons (dV 0) (dCons (dV 1) (dCons (dV 2) dNil)))))
  (dSeq (dDrop (dN g_want_few (dCons (dV 0) dNil)))
  (dRet (dN g_web_of (dCons (dV 0) (dCons (dV 1) (dCons (dV 2) dNil)))))))
def g_told_web : List D → (D → Prop) → Prop := fun ds P => ∃ cs met apart, ds = [isD cs, psD met, psD apart] ∧ T8 cs met apart ∧ P (match webF cs met apart with | none => .none | some w => webD cs.length w)
theorem ok_told_web : ∀ ds P, g_told_web ds P → semOf 3 3 d_told_web ds P := by
  rintro ds P ⟨cs, met, apart, rfl, t, h⟩
  refine ⟨rfl, ?_⟩
  simp only [semOf, semP, semF, semT, semM, List.map_cons, List.map_nil, List.cons_append, List.nil_append, List.append_nil, List.replicate_succ, List.replicate_zero, Nat.reduceSub, Nat.reduceAdd, Nat.sub_self, Nat.sub_zero, List.length_cons, List.length_nil, Nat.zero_add, dSeq, dSet, dSetF, dSetH, dSetFH, dRet, dRetN, dIf, dNext, dFor, dExt, dApp, dSub, dFrz, dDrop, dNever, dBrk, dCnt, dAsg, dAsgH, dPar, dcNil, dcD, dcF, storesD, dV, dC, d1, d2, dN, dNF, d2F, dCons, dNil, dTup, dLst, asL, asB, dtAnd, dtOr, dtNot, dYes, dAndV, dOrV, dNotV, dIte, dCh, dLc, dSeqI, dRg1, dRg2, dEnum, dZip, dgN, dgT, dgCons, dgNil, sgN, sgT, sgCons, sgNil, dSlT, dSlL, dSome, dNo, dRev, dIsi, dNP, dNew, dFld, dMe, dMeN, dNCat, dMemo, dRF, dRC, dPot, wipeE, vis, hid, noOw, isOw, List.all_cons, List.all_nil, Bool.not_false, Bool.not_true, Bool.and_true, Bool.true_and, Bool.or_true, Bool.true_or, Bool.false_or, Bool.or_false, List.getElem?_cons_zero, List.getElem?_cons_succ, List.set_cons_zero, List.set_cons_succ, List.length_map, e_le, e_lt, e_ge, e_gt, e_lenT, e_lenL, e_add, e_cat, e_sub, e_mul, e_div, e_mod, e_tupL, e_tupT, e_listL, e_listT, e_fcat, e_isN, e_eqi, e_eqs, fEq, fNe, fIn, fNotIn, decide_true, id_eq, e_all, e_any, e_ixT0, e_ixL0, e_ixT1, e_ixT2, e_max2, e_min2, e_abs, e_int, e_pow, true_and, and_true, forall_const, d_told_web]
  exact ⟨cs, met, apart, rfl, t.t, cs, rfl, t.few, cs, met, apart, rfl, t, h⟩
/-- many_told(counts, met, apart): names 0 counts 1 met 2 apart -/
def d_many_told : DS := (dSeq (dDrop (dN g_want_told (dCons (dV 0) (dCons (dV 1) (dCons (dV 2) dNil)))))
  (dSeq (dDrop (dN g_want_few (dCons (dV 0) dNil)))
  (dRet (dN g_many_with (dCons (dV 0) (dCons (dV 1) (dCons (dV 2) dNil)))))))
def g_many_told : List D → (D → Prop) → Prop := fun ds P => ∃ cs met apart, ds = [isD cs, psD met, psD apart] ∧ T8 cs met apart ∧ P (nD (manyW cs met apart))
theorem ok_many_told : ∀ ds P, g_many_told ds P → semOf 3 3 d_many_told ds P := by
  rintro ds P ⟨cs, met, apart, rfl, t, h⟩
  refine ⟨rfl, ?_⟩
  simp only [semOf, semP, semF, semT, semM, List.map_cons, List.map_nil, List.cons_append, List.nil_append, List.append_nil, List.replicate_succ, List.replicate_zero, Nat.reduceSub, Nat.reduceAdd, Nat.sub_self, Nat.sub_zero, List.length_cons, List.length_nil, Nat.zero_add, dSeq, dSet, dSetF, dSetH, dSetFH, dRet, dRetN, dIf, dNext, dFor, dExt, dApp, dSub, dFrz, dDrop, dNever, dBrk, dCnt, dAsg, dAsgH, dPar, dcNil, dcD, dcF, storesD, dV, dC, d1, d2, dN, dNF, d2F, dCons, dNil, dTup, dLst, asL, asB, dtAnd, dtOr, dtNot, dYes, dAndV, dOrV, dNotV, dIte, dCh, dLc, dSeqI, dRg1, dRg2, dEnum, dZip, dgN, dgT, dgCons, dgNil, sgN, sgT, sgCons, sgNil, dSlT, dSlL, dSome, dNo, dRev, dIsi, dNP, dNew, dFld, dMe, dMeN, dNCat, dMemo, dRF, dRC, dPot, wipeE, vis, hid, noOw, isOw, List.all_cons, List.all_nil, Bool.not_false, Bool.not_true, Bool.and_true, Bool.true_and, Bool.or_true, Bool.true_or, Bool.false_or, Bool.or_false, List.getElem?_cons_zero, List.getElem?_cons_succ, List.set_cons_zero, List.set_cons_succ, List.length_map, e_le, e_lt, e_ge, e_gt, e_lenT, e_lenL, e_add, e_cat, e_sub, e_mul, e_div, e_mod, e_tupL, e_tupT, e_listL, e_listT, e_fcat, e_isN, e_eqi, e_eqs, fEq, fNe, fIn, fNotIn, decide_true, id_eq, e_all, e_any, e_ixT0, e_ixL0, e_ixT1, e_ixT2, e_max2, e_min2, e_abs, e_int, e_pow, true_and, and_true, forall_const, d_many_told]
  exact ⟨cs, met, apart, rfl, t.t, cs, rfl, t.few, cs, met, apart, rfl, t, h⟩
/-! ### one pair more -/
theorem T8.met {cs : List Int} {met apart : List P2} (t : T8 cs met apart) {p : P2} (hp : p ∈ looseP cs.length met apart) : T8 cs (more met p) apart := by
  obtain ⟨h1, h2, h3⟩ := mem_loose.mp hp
  have := t.few
  exact ⟨⟨t.t.c, more_ok t.t.m h1 h2 (by omega), t.t.a, fun q hq hm => (mem_more.mp hm).elim (t.t.d q hq) fun e => h3 (by rw [← e]; exact hq)⟩, t.few⟩
theorem T8.apart {cs : List Int} {met apart : List P2} (t : T8 cs met apart) {p : P2} (hp : p ∈ looseP cs.length met apart) : T8 cs met (more apart p) := by
  obtain ⟨h1, h2, h3⟩ := mem_loose.mp hp
  have := t.few
  exact ⟨⟨t.t.c, t.t.m, more_ok t.t.a h1 h3 (by omega), fun q hq hm => (mem_more.mp hq).elim (fun e => t.t.d q e hm) fun e => h2 (by rw [← e]; exact hm)⟩, t.few⟩
def sureM (cs : List Int) (met apart : List P2) : List P2 := sortP (met ++ (looseP cs.length met apart).filter fun p => decide (manyW cs met (more apart p) = 0))
def sureA (cs : List Int) (met apart : List P2) : List P2 := sortP (apart ++ (looseP cs.length met apart).filter fun p => decide (manyW cs (more met p) apart = 0))
theorem loose_len {n : Nat} (h : n ≤ 10) (met apart : List P2) : (looseP n met apart).length ≤ 100 := by
  have h1 := allP_len n
  have h3 : n * n ≤ 10 * 10 := Nat.mul_le_mul h h
  have h2 : (looseP n met apart).length ≤ (allP n).length := List.length_filter_le _ _
  omega
theorem filt_len {n : Nat} (h : n ≤ 10) (met apart : List P2) (q : P2 → Bool) : ((looseP n met apart).filter q).length ≤ 100 := Nat.le_trans (List.length_filter_le _ _) (loose_len h met apart)
theorem nD_zero (k : Nat) : decide ((k : Int) = 0) = decide (k = 0) := decide_eq_decide.mpr (by omega)
/-- sure_met(counts, met, apart): names 0 counts 1 met 2 apart 3 loose 4 some 5 pair -/
def d_sure_met : DS := (dSeq (dDrop (dN g_want_told (dCons (dV 0) (dCons (dV 1) (dCons (dV 2) dNil)))))
  (dSeq (dDrop (dN g_want_few (dCons (dV 0) dNil)))
  (dSeq (dIf (asB (d2 fEq (dN g_many_with (dCons (dV 0) (dCons (dV 1) (dCons (dV 2) dNil)))) (dC (.int 0)))) (dRet (dC .none)) dNext)
  (dSeq (dSet 3 (d2 fIx (dN g_loose_of (dCons (dV 0) (dCons (dV 1) (dCons (dV 2) dNil)))) (dC (.int 2))))
  (dSeq (dSetF 4 (dLc (dSeqI (dV 3)) (dgN 5) (asB (d2 fEq (dN g_many_with (dCons (dV 0) (dCons (dV 1) (dCons (dN g_with_more (dCons (dV 2) (dCons (dV 5) dNil))) dNil)))) (dC (.int 0)))) (dV 5) [5]))
  (dRet (dN fTuple (dCons (asL (dNF (fSrt false) (dCons (d2 fPlus (dV 1) (dN fTuple (dCons (dV 4) dNil))) dNil))) dNil))))))))
def g_sure_met : List D → (D → Prop) → Prop := fun ds P => ∃ cs met apart, ds = [isD cs, psD met, psD apart] ∧ T8 cs met apart ∧ P (if manyW cs met apart = 0 then .none else psD (sureM cs met apart))
theorem ok_sure_met : ∀ ds P, g_sure_met ds P → semOf 6 3 d_sure_met ds P := by
  rintro ds P ⟨cs, met, apart, rfl, t, h⟩
  refine ⟨rfl, ?_⟩
  have hf := t.few
  simp only [semOf, semP, semF, semT, semM, List.map_cons, List.map_nil, List.cons_append, List.nil_append, List.append_nil, List.replicate_succ, List.replicate_zero, Nat.reduceSub, Nat.reduceAdd, Nat.sub_self, Nat.sub_zero, List.length_cons, List.length_nil, Nat.zero_add, dSeq, dSet, dSetF, dSetH, dSetFH, dRet, dRetN, dIf, dNext, dFor, dExt, dApp, dSub, dFrz, dDrop, dNever, dBrk, dCnt, dAsg, dAsgH, dPar, dcNil, dcD, dcF, storesD, dV, dC, d1, d2, dN, dNF, d2F, dCons, dNil, dTup, dLst, asL, asB, dtAnd, dtOr, dtNot, dYes, dAndV, dOrV, dNotV, dIte, dCh, dLc, dSeqI, dRg1, dRg2, dEnum, dZip, dgN, dgT, dgCons, dgNil, sgN, sgT, sgCons, sgNil, dSlT, dSlL, dSome, dNo, dRev, dIsi, dNP, dNew, dFld, dMe, dMeN, dNCat, dMemo, dRF, dRC, dPot, wipeE, vis, hid, noOw, isOw, List.all_cons, List.all_nil, Bool.not_false, Bool.not_true, Bool.and_true, Bool.true_and, Bool.or_true, Bool.true_or, Bool.false_or, Bool.or_false, List.getElem?_cons_zero, List.getElem?_cons_succ, List.set_cons_zero, List.set_cons_succ, List.length_map, e_le, e_lt, e_ge, e_gt, e_lenT, e_lenL, e_add, e_cat, e_sub, e_mul, e_div, e_mod, e_tupL, e_tupT, e_listL, e_listT, e_fcat, e_isN, e_eqi, e_eqs, fEq, fNe, fIn, fNotIn, decide_true, id_eq, e_all, e_any, e_ixT0, e_ixL0, e_ixT1, e_ixT2, e_max2, e_min2, e_abs, e_int, e_pow, true_and, and_true, forall_const, d_sure_met]
  refine ⟨cs, met, apart, rfl, t.t, cs, rfl, hf, cs, met, apart, rfl, t, ?_⟩
  simp only [semOf, semP, semF, semT, semM, List.map_cons, List.map_nil, List.cons_append, List.nil_append, List.append_nil, List.replicate_succ, List.replicate_zero, Nat.reduceSub, Nat.reduceAdd, Nat.sub_self, Nat.sub_zero, List.length_cons, List.length_nil, Nat.zero_add, dSeq, dSet, dSetF, dSetH, dSetFH, dRet, dRetN, dIf, dNext, dFor, dExt, dApp, dSub, dFrz, dDrop, dNever, dBrk, dCnt, dAsg, dAsgH, dPar, dcNil, dcD, dcF, storesD, dV, dC, d1, d2, dN, dNF, d2F, dCons, dNil, dTup, dLst, asL, asB, dtAnd, dtOr, dtNot, dYes, dAndV, dOrV, dNotV, dIte, dCh, dLc, dSeqI, dRg1, dRg2, dEnum, dZip, dgN, dgT, dgCons, dgNil, sgN, sgT, sgCons, sgNil, dSlT, dSlL, dSome, dNo, dRev, dIsi, dNP, dNew, dFld, dMe, dMeN, dNCat, dMemo, dRF, dRC, dPot, wipeE, vis, hid, noOw, isOw, List.all_cons, List.all_nil, Bool.not_false, Bool.not_true, Bool.and_true, Bool.true_and, Bool.or_true, Bool.true_or, Bool.false_or, Bool.or_false, List.getElem?_cons_zero, List.getElem?_cons_succ, List.set_cons_zero, List.set_cons_succ, List.length_map, e_le, e_lt, e_ge, e_gt, e_lenT, e_lenL, e_add, e_cat, e_sub, e_mul, e_div, e_mod, e_tupL, e_tupT, e_listL, e_listT, e_fcat, e_isN, e_eqi, e_eqs, fEq, fNe, fIn, fNotIn, decide_true, id_eq, e_all, e_any, e_ixT0, e_ixL0, e_ixT1, e_ixT2, e_max2, e_min2, e_abs, e_int, e_pow, true_and, and_true, forall_const]
  rw [nD_zero]
  by_cases k : manyW cs met apart = 0
  · rw [if_pos k] at h
    rw [decide_eq_true k]
    exact h
  · rw [if_neg k] at h
    rw [decide_eq_false k]
    refine ⟨cs, met, apart, rfl, by omega, ?_⟩
    have il : imm (psD (looseP cs.length met apart)) = true := immAll_ps _
    refine ⟨by rw [List.length_map]; exact Nat.le_trans (loose_len (n := cs.length) (by omega) met apart) (show 100 ≤ 100000 by decide), lc_filter (fun p => decide (manyW cs met (more apart p) = 0)) (looseP cs.length met apart) (h := pD) (fun p hp R h1 h2 => ?_) ?_⟩
    · simp only [semOf, semP, semF, semT, semM, List.map_cons, List.map_nil, List.cons_append, List.nil_append, List.append_nil, List.replicate_succ, List.replicate_zero, Nat.reduceSub, Nat.reduceAdd, Nat.sub_self, Nat.sub_zero, List.length_cons, List.length_nil, Nat.zero_add, dSeq, dSet, dSetF, dSetH, dSetFH, dRet, dRetN, dIf, dNext, dFor, dExt, dApp, dSub, dFrz, dDrop, dNever, dBrk, dCnt, dAsg, dAsgH, dPar, dcNil, dcD, dcF, storesD, dV, dC, d1, d2, dN, dNF, d2F, dCons, dNil, dTup, dLst, asL, asB, dtAnd, dtOr, dtNot, dYes, dAndV, dOrV, dNotV, dIte, dCh, dLc, dSeqI, dRg1, dRg2, dEnum, dZip, dgN, dgT, dgCons, dgNil, sgN, sgT, sgCons, sgNil, dSlT, dSlL, dSome, dNo, dRev, dIsi, dNP, dNew, dFld, dMe, dMeN, dNCat, dMemo, dRF, dRC, dPot, wipeE, vis, hid, noOw, isOw, List.all_cons, List.all_nil, Bool.not_false, Bool.not_true, Bool.and_true, Bool.true_and, Bool.or_true, Bool.true_or, Bool.false_or, Bool.or_false, List.getElem?_cons_zero, List.getElem?_cons_succ, List.set_cons_zero, List.set_cons_succ, List.length_map, e_le, e_lt, e_ge, e_gt, e_lenT, e_lenL, e_add, e_cat, e_sub, e_mul, e_div, e_mod, e_tupL, e_tupT, e_listL, e_listT, e_fcat, e_isN, e_eqi, e_eqs, fEq, fNe, fIn, fNotIn, decide_true, id_eq, e_all, e_any, e_ixT0, e_ixL0, e_ixT1, e_ixT2, e_max2, e_min2, e_abs, e_int, e_pow, true_and, and_true, forall_const, lcTurn]
      refine ⟨apart, p, rfl, t.t.a.2.2, cs, met, more apart p, rfl, t.apart hp, ?_⟩
      simp only [semOf, semP, semF, semT, semM, List.map_cons, List.map_nil, List.cons_append, List.nil_append, List.append_nil, List.replicate_succ, List.replicate_zero, Nat.reduceSub, Nat.reduceAdd, Nat.sub_self, Nat.sub_zero, List.length_cons, List.length_nil, Nat.zero_add, dSeq, dSet, dSetF, dSetH, dSetFH, dRet, dRetN, dIf, dNext, dFor, dExt, dApp, dSub, dFrz, dDrop, dNever, dBrk, dCnt, dAsg, dAsgH, dPar, dcNil, dcD, dcF, storesD, dV, dC, d1, d2, dN, dNF, d2F, dCons, dNil, dTup, dLst, asL, asB, dtAnd, dtOr, dtNot, dYes, dAndV, dOrV, dNotV, dIte, dCh, dLc, dSeqI, dRg1, dRg2, dEnum, dZip, dgN, dgT, dgCons, dgNil, sgN, sgT, sgCons, sgNil, dSlT, dSlL, dSome, dNo, dRev, dIsi, dNP, dNew, dFld, dMe, dMeN, dNCat, dMemo, dRF, dRC, dPot, wipeE, vis, hid, noOw, isOw, List.all_cons, List.all_nil, Bool.not_false, Bool.not_true, Bool.and_true, Bool.true_and, Bool.or_true, Bool.true_or, Bool.false_or, Bool.or_false, List.getElem?_cons_zero, List.getElem?_cons_succ, List.set_cons_zero, List.set_cons_succ, List.length_map, e_le, e_lt, e_ge, e_gt, e_lenT, e_lenL, e_add, e_cat, e_sub, e_mul, e_div, e_mod, e_tupL, e_tupT, e_listL, e_listT, e_fcat, e_isN, e_eqi, e_eqs, fEq, fNe, fIn, fNotIn, decide_true, id_eq, e_all, e_any, e_ixT0, e_ixL0, e_ixT1, e_ixT2, e_max2, e_min2, e_abs, e_int, e_pow, true_and, and_true, forall_const]
      rw [nD_zero]
      cases e : decide (manyW cs met (more apart p) = 0) with
      | true => exact h1 e
      | false => exact h2 e
    · have ml := t.t.m.2.2
      have fl := filt_len (n := cs.length) (by omega) met apart fun p => decide (manyW cs met (more apart p) = 0)
      refine ⟨by decide, ?_⟩
      simp only [semOf, semP, semF, semT, semM, List.map_cons, List.map_nil, List.cons_append, List.nil_append, List.append_nil, List.replicate_succ, List.replicate_zero, Nat.reduceSub, Nat.reduceAdd, Nat.sub_self, Nat.sub_zero, List.length_cons, List.length_nil, Nat.zero_add, dSeq, dSet, dSetF, dSetH, dSetFH, dRet, dRetN, dIf, dNext, dFor, dExt, dApp, dSub, dFrz, dDrop, dNever, dBrk, dCnt, dAsg, dAsgH, dPar, dcNil, dcD, dcF, storesD, dV, dC, d1, d2, dN, dNF, d2F, dCons, dNil, dTup, dLst, asL, asB, dtAnd, dtOr, dtNot, dYes, dAndV, dOrV, dNotV, dIte, dCh, dLc, dSeqI, dRg1, dRg2, dEnum, dZip, dgN, dgT, dgCons, dgNil, sgN, sgT, sgCons, sgNil, dSlT, dSlL, dSome, dNo, dRev, dIsi, dNP, dNew, dFld, dMe, dMeN, dNCat, dMemo, dRF, dRC, dPot, wipeE, vis, hid, noOw, isOw, List.all_cons, List.all_nil, Bool.not_false, Bool.not_true, Bool.and_true, Bool.true_and, Bool.or_true, Bool.true_or, Bool.false_or, Bool.or_false, List.getElem?_cons_zero, List.getElem?_cons_succ, List.set_cons_zero, List.set_cons_succ, List.length_map, e_le, e_lt, e_ge, e_gt, e_lenT, e_lenL, e_add, e_cat, e_sub, e_mul, e_div, e_mod, e_tupL, e_tupT, e_listL, e_listT, e_fcat, e_isN, e_eqi, e_eqs, fEq, fNe, fIn, fNotIn, decide_true, id_eq, e_all, e_any, e_ixT0, e_ixL0, e_ixT1, e_ixT2, e_max2, e_min2, e_abs, e_int, e_pow, true_and, and_true, forall_const]
      refine ⟨by omega, ?_⟩
      rw [← List.map_append]
      exact srt_P (by rw [List.length_append]; omega) h
/-- sure_apart(counts, met, apart): names 0 counts 1 met 2 apart 3 loose 4 some 5 pair -/
def d_sure_apart : DS := (dSeq (dDrop (dN g_want_told (dCons (dV 0) (dCons (dV 1) (dCons (dV 2) dNil)))))
  (dSeq (dDrop (dN g_want_few (dCons (dV 0) dNil)))
  (dSeq (dIf (asB (d2 fEq (dN g_many_with (dCons (dV 0) (dCons (dV 1) (dCons (dV 2) dNil)))) (dC (.int 0)))) (dRet (dC .none)) dNext)
  (dSeq (dSet 3 (d2 fIx (dN g_loose_of (dCons (dV 0) (dCons (dV 1) (dCons (dV 2) dNil)))) (dC (.int 2))))
  (dSeq (dSetF 4 (dLc (dSeqI (dV 3)) (dgN 5) (asB (d2 fEq (dN g_many_with (dCons (dV 0) (dCons (dN g_with_more (dCons (dV 1) (dCons (dV 5) dNil))) (dCons (dV 2) dNil)))) (dC (.int 0)))) (dV 5) [5]))
  (dRet (dN fTuple (dCons (asL (dNF (fSrt false) (dCons (d2 fPlus (dV 2) (dN fTuple (dCons (dV 4) dNil))) dNil))) dNil))))))))
def g_sure_apart : List D → (D → Prop) → Prop := fun ds P => ∃ cs met apart, ds = [isD cs, psD met, psD apart] ∧ T8 cs met apart ∧ P (if manyW cs met apart = 0 then .none else psD (sureA cs met apart))
theorem ok_sure_apart : ∀ ds P, g_sure_apart ds P → semOf 6 3 d_sure_apart ds P := by
  rintro ds P ⟨cs, met, apart, rfl, t, h⟩
  refine ⟨rfl, ?_⟩
  have hf := t.few
  simp only [semOf, semP, semF, semT, semM, List.map_cons, List.map_nil, List.cons_append, List.nil_append, List.append_nil, List.replicate_succ, List.replicate_zero, Nat.reduceSub, Nat.reduceAdd, Nat.sub_self, Nat.sub_zero, List.length_cons, List.length_nil, Nat.zero_add, dSeq, dSet, dSetF, dSetH, dSetFH, dRet, dRetN, dIf, dNext, dFor, dExt, dApp, dSub, dFrz, dDrop, dNever, dBrk, dCnt, dAsg, dAsgH, dPar, dcNil, dcD, dcF, storesD, dV, dC, d1, d2, dN, dNF, d2F, dCons, dNil, dTup, dLst, asL, asB, dtAnd, dtOr, dtNot, dYes, dAndV, dOrV, dNotV, dIte, dCh, dLc, dSeqI, dRg1, dRg2, dEnum, dZip, dgN, dgT, dgCons, dgNil, sgN, sgT, sgCons, sgNil, dSlT, dSlL, dSome, dNo, dRev, dIsi, dNP, dNew, dFld, dMe, dMeN, dNCat, dMemo, dRF, dRC, dPot, wipeE, vis, hid, noOw, isOw, List.all_cons, List.all_nil, Bool.not_false, Bool.not_true, Bool.and_true, Bool.true_and, Bool.or_true, Bool.true_or, Bool.false_or, Bool.or_false, List.getElem?_cons_zero, List.getElem?_cons_succ, List.set_cons_zero, List.set_cons_succ, List.length_map, e_le, e_lt, e_ge, e_gt, e_lenT, e_lenL, e_add, e_cat, e_sub, e_mul, e_div, e_mod, e_tupL, e_tupT, e_listL, e_listT, e_fcat, e_isN, e_eqi, e_eqs, fEq, fNe, fIn, fNotIn, decide_true, id_eq, e_all, e_any, e_ixT0, e_ixL0, e_ixT1, e_ixT2, e_max2, e_min2, e_abs, e_int, e_pow, true_and, and_true, forall_const, d_sure_apart]
  refine ⟨cs, met, apart, rfl, t.t, cs, rfl, hf, cs, met, apart, rfl, t, ?_⟩
  simp only [semOf, semP, semF, semT, semM, List.map_cons, List.map_nil, List.cons_append, List.nil_append, List.append_nil, List.replicate_succ, List.replicate_zero, Nat.reduceSub, Nat.reduceAdd, Nat.sub_self, Nat.sub_zero, List.length_cons, List.length_nil, Nat.zero_add, dSeq, dSet, dSetF, dSetH, dSetFH, dRet, dRetN, dIf, dNext, dFor, dExt, dApp, dSub, dFrz, dDrop, dNever, dBrk, dCnt, dAsg, dAsgH, dPar, dcNil, dcD, dcF, storesD, dV, dC, d1, d2, dN, dNF, d2F, dCons, dNil, dTup, dLst, asL, asB, dtAnd, dtOr, dtNot, dYes, dAndV, dOrV, dNotV, dIte, dCh, dLc, dSeqI, dRg1, dRg2, dEnum, dZip, dgN, dgT, dgCons, dgNil, sgN, sgT, sgCons, sgNil, dSlT, dSlL, dSome, dNo, dRev, dIsi, dNP, dNew, dFld, dMe, dMeN, dNCat, dMemo, dRF, dRC, dPot, wipeE, vis, hid, noOw, isOw, List.all_cons, List.all_nil, Bool.not_false, Bool.not_true, Bool.and_true, Bool.true_and, Bool.or_true, Bool.true_or, Bool.false_or, Bool.or_false, List.getElem?_cons_zero, List.getElem?_cons_succ, List.set_cons_zero, List.set_cons_succ, List.length_map, e_le, e_lt, e_ge, e_gt, e_lenT, e_lenL, e_add, e_cat, e_sub, e_mul, e_div, e_mod, e_tupL, e_tupT, e_listL, e_listT, e_fcat, e_isN, e_eqi, e_eqs, fEq, fNe, fIn, fNotIn, decide_true, id_eq, e_all, e_any, e_ixT0, e_ixL0, e_ixT1, e_ixT2, e_max2, e_min2, e_abs, e_int, e_pow, true_and, and_true, forall_const]
  rw [nD_zero]
  by_cases k : manyW cs met apart = 0
  · rw [if_pos k] at h
    rw [decide_eq_true k]
    exact h
  · rw [if_neg k] at h
    rw [decide_eq_false k]
    refine ⟨cs, met, apart, rfl, by omega, ?_⟩
    have il : imm (psD (looseP cs.length met apart)) = true := immAll_ps _
    refine ⟨by rw [List.length_map]; exact Nat.le_trans (loose_len (n := cs.length) (by omega) met apart) (show 100 ≤ 100000 by decide), lc_filter (fun p => decide (manyW cs (more met p) apart = 0)) (looseP cs.length met apart) (h := pD) (fun p hp R h1 h2 => ?_) ?_⟩
    · simp only [semOf, semP, semF, semT, semM, List.map_cons, List.map_nil, List.cons_append, List.nil_append, List.append_nil, List.replicate_succ, List.replicate_zero, Nat.reduceSub, Nat.reduceAdd, Nat.sub_self, Nat.sub_zero, List.length_cons, List.length_nil, Nat.zero_add, dSeq, dSet, dSetF, dSetH, dSetFH, dRet, dRetN, dIf, dNext, dFor, dExt, dApp, dSub, dFrz, dDrop, dNever, dBrk, dCnt, dAsg, dAsgH, dPar, dcNil, dcD, dcF, storesD, dV, dC, d1, d2, dN, dNF, d2F, dCons, dNil, dTup, dLst, asL, asB, dtAnd, dtOr, dtNot, dYes, dAndV, dOrV, dNotV, dIte, dCh, dLc, dSeqI, dRg1, dRg2, dEnum, dZip, dgN, dgT, dgCons, dgNil, sgN, sgT, sgCons, sgNil, dSlT, dSlL, dSome, dNo, dRev, dIsi, dNP, dNew, dFld, dMe, dMeN, dNCat, dMemo, dRF, dRC, dPot, wipeE, vis, hid, noOw, isOw, List.all_cons, List.all_nil, Bool.not_false, Bool.not_true, Bool.and_true, Bool.true_and, Bool.or_true, Bool.true_or, Bool.false_or, Bool.or_false, List.getElem?_cons_zero, List.getElem?_cons_succ, List.set_cons_zero, List.set_cons_succ, List.length_map, e_le, e_lt, e_ge, e_gt, e_lenT, e_lenL, e_add, e_cat, e_sub, e_mul, e_div, e_mod, e_tupL, e_tupT, e_listL, e_listT, e_fcat, e_isN, e_eqi, e_eqs, fEq, fNe, fIn, fNotIn, decide_true, id_eq, e_all, e_any, e_ixT0, e_ixL0, e_ixT1, e_ixT2, e_max2, e_min2, e_abs, e_int, e_pow, true_and, and_true, forall_const, lcTurn]
      refine ⟨met, p, rfl, t.t.m.2.2, cs, more met p, apart, rfl, t.met hp, ?_⟩
      simp only [semOf, semP, semF, semT, semM, List.map_cons, List.map_nil, List.cons_append, List.nil_append, List.append_nil, List.replicate_succ, List.replicate_zero, Nat.reduceSub, Nat.reduceAdd, Nat.sub_self, Nat.sub_zero, List.length_cons, List.length_nil, Nat.zero_add, dSeq, dSet, dSetF, dSetH, dSetFH, dRet, dRetN, dIf, dNext, dFor, dExt, dApp, dSub, dFrz, dDrop, dNever, dBrk, dCnt, dAsg, dAsgH, dPar, dcNil, dcD, dcF, storesD, dV, dC, d1, d2, dN, dNF, d2F, dCons, dNil, dTup, dLst, asL, asB, dtAnd, dtOr, dtNot, dYes, dAndV, dOrV, dNotV, dIte, dCh, dLc, dSeqI, dRg1, dRg2, dEnum, dZip, dgN, dgT, dgCons, dgNil, sgN, sgT, sgCons, sgNil, dSlT, dSlL, dSome, dNo, dRev, dIsi, dNP, dNew, dFld, dMe, dMeN, dNCat, dMemo, dRF, dRC, dPot, wipeE, vis, hid, noOw, isOw, List.all_cons, List.all_nil, Bool.not_false, Bool.not_true, Bool.and_true, Bool.true_and, Bool.or_true, Bool.true_or, Bool.false_or, Bool.or_false, List.getElem?_cons_zero, List.getElem?_cons_succ, List.set_cons_zero, List.set_cons_succ, List.length_map, e_le, e_lt, e_ge, e_gt, e_lenT, e_lenL, e_add, e_cat, e_sub, e_mul, e_div, e_mod, e_tupL, e_tupT, e_listL, e_listT, e_fcat, e_isN, e_eqi, e_eqs, fEq, fNe, fIn, fNotIn, decide_true, id_eq, e_all, e_any, e_ixT0, e_ixL0, e_ixT1, e_ixT2, e_max2, e_min2, e_abs, e_int, e_pow, true_and, and_true, forall_const]
      rw [nD_zero]
      cases e : decide (manyW cs (more met p) apart = 0) with
      | true => exact h1 e
      | false => exact h2 e
    · have := t.t.a.2.2
      have fl := filt_len (n := cs.length) (by omega) met apart fun p => decide (manyW cs (more met p) apart = 0)
      refine ⟨by decide, ?_⟩
      simp only [semOf, semP, semF, semT, semM, List.map_cons, List.map_nil, List.cons_append, List.nil_append, List.append_nil, List.replicate_succ, List.replicate_zero, Nat.reduceSub, Nat.reduceAdd, Nat.sub_self, Nat.sub_zero, List.length_cons, List.length_nil, Nat.zero_add, dSeq, dSet, dSetF, dSetH, dSetFH, dRet, dRetN, dIf, dNext, dFor, dExt, dApp, dSub, dFrz, dDrop, dNever, dBrk, dCnt, dAsg, dAsgH, dPar, dcNil, dcD, dcF, storesD, dV, dC, d1, d2, dN, dNF, d2F, dCons, dNil, dTup, dLst, asL, asB, dtAnd, dtOr, dtNot, dYes, dAndV, dOrV, dNotV, dIte, dCh, dLc, dSeqI, dRg1, dRg2, dEnum, dZip, dgN, dgT, dgCons, dgNil, sgN, sgT, sgCons, sgNil, dSlT, dSlL, dSome, dNo, dRev, dIsi, dNP, dNew, dFld, dMe, dMeN, dNCat, dMemo, dRF, dRC, dPot, wipeE, vis, hid, noOw, isOw, List.all_cons, List.all_nil, Bool.not_false, Bool.not_true, Bool.and_true, Bool.true_and, Bool.or_true, Bool.true_or, Bool.false_or, Bool.or_false, List.getElem?_cons_zero, List.getElem?_cons_succ, List.set_cons_zero, List.set_cons_succ, List.length_map, e_le, e_lt, e_ge, e_gt, e_lenT, e_lenL, e_add, e_cat, e_sub, e_mul, e_div, e_mod, e_tupL, e_tupT, e_listL, e_listT, e_fcat, e_isN, e_eqi, e_eqs, fEq, fNe, fIn, fNotIn, decide_true, id_eq, e_all, e_any, e_ixT0, e_ixL0, e_ixT1, e_ixT2, e_max2, e_min2, e_abs, e_int, e_pow, true_and, and_true, forall_const]
      refine ⟨by omega, ?_⟩
      rw [← List.map_append]
      exact srt_P (by rw [List.length_append]; omega) h
end HM

/-! What the program's defs tell: shares, keys. -/
namespace HM
open PySem L2 TL
/-! ### one pair more, one pair less -/
theorem deg_perm {a b : List P2} (h : a.Perm b) (q : Nat) : deg a q = deg b q := by
  induction h with
  | nil => rfl
  | cons x _ ih => simp only [deg, ih]
  | swap x y l => simp only [deg]; omega
  | trans _ _ ih1 ih2 => rw [ih1, ih2]
theorem loose_perm {n : Nat} {met apart met' apart' : List P2} {p : P2} (hp : p ∈ looseP n met apart) (h : ∀ q, (q ∉ met' ∧ q ∉ apart') ↔ (q ∉ met ∧ q ∉ apart ∧ q ≠ p)) : (looseP n met apart).Perm (p :: looseP n met' apart') := by
  have n1 := rising_nodup (loose_w (n := n) met apart).1
  have n2 := rising_nodup (loose_w (n := n) met' apart').1
  rw [List.perm_ext_iff_of_nodup n1 (List.nodup_cons.mpr ⟨fun z => ((h p).mp (mem_loose.mp z).2).2.2 rfl, n2⟩)]
  intro q
  rw [List.mem_cons, mem_loose, mem_loose]
  constructor
  · rintro ⟨a, b, c⟩
    by_cases e : q = p
    · exact .inl e
    · exact .inr ⟨a, (h q).mpr ⟨b, c, e⟩⟩
  · rintro (e | ⟨a, b⟩)
    · rw [e]
      exact mem_loose.mp hp
    · obtain ⟨c, d, _⟩ := (h q).mp b
      exact ⟨a, c, d⟩
theorem many_split {cs : List Int} {met apart : List P2} {p : P2} (hp : p ∈ looseP cs.length met apart) : manyW cs (more met p) apart + manyW cs met (more apart p) = manyW cs met apart := by
  have h1 : ∀ q, (q ∉ more met p ∧ q ∉ apart) ↔ (q ∉ met ∧ q ∉ apart ∧ q ≠ p) := fun q => by rw [mem_more]; constructor <;> (intro h; simp_all)
  have h2 : ∀ q, (q ∉ met ∧ q ∉ more apart p) ↔ (q ∉ met ∧ q ∉ apart ∧ q ≠ p) := fun q => by rw [mem_more]; constructor <;> (intro h; simp_all)
  unfold manyW
  have e1 := cnt_perm (n := cs.length) (loose_perm hp h1) (lf (leftL cs met))
  have e2 := cnt_perm (n := cs.length) (loose_perm hp h2) (lf (leftL cs met))
  rw [cnt_cons] at e1 e2
  have pm : (looseP cs.length (more met p) apart).Perm (looseP cs.length met (more apart p)) := by
    rw [List.perm_ext_iff_of_nodup (rising_nodup (loose_w _ _).1) (rising_nodup (loose_w _ _).1)]
    intro q
    rw [mem_loose, mem_loose]
    exact and_congr Iff.rfl ((h1 q).trans (h2 q).symm)
  have e3 : cnt cs.length (looseP cs.length (more met p) apart) (lf (leftL cs (more met p))) = cnt cs.length (looseP cs.length (more met p) apart) (less (lf (leftL cs met)) p) := cnt_congr _ fun q hq => by
    rw [leftL_at cs (more met p) hq]
    unfold less more
    rw [leftL_at cs met hq, deg_perm (sortP_perm _) q, deg_append]
    simp only [deg, Nat.add_zero]
    by_cases a : p.1 = q <;> by_cases b : p.2 = q <;> simp [a, b] <;> omega
  rw [e3, e1, cnt_perm pm (lf (leftL cs met))]
/-! ### parts -/
theorem allP_28 {n : Nat} (h : n ≤ 8) : (allP n).length ≤ 28 := by
  have : ∀ k, k < 9 → (allP k).length ≤ 28 := by decide +kernel
  exact this n (by omega)
theorem many_small {cs : List Int} {met apart : List P2} (h : cs.length ≤ 8) : manyW cs met apart ≤ 2 ^ 28 := by
  unfold manyW cnt
  refine Nat.le_trans (List.length_filter_le _ _) ?_
  rw [subs_len]
  refine Nat.pow_le_pow_right (by decide) (Nat.le_trans ?_ (allP_28 h))
  exact List.length_filter_le _ _
def partF (a b : Nat) : Nat × Nat := (a / Nat.gcd a b, b / Nat.gcd a b)
abbrev fracD (x : Nat × Nat) : D := .tuple [nD x.1, nD x.2]
/-- part_of(above, below): names 0 above 1 below 2 shared -/
def d_part_of : DS := (dSeq (dSet 2 (dN fGcd (dCons (dV 0) (dCons (dV 1) dNil))))
  (dRet (dTup (dCons (d2 fDiv (dV 0) (dV 2)) (dCons (d2 fDiv (dV 1) (dV 2)) dNil)))))
def g_part_of : List D → (D → Prop) → Prop := fun ds P => ∃ a b : Nat, ds = [nD a, nD b] ∧ (0 < b ∧ b < 1073741824) ∧ P (fracD (partF a b))
theorem ok_part_of : ∀ ds P, g_part_of ds P → semOf 3 2 d_part_of ds P := by
  rintro ds P ⟨a, b, rfl, ⟨h1, h2⟩, h⟩
  refine ⟨rfl, ?_⟩
  have g0 : 0 < Nat.gcd a b := Nat.gcd_pos_of_pos_right a h1
  have g1 : Nat.gcd a b ≤ b := Nat.le_of_dvd h1 (Nat.gcd_dvd_right a b)
  simp only [semOf, semP, semF, semT, semM, List.map_cons, List.map_nil, List.cons_append, List.nil_append, List.append_nil, List.replicate_succ, List.replicate_zero, Nat.reduceSub, Nat.reduceAdd, Nat.sub_self, Nat.sub_zero, List.length_cons, List.length_nil, Nat.zero_add, dSeq, dSet, dSetF, dSetH, dSetFH, dRet, dRetN, dIf, dNext, dFor, dExt, dApp, dSub, dFrz, dDrop, dNever, dBrk, dCnt, dAsg, dAsgH, dPar, dcNil, dcD, dcF, storesD, dV, dC, d1, d2, dN, dNF, d2F, dCons, dNil, dTup, dLst, asL, asB, dtAnd, dtOr, dtNot, dYes, dAndV, dOrV, dNotV, dIte, dCh, dLc, dSeqI, dRg1, dRg2, dEnum, dZip, dgN, dgT, dgCons, dgNil, sgN, sgT, sgCons, sgNil, dSlT, dSlL, dSome, dNo, dRev, dIsi, dNP, dNew, dFld, dMe, dMeN, dNCat, dMemo, dRF, dRC, dPot, wipeE, vis, hid, noOw, isOw, List.all_cons, List.all_nil, Bool.not_false, Bool.not_true, Bool.and_true, Bool.true_and, Bool.or_true, Bool.true_or, Bool.false_or, Bool.or_false, List.getElem?_cons_zero, List.getElem?_cons_succ, List.set_cons_zero, List.set_cons_succ, List.length_map, e_le, e_lt, e_ge, e_gt, e_lenT, e_lenL, e_add, e_cat, e_sub, e_mul, e_div, e_mod, e_tupL, e_tupT, e_listL, e_listT, e_fcat, e_isN, e_eqi, e_eqs, fEq, fNe, fIn, fNotIn, decide_true, id_eq, e_all, e_any, e_ixT0, e_ixL0, e_ixT1, e_ixT2, e_max2, e_min2, e_abs, e_int, e_pow, true_and, and_true, forall_const, d_part_of]
  show (_ ∧ _)
  rw [show ((Nat.gcd (a : Int).natAbs (b : Int).natAbs : Nat) : Int) = (Nat.gcd a b : Nat) from rfl]
  refine ⟨⟨by omega, by omega⟩, ⟨by omega, by omega⟩, by decide, ?_⟩
  exact h
def shareF (cs : List Int) (met apart : List P2) (p : P2) (many : Nat) : Nat × Nat := if p ∈ met then (1, 1) else if p ∈ apart then (0, 1) else partF (manyW cs (more met p) apart) many
/-- share_of(counts, met, apart, pair, many): names 0 counts 1 met 2 apart 3 pair 4 many -/
def d_share_of : DS := (dSeq (dIf (dtOr (asB (d2 fIn (dV 3) (dV 1))) (asB (d2 fIn (dV 3) (dV 2)))) (dRet (dTup (dCons (dN fInt (dCons (d2 fIn (dV 3) (dV 1)) dNil)) (dCons (dC (.int 1)) dNil)))) dNext)
  (dRet (dN g_part_of (dCons (dN g_many_with (dCons (dV 0) (dCons (dN g_with_more (dCons (dV 1) (dCons (dV 3) dNil))) (dCons (dV 2) dNil)))) (dCons (dV 4) dNil)))))
def g_share_of : List D → (D → Prop) → Prop := fun ds P => ∃ (cs : List Int) (met apart : List P2) (p : P2) (many : Nat), ds = [isD cs, psD met, psD apart, pD p, nD many] ∧ T8 cs met apart ∧ okP cs.length p ∧ (0 < many ∧ many < 1073741824) ∧ P (fracD (shareF cs met apart p many))
theorem ok_share_of : ∀ ds P, g_share_of ds P → semOf 5 5 d_share_of ds P := by
  rintro ds P ⟨cs, met, apart, p, many, rfl, t, hp, hm, h⟩
  refine ⟨rfl, ?_⟩
  unfold shareF at h
  simp only [semOf, semP, semF, semT, semM, List.map_cons, List.map_nil, List.cons_append, List.nil_append, List.append_nil, List.replicate_succ, List.replicate_zero, Nat.reduceSub, Nat.reduceAdd, Nat.sub_self, Nat.sub_zero, List.length_cons, List.length_nil, Nat.zero_add, dSeq, dSet, dSetF, dSetH, dSetFH, dRet, dRetN, dIf, dNext, dFor, dExt, dApp, dSub, dFrz, dDrop, dNever, dBrk, dCnt, dAsg, dAsgH, dPar, dcNil, dcD, dcF, storesD, dV, dC, d1, d2, dN, dNF, d2F, dCons, dNil, dTup, dLst, asL, asB, dtAnd, dtOr, dtNot, dYes, dAndV, dOrV, dNotV, dIte, dCh, dLc, dSeqI, dRg1, dRg2, dEnum, dZip, dgN, dgT, dgCons, dgNil, sgN, sgT, sgCons, sgNil, dSlT, dSlL, dSome, dNo, dRev, dIsi, dNP, dNew, dFld, dMe, dMeN, dNCat, dMemo, dRF, dRC, dPot, wipeE, vis, hid, noOw, isOw, List.all_cons, List.all_nil, Bool.not_false, Bool.not_true, Bool.and_true, Bool.true_and, Bool.or_true, Bool.true_or, Bool.false_or, Bool.or_false, List.getElem?_cons_zero, List.getElem?_cons_succ, List.set_cons_zero, List.set_cons_succ, List.length_map, e_le, e_lt, e_ge, e_gt, e_lenT, e_lenL, e_add, e_cat, e_sub, e_mul, e_div, e_mod, e_tupL, e_tupT, e_listL, e_listT, e_fcat, e_isN, e_eqi, e_eqs, fEq, fNe, fIn, fNotIn, decide_true, id_eq, e_all, e_any, e_ixT0, e_ixL0, e_ixT1, e_ixT2, e_max2, e_min2, e_abs, e_int, e_pow, true_and, and_true, forall_const, d_share_of, e_inP]
  by_cases k : p ∈ met
  · rw [if_pos k] at h
    rw [decide_eq_true k]
    exact ⟨by decide, h⟩
  · rw [if_neg k] at h
    rw [decide_eq_false k]
    by_cases k2 : p ∈ apart
    · rw [if_pos k2] at h
      rw [decide_eq_true k2]
      exact ⟨by decide, h⟩
    · rw [if_neg k2] at h
      rw [decide_eq_false k2]
      have hl : p ∈ looseP cs.length met apart := mem_loose.mpr ⟨hp, k, k2⟩
      exact ⟨met, p, rfl, t.t.m.2.2, cs, more met p, apart, rfl, t.met hl, _, many, rfl, hm, h⟩
/-- counted(counts, met, apart): names 0 counts 1 met 2 apart 3 found -/
def d_counted : DS := (dSeq (dSet 3 (dN g_many_with (dCons (dV 0) (dCons (dV 1) (dCons (dV 2) dNil)))))
  (dSeq (dIf (asB (d2 fEq (dV 3) (dC (.int 0)))) dNever dNext)
  (dRet (dV 3))))
def g_counted : List D → (D → Prop) → Prop := fun ds P => ∃ cs met apart, ds = [isD cs, psD met, psD apart] ∧ T8 cs met apart ∧ manyW cs met apart ≠ 0 ∧ P (nD (manyW cs met apart))
theorem ok_counted : ∀ ds P, g_counted ds P → semOf 4 3 d_counted ds P := by
  rintro ds P ⟨cs, met, apart, rfl, t, h0, h⟩
  refine ⟨rfl, ?_⟩
  simp only [semOf, semP, semF, semT, semM, List.map_cons, List.map_nil, List.cons_append, List.nil_append, List.append_nil, List.replicate_succ, List.replicate_zero, Nat.reduceSub, Nat.reduceAdd, Nat.sub_self, Nat.sub_zero, List.length_cons, List.length_nil, Nat.zero_add, dSeq, dSet, dSetF, dSetH, dSetFH, dRet, dRetN, dIf, dNext, dFor, dExt, dApp, dSub, dFrz, dDrop, dNever, dBrk, dCnt, dAsg, dAsgH, dPar, dcNil, dcD, dcF, storesD, dV, dC, d1, d2, dN, dNF, d2F, dCons, dNil, dTup, dLst, asL, asB, dtAnd, dtOr, dtNot, dYes, dAndV, dOrV, dNotV, dIte, dCh, dLc, dSeqI, dRg1, dRg2, dEnum, dZip, dgN, dgT, dgCons, dgNil, sgN, sgT, sgCons, sgNil, dSlT, dSlL, dSome, dNo, dRev, dIsi, dNP, dNew, dFld, dMe, dMeN, dNCat, dMemo, dRF, dRC, dPot, wipeE, vis, hid, noOw, isOw, List.all_cons, List.all_nil, Bool.not_false, Bool.not_true, Bool.and_true, Bool.true_and, Bool.or_true, Bool.true_or, Bool.false_or, Bool.or_false, List.getElem?_cons_zero, List.getElem?_cons_succ, List.set_cons_zero, List.set_cons_succ, List.length_map, e_le, e_lt, e_ge, e_gt, e_lenT, e_lenL, e_add, e_cat, e_sub, e_mul, e_div, e_mod, e_tupL, e_tupT, e_listL, e_listT, e_fcat, e_isN, e_eqi, e_eqs, fEq, fNe, fIn, fNotIn, decide_true, id_eq, e_all, e_any, e_ixT0, e_ixL0, e_ixT1, e_ixT2, e_max2, e_min2, e_abs, e_int, e_pow, true_and, and_true, forall_const, d_counted]
  refine ⟨cs, met, apart, rfl, t, ?_⟩
  show fEqG id (.int (manyW cs met apart : Int)) (.int 0) _
  rw [e_eqi, nD_zero, decide_eq_false h0]
  exact h
/-- share(counts, met, apart, pair): names 0 counts 1 met 2 apart 3 pair -/
def d_share : DS := (dSeq (dDrop (dN g_want_told (dCons (dV 0) (dCons (dV 1) (dCons (dV 2) dNil)))))
  (dSeq (dDrop (dN g_want_pair (dCons (dN fLen (dCons (dV 0) dNil)) (dCons (dV 3) dNil))))
  (dSeq (dDrop (dN g_want_few (dCons (dV 0) dNil)))
  (dRet (dN g_share_of (dCons (dV 0) (dCons (dV 1) (dCons (dV 2) (dCons (dV 3) (dCons (dN g_counted (dCons (dV 0) (dCons (dV 1) (dCons (dV 2) dNil)))) dNil))))))))))
def g_share : List D → (D → Prop) → Prop := fun ds P => ∃ (cs : List Int) (met apart : List P2) (p : P2), ds = [isD cs, psD met, psD apart, pD p] ∧ T8 cs met apart ∧ okP cs.length p ∧ manyW cs met apart ≠ 0 ∧ P (fracD (shareF cs met apart p (manyW cs met apart)))
theorem ok_share : ∀ ds P, g_share ds P → semOf 4 4 d_share ds P := by
  rintro ds P ⟨cs, met, apart, p, rfl, t, hp, h0, h⟩
  refine ⟨rfl, ?_⟩
  simp only [semOf, semP, semF, semT, semM, List.map_cons, List.map_nil, List.cons_append, List.nil_append, List.append_nil, List.replicate_succ, List.replicate_zero, Nat.reduceSub, Nat.reduceAdd, Nat.sub_self, Nat.sub_zero, List.length_cons, List.length_nil, Nat.zero_add, dSeq, dSet, dSetF, dSetH, dSetFH, dRet, dRetN, dIf, dNext, dFor, dExt, dApp, dSub, dFrz, dDrop, dNever, dBrk, dCnt, dAsg, dAsgH, dPar, dcNil, dcD, dcF, storesD, dV, dC, d1, d2, dN, dNF, d2F, dCons, dNil, dTup, dLst, asL, asB, dtAnd, dtOr, dtNot, dYes, dAndV, dOrV, dNotV, dIte, dCh, dLc, dSeqI, dRg1, dRg2, dEnum, dZip, dgN, dgT, dgCons, dgNil, sgN, sgT, sgCons, sgNil, dSlT, dSlL, dSome, dNo, dRev, dIsi, dNP, dNew, dFld, dMe, dMeN, dNCat, dMemo, dRF, dRC, dPot, wipeE, vis, hid, noOw, isOw, List.all_cons, List.all_nil, Bool.not_false, Bool.not_true, Bool.and_true, Bool.true_and, Bool.or_true, Bool.true_or, Bool.false_or, Bool.or_false, List.getElem?_cons_zero, List.getElem?_cons_succ, List.set_cons_zero, List.set_cons_succ, List.length_map, e_le, e_lt, e_ge, e_gt, e_lenT, e_lenL, e_add, e_cat, e_sub, e_mul, e_div, e_mod, e_tupL, e_tupT, e_listL, e_listT, e_fcat, e_isN, e_eqi, e_eqs, fEq, fNe, fIn, fNotIn, decide_true, id_eq, e_all, e_any, e_ixT0, e_ixL0, e_ixT1, e_ixT2, e_max2, e_min2, e_abs, e_int, e_pow, true_and, and_true, forall_const, d_share]
  have := many_small (met := met) (apart := apart) t.few
  exact ⟨cs, met, apart, rfl, t.t, cs.length, p, rfl, hp, cs, rfl, t.few, cs, met, apart, rfl, t, h0, cs, met, apart, p, _, rfl, t, hp, ⟨by omega, by omega⟩, h⟩
/-- how many webs a told pair leaves at the worst -/
def worstF (cs : List Int) (met apart : List P2) (p : P2) : Int := if (manyW cs met apart : Int) - (manyW cs (more met p) apart : Int) > (manyW cs (more met p) apart : Int) then (manyW cs met apart : Int) - (manyW cs (more met p) apart : Int) else (manyW cs (more met p) apart : Int)
def bestF (cs : List Int) (met apart : List P2) : List P2 := if manyW cs met apart = 1 then [] else
  match (looseP cs.length met apart).map fun p => (worstF cs met apart p, p) with
  | [] => []
  | x :: xs => ((x :: xs).filter fun y => decide (y.1 = (PySem.W.minOf x xs).1)).map (·.2)
theorem e_minT {x : Int × P2} {l : List (Int × P2)} {P : D → Prop} : fMin [.list ((x :: l).map PySem.W.Datum.toD)] P = P (PySem.W.Datum.toD (PySem.W.minOf x l)) := by
  show ((PySem.W.AlikeAll _ ∧ minOk _ = true) ∧ P _) = _
  have a : PySem.W.AlikeAll ((x :: l).map PySem.W.Datum.toD) := PySem.W.alikeAll_datum (x :: l)
  have b : minOk ((x :: l).map PySem.W.Datum.toD) = true := by
    show (PyData.plainAll ((x :: l).map PySem.W.Datum.toD) && decide (PyData.depthAll ((x :: l).map PySem.W.Datum.toD) ≤ 60)) = true
    rw [PySem.W.plainAll_map, decide_eq_true (show PyData.depthAll ((x :: l).map PySem.W.Datum.toD) ≤ 60 from Nat.le_trans (PySem.W.depthAll_map (x :: l)) (by decide))]
    rfl
  rw [show PySem.W.minD (PySem.W.Datum.toD x) (l.map PySem.W.Datum.toD) = PySem.W.Datum.toD (PySem.W.minOf x l) from PySem.W.minD_map x l]
  exact propext ⟨fun z => z.2, fun z => ⟨⟨a, b⟩, z⟩⟩
abbrev wD (x : Int × P2) : D := .tuple [.int x.1, pD x.2]
theorem immAll_w : ∀ l : List (Int × P2), immAll (l.map wD) = true
  | [] => rfl
  | x :: l => by
    rw [List.map_cons]
    show (imm (wD x) && immAll (l.map wD)) = true
    rw [immAll_w l]
    rfl
/-- best_asks(counts, met, apart): names 0 counts 1 met 2 apart 3 many 4 worst 5 pair 6 some 7 left -/
def d_best_asks : DS := (dSeq (dDrop (dN g_want_told (dCons (dV 0) (dCons (dV 1) (dCons (dV 2) dNil)))))
  (dSeq (dDrop (dN g_want_few (dCons (dV 0) dNil)))
  (dSeq (dSet 3 (dN g_counted (dCons (dV 0) (dCons (dV 1) (dCons (dV 2) dNil)))))
  (dSeq (dSetF 4 (dLst dNil))
  (dSeq (dFor (dSeqI (dN g_all_pairs (dCons (dN fLen (dCons (dV 0) dNil)) dNil))) (sgN 5) (dIf (dtAnd (asB (d2 fNotIn (dV 5) (dV 1))) (asB (d2 fNotIn (dV 5) (dV 2)))) (dSeq (dSet 6 (dN g_many_with (dCons (dV 0) (dCons (dN g_with_more (dCons (dV 1) (dCons (dV 5) dNil))) (dCons (dV 2) dNil)))))
  (dApp 4 (dTup (dCons (dN fMax2 (dCons (dV 6) (dCons (d2 fSub (dV 3) (dV 6)) dNil))) (dCons (dV 5) dNil))))) dNext))
  (dSeq (dIf (asB (d2 fEq (dV 3) (dC (.int 1)))) (dRet (dTup dNil)) dNext)
  (dRet (dN fTuple (dCons (asL (dLc (dSeqI (dV 4)) (dgT 2 (dgCons (dgN 7) (dgCons (dgN 5) dgNil))) (asB (d2 fEq (dV 7) (d2 fIx (dN fMin (dCons (dV 4) dNil)) (dC (.int 0))))) (dV 5) [7, 5])) dNil)))))))))
def g_best_asks : List D → (D → Prop) → Prop := fun ds P => ∃ cs met apart, ds = [isD cs, psD met, psD apart] ∧ T8 cs met apart ∧ manyW cs met apart ≠ 0 ∧ P (psD (bestF cs met apart))
theorem ok_best_asks : ∀ ds P, g_best_asks ds P → semOf 8 3 d_best_asks ds P := by
  rintro ds P ⟨cs, met, apart, rfl, t, h0, h⟩
  refine ⟨rfl, ?_⟩
  have hf := t.few
  simp only [semOf, semP, semF, semT, semM, List.map_cons, List.map_nil, List.cons_append, List.nil_append, List.append_nil, List.replicate_succ, List.replicate_zero, Nat.reduceSub, Nat.reduceAdd, Nat.sub_self, Nat.sub_zero, List.length_cons, List.length_nil, Nat.zero_add, dSeq, dSet, dSetF, dSetH, dSetFH, dRet, dRetN, dIf, dNext, dFor, dExt, dApp, dSub, dFrz, dDrop, dNever, dBrk, dCnt, dAsg, dAsgH, dPar, dcNil, dcD, dcF, storesD, dV, dC, d1, d2, dN, dNF, d2F, dCons, dNil, dTup, dLst, asL, asB, dtAnd, dtOr, dtNot, dYes, dAndV, dOrV, dNotV, dIte, dCh, dLc, dSeqI, dRg1, dRg2, dEnum, dZip, dgN, dgT, dgCons, dgNil, sgN, sgT, sgCons, sgNil, dSlT, dSlL, dSome, dNo, dRev, dIsi, dNP, dNew, dFld, dMe, dMeN, dNCat, dMemo, dRF, dRC, dPot, wipeE, vis, hid, noOw, isOw, List.all_cons, List.all_nil, Bool.not_false, Bool.not_true, Bool.and_true, Bool.true_and, Bool.or_true, Bool.true_or, Bool.false_or, Bool.or_false, List.getElem?_cons_zero, List.getElem?_cons_succ, List.set_cons_zero, List.set_cons_succ, List.length_map, e_le, e_lt, e_ge, e_gt, e_lenT, e_lenL, e_add, e_cat, e_sub, e_mul, e_div, e_mod, e_tupL, e_tupT, e_listL, e_listT, e_fcat, e_isN, e_eqi, e_eqs, fEq, fNe, fIn, fNotIn, decide_true, id_eq, e_all, e_any, e_ixT0, e_ixL0, e_ixT1, e_ixT2, e_max2, e_min2, e_abs, e_int, e_pow, true_and, and_true, forall_const, d_best_asks]
  refine ⟨cs, met, apart, rfl, t.t, cs, rfl, hf, cs, met, apart, rfl, t, h0, ?_⟩
  refine ⟨by decide, by decide, cs.length, rfl, by omega, ?_⟩
  have al : (allP cs.length).length ≤ 28 := allP_28 hf
  refine for_go (allP cs.length) (fun done ρ => ∃ s5 s6 s7, ρ = [.d (isD cs), .d (psD met), .d (psD apart), .d (nD (manyW cs met apart)), .ow (((done.filter fun p => !decide (p ∈ met) && !decide (p ∈ apart)).map fun p => (worstF cs met apart p, p)).map wD), s5, s6, s7]) ?step ?fin [] (allP cs.length) _ rfl ⟨.no, .no, .no, rfl⟩
  case step =>
    rintro done p rest ρ e ⟨s5, s6, s7, rfl⟩ E' h1 h2 h3 h4
    have hp : okP cs.length p := mem_allP.mp (by rw [e]; exact List.mem_append_right _ (List.mem_cons_self ..))
    have dl : (done.filter fun p => !decide (p ∈ met) && !decide (p ∈ apart)).length ≤ 28 := by
      have := congrArg List.length e
      rw [List.length_append] at this
      have := List.length_filter_le (fun p => !decide (p ∈ met) && !decide (p ∈ apart)) done
      omega
    simp only [semOf, semP, semF, semT, semM, List.map_cons, List.map_nil, List.cons_append, List.nil_append, List.append_nil, List.replicate_succ, List.replicate_zero, Nat.reduceSub, Nat.reduceAdd, Nat.sub_self, Nat.sub_zero, List.length_cons, List.length_nil, Nat.zero_add, dSeq, dSet, dSetF, dSetH, dSetFH, dRet, dRetN, dIf, dNext, dFor, dExt, dApp, dSub, dFrz, dDrop, dNever, dBrk, dCnt, dAsg, dAsgH, dPar, dcNil, dcD, dcF, storesD, dV, dC, d1, d2, dN, dNF, d2F, dCons, dNil, dTup, dLst, asL, asB, dtAnd, dtOr, dtNot, dYes, dAndV, dOrV, dNotV, dIte, dCh, dLc, dSeqI, dRg1, dRg2, dEnum, dZip, dgN, dgT, dgCons, dgNil, sgN, sgT, sgCons, sgNil, dSlT, dSlL, dSome, dNo, dRev, dIsi, dNP, dNew, dFld, dMe, dMeN, dNCat, dMemo, dRF, dRC, dPot, wipeE, vis, hid, noOw, isOw, List.all_cons, List.all_nil, Bool.not_false, Bool.not_true, Bool.and_true, Bool.true_and, Bool.or_true, Bool.true_or, Bool.false_or, Bool.or_false, List.getElem?_cons_zero, List.getElem?_cons_succ, List.set_cons_zero, List.set_cons_succ, List.length_map, e_le, e_lt, e_ge, e_gt, e_lenT, e_lenL, e_add, e_cat, e_sub, e_mul, e_div, e_mod, e_tupL, e_tupT, e_listL, e_listT, e_fcat, e_isN, e_eqi, e_eqs, fEq, fNe, fIn, fNotIn, decide_true, id_eq, e_all, e_any, e_ixT0, e_ixL0, e_ixT1, e_ixT2, e_max2, e_min2, e_abs, e_int, e_pow, true_and, and_true, forall_const, e_inP]
    by_cases k : p ∈ met
    · rw [decide_eq_true k]
      refine h1 _ ⟨.d (pD p), s6, s7, ?_⟩
      rw [List.filter_append, List.filter_cons_of_neg (by simp [k]), List.filter_nil, List.append_nil]
    · rw [decide_eq_false k]
      by_cases k2 : p ∈ apart
      · rw [decide_eq_true k2]
        refine h1 _ ⟨.d (pD p), s6, s7, ?_⟩
        rw [List.filter_append, List.filter_cons_of_neg (by simp [k2]), List.filter_nil, List.append_nil]
      · rw [decide_eq_false k2]
        have hl : p ∈ looseP cs.length met apart := mem_loose.mpr ⟨hp, k, k2⟩
        refine ⟨met, p, rfl, t.t.m.2.2, cs, more met p, apart, rfl, t.met hl, by simp [imm], ?_⟩
        simp only [semOf, semP, semF, semT, semM, List.map_cons, List.map_nil, List.cons_append, List.nil_append, List.append_nil, List.replicate_succ, List.replicate_zero, Nat.reduceSub, Nat.reduceAdd, Nat.sub_self, Nat.sub_zero, List.length_cons, List.length_nil, Nat.zero_add, dSeq, dSet, dSetF, dSetH, dSetFH, dRet, dRetN, dIf, dNext, dFor, dExt, dApp, dSub, dFrz, dDrop, dNever, dBrk, dCnt, dAsg, dAsgH, dPar, dcNil, dcD, dcF, storesD, dV, dC, d1, d2, dN, dNF, d2F, dCons, dNil, dTup, dLst, asL, asB, dtAnd, dtOr, dtNot, dYes, dAndV, dOrV, dNotV, dIte, dCh, dLc, dSeqI, dRg1, dRg2, dEnum, dZip, dgN, dgT, dgCons, dgNil, sgN, sgT, sgCons, sgNil, dSlT, dSlL, dSome, dNo, dRev, dIsi, dNP, dNew, dFld, dMe, dMeN, dNCat, dMemo, dRF, dRC, dPot, wipeE, vis, hid, noOw, isOw, List.all_cons, List.all_nil, Bool.not_false, Bool.not_true, Bool.and_true, Bool.true_and, Bool.or_true, Bool.true_or, Bool.false_or, Bool.or_false, List.getElem?_cons_zero, List.getElem?_cons_succ, List.set_cons_zero, List.set_cons_succ, List.length_map, e_le, e_lt, e_ge, e_gt, e_lenT, e_lenL, e_add, e_cat, e_sub, e_mul, e_div, e_mod, e_tupL, e_tupT, e_listL, e_listT, e_fcat, e_isN, e_eqi, e_eqs, fEq, fNe, fIn, fNotIn, decide_true, id_eq, e_all, e_any, e_ixT0, e_ixL0, e_ixT1, e_ixT2, e_max2, e_min2, e_abs, e_int, e_pow, true_and, and_true, forall_const]
        refine ⟨by omega, by decide, ?_⟩
        refine ⟨rfl, h1 _ ⟨.d (pD p), .d (nD (manyW cs (more met p) apart)), s7, ?_⟩⟩
        · rw [List.filter_append, List.filter_cons_of_pos (by simp [k, k2]), List.filter_nil, List.map_append, List.map_append]
          rfl
  case fin =>
    rintro ρ ⟨s5, s6, s7, rfl⟩
    simp only [semOf, semP, semF, semT, semM, List.map_cons, List.map_nil, List.cons_append, List.nil_append, List.append_nil, List.replicate_succ, List.replicate_zero, Nat.reduceSub, Nat.reduceAdd, Nat.sub_self, Nat.sub_zero, List.length_cons, List.length_nil, Nat.zero_add, dSeq, dSet, dSetF, dSetH, dSetFH, dRet, dRetN, dIf, dNext, dFor, dExt, dApp, dSub, dFrz, dDrop, dNever, dBrk, dCnt, dAsg, dAsgH, dPar, dcNil, dcD, dcF, storesD, dV, dC, d1, d2, dN, dNF, d2F, dCons, dNil, dTup, dLst, asL, asB, dtAnd, dtOr, dtNot, dYes, dAndV, dOrV, dNotV, dIte, dCh, dLc, dSeqI, dRg1, dRg2, dEnum, dZip, dgN, dgT, dgCons, dgNil, sgN, sgT, sgCons, sgNil, dSlT, dSlL, dSome, dNo, dRev, dIsi, dNP, dNew, dFld, dMe, dMeN, dNCat, dMemo, dRF, dRC, dPot, wipeE, vis, hid, noOw, isOw, List.all_cons, List.all_nil, Bool.not_false, Bool.not_true, Bool.and_true, Bool.true_and, Bool.or_true, Bool.true_or, Bool.false_or, Bool.or_false, List.getElem?_cons_zero, List.getElem?_cons_succ, List.set_cons_zero, List.set_cons_succ, List.length_map, e_le, e_lt, e_ge, e_gt, e_lenT, e_lenL, e_add, e_cat, e_sub, e_mul, e_div, e_mod, e_tupL, e_tupT, e_listL, e_listT, e_fcat, e_isN, e_eqi, e_eqs, fEq, fNe, fIn, fNotIn, decide_true, id_eq, e_all, e_any, e_ixT0, e_ixL0, e_ixT1, e_ixT2, e_max2, e_min2, e_abs, e_int, e_pow, true_and, and_true, forall_const]
    rw [show decide ((manyW cs met apart : Int) = 1) = decide (manyW cs met apart = 1) from decide_eq_decide.mpr (by omega)]
    unfold bestF at h
    by_cases k : manyW cs met apart = 1
    · rw [if_pos k] at h
      rw [decide_eq_true k]
      exact ⟨by decide, h⟩
    · rw [if_neg k] at h
      rw [decide_eq_false k]
      have wl : ((looseP cs.length met apart).map fun p => (worstF cs met apart p, p)).length ≤ 100 := by rw [List.length_map]; exact loose_len (by omega) met apart
      rw [show ((allP cs.length).filter fun p => !decide (p ∈ met) && !decide (p ∈ apart)) = looseP cs.length met apart from rfl]
      have ll : (looseP cs.length met apart).length ≤ 100000 := Nat.le_trans (loose_len (n := cs.length) (by omega) met apart) (by decide)
      generalize ((looseP cs.length met apart).map fun p => (worstF cs met apart p, p)) = ws at h wl
      cases ws with
      | nil => exact ⟨ll, h⟩
      | cons x xs =>
        refine ⟨ll, lc_filter (fun y => decide (y.1 = (PySem.W.minOf x xs).1)) (x :: xs) (h := fun y => pD y.2) (fun y hy R h1 h2 => ?_) ?_⟩
        · simp only [semOf, semP, semF, semT, semM, List.map_cons, List.map_nil, List.cons_append, List.nil_append, List.append_nil, List.replicate_succ, List.replicate_zero, Nat.reduceSub, Nat.reduceAdd, Nat.sub_self, Nat.sub_zero, List.length_cons, List.length_nil, Nat.zero_add, dSeq, dSet, dSetF, dSetH, dSetFH, dRet, dRetN, dIf, dNext, dFor, dExt, dApp, dSub, dFrz, dDrop, dNever, dBrk, dCnt, dAsg, dAsgH, dPar, dcNil, dcD, dcF, storesD, dV, dC, d1, d2, dN, dNF, d2F, dCons, dNil, dTup, dLst, asL, asB, dtAnd, dtOr, dtNot, dYes, dAndV, dOrV, dNotV, dIte, dCh, dLc, dSeqI, dRg1, dRg2, dEnum, dZip, dgN, dgT, dgCons, dgNil, sgN, sgT, sgCons, sgNil, dSlT, dSlL, dSome, dNo, dRev, dIsi, dNP, dNew, dFld, dMe, dMeN, dNCat, dMemo, dRF, dRC, dPot, wipeE, vis, hid, noOw, isOw, List.all_cons, List.all_nil, Bool.not_false, Bool.not_true, Bool.and_true, Bool.true_and, Bool.or_true, Bool.true_or, Bool.false_or, Bool.or_false, List.getElem?_cons_zero, List.getElem?_cons_succ, List.set_cons_zero, List.set_cons_succ, List.length_map, e_le, e_lt, e_ge, e_gt, e_lenT, e_lenL, e_add, e_cat, e_sub, e_mul, e_div, e_mod, e_tupL, e_tupT, e_listL, e_listT, e_fcat, e_isN, e_eqi, e_eqs, fEq, fNe, fIn, fNotIn, decide_true, id_eq, e_all, e_any, e_ixT0, e_ixL0, e_ixT1, e_ixT2, e_max2, e_min2, e_abs, e_int, e_pow, true_and, and_true, forall_const, lcTurn]
          show fMin [.list ((x :: xs).map PySem.W.Datum.toD)] _
          rw [e_minT]
          show fIx (.tuple [.int (PySem.W.minOf x xs).1, pD (PySem.W.minOf x xs).2]) (.int 0) _
          simp only [semOf, semP, semF, semT, semM, List.map_cons, List.map_nil, List.cons_append, List.nil_append, List.append_nil, List.replicate_succ, List.replicate_zero, Nat.reduceSub, Nat.reduceAdd, Nat.sub_self, Nat.sub_zero, List.length_cons, List.length_nil, Nat.zero_add, dSeq, dSet, dSetF, dSetH, dSetFH, dRet, dRetN, dIf, dNext, dFor, dExt, dApp, dSub, dFrz, dDrop, dNever, dBrk, dCnt, dAsg, dAsgH, dPar, dcNil, dcD, dcF, storesD, dV, dC, d1, d2, dN, dNF, d2F, dCons, dNil, dTup, dLst, asL, asB, dtAnd, dtOr, dtNot, dYes, dAndV, dOrV, dNotV, dIte, dCh, dLc, dSeqI, dRg1, dRg2, dEnum, dZip, dgN, dgT, dgCons, dgNil, sgN, sgT, sgCons, sgNil, dSlT, dSlL, dSome, dNo, dRev, dIsi, dNP, dNew, dFld, dMe, dMeN, dNCat, dMemo, dRF, dRC, dPot, wipeE, vis, hid, noOw, isOw, List.all_cons, List.all_nil, Bool.not_false, Bool.not_true, Bool.and_true, Bool.true_and, Bool.or_true, Bool.true_or, Bool.false_or, Bool.or_false, List.getElem?_cons_zero, List.getElem?_cons_succ, List.set_cons_zero, List.set_cons_succ, List.length_map, e_le, e_lt, e_ge, e_gt, e_lenT, e_lenL, e_add, e_cat, e_sub, e_mul, e_div, e_mod, e_tupL, e_tupT, e_listL, e_listT, e_fcat, e_isN, e_eqi, e_eqs, fEq, fNe, fIn, fNotIn, decide_true, id_eq, e_all, e_any, e_ixT0, e_ixL0, e_ixT1, e_ixT2, e_max2, e_min2, e_abs, e_int, e_pow, true_and, and_true, forall_const]
          cases k : decide (y.1 = (PySem.W.minOf x xs).1) with
          | true => exact h1 k
          | false => exact h2 k
        · rw [show (((x :: xs).filter fun y => decide (y.1 = (PySem.W.minOf x xs).1)).map fun y => pD y.2) = (((x :: xs).filter fun y => decide (y.1 = (PySem.W.minOf x xs).1)).map (·.2)).map pD by rw [List.map_map]; rfl]
          exact h
end HM

/-! What the program's defs tell: keys; the law's own draws. -/
namespace HM
open PySem L2 TL
/-! ### counts of a web -/
theorem deg_le {l : List P2} (h : ∀ p, p ∈ l → p.1 < p.2) (q : Nat) : deg l q ≤ l.length := by
  induction l with
  | nil => exact Nat.le_refl _
  | cons p l ih =>
    have := ih fun x hx => h x (List.mem_cons_of_mem _ hx)
    have hp := h p (List.mem_cons_self ..)
    rw [deg, List.length_cons]
    by_cases a : p.1 = q
    · have b : ¬ p.2 = q := by omega
      simp [a, b]
      omega
    · by_cases b : p.2 = q <;> simp [a, b] <;> omega
/-- a web of at most eight persons -/
structure Web8 (n : Nat) (l : List P2) : Prop where
  lo : 1 ≤ n
  hi : n ≤ 8
  ok : ∀ p, p ∈ l → okP n p
  up : rising l
theorem Web8.len {n : Nat} {l : List P2} (w : Web8 n l) : l.length ≤ 28 := by
  have := nodup_few (rising_nodup w.up) (s := allP n) fun x hx => mem_allP.mpr (w.ok x hx)
  exact Nat.le_trans this (allP_28 w.hi)
theorem Web8.ps {n : Nat} {l : List P2} (w : Web8 n l) : okPs n l := ⟨w.ok, w.up, by have := w.len; omega⟩
theorem Web8.c {n : Nat} {l : List P2} (w : Web8 n l) : okC (degL n l) := by
  have lo := w.lo
  have hi := w.hi
  refine ⟨by rw [degL_len]; exact lo, by rw [degL_len]; omega, fun x hx => ?_⟩
  unfold degL at hx
  obtain ⟨q, _, rfl⟩ := List.mem_map.mp hx
  have := deg_le (fun p hp => (w.ok p hp).1) q
  have := w.len
  omega
def inW (l pairs : List P2) : List P2 := pairs.filter fun p => decide (p ∈ l)
def outW (l pairs : List P2) : List P2 := pairs.filter fun p => !decide (p ∈ l)
theorem okPs_filter {n : Nat} {l : List P2} (h : okPs n l) (q : P2 → Bool) : okPs n (l.filter q) :=
  ⟨fun p hp => h.1 p (List.mem_filter.mp hp).1, rising_filter h.2.1 q, Nat.le_trans (List.length_filter_le _ _) h.2.2⟩
theorem Web8.t8 {n : Nat} {l pairs : List P2} (w : Web8 n l) (h : okPs n pairs) : T8 (degL n l) (inW l pairs) (outW l pairs) :=
  ⟨⟨w.c, by rw [degL_len]; exact okPs_filter h _, by rw [degL_len]; exact okPs_filter h _, fun p hp hm => by
    have h1 := (List.mem_filter.mp hp).2
    have h2 := (List.mem_filter.mp hm).2
    simp at h1 h2
    exact h1 h2⟩, by rw [degL_len]; exact w.hi⟩
/-- as_told(web, pairs): names 0 web 1 pairs 2 met 3 pair -/
def d_as_told : DS := (dSeq (dSet 2 (dN fTuple (dCons (asL (dLc (dSeqI (dV 1)) (dgN 3) (asB (d2 fIn (dV 3) (d2 fIx (dV 0) (dC (.int 2))))) (dV 3) [3])) dNil)))
  (dRet (dTup (dCons (dV 2) (dCons (dN fTuple (dCons (asL (dLc (dSeqI (dV 1)) (dgN 3) (asB (d2 fNotIn (dV 3) (d2 fIx (dV 0) (dC (.int 2))))) (dV 3) [3])) dNil)) dNil)))))
def g_as_told : List D → (D → Prop) → Prop := fun ds P => ∃ (n : Nat) (l pairs : List P2), ds = [webD n l, psD pairs] ∧ pairs.length ≤ 1000 ∧ P (.tuple [psD (inW l pairs), psD (outW l pairs)])
theorem ok_as_told : ∀ ds P, g_as_told ds P → semOf 4 2 d_as_told ds P := by
  rintro ds P ⟨n, l, pairs, rfl, hl, h⟩
  refine ⟨rfl, ?_⟩
  simp only [semOf, semP, semF, semT, semM, List.map_cons, List.map_nil, List.cons_append, List.nil_append, List.append_nil, List.replicate_succ, List.replicate_zero, Nat.reduceSub, Nat.reduceAdd, Nat.sub_self, Nat.sub_zero, List.length_cons, List.length_nil, Nat.zero_add, dSeq, dSet, dSetF, dSetH, dSetFH, dRet, dRetN, dIf, dNext, dFor, dExt, dApp, dSub, dFrz, dDrop, dNever, dBrk, dCnt, dAsg, dAsgH, dPar, dcNil, dcD, dcF, storesD, dV, dC, d1, d2, dN, dNF, d2F, dCons, dNil, dTup, dLst, asL, asB, dtAnd, dtOr, dtNot, dYes, dAndV, dOrV, dNotV, dIte, dCh, dLc, dSeqI, dRg1, dRg2, dEnum, dZip, dgN, dgT, dgCons, dgNil, sgN, sgT, sgCons, sgNil, dSlT, dSlL, dSome, dNo, dRev, dIsi, dNP, dNew, dFld, dMe, dMeN, dNCat, dMemo, dRF, dRC, dPot, wipeE, vis, hid, noOw, isOw, List.all_cons, List.all_nil, Bool.not_false, Bool.not_true, Bool.and_true, Bool.true_and, Bool.or_true, Bool.true_or, Bool.false_or, Bool.or_false, List.getElem?_cons_zero, List.getElem?_cons_succ, List.set_cons_zero, List.set_cons_succ, List.length_map, e_le, e_lt, e_ge, e_gt, e_lenT, e_lenL, e_add, e_cat, e_sub, e_mul, e_div, e_mod, e_tupL, e_tupT, e_listL, e_listT, e_fcat, e_isN, e_eqi, e_eqs, fEq, fNe, fIn, fNotIn, decide_true, id_eq, e_all, e_any, e_ixT0, e_ixL0, e_ixT1, e_ixT2, e_max2, e_min2, e_abs, e_int, e_pow, true_and, and_true, forall_const, d_as_told]
  refine ⟨by omega, lc_filter (fun p => decide (p ∈ l)) pairs (h := pD) (fun p hp R h1 h2 => ?_) ?_⟩
  · simp only [semOf, semP, semF, semT, semM, List.map_cons, List.map_nil, List.cons_append, List.nil_append, List.append_nil, List.replicate_succ, List.replicate_zero, Nat.reduceSub, Nat.reduceAdd, Nat.sub_self, Nat.sub_zero, List.length_cons, List.length_nil, Nat.zero_add, dSeq, dSet, dSetF, dSetH, dSetFH, dRet, dRetN, dIf, dNext, dFor, dExt, dApp, dSub, dFrz, dDrop, dNever, dBrk, dCnt, dAsg, dAsgH, dPar, dcNil, dcD, dcF, storesD, dV, dC, d1, d2, dN, dNF, d2F, dCons, dNil, dTup, dLst, asL, asB, dtAnd, dtOr, dtNot, dYes, dAndV, dOrV, dNotV, dIte, dCh, dLc, dSeqI, dRg1, dRg2, dEnum, dZip, dgN, dgT, dgCons, dgNil, sgN, sgT, sgCons, sgNil, dSlT, dSlL, dSome, dNo, dRev, dIsi, dNP, dNew, dFld, dMe, dMeN, dNCat, dMemo, dRF, dRC, dPot, wipeE, vis, hid, noOw, isOw, List.all_cons, List.all_nil, Bool.not_false, Bool.not_true, Bool.and_true, Bool.true_and, Bool.or_true, Bool.true_or, Bool.false_or, Bool.or_false, List.getElem?_cons_zero, List.getElem?_cons_succ, List.set_cons_zero, List.set_cons_succ, List.length_map, e_le, e_lt, e_ge, e_gt, e_lenT, e_lenL, e_add, e_cat, e_sub, e_mul, e_div, e_mod, e_tupL, e_tupT, e_listL, e_listT, e_fcat, e_isN, e_eqi, e_eqs, fEq, fNe, fIn, fNotIn, decide_true, id_eq, e_all, e_any, e_ixT0, e_ixL0, e_ixT1, e_ixT2, e_max2, e_min2, e_abs, e_int, e_pow, true_and, and_true, forall_const, lcTurn, e_inP]
    cases k : decide (p ∈ l) with
    | true => exact h1 k
    | false => exact h2 k
  · refine ⟨by omega, lc_filter (fun p => !decide (p ∈ l)) pairs (h := pD) (fun p hp R h1 h2 => ?_) ?_⟩
    · simp only [semOf, semP, semF, semT, semM, List.map_cons, List.map_nil, List.cons_append, List.nil_append, List.append_nil, List.replicate_succ, List.replicate_zero, Nat.reduceSub, Nat.reduceAdd, Nat.sub_self, Nat.sub_zero, List.length_cons, List.length_nil, Nat.zero_add, dSeq, dSet, dSetF, dSetH, dSetFH, dRet, dRetN, dIf, dNext, dFor, dExt, dApp, dSub, dFrz, dDrop, dNever, dBrk, dCnt, dAsg, dAsgH, dPar, dcNil, dcD, dcF, storesD, dV, dC, d1, d2, dN, dNF, d2F, dCons, dNil, dTup, dLst, asL, asB, dtAnd, dtOr, dtNot, dYes, dAndV, dOrV, dNotV, dIte, dCh, dLc, dSeqI, dRg1, dRg2, dEnum, dZip, dgN, dgT, dgCons, dgNil, sgN, sgT, sgCons, sgNil, dSlT, dSlL, dSome, dNo, dRev, dIsi, dNP, dNew, dFld, dMe, dMeN, dNCat, dMemo, dRF, dRC, dPot, wipeE, vis, hid, noOw, isOw, List.all_cons, List.all_nil, Bool.not_false, Bool.not_true, Bool.and_true, Bool.true_and, Bool.or_true, Bool.true_or, Bool.false_or, Bool.or_false, List.getElem?_cons_zero, List.getElem?_cons_succ, List.set_cons_zero, List.set_cons_succ, List.length_map, e_le, e_lt, e_ge, e_gt, e_lenT, e_lenL, e_add, e_cat, e_sub, e_mul, e_div, e_mod, e_tupL, e_tupT, e_listL, e_listT, e_fcat, e_isN, e_eqi, e_eqs, fEq, fNe, fIn, fNotIn, decide_true, id_eq, e_all, e_any, e_ixT0, e_ixL0, e_ixT1, e_ixT2, e_max2, e_min2, e_abs, e_int, e_pow, true_and, and_true, forall_const, lcTurn, e_inP]
      cases k : decide (p ∈ l) with
      | true => exact h2 (by rw [k]; rfl)
      | false => exact h1 (by rw [k]; rfl)
    · exact ⟨by decide, h⟩
theorem imm_two {a b : List P2} : imm (.tuple [psD a, psD b]) = true := by
  show (immAll (a.map pD) && (immAll (b.map pD) && true)) = true
  rw [immAll_ps, immAll_ps]
  rfl
/-- is_key_of(web, pairs): names 0 web 1 pairs 2 met 3 apart -/
def d_is_key_of : DS := (dSeq (dAsg (sgT 2 (sgCons 2 (sgCons 3 sgNil))) (dN g_as_told (dCons (dV 0) (dCons (dV 1) dNil))))
  (dRet (d2 fEq (dN g_many_with (dCons (dN g_counts_in (dCons (d2 fIx (dV 0) (dC (.int 1))) (dCons (d2 fIx (dV 0) (dC (.int 2))) dNil))) (dCons (dV 2) (dCons (dV 3) dNil)))) (dC (.int 1)))))
def g_is_key_of : List D → (D → Prop) → Prop := fun ds P => ∃ (n : Nat) (l pairs : List P2), ds = [webD n l, psD pairs] ∧ Web8 n l ∧ okPs n pairs ∧ P (.bool (decide (manyW (degL n l) (inW l pairs) (outW l pairs) = 1)))
theorem ok_is_key_of : ∀ ds P, g_is_key_of ds P → semOf 4 2 d_is_key_of ds P := by
  rintro ds P ⟨n, l, pairs, rfl, w, hp, h⟩
  refine ⟨rfl, ?_⟩
  simp only [semOf, semP, semF, semT, semM, List.map_cons, List.map_nil, List.cons_append, List.nil_append, List.append_nil, List.replicate_succ, List.replicate_zero, Nat.reduceSub, Nat.reduceAdd, Nat.sub_self, Nat.sub_zero, List.length_cons, List.length_nil, Nat.zero_add, dSeq, dSet, dSetF, dSetH, dSetFH, dRet, dRetN, dIf, dNext, dFor, dExt, dApp, dSub, dFrz, dDrop, dNever, dBrk, dCnt, dAsg, dAsgH, dPar, dcNil, dcD, dcF, storesD, dV, dC, d1, d2, dN, dNF, d2F, dCons, dNil, dTup, dLst, asL, asB, dtAnd, dtOr, dtNot, dYes, dAndV, dOrV, dNotV, dIte, dCh, dLc, dSeqI, dRg1, dRg2, dEnum, dZip, dgN, dgT, dgCons, dgNil, sgN, sgT, sgCons, sgNil, dSlT, dSlL, dSome, dNo, dRev, dIsi, dNP, dNew, dFld, dMe, dMeN, dNCat, dMemo, dRF, dRC, dPot, wipeE, vis, hid, noOw, isOw, List.all_cons, List.all_nil, Bool.not_false, Bool.not_true, Bool.and_true, Bool.true_and, Bool.or_true, Bool.true_or, Bool.false_or, Bool.or_false, List.getElem?_cons_zero, List.getElem?_cons_succ, List.set_cons_zero, List.set_cons_succ, List.length_map, e_le, e_lt, e_ge, e_gt, e_lenT, e_lenL, e_add, e_cat, e_sub, e_mul, e_div, e_mod, e_tupL, e_tupT, e_listL, e_listT, e_fcat, e_isN, e_eqi, e_eqs, fEq, fNe, fIn, fNotIn, decide_true, id_eq, e_all, e_any, e_ixT0, e_ixL0, e_ixT1, e_ixT2, e_max2, e_min2, e_abs, e_int, e_pow, true_and, and_true, forall_const, d_is_key_of]
  have := w.hi
  refine ⟨n, l, pairs, rfl, hp.2.2, ?_⟩
  simp only [semOf, semP, semF, semT, semM, List.map_cons, List.map_nil, List.cons_append, List.nil_append, List.append_nil, List.replicate_succ, List.replicate_zero, Nat.reduceSub, Nat.reduceAdd, Nat.sub_self, Nat.sub_zero, List.length_cons, List.length_nil, Nat.zero_add, dSeq, dSet, dSetF, dSetH, dSetFH, dRet, dRetN, dIf, dNext, dFor, dExt, dApp, dSub, dFrz, dDrop, dNever, dBrk, dCnt, dAsg, dAsgH, dPar, dcNil, dcD, dcF, storesD, dV, dC, d1, d2, dN, dNF, d2F, dCons, dNil, dTup, dLst, asL, asB, dtAnd, dtOr, dtNot, dYes, dAndV, dOrV, dNotV, dIte, dCh, dLc, dSeqI, dRg1, dRg2, dEnum, dZip, dgN, dgT, dgCons, dgNil, sgN, sgT, sgCons, sgNil, dSlT, dSlL, dSome, dNo, dRev, dIsi, dNP, dNew, dFld, dMe, dMeN, dNCat, dMemo, dRF, dRC, dPot, wipeE, vis, hid, noOw, isOw, List.all_cons, List.all_nil, Bool.not_false, Bool.not_true, Bool.and_true, Bool.true_and, Bool.or_true, Bool.true_or, Bool.false_or, Bool.or_false, List.getElem?_cons_zero, List.getElem?_cons_succ, List.set_cons_zero, List.set_cons_succ, List.length_map, e_le, e_lt, e_ge, e_gt, e_lenT, e_lenL, e_add, e_cat, e_sub, e_mul, e_div, e_mod, e_tupL, e_tupT, e_listL, e_listT, e_fcat, e_isN, e_eqi, e_eqs, fEq, fNe, fIn, fNotIn, decide_true, id_eq, e_all, e_any, e_ixT0, e_ixL0, e_ixT1, e_ixT2, e_max2, e_min2, e_abs, e_int, e_pow, true_and, and_true, forall_const]
  refine ⟨n, l, rfl, by omega, w.ok, degL n l, inW l pairs, outW l pairs, rfl, w.t8 hp, ?_⟩
  simp only [semOf, semP, semF, semT, semM, List.map_cons, List.map_nil, List.cons_append, List.nil_append, List.append_nil, List.replicate_succ, List.replicate_zero, Nat.reduceSub, Nat.reduceAdd, Nat.sub_self, Nat.sub_zero, List.length_cons, List.length_nil, Nat.zero_add, dSeq, dSet, dSetF, dSetH, dSetFH, dRet, dRetN, dIf, dNext, dFor, dExt, dApp, dSub, dFrz, dDrop, dNever, dBrk, dCnt, dAsg, dAsgH, dPar, dcNil, dcD, dcF, storesD, dV, dC, d1, d2, dN, dNF, d2F, dCons, dNil, dTup, dLst, asL, asB, dtAnd, dtOr, dtNot, dYes, dAndV, dOrV, dNotV, dIte, dCh, dLc, dSeqI, dRg1, dRg2, dEnum, dZip, dgN, dgT, dgCons, dgNil, sgN, sgT, sgCons, sgNil, dSlT, dSlL, dSome, dNo, dRev, dIsi, dNP, dNew, dFld, dMe, dMeN, dNCat, dMemo, dRF, dRC, dPot, wipeE, vis, hid, noOw, isOw, List.all_cons, List.all_nil, Bool.not_false, Bool.not_true, Bool.and_true, Bool.true_and, Bool.or_true, Bool.true_or, Bool.false_or, Bool.or_false, List.getElem?_cons_zero, List.getElem?_cons_succ, List.set_cons_zero, List.set_cons_succ, List.length_map, e_le, e_lt, e_ge, e_gt, e_lenT, e_lenL, e_add, e_cat, e_sub, e_mul, e_div, e_mod, e_tupL, e_tupT, e_listL, e_listT, e_fcat, e_isN, e_eqi, e_eqs, fEq, fNe, fIn, fNotIn, decide_true, id_eq, e_all, e_any, e_ixT0, e_ixL0, e_ixT1, e_ixT2, e_max2, e_min2, e_abs, e_int, e_pow, true_and, and_true, forall_const]
  rw [show decide ((manyW (degL n l) (inW l pairs) (outW l pairs) : Int) = 1) = decide (manyW (degL n l) (inW l pairs) (outW l pairs) = 1) from decide_eq_decide.mpr (by omega)]
  exact h
/-- is_key(web, pairs): names 0 web 1 pairs -/
def d_is_key : DS := (dSeq (dDrop (dN g_want_web (dCons (dV 0) dNil)))
  (dSeq (dDrop (dN g_want_pairs (dCons (d2 fIx (dV 0) (dC (.int 1))) (dCons (dV 1) dNil))))
  (dSeq (dDrop (dN g_want_few (dCons (dN g_counts_in (dCons (d2 fIx (dV 0) (dC (.int 1))) (dCons (d2 fIx (dV 0) (dC (.int 2))) dNil))) dNil)))
  (dRet (dN g_is_key_of (dCons (dV 0) (dCons (dV 1) dNil)))))))
def g_is_key : List D → (D → Prop) → Prop := fun ds P => ∃ (n : Nat) (l pairs : List P2), ds = [webD n l, psD pairs] ∧ Web8 n l ∧ okPs n pairs ∧ P (.bool (decide (manyW (degL n l) (inW l pairs) (outW l pairs) = 1)))
theorem ok_is_key : ∀ ds P, g_is_key ds P → semOf 2 2 d_is_key ds P := by
  rintro ds P ⟨n, l, pairs, rfl, w, hp, h⟩
  refine ⟨rfl, ?_⟩
  simp only [semOf, semP, semF, semT, semM, List.map_cons, List.map_nil, List.cons_append, List.nil_append, List.append_nil, List.replicate_succ, List.replicate_zero, Nat.reduceSub, Nat.reduceAdd, Nat.sub_self, Nat.sub_zero, List.length_cons, List.length_nil, Nat.zero_add, dSeq, dSet, dSetF, dSetH, dSetFH, dRet, dRetN, dIf, dNext, dFor, dExt, dApp, dSub, dFrz, dDrop, dNever, dBrk, dCnt, dAsg, dAsgH, dPar, dcNil, dcD, dcF, storesD, dV, dC, d1, d2, dN, dNF, d2F, dCons, dNil, dTup, dLst, asL, asB, dtAnd, dtOr, dtNot, dYes, dAndV, dOrV, dNotV, dIte, dCh, dLc, dSeqI, dRg1, dRg2, dEnum, dZip, dgN, dgT, dgCons, dgNil, sgN, sgT, sgCons, sgNil, dSlT, dSlL, dSome, dNo, dRev, dIsi, dNP, dNew, dFld, dMe, dMeN, dNCat, dMemo, dRF, dRC, dPot, wipeE, vis, hid, noOw, isOw, List.all_cons, List.all_nil, Bool.not_false, Bool.not_true, Bool.and_true, Bool.true_and, Bool.or_true, Bool.true_or, Bool.false_or, Bool.or_false, List.getElem?_cons_zero, List.getElem?_cons_succ, List.set_cons_zero, List.set_cons_succ, List.length_map, e_le, e_lt, e_ge, e_gt, e_lenT, e_lenL, e_add, e_cat, e_sub, e_mul, e_div, e_mod, e_tupL, e_tupT, e_listL, e_listT, e_fcat, e_isN, e_eqi, e_eqs, fEq, fNe, fIn, fNotIn, decide_true, id_eq, e_all, e_any, e_ixT0, e_ixL0, e_ixT1, e_ixT2, e_max2, e_min2, e_abs, e_int, e_pow, true_and, and_true, forall_const, d_is_key]
  have := w.hi
  exact ⟨n, l, rfl, ⟨w.lo, by omega⟩, w.ps, n, pairs, rfl, hp, n, l, rfl, by omega, w.ok, degL n l, rfl, by rw [degL_len]; exact w.hi, n, l, pairs, rfl, w, hp, h⟩
/-- other_web(web, pairs): names 0 web 1 pairs 2 counts 3 met 4 apart 5 loose 6 one 7 late -/
def d_other_web : DS := (dSeq (dDrop (dN g_want_web (dCons (dV 0) dNil)))
  (dSeq (dDrop (dN g_want_pairs (dCons (d2 fIx (dV 0) (dC (.int 1))) (dCons (dV 1) dNil))))
  (dSeq (dSet 2 (dN g_counts_in (dCons (d2 fIx (dV 0) (dC (.int 1))) (dCons (d2 fIx (dV 0) (dC (.int 2))) dNil))))
  (dSeq (dDrop (dN g_want_few (dCons (dV 2) dNil)))
  (dSeq (dAsg (sgT 2 (sgCons 3 (sgCons 4 sgNil))) (dN g_as_told (dCons (dV 0) (dCons (dV 1) dNil))))
  (dSeq (dIf (asB (d2 fEq (dN g_many_with (dCons (dV 2) (dCons (dV 3) (dCons (dV 4) dNil)))) (dC (.int 1)))) (dRet (dC .none)) dNext)
  dNever))))))
def g_other_web : List D → (D → Prop) → Prop := fun ds P => ∃ (n : Nat) (l pairs : List P2), ds = [webD n l, psD pairs] ∧ Web8 n l ∧ okPs n pairs ∧ manyW (degL n l) (inW l pairs) (outW l pairs) = 1 ∧ P .none
theorem ok_other_web : ∀ ds P, g_other_web ds P → semOf 8 2 d_other_web ds P := by
  rintro ds P ⟨n, l, pairs, rfl, w, hp, h1, h⟩
  refine ⟨rfl, ?_⟩
  simp only [semOf, semP, semF, semT, semM, List.map_cons, List.map_nil, List.cons_append, List.nil_append, List.append_nil, List.replicate_succ, List.replicate_zero, Nat.reduceSub, Nat.reduceAdd, Nat.sub_self, Nat.sub_zero, List.length_cons, List.length_nil, Nat.zero_add, dSeq, dSet, dSetF, dSetH, dSetFH, dRet, dRetN, dIf, dNext, dFor, dExt, dApp, dSub, dFrz, dDrop, dNever, dBrk, dCnt, dAsg, dAsgH, dPar, dcNil, dcD, dcF, storesD, dV, dC, d1, d2, dN, dNF, d2F, dCons, dNil, dTup, dLst, asL, asB, dtAnd, dtOr, dtNot, dYes, dAndV, dOrV, dNotV, dIte, dCh, dLc, dSeqI, dRg1, dRg2, dEnum, dZip, dgN, dgT, dgCons, dgNil, sgN, sgT, sgCons, sgNil, dSlT, dSlL, dSome, dNo, dRev, dIsi, dNP, dNew, dFld, dMe, dMeN, dNCat, dMemo, dRF, dRC, dPot, wipeE, vis, hid, noOw, isOw, List.all_cons, List.all_nil, Bool.not_false, Bool.not_true, Bool.and_true, Bool.true_and, Bool.or_true, Bool.true_or, Bool.false_or, Bool.or_false, List.getElem?_cons_zero, List.getElem?_cons_succ, List.set_cons_zero, List.set_cons_succ, List.length_map, e_le, e_lt, e_ge, e_gt, e_lenT, e_lenL, e_add, e_cat, e_sub, e_mul, e_div, e_mod, e_tupL, e_tupT, e_listL, e_listT, e_fcat, e_isN, e_eqi, e_eqs, fEq, fNe, fIn, fNotIn, decide_true, id_eq, e_all, e_any, e_ixT0, e_ixL0, e_ixT1, e_ixT2, e_max2, e_min2, e_abs, e_int, e_pow, true_and, and_true, forall_const, d_other_web]
  have := w.hi
  refine ⟨n, l, rfl, ⟨w.lo, by omega⟩, w.ps, n, pairs, rfl, hp, n, l, rfl, by omega, w.ok, degL n l, rfl, by rw [degL_len]; exact w.hi, n, l, pairs, rfl, hp.2.2, ?_⟩
  simp only [semOf, semP, semF, semT, semM, List.map_cons, List.map_nil, List.cons_append, List.nil_append, List.append_nil, List.replicate_succ, List.replicate_zero, Nat.reduceSub, Nat.reduceAdd, Nat.sub_self, Nat.sub_zero, List.length_cons, List.length_nil, Nat.zero_add, dSeq, dSet, dSetF, dSetH, dSetFH, dRet, dRetN, dIf, dNext, dFor, dExt, dApp, dSub, dFrz, dDrop, dNever, dBrk, dCnt, dAsg, dAsgH, dPar, dcNil, dcD, dcF, storesD, dV, dC, d1, d2, dN, dNF, d2F, dCons, dNil, dTup, dLst, asL, asB, dtAnd, dtOr, dtNot, dYes, dAndV, dOrV, dNotV, dIte, dCh, dLc, dSeqI, dRg1, dRg2, dEnum, dZip, dgN, dgT, dgCons, dgNil, sgN, sgT, sgCons, sgNil, dSlT, dSlL, dSome, dNo, dRev, dIsi, dNP, dNew, dFld, dMe, dMeN, dNCat, dMemo, dRF, dRC, dPot, wipeE, vis, hid, noOw, isOw, List.all_cons, List.all_nil, Bool.not_false, Bool.not_true, Bool.and_true, Bool.true_and, Bool.or_true, Bool.true_or, Bool.false_or, Bool.or_false, List.getElem?_cons_zero, List.getElem?_cons_succ, List.set_cons_zero, List.set_cons_succ, List.length_map, e_le, e_lt, e_ge, e_gt, e_lenT, e_lenL, e_add, e_cat, e_sub, e_mul, e_div, e_mod, e_tupL, e_tupT, e_listL, e_listT, e_fcat, e_isN, e_eqi, e_eqs, fEq, fNe, fIn, fNotIn, decide_true, id_eq, e_all, e_any, e_ixT0, e_ixL0, e_ixT1, e_ixT2, e_max2, e_min2, e_abs, e_int, e_pow, true_and, and_true, forall_const]
  refine ⟨degL n l, inW l pairs, outW l pairs, rfl, w.t8 hp, ?_⟩
  show fEqG id (.int (manyW (degL n l) (inW l pairs) (outW l pairs) : Int)) (.int 1) _
  rw [e_eqi, h1]
  exact h
/-! ### the law's draws -/
/-- a draw -/
def g__law_draw : List D → (D → Prop) → Prop := fun ds P => ∃ n : Int, ds = [.int n] ∧ (0 < n ∧ n < 1073741824) ∧ ∀ k : Int, 0 ≤ k → k < n → P (.int k)
/-- _law_pick(pot, some): names 0 pot 1 some -/
def d__law_pick (p : Addr) : DS := (dRet (d2 fIx (dV 1) (dNP p 0 g__law_draw (dCons (dN fLen (dCons (dV 1) dNil)) dNil))))
def g__law_pick : List D → (D → Prop) → Prop := fun ds P => ∃ l : List D, (ds = [.tuple l] ∨ ds = [.list l]) ∧ l ≠ [] ∧ l.length ≤ 100000 ∧ ∀ x, x ∈ l → P x
theorem ok__law_pick : ∀ ds P, g__law_pick ds P → semP 2 2 d__law_pick ds P := by
  have at_ : ∀ (l : List D) (k : Int), 0 ≤ k → k < l.length → ∃ (j : Nat) (x : D), k = (j : Int) ∧ l[j]? = some x ∧ x ∈ l := fun l k h0 h1 => by
    have hj : k.toNat < l.length := by omega
    exact ⟨k.toNat, l[k.toNat], by omega, List.getElem?_eq_getElem hj, List.getElem_mem hj⟩
  rintro ds P ⟨l, hds, ne, hl, h⟩
  have pos : 0 < l.length := List.length_pos_iff.mpr ne
  rcases hds with rfl | rfl
  · refine ⟨rfl, fun p => ?_⟩
    simp only [semOf, semP, semF, semT, semM, List.map_cons, List.map_nil, List.cons_append, List.nil_append, List.append_nil, List.replicate_succ, List.replicate_zero, Nat.reduceSub, Nat.reduceAdd, Nat.sub_self, Nat.sub_zero, List.length_cons, List.length_nil, Nat.zero_add, dSeq, dSet, dSetF, dSetH, dSetFH, dRet, dRetN, dIf, dNext, dFor, dExt, dApp, dSub, dFrz, dDrop, dNever, dBrk, dCnt, dAsg, dAsgH, dPar, dcNil, dcD, dcF, storesD, dV, dC, d1, d2, dN, dNF, d2F, dCons, dNil, dTup, dLst, asL, asB, dtAnd, dtOr, dtNot, dYes, dAndV, dOrV, dNotV, dIte, dCh, dLc, dSeqI, dRg1, dRg2, dEnum, dZip, dgN, dgT, dgCons, dgNil, sgN, sgT, sgCons, sgNil, dSlT, dSlL, dSome, dNo, dRev, dIsi, dNP, dNew, dFld, dMe, dMeN, dNCat, dMemo, dRF, dRC, dPot, wipeE, vis, hid, noOw, isOw, List.all_cons, List.all_nil, Bool.not_false, Bool.not_true, Bool.and_true, Bool.true_and, Bool.or_true, Bool.true_or, Bool.false_or, Bool.or_false, List.getElem?_cons_zero, List.getElem?_cons_succ, List.set_cons_zero, List.set_cons_succ, List.length_map, e_le, e_lt, e_ge, e_gt, e_lenT, e_lenL, e_add, e_cat, e_sub, e_mul, e_div, e_mod, e_tupL, e_tupT, e_listL, e_listT, e_fcat, e_isN, e_eqi, e_eqs, fEq, fNe, fIn, fNotIn, decide_true, id_eq, e_all, e_any, e_ixT0, e_ixL0, e_ixT1, e_ixT2, e_max2, e_min2, e_abs, e_int, e_pow, true_and, and_true, forall_const, d__law_pick]
    refine ⟨_, rfl, ⟨by omega, by omega⟩, fun k h0 h1 => ?_⟩
    obtain ⟨j, x, rfl, hj, hm⟩ := at_ l k h0 h1
    rw [e_ixT hj]
    exact h x hm
  · refine ⟨rfl, fun p => ?_⟩
    simp only [semOf, semP, semF, semT, semM, List.map_cons, List.map_nil, List.cons_append, List.nil_append, List.append_nil, List.replicate_succ, List.replicate_zero, Nat.reduceSub, Nat.reduceAdd, Nat.sub_self, Nat.sub_zero, List.length_cons, List.length_nil, Nat.zero_add, dSeq, dSet, dSetF, dSetH, dSetFH, dRet, dRetN, dIf, dNext, dFor, dExt, dApp, dSub, dFrz, dDrop, dNever, dBrk, dCnt, dAsg, dAsgH, dPar, dcNil, dcD, dcF, storesD, dV, dC, d1, d2, dN, dNF, d2F, dCons, dNil, dTup, dLst, asL, asB, dtAnd, dtOr, dtNot, dYes, dAndV, dOrV, dNotV, dIte, dCh, dLc, dSeqI, dRg1, dRg2, dEnum, dZip, dgN, dgT, dgCons, dgNil, sgN, sgT, sgCons, sgNil, dSlT, dSlL, dSome, dNo, dRev, dIsi, dNP, dNew, dFld, dMe, dMeN, dNCat, dMemo, dRF, dRC, dPot, wipeE, vis, hid, noOw, isOw, List.all_cons, List.all_nil, Bool.not_false, Bool.not_true, Bool.and_true, Bool.true_and, Bool.or_true, Bool.true_or, Bool.false_or, Bool.or_false, List.getElem?_cons_zero, List.getElem?_cons_succ, List.set_cons_zero, List.set_cons_succ, List.length_map, e_le, e_lt, e_ge, e_gt, e_lenT, e_lenL, e_add, e_cat, e_sub, e_mul, e_div, e_mod, e_tupL, e_tupT, e_listL, e_listT, e_fcat, e_isN, e_eqi, e_eqs, fEq, fNe, fIn, fNotIn, decide_true, id_eq, e_all, e_any, e_ixT0, e_ixL0, e_ixT1, e_ixT2, e_max2, e_min2, e_abs, e_int, e_pow, true_and, and_true, forall_const, d__law_pick]
    refine ⟨_, rfl, ⟨by omega, by omega⟩, fun k h0 h1 => ?_⟩
    obtain ⟨j, x, rfl, hj, hm⟩ := at_ l k h0 h1
    rw [e_ixL hj]
    exact h x hm
/-- _law_all_pairs(many): names 0 many 1 found 2 one 3 other -/
def d__law_all_pairs : DS := (dSeq (dSetF 1 (dLst dNil))
  (dSeq (dFor (dRg1 (dCons (dV 0) dNil)) (sgN 2) (dExt 1 (asL (dLc (dRg2 (dCons (d2 fPlus (dV 2) (dC (.int 1))) (dCons (dV 0) dNil))) (dgN 3) dYes (dTup (dCons (dV 2) (dCons (dV 3) dNil))) [3]))))
  (dRet (dV 1))))
def g__law_all_pairs := g_all_pairs
theorem ok__law_all_pairs : ∀ ds P, g__law_all_pairs ds P → semOf 4 1 d__law_all_pairs ds P := ok_all_pairs
/-- a comprehension that keeps what it likes -/
theorem lc_sub {α : Type} {f : D → (Option D → Prop) → Prop} {enc h : α → D} : ∀ (xs : List α) {P : List D → Prop}, (∀ x, x ∈ xs → ∀ R : Option D → Prop, R (some (h x)) → R none → f (enc x) R) → (∀ l : List α, l.Sublist xs → P (l.map h)) → lcGo f (xs.map enc) P
  | [], P, _, hP => hP [] (List.Sublist.refl _)
  | x :: xs, P, hf, hP => hf x (List.mem_cons_self ..) _ (lc_sub (h := h) (P := fun zs => P (h x :: zs)) xs (fun y hy => hf y (List.mem_cons_of_mem _ hy)) fun l hl => hP (x :: l) (hl.cons_cons x)) (lc_sub (h := h) xs (fun y hy => hf y (List.mem_cons_of_mem _ hy)) fun l hl => hP l (hl.cons x))
/-- _law_web(pot, most): names 0 pot 1 most 2 many 3 thick 4 pair -/
def d__law_web (p : Addr) : DS := (dSeq (dAsg (sgT 2 (sgCons 2 (sgCons 3 sgNil))) (dTup (dCons (d2 fPlus (dC (.int 1)) (dNP p 0 g__law_draw (dCons (dV 1) dNil))) (dCons (d2 fPlus (dC (.int 1)) (dNP p 0 g__law_draw (dCons (dC (.int 4)) dNil))) dNil))))
  (dRet (dTup (dCons (dC (.str "web")) (dCons (dV 2) (dCons (dN fTuple (dCons (asL (dLc (dSeqI (dN g__law_all_pairs (dCons (dV 2) dNil))) (dgN 4) (asB (d2 fLt (dNP p 0 g__law_draw (dCons (dC (.int 5)) dNil)) (dV 3))) (dV 4) [4])) dNil)) dNil))))))
def g__law_web : List D → (D → Prop) → Prop := fun ds P => ∃ most : Nat, ds = [nD most] ∧ (0 < most ∧ most ≤ 8) ∧ ∀ (n : Nat) (l : List P2), n ≤ most → Web8 n l → P (webD n l)
theorem ok__law_web : ∀ ds P, g__law_web ds P → semP 5 2 d__law_web ds P := by
  rintro ds P ⟨most, rfl, ⟨h1, h2⟩, h⟩
  refine ⟨rfl, fun p => ?_⟩
  simp only [semOf, semP, semF, semT, semM, List.map_cons, List.map_nil, List.cons_append, List.nil_append, List.append_nil, List.replicate_succ, List.replicate_zero, Nat.reduceSub, Nat.reduceAdd, Nat.sub_self, Nat.sub_zero, List.length_cons, List.length_nil, Nat.zero_add, dSeq, dSet, dSetF, dSetH, dSetFH, dRet, dRetN, dIf, dNext, dFor, dExt, dApp, dSub, dFrz, dDrop, dNever, dBrk, dCnt, dAsg, dAsgH, dPar, dcNil, dcD, dcF, storesD, dV, dC, d1, d2, dN, dNF, d2F, dCons, dNil, dTup, dLst, asL, asB, dtAnd, dtOr, dtNot, dYes, dAndV, dOrV, dNotV, dIte, dCh, dLc, dSeqI, dRg1, dRg2, dEnum, dZip, dgN, dgT, dgCons, dgNil, sgN, sgT, sgCons, sgNil, dSlT, dSlL, dSome, dNo, dRev, dIsi, dNP, dNew, dFld, dMe, dMeN, dNCat, dMemo, dRF, dRC, dPot, wipeE, vis, hid, noOw, isOw, List.all_cons, List.all_nil, Bool.not_false, Bool.not_true, Bool.and_true, Bool.true_and, Bool.or_true, Bool.true_or, Bool.false_or, Bool.or_false, List.getElem?_cons_zero, List.getElem?_cons_succ, List.set_cons_zero, List.set_cons_succ, List.length_map, e_le, e_lt, e_ge, e_gt, e_lenT, e_lenL, e_add, e_cat, e_sub, e_mul, e_div, e_mod, e_tupL, e_tupT, e_listL, e_listT, e_fcat, e_isN, e_eqi, e_eqs, fEq, fNe, fIn, fNotIn, decide_true, id_eq, e_all, e_any, e_ixT0, e_ixL0, e_ixT1, e_ixT2, e_max2, e_min2, e_abs, e_int, e_pow, true_and, and_true, forall_const, d__law_web]
  refine ⟨_, rfl, ⟨by omega, by omega⟩, fun k k0 k1 => ⟨_, rfl, ⟨by omega, by omega⟩, fun j j0 j1 => ⟨by decide, ?_⟩⟩⟩
  obtain ⟨k, rfl⟩ : ∃ k' : Nat, k = (k' : Int) := ⟨k.toNat, by omega⟩
  refine ⟨k + 1, by rw [show ((1 : Int) + (k : Int)) = ((k + 1 : Nat) : Int) by omega], by omega, ?_⟩
  have al : (allP (k + 1)).length ≤ 28 := allP_28 (by omega)
  refine ⟨by rw [List.length_map]; omega, lc_sub (allP (k + 1)) (h := pD) (fun q hq R r1 r2 => ?_) fun l hl => ?_⟩
  · simp only [semOf, semP, semF, semT, semM, List.map_cons, List.map_nil, List.cons_append, List.nil_append, List.append_nil, List.replicate_succ, List.replicate_zero, Nat.reduceSub, Nat.reduceAdd, Nat.sub_self, Nat.sub_zero, List.length_cons, List.length_nil, Nat.zero_add, dSeq, dSet, dSetF, dSetH, dSetFH, dRet, dRetN, dIf, dNext, dFor, dExt, dApp, dSub, dFrz, dDrop, dNever, dBrk, dCnt, dAsg, dAsgH, dPar, dcNil, dcD, dcF, storesD, dV, dC, d1, d2, dN, dNF, d2F, dCons, dNil, dTup, dLst, asL, asB, dtAnd, dtOr, dtNot, dYes, dAndV, dOrV, dNotV, dIte, dCh, dLc, dSeqI, dRg1, dRg2, dEnum, dZip, dgN, dgT, dgCons, dgNil, sgN, sgT, sgCons, sgNil, dSlT, dSlL, dSome, dNo, dRev, dIsi, dNP, dNew, dFld, dMe, dMeN, dNCat, dMemo, dRF, dRC, dPot, wipeE, vis, hid, noOw, isOw, List.all_cons, List.all_nil, Bool.not_false, Bool.not_true, Bool.and_true, Bool.true_and, Bool.or_true, Bool.true_or, Bool.false_or, Bool.or_false, List.getElem?_cons_zero, List.getElem?_cons_succ, List.set_cons_zero, List.set_cons_succ, List.length_map, e_le, e_lt, e_ge, e_gt, e_lenT, e_lenL, e_add, e_cat, e_sub, e_mul, e_div, e_mod, e_tupL, e_tupT, e_listL, e_listT, e_fcat, e_isN, e_eqi, e_eqs, fEq, fNe, fIn, fNotIn, decide_true, id_eq, e_all, e_any, e_ixT0, e_ixL0, e_ixT1, e_ixT2, e_max2, e_min2, e_abs, e_int, e_pow, true_and, and_true, forall_const, lcTurn]
    refine ⟨_, rfl, ⟨by omega, by omega⟩, fun i i0 i1 => ?_⟩
    simp only [semOf, semP, semF, semT, semM, List.map_cons, List.map_nil, List.cons_append, List.nil_append, List.append_nil, List.replicate_succ, List.replicate_zero, Nat.reduceSub, Nat.reduceAdd, Nat.sub_self, Nat.sub_zero, List.length_cons, List.length_nil, Nat.zero_add, dSeq, dSet, dSetF, dSetH, dSetFH, dRet, dRetN, dIf, dNext, dFor, dExt, dApp, dSub, dFrz, dDrop, dNever, dBrk, dCnt, dAsg, dAsgH, dPar, dcNil, dcD, dcF, storesD, dV, dC, d1, d2, dN, dNF, d2F, dCons, dNil, dTup, dLst, asL, asB, dtAnd, dtOr, dtNot, dYes, dAndV, dOrV, dNotV, dIte, dCh, dLc, dSeqI, dRg1, dRg2, dEnum, dZip, dgN, dgT, dgCons, dgNil, sgN, sgT, sgCons, sgNil, dSlT, dSlL, dSome, dNo, dRev, dIsi, dNP, dNew, dFld, dMe, dMeN, dNCat, dMemo, dRF, dRC, dPot, wipeE, vis, hid, noOw, isOw, List.all_cons, List.all_nil, Bool.not_false, Bool.not_true, Bool.and_true, Bool.true_and, Bool.or_true, Bool.true_or, Bool.false_or, Bool.or_false, List.getElem?_cons_zero, List.getElem?_cons_succ, List.set_cons_zero, List.set_cons_succ, List.length_map, e_le, e_lt, e_ge, e_gt, e_lenT, e_lenL, e_add, e_cat, e_sub, e_mul, e_div, e_mod, e_tupL, e_tupT, e_listL, e_listT, e_fcat, e_isN, e_eqi, e_eqs, fEq, fNe, fIn, fNotIn, decide_true, id_eq, e_all, e_any, e_ixT0, e_ixL0, e_ixT1, e_ixT2, e_max2, e_min2, e_abs, e_int, e_pow, true_and, and_true, forall_const]
    cases decide (i < 1 + j) with
    | true => exact r1
    | false => exact r2
  · refine ⟨by decide, ?_⟩
    have := h (k + 1) l (by omega) ⟨by omega, by omega, fun q hq => mem_allP.mp (hl.subset hq), (allP_rising (k + 1)).sublist hl⟩
    rw [show ((1 : Int) + (k : Int)) = ((k + 1 : Nat) : Int) by omega]
    exact this
end HM

/-! Pairs told as in a web: how many webs are left. -/
namespace HM
theorem rising_sub {a b : List P2} (ha : rising a) (hb : rising b) (h : ∀ x, x ∈ a → x ∈ b) : a.Sublist b := by
  have e : a = b.filter fun x => decide (x ∈ a) := rising_ext ha (rising_filter hb _) fun x => by
    rw [List.mem_filter]
    constructor
    · intro hx
      exact ⟨h x hx, by simpa using hx⟩
    · rintro ⟨_, hx⟩
      simpa using hx
  rw [e]
  exact List.filter_sublist
/-- told as in the web -/
structure Like (n : Nat) (l met apart : List P2) : Prop where
  m : okPs n met
  a : okPs n apart
  im : ∀ p, p ∈ met → p ∈ l
  ia : ∀ p, p ∈ apart → p ∉ l
section
variable {n : Nat} {l met apart : List P2}
theorem Like.t8 (w : Web8 n l) (k : Like n l met apart) : T8 (degL n l) met apart :=
  ⟨⟨w.c, by rw [degL_len]; exact k.m, by rw [degL_len]; exact k.a, fun p hp hm => k.ia p hp (k.im p hm)⟩, by rw [degL_len]; exact w.hi⟩
theorem lf_degL (l : List P2) {q : Nat} (hq : q < n) : lf (degL n l) q = (deg l q : Nat) := by
  unfold lf
  rw [List.getD_eq_getElem?_getD, degL_get l hq]
  rfl
theorem rest_perm (w : Web8 n l) (k : Like n l met apart) : (met ++ l.filter fun p => !decide (p ∈ met)).Perm l := by
  rw [List.perm_ext_iff_of_nodup ?_ (rising_nodup w.up)]
  · intro x
    rw [List.mem_append, List.mem_filter]
    constructor
    · rintro (h | ⟨h, _⟩)
      · exact k.im x h
      · exact h
    · intro h
      by_cases e : x ∈ met
      · exact .inl e
      · exact .inr ⟨h, by simpa using e⟩
  · refine List.nodup_append.mpr ⟨rising_nodup k.m.2.1, (rising_nodup w.up).sublist List.filter_sublist, fun a ha b hb e => ?_⟩
    have := (List.mem_filter.mp hb).2
    rw [← e] at this
    simp at this
    exact this ha
/-- what the web has beyond the told pairs -/
theorem Like.sol (w : Web8 n l) (k : Like n l met apart) : Sol (degL n l).length (looseP (degL n l).length met apart) (lf (leftL (degL n l) met)) (l.filter fun p => !decide (p ∈ met)) := by
  rw [degL_len]
  constructor
  · refine rising_sub (rising_filter w.up _) (loose_w met apart).1 fun x hx => ?_
    obtain ⟨h1, h2⟩ := List.mem_filter.mp hx
    exact mem_loose.mpr ⟨w.ok x h1, by simpa using h2, fun h => k.ia x h h1⟩
  · intro q hq
    rw [leftL_at (degL n l) met (by rw [degL_len]; exact hq), lf_degL l hq, ← deg_perm (rest_perm w k) q, deg_append]
    omega
theorem Like.pos (w : Web8 n l) (k : Like n l met apart) : 0 < manyW (degL n l) met apart := cnt_pos.mpr ⟨_, k.sol w⟩
theorem Like.one (w : Web8 n l) (k : Like n l met apart) (h : manyW (degL n l) met apart = 1) : webF (degL n l) met apart = some l := by
  have ok : okL (leftL (degL n l) met) = true := by
    cases e : okL (leftL (degL n l) met) with
    | true => rfl
    | false =>
      rw [manyW_over e] at h
      cases h
  have gw := (k.t8 w).w
  have e := leftL_len (degL n l) met
  have goE : ∀ x, x ∈ looseP (degL n l).length met apart → okP (degL n l).length x := (loose_w met apart).2
  obtain ⟨f, hf⟩ := fact_of gw.up goE e ok (k.sol w)
  have sf := fact_some gw.up goE e ok hf
  have ef := cnt_one h sf (k.sol w)
  unfold webF
  rw [if_pos ok, hf, ef]
  show some (sortP _) = some l
  congr 1
  refine rising_ext (sortP_rising ?_) w.up fun x => ?_
  · exact (List.perm_append_comm.nodup_iff).mpr ((rest_perm w k).nodup_iff.mpr (rising_nodup w.up))
  · rw [mem_sortP]
    exact (List.perm_append_comm.trans (rest_perm w k)).mem_iff
theorem Like.addM (k : Like n l met apart) {p : P2} (hn : n ≤ 10) (hp : p ∈ looseP n met apart) (hl : p ∈ l) : Like n l (more met p) apart := by
  obtain ⟨h1, h2, h3⟩ := mem_loose.mp hp
  exact ⟨more_ok k.m h1 h2 hn, k.a, fun q hq => (mem_more.mp hq).elim (k.im q) fun e => by rw [e]; exact hl, k.ia⟩
theorem Like.addA (k : Like n l met apart) {p : P2} (hn : n ≤ 10) (hp : p ∈ looseP n met apart) (hl : p ∉ l) : Like n l met (more apart p) := by
  obtain ⟨h1, h2, h3⟩ := mem_loose.mp hp
  exact ⟨k.m, more_ok k.a h1 h3 hn, k.im, fun q hq => (mem_more.mp hq).elim (k.ia q) fun e => by rw [e]; exact hl⟩
theorem Like.key (w : Web8 n l) (k : Like n l met apart) : inW l (sortP (met ++ apart)) = met ∧ outW l (sortP (met ++ apart)) = apart := by
  have nd : (met ++ apart).Nodup := List.nodup_append.mpr ⟨rising_nodup k.m.2.1, rising_nodup k.a.2.1, fun a ha b hb e => k.ia b hb (by rw [← e]; exact k.im a ha)⟩
  have up := sortP_rising nd
  constructor
  · refine rising_ext (rising_filter up _) k.m.2.1 fun x => ?_
    unfold inW
    rw [List.mem_filter, mem_sortP, List.mem_append]
    constructor
    · rintro ⟨h | h, e⟩
      · exact h
      · exact absurd (by simpa using e) (k.ia x h)
    · intro h
      exact ⟨.inl h, by simpa using k.im x h⟩
  · refine rising_ext (rising_filter up _) k.a.2.1 fun x => ?_
    unfold outW
    rw [List.mem_filter, mem_sortP, List.mem_append]
    constructor
    · rintro ⟨h | h, e⟩
      · have := k.im x h
        simp [this] at e
      · exact h
    · intro h
      exact ⟨.inr h, by simpa using k.ia x h⟩
end
/-! ### two webs are unlike at some loose pair -/
section
variable {cs : List Int} {met apart : List P2}
theorem less_left {p : P2} {q : Nat} (hq : q < cs.length) : lf (leftL cs (more met p)) q = less (lf (leftL cs met)) p q := by
  rw [leftL_at cs (more met p) hq]
  unfold less more
  rw [leftL_at cs met hq, deg_perm (sortP_perm _) q, deg_append]
  simp only [deg, Nat.add_zero]
  by_cases a : p.1 = q <;> by_cases b : p.2 = q <;> simp [a, b] <;> omega
theorem sol_met {s : List P2} {p : P2} (hs : Sol cs.length (looseP cs.length met apart) (lf (leftL cs met)) s) (hp : p ∈ s) : 0 < manyW cs (more met p) apart := by
  have up : rising s := (loose_w met apart).1.sublist hs.1
  refine cnt_pos.mpr ⟨s.filter fun q => !decide (q = p), ?_, ?_⟩
  · refine rising_sub (rising_filter up _) (loose_w _ _).1 fun x hx => ?_
    obtain ⟨h1, h2⟩ := List.mem_filter.mp hx
    obtain ⟨a, b, c⟩ := mem_loose.mp (hs.1.subset h1)
    refine mem_loose.mpr ⟨a, fun z => ?_, c⟩
    rcases mem_more.mp z with z | z
    · exact b z
    · simp [z] at h2
  · intro q hq
    rw [less_left hq]
    have pm : s.Perm (p :: s.filter fun q => !decide (q = p)) := by
      rw [List.perm_ext_iff_of_nodup (rising_nodup up) (List.nodup_cons.mpr ⟨fun z => by simpa using (List.mem_filter.mp z).2, (rising_nodup up).sublist List.filter_sublist⟩)]
      intro x
      rw [List.mem_cons, List.mem_filter]
      constructor
      · intro hx
        by_cases e : x = p
        · exact .inl e
        · exact .inr ⟨hx, by simpa using e⟩
      · rintro (e | ⟨hx, _⟩)
        · rw [e]; exact hp
        · exact hx
    have e1 := hs.2 q hq
    rw [deg_perm pm q] at e1
    unfold less
    rw [← e1]
    simp only [deg, Int.natCast_add]
    by_cases a : p.1 = q <;> by_cases b : p.2 = q <;> simp [a, b] <;> omega
theorem sol_apart {s : List P2} {p : P2} (hs : Sol cs.length (looseP cs.length met apart) (lf (leftL cs met)) s) (hp : p ∉ s) : 0 < manyW cs met (more apart p) := by
  have up : rising s := (loose_w met apart).1.sublist hs.1
  refine cnt_pos.mpr ⟨s, ?_, hs.2⟩
  refine rising_sub up (loose_w _ _).1 fun x hx => ?_
  obtain ⟨a, b, c⟩ := mem_loose.mp (hs.1.subset hx)
  refine mem_loose.mpr ⟨a, b, fun z => ?_⟩
  rcases mem_more.mp z with z | z
  · exact c z
  · rw [z] at hx
    exact hp hx
theorem some_pair (h : 2 ≤ manyW cs met apart) : ∃ p, p ∈ looseP cs.length met apart ∧ 0 < manyW cs (more met p) apart ∧ manyW cs (more met p) apart < manyW cs met apart := by
  have nd : ((subs (looseP cs.length met apart)).filter fun s => decide (meets cs.length (lf (leftL cs met)) s)).Nodup := (subs_nodup (rising_nodup (loose_w met apart).1)).sublist List.filter_sublist
  unfold manyW cnt at h
  cases e : (subs (looseP cs.length met apart)).filter (fun s => decide (meets cs.length (lf (leftL cs met)) s)) with
  | nil =>
    rw [e] at h
    simp at h
  | cons s r =>
    cases r with
    | nil =>
      rw [e] at h
      simp at h
    | cons t r =>
      have inS : ∀ u, u ∈ s :: t :: r → Sol cs.length (looseP cs.length met apart) (lf (leftL cs met)) u := fun u hu => by
        rw [← e] at hu
        obtain ⟨h1, h2⟩ := List.mem_filter.mp hu
        exact ⟨mem_subs.mp h1, by simpa using h2⟩
      have hs := inS s (List.mem_cons_self ..)
      have ht := inS t (List.mem_cons_of_mem _ (List.mem_cons_self ..))
      have ne : s ≠ t := fun z => by
        rw [e] at nd
        exact (List.nodup_cons.mp nd).1 (by rw [z]; exact List.mem_cons_self ..)
      have us : rising s := (loose_w met apart).1.sublist hs.1
      have ut : rising t := (loose_w met apart).1.sublist ht.1
      have : ∃ p, (p ∈ s ∧ p ∉ t) ∨ (p ∈ t ∧ p ∉ s) := Classical.byContradiction fun hne => ne (rising_ext us ut fun x => by
        constructor
        · intro hx
          exact Classical.byContradiction fun z => hne ⟨x, .inl ⟨hx, z⟩⟩
        · intro hx
          exact Classical.byContradiction fun z => hne ⟨x, .inr ⟨hx, z⟩⟩)
      obtain ⟨p, hp⟩ := this
      have main : ∀ {s t : List P2}, Sol cs.length (looseP cs.length met apart) (lf (leftL cs met)) s → Sol cs.length (looseP cs.length met apart) (lf (leftL cs met)) t → p ∈ s → p ∉ t → p ∈ looseP cs.length met apart ∧ 0 < manyW cs (more met p) apart ∧ manyW cs (more met p) apart < manyW cs met apart := fun hs ht p1 p2 => by
        have hl := hs.1.subset p1
        have a := sol_met hs p1
        have b := sol_apart ht p2
        have c := many_split hl
        exact ⟨hl, a, by omega⟩
      rcases hp with ⟨p1, p2⟩ | ⟨p1, p2⟩
      · exact ⟨p, main hs ht p1 p2⟩
      · exact ⟨p, main ht hs p1 p2⟩
theorem min_of (x : Int × P2) : ∀ xs : List (Int × P2), PySem.W.minOf x xs ∈ x :: xs ∧ ∀ y, y ∈ x :: xs → (PySem.W.minOf x xs).1 ≤ y.1 := by
  intro xs
  induction xs generalizing x with
  | nil => exact ⟨List.mem_cons_self .., fun y hy => by rw [List.mem_singleton.mp hy]; exact Int.le_refl _⟩
  | cons z zs ih =>
    have e : PySem.W.minOf x (z :: zs) = PySem.W.minOf (if PySem.W.DatumOrd.lt z x = true then z else x) zs := rfl
    have le : (if PySem.W.DatumOrd.lt z x = true then z else x).1 ≤ x.1 ∧ (if PySem.W.DatumOrd.lt z x = true then z else x).1 ≤ z.1 := by
      have lt_eq : PySem.W.DatumOrd.lt z x = if z.1 = x.1 then PySem.W.DatumOrd.lt z.2 x.2 else decide (z.1 < x.1) := rfl
      rw [lt_eq]
      by_cases a : z.1 = x.1
      · rw [if_pos a]
        split <;> omega
      · rw [if_neg a]
        by_cases b : z.1 < x.1
        · rw [decide_eq_true b, if_pos rfl]
          omega
        · rw [decide_eq_false b, if_neg Bool.false_ne_true]
          omega
    obtain ⟨h1, h2⟩ := ih (if PySem.W.DatumOrd.lt z x = true then z else x)
    rw [e]
    constructor
    · rcases List.mem_cons.mp h1 with h | h
      · rw [h]
        split
        · exact List.mem_cons_of_mem _ (List.mem_cons_self ..)
        · exact List.mem_cons_self ..
      · exact List.mem_cons_of_mem _ (List.mem_cons_of_mem _ h)
    · intro y hy
      have h0 := h2 _ (List.mem_cons_self ..)
      rcases List.mem_cons.mp hy with h | h
      · rw [h]; omega
      · rcases List.mem_cons.mp h with h | h
        · rw [h]; omega
        · exact h2 y (List.mem_cons_of_mem _ h)
theorem mem_best {p : P2} (h1 : manyW cs met apart ≠ 1) : p ∈ bestF cs met apart → p ∈ looseP cs.length met apart ∧ ∀ q, q ∈ looseP cs.length met apart → worstF cs met apart p ≤ worstF cs met apart q := by
  intro hp
  unfold bestF at hp
  rw [if_neg h1] at hp
  have mem : ∀ y, y ∈ (looseP cs.length met apart).map (fun p => (worstF cs met apart p, p)) → y.2 ∈ looseP cs.length met apart ∧ y.1 = worstF cs met apart y.2 := fun y hy => by
    obtain ⟨q, hq, rfl⟩ := List.mem_map.mp hy
    exact ⟨hq, rfl⟩
  have mem2 : ∀ q, q ∈ looseP cs.length met apart → (worstF cs met apart q, q) ∈ (looseP cs.length met apart).map (fun p => (worstF cs met apart p, p)) := fun q hq => List.mem_map.mpr ⟨q, hq, rfl⟩
  generalize (looseP cs.length met apart).map (fun p => (worstF cs met apart p, p)) = ws at hp mem mem2
  cases ws with
  | nil => exact absurd hp List.not_mem_nil
  | cons x xs =>
    obtain ⟨y, hy, rfl⟩ := List.mem_map.mp hp
    obtain ⟨y1, y2⟩ := List.mem_filter.mp hy
    have y2' : y.1 = (PySem.W.minOf x xs).1 := by simpa using y2
    obtain ⟨m1, m2⟩ := mem y y1
    refine ⟨m1, fun q hq => ?_⟩
    rw [← m2, y2']
    exact (min_of x xs).2 _ (mem2 q hq)
theorem best_ne (h1 : manyW cs met apart ≠ 1) (h : looseP cs.length met apart ≠ []) : bestF cs met apart ≠ [] := by
  unfold bestF
  rw [if_neg h1]
  have ne : (looseP cs.length met apart).map (fun p => (worstF cs met apart p, p)) ≠ [] := fun z => h (List.map_eq_nil_iff.mp z)
  generalize (looseP cs.length met apart).map (fun p => (worstF cs met apart p, p)) = ws at ne
  cases ws with
  | nil => exact absurd rfl ne
  | cons x xs =>
    intro z
    have : (PySem.W.minOf x xs).2 ∈ ((x :: xs).filter fun y => decide (y.1 = (PySem.W.minOf x xs).1)).map (·.2) := List.mem_map.mpr ⟨_, List.mem_filter.mpr ⟨(min_of x xs).1, by simp⟩, rfl⟩
    have z' : ((x :: xs).filter fun y => decide (y.1 = (PySem.W.minOf x xs).1)).map (·.2) = [] := z
    rw [z'] at this
    exact absurd this List.not_mem_nil
/-- a best ask is in some web and not in all -/
theorem best_mid {p : P2} (h : 2 ≤ manyW cs met apart) (hp : p ∈ bestF cs met apart) : p ∈ looseP cs.length met apart ∧ 0 < manyW cs (more met p) apart ∧ manyW cs (more met p) apart < manyW cs met apart := by
  obtain ⟨a, b⟩ := mem_best (by omega) hp
  obtain ⟨q, q1, q2, q3⟩ := some_pair h
  have c := b q q1
  have s := many_split a
  have wq : worstF cs met apart q < manyW cs met apart := by
    unfold worstF
    split <;> omega
  have wp : (manyW cs (more met p) apart : Int) ≤ worstF cs met apart p ∧ (manyW cs met apart : Int) - manyW cs (more met p) apart ≤ worstF cs met apart p := by
    unfold worstF
    split <;> omega
  exact ⟨a, by omega, by omega⟩
end
end HM

/-! What the law's own defs tell. -/
namespace HM
open PySem L2 TL
def d__law_pot (sa : Addr) (ns : List Int) : DR := (dRC (dSet 2 (dIte (asB (d2 fLt (dV 1) (dLenS 0 sa ns))) (dN fAbs (dCons (dIxS 0 sa ns (dV 1)) dNil)) (d2 fPlus (d2 fMul (dC (.int 1753)) (dV 1)) (dC (.int 599))))) (dRF (dLst (dCons (dN fMax2 (dCons (dC (.int 0)) (dCons (d2 fSub (dV 2) (d2 fPow (dC (.int 10)) (dC (.int 18)))) dNil))) (dCons (d2 fPlus (d2 fMod (dN fInt (dCons (d2 fPlus (d2 fPlus (d2 fMul (d2 fMod (dN fInt (dCons (dV 2) dNil)) (dC (.int 2147483549))) (dC (.int 40014))) (d2 fMul (dC (.int 7487)) (dV 1))) (dC (.int 1423))) dNil)) (dC (.int 2147483563))) (dC (.int 1))) dNil)))))
theorem ok__law_pot : ∀ (sa : Addr) (ns : List Int) (j : Nat) (Q : List D → Prop), j ≤ 1000 → (∀ x y : Int, 0 ≤ x → 0 ≤ y → y < 4294967296 → Q [.int x, .int y]) → d__law_pot sa ns (.hd sa :: .d (.int (j : Int)) :: List.replicate 1 .no) Q := by
  intro sa ns k P hk h
  simp only [semOf, semP, semF, semT, semM, List.map_cons, List.map_nil, List.cons_append, List.nil_append, List.append_nil, List.replicate_succ, List.replicate_zero, Nat.reduceSub, Nat.reduceAdd, Nat.sub_self, Nat.sub_zero, List.length_cons, List.length_nil, Nat.zero_add, dSeq, dSet, dSetF, dSetH, dSetFH, dRet, dRetN, dIf, dNext, dFor, dExt, dApp, dSub, dFrz, dDrop, dNever, dBrk, dCnt, dAsg, dAsgH, dPar, dcNil, dcD, dcF, storesD, dV, dC, d1, d2, dN, dNF, d2F, dCons, dNil, dTup, dLst, asL, asB, dtAnd, dtOr, dtNot, dYes, dAndV, dOrV, dNotV, dIte, dCh, dLc, dSeqI, dRg1, dRg2, dEnum, dZip, dgN, dgT, dgCons, dgNil, sgN, sgT, sgCons, sgNil, dSlT, dSlL, dSome, dNo, dRev, dIsi, dNP, dNew, dLenS, dIxS, dPotS, dFld, dMe, dMeN, dNCat, dMemo, dRF, dRC, dPot, wipeE, vis, hid, noOw, isOw, List.all_cons, List.all_nil, Bool.not_false, Bool.not_true, Bool.and_true, Bool.true_and, Bool.or_true, Bool.true_or, Bool.false_or, Bool.or_false, List.getElem?_cons_zero, List.getElem?_cons_succ, List.set_cons_zero, List.set_cons_succ, List.length_map, e_le, e_lt, e_ge, e_gt, e_lenT, e_lenL, e_add, e_cat, e_sub, e_mul, e_div, e_mod, e_tupL, e_tupT, e_listL, e_listT, e_fcat, e_isN, e_eqi, e_eqs, fEq, fNe, fIn, fNotIn, decide_true, id_eq, e_all, e_any, e_ixT0, e_ixL0, e_ixT1, e_ixT2, e_max2, e_min2, e_abs, e_int, e_pow, true_and, and_true, forall_const, d__law_pot]
  have fin : ∀ (c z : Int), ∀ A : Int, 0 ≤ A → A < 4294967296 → P [PyData.int (if c - z > 0 then c - z else 0), PyData.int A] := fun c z A a0 a1 => h _ _ (by split <;> omega) a0 a1
  cases e : decide ((k : Int) < ns.length) with
  | true =>
    have hk2 : k < ns.length := by simpa using e
    have ea : atI ns (k : Int) = some ns[k] := by rw [TL.atI_nat, List.getElem?_eq_getElem hk2]
    rw [ea]
    simp only [semOf, semP, semF, semT, semM, List.map_cons, List.map_nil, List.cons_append, List.nil_append, List.append_nil, List.replicate_succ, List.replicate_zero, Nat.reduceSub, Nat.reduceAdd, Nat.sub_self, Nat.sub_zero, List.length_cons, List.length_nil, Nat.zero_add, dSeq, dSet, dSetF, dSetH, dSetFH, dRet, dRetN, dIf, dNext, dFor, dExt, dApp, dSub, dFrz, dDrop, dNever, dBrk, dCnt, dAsg, dAsgH, dPar, dcNil, dcD, dcF, storesD, dV, dC, d1, d2, dN, dNF, d2F, dCons, dNil, dTup, dLst, asL, asB, dtAnd, dtOr, dtNot, dYes, dAndV, dOrV, dNotV, dIte, dCh, dLc, dSeqI, dRg1, dRg2, dEnum, dZip, dgN, dgT, dgCons, dgNil, sgN, sgT, sgCons, sgNil, dSlT, dSlL, dSome, dNo, dRev, dIsi, dNP, dNew, dLenS, dIxS, dPotS, dFld, dMe, dMeN, dNCat, dMemo, dRF, dRC, dPot, wipeE, vis, hid, noOw, isOw, List.all_cons, List.all_nil, Bool.not_false, Bool.not_true, Bool.and_true, Bool.true_and, Bool.or_true, Bool.true_or, Bool.false_or, Bool.or_false, List.getElem?_cons_zero, List.getElem?_cons_succ, List.set_cons_zero, List.set_cons_succ, List.length_map, e_le, e_lt, e_ge, e_gt, e_lenT, e_lenL, e_add, e_cat, e_sub, e_mul, e_div, e_mod, e_tupL, e_tupT, e_listL, e_listT, e_fcat, e_isN, e_eqi, e_eqs, fEq, fNe, fIn, fNotIn, decide_true, id_eq, e_all, e_any, e_ixT0, e_ixL0, e_ixT1, e_ixT2, e_max2, e_min2, e_abs, e_int, e_pow, true_and, and_true, forall_const]
    exact ⟨⟨by decide, by decide, by decide⟩, by decide, .inr ⟨by decide, by decide⟩, .inl ⟨by decide, by decide⟩, by decide, by decide, fin _ _ _ (by omega) (by omega)⟩
  | false => exact ⟨.inl ⟨by decide, by decide⟩, ⟨by decide, by decide, by decide⟩, by decide, .inr ⟨by decide, by decide⟩, .inl ⟨by decide, by decide⟩, by decide, by decide, fin _ _ _ (by omega) (by omega)⟩
theorem eqv_web (n : Nat) (l : List P2) : PyData.eqv (webD n l) (webD n l) = true := by
  refine PySem.SeqAt.eqv_refl_plain _ ?_
  show (true && (true && (PyData.plainAll (l.map PySem.W.Datum.toD) && true))) = true
  rw [PySem.W.plainAll_map]
  rfl
theorem okD_web (n : Nat) (l : List P2) : okD (webD n l) = true := by
  have := PySem.W.depthAll_map l
  unfold okD
  rw [show (webD n l).plain = true by
    show (true && (true && (PyData.plainAll (l.map PySem.W.Datum.toD) && true))) = true
    rw [PySem.W.plainAll_map]
    rfl, decide_eq_true (show (webD n l).depth ≤ 60 by
    simp only [PyData.depth, PyData.depthAll]
    have e : PyData.depthAll (l.map pD) ≤ 1 := this
    omega)]
  rfl
theorem e_isB {g : Bool → Bool} {a b : Bool} {P : D → Prop} : fIs g (.bool a) (.bool b) P = P (.bool (g (a == b))) := rfl
theorem part_cross (a b : Nat) (h : a ≤ b) : a * (partF a b).2 = b * (partF a b).1 ∧ (partF a b).1 ≤ (partF a b).2 := by
  unfold partF
  have h1 := Nat.div_mul_cancel (Nat.gcd_dvd_left a b)
  have h2 := Nat.div_mul_cancel (Nat.gcd_dvd_right a b)
  constructor
  · show a * (b / Nat.gcd a b) = b * (a / Nat.gcd a b)
    calc a * (b / Nat.gcd a b) = (a / Nat.gcd a b * Nat.gcd a b) * (b / Nat.gcd a b) := by rw [h1]
      _ = (b / Nat.gcd a b * Nat.gcd a b) * (a / Nat.gcd a b) := by
        rw [Nat.mul_assoc, Nat.mul_comm (Nat.gcd a b), Nat.mul_comm (a / Nat.gcd a b)]
      _ = b * (a / Nat.gcd a b) := by rw [h2]
  · exact Nat.div_le_div_right h
theorem part_mid {a b : Nat} (h0 : 0 < a) (h : a < b) : (partF a b).1 ≠ 0 ∧ (partF a b).1 ≠ (partF a b).2 := by
  unfold partF
  have h1 := Nat.div_mul_cancel (Nat.gcd_dvd_left a b)
  have h2 := Nat.div_mul_cancel (Nat.gcd_dvd_right a b)
  constructor
  · intro z
    have z' : a / Nat.gcd a b = 0 := z
    rw [z'] at h1
    omega
  · intro z
    have z' : a / Nat.gcd a b = b / Nat.gcd a b := z
    rw [z', h2] at h1
    omega
theorem part_le (a b : Nat) : (partF a b).1 ≤ a ∧ (partF a b).2 ≤ b := ⟨Nat.div_le_self .., Nat.div_le_self ..⟩
theorem srt_more {l : List P2} {q : P2} {Q : List D → Prop} (h : l.length ≤ 1000) (hq : Q ((more l q).map pD)) : fSrt false [.tuple (l.map pD ++ [pD q])] Q := by
  rw [show l.map pD ++ [pD q] = (l ++ [q]).map pD by rw [List.map_append]; rfl]
  exact srt_P (by rw [List.length_append, List.length_singleton]; omega) hq
theorem imm_ps (l : List P2) : imm (psD l) = true := immAll_ps l
theorem imm_is (l : List Int) : imm (isD l) = true := imm_ints l
def d__law_asked_right_d (p : Addr) : DS := (dSeq (dSet 12 (dN g_many_told (dCons (dV 3) (dCons (dV 4) (dCons (dV 5) dNil)))))
  (dSeq (dIf (dtOr (asB (d2 fNe (d2 fMul (dV 12) (d2 fIx (dV 11) (dC (.int 1)))) (d2 fMul (dV 6) (dIte (asB (d2 fIn (dV 10) (d2 fIx (dV 1) (dC (.int 2))))) (d2 fIx (dV 11) (dC (.int 0))) (d2 fSub (d2 fIx (dV 11) (dC (.int 1))) (d2 fIx (dV 11) (dC (.int 0)))))))) (dtAnd (asB (dV 2)) (asB (d2 fGe (dV 12) (dV 6))))) (dRet (dC (.bool false))) dNext)
  (dSet 6 (dV 12))))
def d__law_asked_right_c (p : Addr) : DS := (dSeq (dAsg (sgT 2 (sgCons 4 (sgCons 5 sgNil))) (dIte (asB (d2 fIn (dV 10) (d2 fIx (dV 1) (dC (.int 2))))) (dTup (dCons (dN fTuple (dCons (asL (dNF (fSrt false) (dCons (d2 fPlus (dV 4) (dTup (dCons (dV 10) dNil))) dNil))) dNil)) (dCons (dV 5) dNil))) (dTup (dCons (dV 4) (dCons (dN fTuple (dCons (asL (dNF (fSrt false) (dCons (d2 fPlus (dV 5) (dTup (dCons (dV 10) dNil))) dNil))) dNil)) dNil)))))
  (d__law_asked_right_d p))
def d__law_asked_right_b (p : Addr) : DS := (dSeq (dSet 11 (dN g_share (dCons (dV 3) (dCons (dV 4) (dCons (dV 5) (dCons (dV 10) dNil))))))
  (dSeq (dIf (dtAnd (asB (dV 2)) (dtOr (asB (d2 fIn (dV 10) (dN g_sure_met (dCons (dV 3) (dCons (dV 4) (dCons (dV 5) dNil)))))) (dtOr (asB (d2 fIn (dV 10) (dN g_sure_apart (dCons (dV 3) (dCons (dV 4) (dCons (dV 5) dNil)))))) (asB (d2 fIn (dV 11) (dTup (dCons (dTup (dCons (dC (.int 0)) (dCons (dC (.int 1)) dNil))) (dCons (dTup (dCons (dC (.int 1)) (dCons (dC (.int 1)) dNil))) dNil)))))))) (dRet (dC (.bool false))) dNext)
  (d__law_asked_right_c p)))
def d__law_asked_right_a (p : Addr) : DS := (dSeq (dSet 8 (dN g_best_asks (dCons (dV 3) (dCons (dV 4) (dCons (dV 5) dNil)))))
  (dSeq (dSetF 9 (dLc (dSeqI (dN g__law_all_pairs (dCons (d2 fIx (dV 1) (dC (.int 1))) dNil))) (dgN 10) (dtAnd (asB (d2 fNotIn (dV 10) (dV 4))) (asB (d2 fNotIn (dV 10) (dV 5)))) (dV 10) [10]))
  (dSeq (dSet 10 (dNP p 0 g__law_pick (dCons (dIte (asB (dV 2)) (dV 8) (dV 9)) dNil)))
  (d__law_asked_right_b p))))
/-- _law_asked_right(pot, web, is_best): names 0 pot 1 web 2 is_best 3 counts 4 met 5 apart 6 many 7 turn 8 some 9 loose 10 pair 11 part 12 late 13 asked -/
def d__law_asked_right (p : Addr) : DS := (dSeq (dAsg (sgT 3 (sgCons 3 (sgCons 4 (sgCons 5 sgNil)))) (dTup (dCons (dN g_counts_of (dCons (dV 1) dNil)) (dCons (dTup dNil) (dCons (dTup dNil) dNil)))))
  (dSeq (dSet 6 (dN g_many_told (dCons (dV 3) (dCons (dV 4) (dCons (dV 5) dNil)))))
  (dSeq (dFor (dRg1 (dCons (dC (.int 15)) dNil)) (sgN 7) (dSeq (dIf (asB (d2 fEq (dV 6) (dC (.int 1)))) (dSeq (dSet 13 (dN fTuple (dCons (asL (dNF (fSrt false) (dCons (d2 fPlus (dV 4) (dV 5)) dNil))) dNil)))
  (dRet (dAndV (d2 fEq (dN g_told_web (dCons (dV 3) (dCons (dV 4) (dCons (dV 5) dNil)))) (dV 1)) (dAndV (d2 (fIs id) (dN g_is_key (dCons (dV 1) (dCons (dV 13) dNil))) (dC (.bool true))) (d2 (fIs id) (dN g_other_web (dCons (dV 1) (dCons (dV 13) dNil))) (dC .none)))))) dNext)
  (d__law_asked_right_a p)))
  (dRet (d2 fEq (dV 6) (dC (.int 1)))))))
def g__law_asked_right : List D → (D → Prop) → Prop := fun ds P => ∃ (n : Nat) (l : List P2) (b : Bool), ds = [webD n l, .bool b] ∧ Web8 n l ∧ n ≤ 5 ∧ P (.bool true)
theorem allP_10 {n : Nat} (h : n ≤ 5) : (allP n).length ≤ 10 := by
  have : ∀ k, k < 6 → (allP k).length ≤ 10 := by decide +kernel
  exact this n (by omega)
theorem loose_less {n : Nat} {met apart met' apart' : List P2} {q : P2} (hq : q ∈ looseP n met apart) (h : ∀ x, (x ∉ met' ∧ x ∉ apart') ↔ (x ∉ met ∧ x ∉ apart ∧ x ≠ q)) : (looseP n met' apart').length + 1 = (looseP n met apart).length := by
  have := (loose_perm hq h).length_eq
  rw [List.length_cons] at this
  exact this.symm
theorem best_len {cs : List Int} {met apart : List P2} : (bestF cs met apart).length ≤ (looseP cs.length met apart).length := by
  unfold bestF
  split
  · exact Nat.zero_le _
  · have e : ((looseP cs.length met apart).map fun p => (worstF cs met apart p, p)).length = (looseP cs.length met apart).length := List.length_map _
    rw [← e]
    generalize ((looseP cs.length met apart).map fun p => (worstF cs met apart p, p)) = ws
    cases ws with
    | nil => exact Nat.le_refl _
    | cons x xs =>
      show ((((x :: xs).filter _).map _).length ≤ _)
      rw [List.length_map]
      exact List.length_filter_le _ _
theorem ok__law_asked_right : ∀ ds P, g__law_asked_right ds P → semP 14 3 d__law_asked_right ds P := by
  rintro ds P ⟨n, l, b, rfl, w, hn, h⟩
  refine ⟨rfl, fun p => ?_⟩
  have w8 := w.hi
  have k0 : Like n l [] [] := ⟨⟨fun p hp => absurd hp List.not_mem_nil, List.Pairwise.nil, Nat.zero_le _⟩, ⟨fun p hp => absurd hp List.not_mem_nil, List.Pairwise.nil, Nat.zero_le _⟩, fun p hp => absurd hp List.not_mem_nil, fun p hp => absurd hp List.not_mem_nil⟩
  simp only [semOf, semP, semF, semT, semM, List.map_cons, List.map_nil, List.cons_append, List.nil_append, List.append_nil, List.replicate_succ, List.replicate_zero, Nat.reduceSub, Nat.reduceAdd, Nat.sub_self, Nat.sub_zero, List.length_cons, List.length_nil, Nat.zero_add, dSeq, dSet, dSetF, dSetH, dSetFH, dRet, dRetN, dIf, dNext, dFor, dExt, dApp, dSub, dFrz, dDrop, dNever, dBrk, dCnt, dAsg, dAsgH, dPar, dcNil, dcD, dcF, storesD, dV, dC, d1, d2, dN, dNF, d2F, dCons, dNil, dTup, dLst, asL, asB, dtAnd, dtOr, dtNot, dYes, dAndV, dOrV, dNotV, dIte, dCh, dLc, dSeqI, dRg1, dRg2, dEnum, dZip, dgN, dgT, dgCons, dgNil, sgN, sgT, sgCons, sgNil, dSlT, dSlL, dSome, dNo, dRev, dIsi, dNP, dNew, dLenS, dIxS, dPotS, dFld, dMe, dMeN, dNCat, dMemo, dRF, dRC, dPot, wipeE, vis, hid, noOw, isOw, List.all_cons, List.all_nil, Bool.not_false, Bool.not_true, Bool.and_true, Bool.true_and, Bool.or_true, Bool.true_or, Bool.false_or, Bool.or_false, List.getElem?_cons_zero, List.getElem?_cons_succ, List.set_cons_zero, List.set_cons_succ, List.length_map, e_le, e_lt, e_ge, e_gt, e_lenT, e_lenL, e_add, e_cat, e_sub, e_mul, e_div, e_mod, e_tupL, e_tupT, e_listL, e_listT, e_fcat, e_isN, e_eqi, e_eqs, fEq, fNe, fIn, fNotIn, decide_true, id_eq, e_all, e_any, e_ixT0, e_ixL0, e_ixT1, e_ixT2, e_max2, e_min2, e_abs, e_int, e_pow, true_and, and_true, forall_const, d__law_asked_right]
  refine ⟨n, l, rfl, ⟨w.lo, by omega⟩, w.ps, by decide, by decide, by decide, ?_⟩
  refine ⟨degL n l, [], [], rfl, k0.t8 w, ⟨by decide, by decide⟩, ?_⟩
  rw [show rangeD 0 (Int.toNat 15) = (List.range 15).map nD from (rangeD_nat 0 15).trans (List.map_congr_left fun i _ => by rw [Nat.zero_add])]
  refine for_go (List.range 15) (fun done ρ => ∃ met apart s7 s8 s9 s10 s11 s12 s13, ρ = [.hd p, .d (webD n l), .d (.bool b), .d (isD (degL n l)), .d (psD met), .d (psD apart), .d (nD (manyW (degL n l) met apart)), s7, s8, s9, s10, s11, s12, s13] ∧ Like n l met apart ∧ (looseP n met apart).length + done.length ≤ 10) ?step ?fin [] (List.range 15) _ rfl
    ⟨[], [], .no, .no, .no, .no, .no, .no, .no, rfl, k0, by
      have h1 : (looseP n [] []).length ≤ (allP n).length := List.length_filter_le _ _
      have h2 := allP_10 hn
      show (looseP n [] []).length + 0 ≤ 10
      omega⟩
  case fin =>
    rintro ρ ⟨met, apart, s7, s8, s9, s10, s11, s12, s13, rfl, k, hl⟩
    rw [List.length_range] at hl
    omega
  case step =>
    rintro done x rest ρ e ⟨met, apart, s7, s8, s9, s10, s11, s12, s13, rfl, k, hl⟩ E' h1 h2 h3 h4
    have t8 := k.t8 w
    have pos := k.pos w
    have ml := k.m.2.2
    have al := k.a.2.2
    simp only [semOf, semP, semF, semT, semM, List.map_cons, List.map_nil, List.cons_append, List.nil_append, List.append_nil, List.replicate_succ, List.replicate_zero, Nat.reduceSub, Nat.reduceAdd, Nat.sub_self, Nat.sub_zero, List.length_cons, List.length_nil, Nat.zero_add, dSeq, dSet, dSetF, dSetH, dSetFH, dRet, dRetN, dIf, dNext, dFor, dExt, dApp, dSub, dFrz, dDrop, dNever, dBrk, dCnt, dAsg, dAsgH, dPar, dcNil, dcD, dcF, storesD, dV, dC, d1, d2, dN, dNF, d2F, dCons, dNil, dTup, dLst, asL, asB, dtAnd, dtOr, dtNot, dYes, dAndV, dOrV, dNotV, dIte, dCh, dLc, dSeqI, dRg1, dRg2, dEnum, dZip, dgN, dgT, dgCons, dgNil, sgN, sgT, sgCons, sgNil, dSlT, dSlL, dSome, dNo, dRev, dIsi, dNP, dNew, dLenS, dIxS, dPotS, dFld, dMe, dMeN, dNCat, dMemo, dRF, dRC, dPot, wipeE, vis, hid, noOw, isOw, List.all_cons, List.all_nil, Bool.not_false, Bool.not_true, Bool.and_true, Bool.true_and, Bool.or_true, Bool.true_or, Bool.false_or, Bool.or_false, List.getElem?_cons_zero, List.getElem?_cons_succ, List.set_cons_zero, List.set_cons_succ, List.length_map, e_le, e_lt, e_ge, e_gt, e_lenT, e_lenL, e_add, e_cat, e_sub, e_mul, e_div, e_mod, e_tupL, e_tupT, e_listL, e_listT, e_fcat, e_isN, e_eqi, e_eqs, fEq, fNe, fIn, fNotIn, decide_true, id_eq, e_all, e_any, e_ixT0, e_ixL0, e_ixT1, e_ixT2, e_max2, e_min2, e_abs, e_int, e_pow, true_and, and_true, forall_const]
    rw [show decide ((manyW (degL n l) met apart : Int) = 1) = decide (manyW (degL n l) met apart = 1) from decide_eq_decide.mpr (by omega)]
    by_cases hm : manyW (degL n l) met apart = 1
    · rw [decide_eq_true hm]
      obtain ⟨ky1, ky2⟩ := k.key w
      refine ⟨by omega, ?_⟩
      rw [← List.map_append]
      refine srt_P (by rw [List.length_append]; omega) ⟨by simp [imm_ps], ?_⟩
      refine ⟨degL n l, met, apart, rfl, t8, ?_⟩
      rw [k.one w hm]
      simp only [degL_len]
      rw [e_eq (okD_web n l) (okD_web n l), eqv_web]
      have nd : (met ++ apart).Nodup := List.nodup_append.mpr ⟨rising_nodup k.m.2.1, rising_nodup k.a.2.1, fun a ha b hb e => k.ia b hb (by rw [← e]; exact k.im a ha)⟩
      have okA : okPs n (sortP (met ++ apart)) := ⟨fun q hq => (List.mem_append.mp (mem_sortP.mp hq)).elim (k.m.1 q) (k.a.1 q), sortP_rising nd, by
        rw [(sortP_perm _).length_eq]
        have := nodup_few nd (s := allP n) fun y hy => mem_allP.mpr ((List.mem_append.mp hy).elim (k.m.1 y) (k.a.1 y))
        have := allP_10 hn
        omega⟩
      refine ⟨n, l, sortP (met ++ apart), rfl, w, okA, ?_⟩
      rw [ky1, ky2, decide_eq_true hm]
      show fIs id (.bool true) (.bool true) _
      rw [e_isB]
      refine ⟨n, l, sortP (met ++ apart), rfl, w, okA, by rw [ky1, ky2]; exact hm, ?_⟩
      simp only [semOf, semP, semF, semT, semM, List.map_cons, List.map_nil, List.cons_append, List.nil_append, List.append_nil, List.replicate_succ, List.replicate_zero, Nat.reduceSub, Nat.reduceAdd, Nat.sub_self, Nat.sub_zero, List.length_cons, List.length_nil, Nat.zero_add, dSeq, dSet, dSetF, dSetH, dSetFH, dRet, dRetN, dIf, dNext, dFor, dExt, dApp, dSub, dFrz, dDrop, dNever, dBrk, dCnt, dAsg, dAsgH, dPar, dcNil, dcD, dcF, storesD, dV, dC, d1, d2, dN, dNF, d2F, dCons, dNil, dTup, dLst, asL, asB, dtAnd, dtOr, dtNot, dYes, dAndV, dOrV, dNotV, dIte, dCh, dLc, dSeqI, dRg1, dRg2, dEnum, dZip, dgN, dgT, dgCons, dgNil, sgN, sgT, sgCons, sgNil, dSlT, dSlL, dSome, dNo, dRev, dIsi, dNP, dNew, dLenS, dIxS, dPotS, dFld, dMe, dMeN, dNCat, dMemo, dRF, dRC, dPot, wipeE, vis, hid, noOw, isOw, List.all_cons, List.all_nil, Bool.not_false, Bool.not_true, Bool.and_true, Bool.true_and, Bool.or_true, Bool.true_or, Bool.false_or, Bool.or_false, List.getElem?_cons_zero, List.getElem?_cons_succ, List.set_cons_zero, List.set_cons_succ, List.length_map, e_le, e_lt, e_ge, e_gt, e_lenT, e_lenL, e_add, e_cat, e_sub, e_mul, e_div, e_mod, e_tupL, e_tupT, e_listL, e_listT, e_fcat, e_isN, e_eqi, e_eqs, fEq, fNe, fIn, fNotIn, decide_true, id_eq, e_all, e_any, e_ixT0, e_ixL0, e_ixT1, e_ixT2, e_max2, e_min2, e_abs, e_int, e_pow, true_and, and_true, forall_const, isNone]
      rw [h3]
      exact h
    · rw [decide_eq_false hm]
      have hm2 : 2 ≤ manyW (degL n l) met apart := by omega
      have lne : looseP n met apart ≠ [] := fun z => by
        obtain ⟨q, hq, _⟩ := some_pair hm2
        rw [degL_len, z] at hq
        exact absurd hq List.not_mem_nil
      -- the ways on behind the pick
      have body : ∀ (s7 s8 s12 s13 : Sl) (s11 : Sl) (q : P2), q ∈ looseP n met apart → (b = true → q ∈ bestF (degL n l) met apart) →
          d__law_asked_right_b p [.hd p, .d (webD n l), .d (.bool b), .d (isD (degL n l)), .d (psD met), .d (psD apart), .d (nD (manyW (degL n l) met apart)), s7, s8, .ow ((looseP n met apart).map pD), .d (pD q), s11, s12, s13] E' := fun s7 s8 s12 s13 s11 q hq hb => by
        have hq' : q ∈ looseP (degL n l).length met apart := by rw [degL_len]; exact hq
        have split := many_split hq'
        obtain ⟨hqo, hqm, hqa⟩ := mem_loose.mp hq
        have sm := many_small (met := met) (apart := apart) t8.few
        simp only [semOf, semP, semF, semT, semM, List.map_cons, List.map_nil, List.cons_append, List.nil_append, List.append_nil, List.replicate_succ, List.replicate_zero, Nat.reduceSub, Nat.reduceAdd, Nat.sub_self, Nat.sub_zero, List.length_cons, List.length_nil, Nat.zero_add, dSeq, dSet, dSetF, dSetH, dSetFH, dRet, dRetN, dIf, dNext, dFor, dExt, dApp, dSub, dFrz, dDrop, dNever, dBrk, dCnt, dAsg, dAsgH, dPar, dcNil, dcD, dcF, storesD, dV, dC, d1, d2, dN, dNF, d2F, dCons, dNil, dTup, dLst, asL, asB, dtAnd, dtOr, dtNot, dYes, dAndV, dOrV, dNotV, dIte, dCh, dLc, dSeqI, dRg1, dRg2, dEnum, dZip, dgN, dgT, dgCons, dgNil, sgN, sgT, sgCons, sgNil, dSlT, dSlL, dSome, dNo, dRev, dIsi, dNP, dNew, dLenS, dIxS, dPotS, dFld, dMe, dMeN, dNCat, dMemo, dRF, dRC, dPot, wipeE, vis, hid, noOw, isOw, List.all_cons, List.all_nil, Bool.not_false, Bool.not_true, Bool.and_true, Bool.true_and, Bool.or_true, Bool.true_or, Bool.false_or, Bool.or_false, List.getElem?_cons_zero, List.getElem?_cons_succ, List.set_cons_zero, List.set_cons_succ, List.length_map, e_le, e_lt, e_ge, e_gt, e_lenT, e_lenL, e_add, e_cat, e_sub, e_mul, e_div, e_mod, e_tupL, e_tupT, e_listL, e_listT, e_fcat, e_isN, e_eqi, e_eqs, fEq, fNe, fIn, fNotIn, decide_true, id_eq, e_all, e_any, e_ixT0, e_ixL0, e_ixT1, e_ixT2, e_max2, e_min2, e_abs, e_int, e_pow, true_and, and_true, forall_const, d__law_asked_right_b]
        refine ⟨degL n l, met, apart, q, rfl, t8, by rw [degL_len]; exact hqo, by omega, ?_⟩
        have sh : shareF (degL n l) met apart q (manyW (degL n l) met apart) = partF (manyW (degL n l) (more met q) apart) (manyW (degL n l) met apart) := by
          unfold shareF
          rw [if_neg hqm, if_neg hqa]
        rw [sh]
        have pc := part_cross (manyW (degL n l) (more met q) apart) (manyW (degL n l) met apart) (by omega)
        have ple := part_le (manyW (degL n l) (more met q) apart) (manyW (degL n l) met apart)
        generalize hpt : partF (manyW (degL n l) (more met q) apart) (manyW (degL n l) met apart) = pt at pc ple
        -- behind the store
        have tail : ∀ (mt ap : List P2), Like n l mt ap → (looseP n mt ap).length + 1 = (looseP n met apart).length → ((manyW (degL n l) mt ap : Int) * (pt.2 : Int) = (manyW (degL n l) met apart : Int) * (if q ∈ l then (pt.1 : Int) else (pt.2 : Int) - pt.1)) → (b = true → manyW (degL n l) mt ap < manyW (degL n l) met apart) →
            d__law_asked_right_d p [.hd p, .d (webD n l), .d (.bool b), .d (isD (degL n l)), .d (psD mt), .d (psD ap), .d (nD (manyW (degL n l) met apart)), s7, s8, .ow ((looseP n met apart).map pD), .d (pD q), .d (fracD pt), s12, s13] E' := fun mt ap k2 hls heq hlt => by
          have sm2 := many_small (met := mt) (apart := ap) (k2.t8 w).few
          simp only [semOf, semP, semF, semT, semM, List.map_cons, List.map_nil, List.cons_append, List.nil_append, List.append_nil, List.replicate_succ, List.replicate_zero, Nat.reduceSub, Nat.reduceAdd, Nat.sub_self, Nat.sub_zero, List.length_cons, List.length_nil, Nat.zero_add, dSeq, dSet, dSetF, dSetH, dSetFH, dRet, dRetN, dIf, dNext, dFor, dExt, dApp, dSub, dFrz, dDrop, dNever, dBrk, dCnt, dAsg, dAsgH, dPar, dcNil, dcD, dcF, storesD, dV, dC, d1, d2, dN, dNF, d2F, dCons, dNil, dTup, dLst, asL, asB, dtAnd, dtOr, dtNot, dYes, dAndV, dOrV, dNotV, dIte, dCh, dLc, dSeqI, dRg1, dRg2, dEnum, dZip, dgN, dgT, dgCons, dgNil, sgN, sgT, sgCons, sgNil, dSlT, dSlL, dSome, dNo, dRev, dIsi, dNP, dNew, dLenS, dIxS, dPotS, dFld, dMe, dMeN, dNCat, dMemo, dRF, dRC, dPot, wipeE, vis, hid, noOw, isOw, List.all_cons, List.all_nil, Bool.not_false, Bool.not_true, Bool.and_true, Bool.true_and, Bool.or_true, Bool.true_or, Bool.false_or, Bool.or_false, List.getElem?_cons_zero, List.getElem?_cons_succ, List.set_cons_zero, List.set_cons_succ, List.length_map, e_le, e_lt, e_ge, e_gt, e_lenT, e_lenL, e_add, e_cat, e_sub, e_mul, e_div, e_mod, e_tupL, e_tupT, e_listL, e_listT, e_fcat, e_isN, e_eqi, e_eqs, fEq, fNe, fIn, fNotIn, decide_true, id_eq, e_all, e_any, e_ixT0, e_ixL0, e_ixT1, e_ixT2, e_max2, e_min2, e_abs, e_int, e_pow, true_and, and_true, forall_const, d__law_asked_right_d, e_inP]
          refine ⟨degL n l, mt, ap, rfl, k2.t8 w, by simp [imm], ?_⟩
          have nxt : E'.nx [.hd p, .d (webD n l), .d (.bool b), .d (isD (degL n l)), .d (psD mt), .d (psD ap), .d (nD (manyW (degL n l) mt ap)), s7, s8, .ow ((looseP n met apart).map pD), .d (pD q), .d (fracD pt), .d (nD (manyW (degL n l) mt ap)), s13] :=
            h1 _ ⟨mt, ap, _, _, _, _, _, _, _, rfl, k2, by rw [List.length_append, List.length_singleton]; omega⟩
          have c1 : ∀ (u : Nat) (v : Int), u ≤ 2 ^ 28 → CMul (u : Int) v := fun u v hu => .inl ⟨by omega, by omega⟩
          refine ⟨c1 _ _ sm2, ?_⟩
          have ib : ∀ z : Bool, (z || imm (nD (manyW (degL n l) mt ap))) = true := fun z => by
            rw [show imm (nD (manyW (degL n l) mt ap)) = true from rfl]
            simp
          simp only [ib, true_and]
          by_cases hin : q ∈ l
          · rw [if_pos hin] at heq
            rw [decide_eq_true hin]
            refine ⟨c1 _ _ sm, ?_⟩
            rw [e_eqi, decide_eq_true heq]
            cases b with
            | false => exact nxt
            | true =>
              have := hlt rfl
              show fGe (.int (manyW (degL n l) mt ap : Int)) (.int (manyW (degL n l) met apart : Int)) _
              rw [e_ge, decide_eq_false (show ¬ ((manyW (degL n l) met apart : Int) ≤ (manyW (degL n l) mt ap : Int)) by omega)]
              exact nxt
          · rw [if_neg hin] at heq
            rw [decide_eq_false hin]
            refine ⟨c1 _ _ sm, ?_⟩
            rw [e_eqi, decide_eq_true heq]
            cases b with
            | false => exact nxt
            | true =>
              have := hlt rfl
              show fGe (.int (manyW (degL n l) mt ap : Int)) (.int (manyW (degL n l) met apart : Int)) _
              rw [e_ge, decide_eq_false (show ¬ ((manyW (degL n l) met apart : Int) ≤ (manyW (degL n l) mt ap : Int)) by omega)]
              exact nxt
        have tailC : d__law_asked_right_c p [.hd p, .d (webD n l), .d (.bool b), .d (isD (degL n l)), .d (psD met), .d (psD apart), .d (nD (manyW (degL n l) met apart)), s7, s8, .ow ((looseP n met apart).map pD), .d (pD q), .d (fracD pt), s12, s13] E' := by
          have bm : b = true → 0 < manyW (degL n l) (more met q) apart ∧ manyW (degL n l) (more met q) apart < manyW (degL n l) met apart := fun hbt => (best_mid hm2 (hb hbt)).2
          simp only [semOf, semP, semF, semT, semM, List.map_cons, List.map_nil, List.cons_append, List.nil_append, List.append_nil, List.replicate_succ, List.replicate_zero, Nat.reduceSub, Nat.reduceAdd, Nat.sub_self, Nat.sub_zero, List.length_cons, List.length_nil, Nat.zero_add, dSeq, dSet, dSetF, dSetH, dSetFH, dRet, dRetN, dIf, dNext, dFor, dExt, dApp, dSub, dFrz, dDrop, dNever, dBrk, dCnt, dAsg, dAsgH, dPar, dcNil, dcD, dcF, storesD, dV, dC, d1, d2, dN, dNF, d2F, dCons, dNil, dTup, dLst, asL, asB, dtAnd, dtOr, dtNot, dYes, dAndV, dOrV, dNotV, dIte, dCh, dLc, dSeqI, dRg1, dRg2, dEnum, dZip, dgN, dgT, dgCons, dgNil, sgN, sgT, sgCons, sgNil, dSlT, dSlL, dSome, dNo, dRev, dIsi, dNP, dNew, dLenS, dIxS, dPotS, dFld, dMe, dMeN, dNCat, dMemo, dRF, dRC, dPot, wipeE, vis, hid, noOw, isOw, List.all_cons, List.all_nil, Bool.not_false, Bool.not_true, Bool.and_true, Bool.true_and, Bool.or_true, Bool.true_or, Bool.false_or, Bool.or_false, List.getElem?_cons_zero, List.getElem?_cons_succ, List.set_cons_zero, List.set_cons_succ, List.length_map, e_le, e_lt, e_ge, e_gt, e_lenT, e_lenL, e_add, e_cat, e_sub, e_mul, e_div, e_mod, e_tupL, e_tupT, e_listL, e_listT, e_fcat, e_isN, e_eqi, e_eqs, fEq, fNe, fIn, fNotIn, decide_true, id_eq, e_all, e_any, e_ixT0, e_ixL0, e_ixT1, e_ixT2, e_max2, e_min2, e_abs, e_int, e_pow, true_and, and_true, forall_const, d__law_asked_right_c, e_inP]
          by_cases hin : q ∈ l
          · rw [decide_eq_true hin]
            refine ⟨by decide, by omega, srt_more ml ⟨by decide, by simp [imm_two], tail (more met q) apart (k.addM (by omega) hq hin) (loose_less hq fun y => ?_) ?_ fun hbt => (bm hbt).2⟩⟩
            · rw [mem_more]
              constructor <;> (intro z; simp_all)
            · rw [if_pos hin]
              exact_mod_cast pc.1
          · rw [decide_eq_false hin]
            refine ⟨by decide, by omega, srt_more al ⟨by decide, by simp [imm_two], tail met (more apart q) (k.addA (by omega) hq hin) (loose_less hq fun y => ?_) ?_ fun hbt => by have := bm hbt; omega⟩⟩
            · rw [mem_more]
              constructor <;> (intro z; simp_all)
            · rw [if_neg hin]
              have h5 : (manyW (degL n l) met (more apart q) : Int) = (manyW (degL n l) met apart : Int) - (manyW (degL n l) (more met q) apart : Int) := by omega
              have h6 : (manyW (degL n l) (more met q) apart : Int) * (pt.2 : Int) = (manyW (degL n l) met apart : Int) * (pt.1 : Int) := by exact_mod_cast pc.1
              rw [h5, Int.sub_mul, Int.mul_sub, h6]
        refine ⟨by rw [show imm (fracD pt) = true from rfl]; simp, ?_⟩
        cases b with
        | false => exact tailC
        | true =>
          obtain ⟨_, b1, b2⟩ := best_mid hm2 (hb rfl)
          have nz : ¬ manyW (degL n l) met apart = 0 := by omega
          have ll : (looseP (degL n l).length met apart) = looseP n met apart := by rw [degL_len]
          refine ⟨degL n l, met, apart, rfl, t8, ?_⟩
          rw [if_neg nz]
          show fInG id (pD q) (psD (sureM (degL n l) met apart)) _
          rw [e_inP, decide_eq_false (show ¬ q ∈ sureM (degL n l) met apart from fun z => by
            unfold sureM at z
            rcases List.mem_append.mp (mem_sortP.mp z) with z | z
            · exact hqm z
            · have := (List.mem_filter.mp z).2
              simp at this
              omega)]
          refine ⟨degL n l, met, apart, rfl, t8, ?_⟩
          rw [if_neg nz]
          show fInG id (pD q) (psD (sureA (degL n l) met apart)) _
          rw [e_inP, decide_eq_false (show ¬ q ∈ sureA (degL n l) met apart from fun z => by
            unfold sureA at z
            rcases List.mem_append.mp (mem_sortP.mp z) with z | z
            · exact hqa z
            · have := (List.mem_filter.mp z).2
              simp at this
              omega)]
          refine ⟨by decide, by decide, by decide, ?_⟩
          show fInG id (pD pt) (psD [(0, 1), (1, 1)]) _
          rw [e_inP, decide_eq_false (show ¬ pt ∈ [((0 : Nat), (1 : Nat)), (1, 1)] from fun z => by
            have pm := part_mid b1 b2
            rw [hpt] at pm
            simp only [List.mem_cons, List.not_mem_nil, or_false] at z
            rcases z with z | z
            · exact pm.1 (by rw [z])
            · exact pm.2 (by rw [z]))]
          exact tailC
      simp only [semOf, semP, semF, semT, semM, List.map_cons, List.map_nil, List.cons_append, List.nil_append, List.append_nil, List.replicate_succ, List.replicate_zero, Nat.reduceSub, Nat.reduceAdd, Nat.sub_self, Nat.sub_zero, List.length_cons, List.length_nil, Nat.zero_add, dSeq, dSet, dSetF, dSetH, dSetFH, dRet, dRetN, dIf, dNext, dFor, dExt, dApp, dSub, dFrz, dDrop, dNever, dBrk, dCnt, dAsg, dAsgH, dPar, dcNil, dcD, dcF, storesD, dV, dC, d1, d2, dN, dNF, d2F, dCons, dNil, dTup, dLst, asL, asB, dtAnd, dtOr, dtNot, dYes, dAndV, dOrV, dNotV, dIte, dCh, dLc, dSeqI, dRg1, dRg2, dEnum, dZip, dgN, dgT, dgCons, dgNil, sgN, sgT, sgCons, sgNil, dSlT, dSlL, dSome, dNo, dRev, dIsi, dNP, dNew, dLenS, dIxS, dPotS, dFld, dMe, dMeN, dNCat, dMemo, dRF, dRC, dPot, wipeE, vis, hid, noOw, isOw, List.all_cons, List.all_nil, Bool.not_false, Bool.not_true, Bool.and_true, Bool.true_and, Bool.or_true, Bool.true_or, Bool.false_or, Bool.or_false, List.getElem?_cons_zero, List.getElem?_cons_succ, List.set_cons_zero, List.set_cons_succ, List.length_map, e_le, e_lt, e_ge, e_gt, e_lenT, e_lenL, e_add, e_cat, e_sub, e_mul, e_div, e_mod, e_tupL, e_tupT, e_listL, e_listT, e_fcat, e_isN, e_eqi, e_eqs, fEq, fNe, fIn, fNotIn, decide_true, id_eq, e_all, e_any, e_ixT0, e_ixL0, e_ixT1, e_ixT2, e_max2, e_min2, e_abs, e_int, e_pow, true_and, and_true, forall_const, d__law_asked_right_a]
      refine ⟨degL n l, met, apart, rfl, t8, by omega, by simp [imm_ps], n, rfl, by omega, ?_⟩
      have aln := allP_10 hn
      refine ⟨by rw [List.length_map]; omega, lc_filter (fun q => !decide (q ∈ met) && !decide (q ∈ apart)) (allP n) (h := pD) (fun q hq R r1 r2 => ?_) ?_⟩
      · simp only [semOf, semP, semF, semT, semM, List.map_cons, List.map_nil, List.cons_append, List.nil_append, List.append_nil, List.replicate_succ, List.replicate_zero, Nat.reduceSub, Nat.reduceAdd, Nat.sub_self, Nat.sub_zero, List.length_cons, List.length_nil, Nat.zero_add, dSeq, dSet, dSetF, dSetH, dSetFH, dRet, dRetN, dIf, dNext, dFor, dExt, dApp, dSub, dFrz, dDrop, dNever, dBrk, dCnt, dAsg, dAsgH, dPar, dcNil, dcD, dcF, storesD, dV, dC, d1, d2, dN, dNF, d2F, dCons, dNil, dTup, dLst, asL, asB, dtAnd, dtOr, dtNot, dYes, dAndV, dOrV, dNotV, dIte, dCh, dLc, dSeqI, dRg1, dRg2, dEnum, dZip, dgN, dgT, dgCons, dgNil, sgN, sgT, sgCons, sgNil, dSlT, dSlL, dSome, dNo, dRev, dIsi, dNP, dNew, dLenS, dIxS, dPotS, dFld, dMe, dMeN, dNCat, dMemo, dRF, dRC, dPot, wipeE, vis, hid, noOw, isOw, List.all_cons, List.all_nil, Bool.not_false, Bool.not_true, Bool.and_true, Bool.true_and, Bool.or_true, Bool.true_or, Bool.false_or, Bool.or_false, List.getElem?_cons_zero, List.getElem?_cons_succ, List.set_cons_zero, List.set_cons_succ, List.length_map, e_le, e_lt, e_ge, e_gt, e_lenT, e_lenL, e_add, e_cat, e_sub, e_mul, e_div, e_mod, e_tupL, e_tupT, e_listL, e_listT, e_fcat, e_isN, e_eqi, e_eqs, fEq, fNe, fIn, fNotIn, decide_true, id_eq, e_all, e_any, e_ixT0, e_ixL0, e_ixT1, e_ixT2, e_max2, e_min2, e_abs, e_int, e_pow, true_and, and_true, forall_const, lcTurn, e_inP]
        cases kk : decide (q ∈ met) with
        | true => exact r2 (by rw [kk]; rfl)
        | false =>
          cases kk2 : decide (q ∈ apart) with
          | true => exact r2 (by rw [kk, kk2]; rfl)
          | false => exact r1 (by rw [kk, kk2]; rfl)
      · have ll : (looseP n met apart).length ≤ 10 := by omega
        refine ⟨⟨by simp [immAll_ps], by decide⟩, ?_⟩
        have pickT : ∀ R : D → Prop, (∀ q, q ∈ looseP n met apart → q ∈ bestF (degL n l) met apart → R (pD q)) → g__law_pick [psD (bestF (degL n l) met apart)] R := fun R hR =>
          ⟨_, .inl rfl, fun z => best_ne hm (by rw [degL_len]; exact lne) (List.map_eq_nil_iff.mp z), by
            rw [List.length_map]
            have := best_len (cs := degL n l) (met := met) (apart := apart)
            rw [degL_len] at this
            omega, fun y hy => by
            obtain ⟨q, hq, rfl⟩ := List.mem_map.mp hy
            exact hR q (by have := (mem_best hm hq).1; rw [degL_len] at this; exact this) hq⟩
        have pickF : ∀ R : D → Prop, (∀ q, q ∈ looseP n met apart → R (pD q)) → g__law_pick [.list ((looseP n met apart).map pD)] R := fun R hR =>
          ⟨_, .inr rfl, fun z => lne (List.map_eq_nil_iff.mp z), by rw [List.length_map]; omega, fun y hy => by
            obtain ⟨q, hq, rfl⟩ := List.mem_map.mp hy
            exact hR q hq⟩
        cases b with
        | true => exact pickT _ fun q hq hb => ⟨by rw [show imm (pD q) = true from rfl]; simp, body _ _ _ _ _ q hq fun _ => hb⟩
        | false => exact pickF _ fun q hq => ⟨by rw [show imm (pD q) = true from rfl]; simp, body _ _ _ _ _ q hq fun z => by cases z⟩
/-- law(script): names 0 script 1 k 2 pot 3 web -/
def d_law (sa : Addr) (ns : List Int) : DS := (dSeq (dFor (dRg1 (dCons (dN fMax2 (dCons (dC (.int 1)) (dCons (dN fMin2 (dCons (dC (.int 2)) (dCons (dLenS 0 sa ns) dNil))) dNil))) dNil)) (sgN 1) (dPot 2 (dPotS 0 sa (dV 1)) (fun p => (dSeq (dSet 3 (dNP p 2 g__law_web (dCons (dC (.int 5)) dNil)))
  (dIf (dtOr (dtNot (asB (dNP p 2 g__law_asked_right (dCons (dV 3) (dCons (dC (.bool true)) dNil))))) (dtNot (asB (dNP p 2 g__law_asked_right (dCons (dV 3) (dCons (dC (.bool false)) dNil)))))) (dRet (dC (.bool false))) dNext)))))
  (dRet (dC (.bool true))))
theorem ok_law : ∀ (sa : Addr) (ns : List Int), ns.length ≤ 63 → d_law sa ns (.hd sa :: List.replicate 3 .no) { nx := fun _ => False, rt := fun x => x = .bool true } := by
  intro sa ns hl
  simp only [semOf, semP, semF, semT, semM, List.map_cons, List.map_nil, List.cons_append, List.nil_append, List.append_nil, List.replicate_succ, List.replicate_zero, Nat.reduceSub, Nat.reduceAdd, Nat.sub_self, Nat.sub_zero, List.length_cons, List.length_nil, Nat.zero_add, dSeq, dSet, dSetF, dSetH, dSetFH, dRet, dRetN, dIf, dNext, dFor, dExt, dApp, dSub, dFrz, dDrop, dNever, dBrk, dCnt, dAsg, dAsgH, dPar, dcNil, dcD, dcF, storesD, dV, dC, d1, d2, dN, dNF, d2F, dCons, dNil, dTup, dLst, asL, asB, dtAnd, dtOr, dtNot, dYes, dAndV, dOrV, dNotV, dIte, dCh, dLc, dSeqI, dRg1, dRg2, dEnum, dZip, dgN, dgT, dgCons, dgNil, sgN, sgT, sgCons, sgNil, dSlT, dSlL, dSome, dNo, dRev, dIsi, dNP, dNew, dLenS, dIxS, dPotS, dFld, dMe, dMeN, dNCat, dMemo, dRF, dRC, dPot, wipeE, vis, hid, noOw, isOw, List.all_cons, List.all_nil, Bool.not_false, Bool.not_true, Bool.and_true, Bool.true_and, Bool.or_true, Bool.true_or, Bool.false_or, Bool.or_false, List.getElem?_cons_zero, List.getElem?_cons_succ, List.set_cons_zero, List.set_cons_succ, List.length_map, e_le, e_lt, e_ge, e_gt, e_lenT, e_lenL, e_add, e_cat, e_sub, e_mul, e_div, e_mod, e_tupL, e_tupT, e_listL, e_listT, e_fcat, e_isN, e_eqi, e_eqs, fEq, fNe, fIn, fNotIn, decide_true, id_eq, e_all, e_any, e_ixT0, e_ixL0, e_ixT1, e_ixT2, e_max2, e_min2, e_abs, e_int, e_pow, true_and, and_true, forall_const, d_law]
  generalize hm : (if (if (ns.length : Int) < 2 then (ns.length : Int) else 2) > 1 then if (ns.length : Int) < 2 then (ns.length : Int) else 2 else 1) = m
  have hm2 : 0 ≤ m ∧ m ≤ 2 := by
    rw [← hm]
    split <;> (try split) <;> omega
  refine ⟨⟨by omega, by omega⟩, ?_⟩
  rw [show rangeD 0 m.toNat = (List.range m.toNat).map nD from (rangeD_nat 0 m.toNat).trans (List.map_congr_left fun i _ => by rw [Nat.zero_add])]
  refine for_go (List.range m.toNat) (fun done ρ => ∃ s1 s2 s3, ρ = [.hd sa, s1, s2, s3] ∧ isOw s2 = false ∧ isOw s3 = false) ?step ?fin [] (List.range m.toNat) _ rfl ⟨.no, .no, .no, rfl, rfl, rfl⟩
  case fin =>
    rintro ρ ⟨s1, s2, s3, rfl, i2, i3⟩
    simp only [semOf, semP, semF, semT, semM, List.map_cons, List.map_nil, List.cons_append, List.nil_append, List.append_nil, List.replicate_succ, List.replicate_zero, Nat.reduceSub, Nat.reduceAdd, Nat.sub_self, Nat.sub_zero, List.length_cons, List.length_nil, Nat.zero_add, dSeq, dSet, dSetF, dSetH, dSetFH, dRet, dRetN, dIf, dNext, dFor, dExt, dApp, dSub, dFrz, dDrop, dNever, dBrk, dCnt, dAsg, dAsgH, dPar, dcNil, dcD, dcF, storesD, dV, dC, d1, d2, dN, dNF, d2F, dCons, dNil, dTup, dLst, asL, asB, dtAnd, dtOr, dtNot, dYes, dAndV, dOrV, dNotV, dIte, dCh, dLc, dSeqI, dRg1, dRg2, dEnum, dZip, dgN, dgT, dgCons, dgNil, sgN, sgT, sgCons, sgNil, dSlT, dSlL, dSome, dNo, dRev, dIsi, dNP, dNew, dLenS, dIxS, dPotS, dFld, dMe, dMeN, dNCat, dMemo, dRF, dRC, dPot, wipeE, vis, hid, noOw, isOw, List.all_cons, List.all_nil, Bool.not_false, Bool.not_true, Bool.and_true, Bool.true_and, Bool.or_true, Bool.true_or, Bool.false_or, Bool.or_false, List.getElem?_cons_zero, List.getElem?_cons_succ, List.set_cons_zero, List.set_cons_succ, List.length_map, e_le, e_lt, e_ge, e_gt, e_lenT, e_lenL, e_add, e_cat, e_sub, e_mul, e_div, e_mod, e_tupL, e_tupT, e_listL, e_listT, e_fcat, e_isN, e_eqi, e_eqs, fEq, fNe, fIn, fNotIn, decide_true, id_eq, e_all, e_any, e_ixT0, e_ixL0, e_ixT1, e_ixT2, e_max2, e_min2, e_abs, e_int, e_pow, true_and, and_true, forall_const]
  case step =>
    rintro done k rest ρ e ⟨s1, s2, s3, rfl, i2, i3⟩ E' h1 h2 h3 h4
    obtain ⟨_, hk⟩ := range_at e
    refine ⟨⟨?_, (by show 2 < 4; decide)⟩, rfl, k, rfl, by omega, fun x y hx hy hz => ⟨x, y, rfl, ⟨hx, hy, hz⟩, fun p => ?_⟩⟩
    · show (!isOw (.hd sa) && (!isOw (.d (nD k)) && (!isOw s2 && (!isOw s3 && true)))) = true
      rw [i2, i3]
      rfl
    · simp only [semOf, semP, semF, semT, semM, List.map_cons, List.map_nil, List.cons_append, List.nil_append, List.append_nil, List.replicate_succ, List.replicate_zero, Nat.reduceSub, Nat.reduceAdd, Nat.sub_self, Nat.sub_zero, List.length_cons, List.length_nil, Nat.zero_add, dSeq, dSet, dSetF, dSetH, dSetFH, dRet, dRetN, dIf, dNext, dFor, dExt, dApp, dSub, dFrz, dDrop, dNever, dBrk, dCnt, dAsg, dAsgH, dPar, dcNil, dcD, dcF, storesD, dV, dC, d1, d2, dN, dNF, d2F, dCons, dNil, dTup, dLst, asL, asB, dtAnd, dtOr, dtNot, dYes, dAndV, dOrV, dNotV, dIte, dCh, dLc, dSeqI, dRg1, dRg2, dEnum, dZip, dgN, dgT, dgCons, dgNil, sgN, sgT, sgCons, sgNil, dSlT, dSlL, dSome, dNo, dRev, dIsi, dNP, dNew, dLenS, dIxS, dPotS, dFld, dMe, dMeN, dNCat, dMemo, dRF, dRC, dPot, wipeE, vis, hid, noOw, isOw, List.all_cons, List.all_nil, Bool.not_false, Bool.not_true, Bool.and_true, Bool.true_and, Bool.or_true, Bool.true_or, Bool.false_or, Bool.or_false, List.getElem?_cons_zero, List.getElem?_cons_succ, List.set_cons_zero, List.set_cons_succ, List.length_map, e_le, e_lt, e_ge, e_gt, e_lenT, e_lenL, e_add, e_cat, e_sub, e_mul, e_div, e_mod, e_tupL, e_tupT, e_listL, e_listT, e_fcat, e_isN, e_eqi, e_eqs, fEq, fNe, fIn, fNotIn, decide_true, id_eq, e_all, e_any, e_ixT0, e_ixL0, e_ixT1, e_ixT2, e_max2, e_min2, e_abs, e_int, e_pow, true_and, and_true, forall_const]
      refine ⟨5, rfl, by decide, fun n l hn w => ⟨?_, n, l, true, rfl, w, hn, n, l, false, rfl, w, hn, h1 _ ⟨.d (nD k), .hd p, .d (webD n l), rfl, rfl, rfl⟩⟩⟩
      rw [show imm (webD n l) = true by
        show (true && (true && (immAll (l.map pD) && true))) = true
        rw [immAll_ps]
        rfl]
      simp
end HM

/-! ### the law: facts of the top, derivations -/
namespace HM
open PySem L2 TL
def top (i : Nat) : Stmt := PySem.Challenge.pw_howmanymet_k58_whole_asks_until_one_web.main.body.getD i (.Pass ⟨0, 0, 0, 0⟩)
abbrev s_later_of : Stmt := top 33
abbrev s_choices_of : Stmt := top 34
abbrev s_taken : Stmt := top 35
abbrev s__law_all_pairs : Stmt := top 70
abbrev s__law_draw : Stmt := top 68
abbrev s__law_pick : Stmt := top 69
abbrev s_all_pairs : Stmt := top 29
abbrev s_counts_in : Stmt := top 30
abbrev s_left_of : Stmt := top 45
abbrev s_loose_of : Stmt := top 44
abbrev s_many_of : Stmt := top 38
abbrev s_over_told : Stmt := top 46
abbrev s_many_with : Stmt := top 48
abbrev s_counted : Stmt := top 57
abbrev s_want_few : Stmt := top 43
abbrev s_is_tuple : Stmt := top 17
abbrev s_is_integer : Stmt := top 15
abbrev s_is_within : Stmt := top 16
abbrev s_is_pair_of : Stmt := top 23
abbrev s_are_pairs_of : Stmt := top 24
abbrev s_is_list_value : Stmt := top 21
abbrev s_want_list : Stmt := top 22
abbrev s_want_told : Stmt := top 42
abbrev s_with_more : Stmt := top 49
abbrev s_best_asks : Stmt := top 59
abbrev s_is_web_value : Stmt := top 25
abbrev s_want_web : Stmt := top 26
abbrev s_counts_of : Stmt := top 31
abbrev s_as_told : Stmt := top 61
abbrev s_is_key_of : Stmt := top 62
abbrev s_want_pairs : Stmt := top 28
abbrev s_is_key : Stmt := top 63
abbrev s_many_told : Stmt := top 51
abbrev s_other_web : Stmt := top 64
abbrev s_part_of : Stmt := top 55
abbrev s_share_of : Stmt := top 56
abbrev s_want_pair : Stmt := top 27
abbrev s_share : Stmt := top 58
abbrev s_sure_apart : Stmt := top 53
abbrev s_sure_met : Stmt := top 52
abbrev s_factor_of : Stmt := top 37
abbrev s_web_of : Stmt := top 47
abbrev s_told_web : Stmt := top 50
abbrev s__law_asked_right : Stmt := top 72
abbrev s__law_pot : Stmt := top 67
abbrev s__law_web : Stmt := top 71
abbrev s_law : Stmt := top 73
abbrev s_Grown___init__ : Stmt := inClass (top 36) 0
abbrev s_Grown_steps : Stmt := inClass (top 36) 1
abbrev s_Grown_rest : Stmt := inClass (top 36) 2
abbrev s_Grown_most : Stmt := inClass (top 36) 3
abbrev s_Grown_many : Stmt := inClass (top 36) 4
abbrev s_Grown_first : Stmt := inClass (top 36) 5
structure Ad where
  c_Grown : Addr
  f_later_of : Addr
  d_later_of : FuncData
  f_choices_of : Addr
  d_choices_of : FuncData
  f_taken : Addr
  d_taken : FuncData
  f__law_all_pairs : Addr
  d__law_all_pairs : FuncData
  f__law_draw : Addr
  d__law_draw : FuncData
  f__law_pick : Addr
  d__law_pick : FuncData
  f_all_pairs : Addr
  d_all_pairs : FuncData
  f_counts_in : Addr
  d_counts_in : FuncData
  f_left_of : Addr
  d_left_of : FuncData
  f_loose_of : Addr
  d_loose_of : FuncData
  f_many_of : Addr
  d_many_of : FuncData
  f_over_told : Addr
  d_over_told : FuncData
  f_many_with : Addr
  d_many_with : FuncData
  f_counted : Addr
  d_counted : FuncData
  f_want_few : Addr
  d_want_few : FuncData
  f_is_tuple : Addr
  d_is_tuple : FuncData
  f_is_integer : Addr
  d_is_integer : FuncData
  f_is_within : Addr
  d_is_within : FuncData
  f_is_pair_of : Addr
  d_is_pair_of : FuncData
  f_are_pairs_of : Addr
  d_are_pairs_of : FuncData
  f_is_list_value : Addr
  d_is_list_value : FuncData
  f_want_list : Addr
  d_want_list : FuncData
  f_want_told : Addr
  d_want_told : FuncData
  f_with_more : Addr
  d_with_more : FuncData
  f_best_asks : Addr
  d_best_asks : FuncData
  f_is_web_value : Addr
  d_is_web_value : FuncData
  f_want_web : Addr
  d_want_web : FuncData
  f_counts_of : Addr
  d_counts_of : FuncData
  f_as_told : Addr
  d_as_told : FuncData
  f_is_key_of : Addr
  d_is_key_of : FuncData
  f_want_pairs : Addr
  d_want_pairs : FuncData
  f_is_key : Addr
  d_is_key : FuncData
  f_many_told : Addr
  d_many_told : FuncData
  f_other_web : Addr
  d_other_web : FuncData
  f_part_of : Addr
  d_part_of : FuncData
  f_share_of : Addr
  d_share_of : FuncData
  f_want_pair : Addr
  d_want_pair : FuncData
  f_share : Addr
  d_share : FuncData
  f_sure_apart : Addr
  d_sure_apart : FuncData
  f_sure_met : Addr
  d_sure_met : FuncData
  f_factor_of : Addr
  d_factor_of : FuncData
  f_web_of : Addr
  d_web_of : FuncData
  f_told_web : Addr
  d_told_web : FuncData
  f__law_asked_right : Addr
  d__law_asked_right : FuncData
  f__law_pot : Addr
  d__law_pot : FuncData
  f__law_web : Addr
  d__law_web : FuncData
  f_law : Addr
  d_law : FuncData
  f_Grown___init__ : Addr
  d_Grown___init__ : FuncData
  f_Grown_steps : Addr
  d_Grown_steps : FuncData
  f_Grown_rest : Addr
  d_Grown_rest : FuncData
  f_Grown_most : Addr
  d_Grown_most : FuncData
  f_Grown_many : Addr
  d_Grown_many : FuncData
  f_Grown_first : Addr
  d_Grown_first : FuncData
structure Txt (K : PySem.W.Frag) (mg : Str → Option Value) (a : Ad) : Prop where
  b_int : mg "int" = none
  b_max : mg "max" = none
  b_len : mg "len" = none
  b_abs : mg "abs" = none
  b_divmod : mg "divmod" = none
  b_range : mg "range" = none
  b_min : mg "min" = none
  b_sorted : mg "sorted" = none
  b_tuple : mg "tuple" = none
  b_zip : mg "zip" = none
  b_enumerate : mg "enumerate" = none
  b_any : mg "any" = none
  b_isinstance : mg "isinstance" = none
  b_all : mg "all" = none
  b_bool : mg "bool" = none
  b_str : mg "str" = none
  b_sum : mg "sum" = none
  b_list : mg "list" = none
  b_gcd : mg "gcd" = some (.builtin "math.gcd")
  c_WEB : ∃ t, mg "WEB" = some (.str "web" t)
  c_MOST_TOLD : ∃ t, mg "MOST_TOLD" = some (.int 8 t)
  c_MOST_PERSONS : ∃ t, mg "MOST_PERSONS" = some (.int 10 t)
  c_MOST_COUNT : ∃ t, mg "MOST_COUNT" = some (.int 40 t)
  F_later_of : Fun K "later_of" "later_of" s_later_of a.f_later_of a.d_later_of
  m_later_of : mg "later_of" = some (.ref a.f_later_of)
  k_later_of : PySem.W.keepIn K (.ref a.f_later_of) = true
  B_later_of : Binds K a.d_later_of ["web"] []
  F_choices_of : Fun K "choices_of" "choices_of" s_choices_of a.f_choices_of a.d_choices_of
  m_choices_of : mg "choices_of" = some (.ref a.f_choices_of)
  k_choices_of : PySem.W.keepIn K (.ref a.f_choices_of) = true
  B_choices_of : Binds K a.d_choices_of ["some"] []
  F_taken : Fun K "taken" "taken" s_taken a.f_taken a.d_taken
  m_taken : mg "taken" = some (.ref a.f_taken)
  k_taken : PySem.W.keepIn K (.ref a.f_taken) = true
  B_taken : Binds K a.d_taken ["left", "person", "choice"] []
  F__law_all_pairs : Fun K "_law_all_pairs" "_law_all_pairs" s__law_all_pairs a.f__law_all_pairs a.d__law_all_pairs
  m__law_all_pairs : mg "_law_all_pairs" = some (.ref a.f__law_all_pairs)
  k__law_all_pairs : PySem.W.keepIn K (.ref a.f__law_all_pairs) = true
  B__law_all_pairs : Binds K a.d__law_all_pairs ["many"] []
  F__law_draw : Fun K "_law_draw" "_law_draw" s__law_draw a.f__law_draw a.d__law_draw
  m__law_draw : mg "_law_draw" = some (.ref a.f__law_draw)
  k__law_draw : PySem.W.keepIn K (.ref a.f__law_draw) = true
  B__law_draw : Binds K a.d__law_draw ["pot", "many"] []
  F__law_pick : Fun K "_law_pick" "_law_pick" s__law_pick a.f__law_pick a.d__law_pick
  m__law_pick : mg "_law_pick" = some (.ref a.f__law_pick)
  k__law_pick : PySem.W.keepIn K (.ref a.f__law_pick) = true
  B__law_pick : Binds K a.d__law_pick ["pot", "some"] []
  F_all_pairs : Fun K "all_pairs" "all_pairs" s_all_pairs a.f_all_pairs a.d_all_pairs
  m_all_pairs : mg "all_pairs" = some (.ref a.f_all_pairs)
  k_all_pairs : PySem.W.keepIn K (.ref a.f_all_pairs) = true
  B_all_pairs : Binds K a.d_all_pairs ["persons"] []
  F_counts_in : Fun K "counts_in" "counts_in" s_counts_in a.f_counts_in a.d_counts_in
  m_counts_in : mg "counts_in" = some (.ref a.f_counts_in)
  k_counts_in : PySem.W.keepIn K (.ref a.f_counts_in) = true
  B_counts_in : Binds K a.d_counts_in ["persons", "pairs"] []
  F_left_of : Fun K "left_of" "left_of" s_left_of a.f_left_of a.d_left_of
  m_left_of : mg "left_of" = some (.ref a.f_left_of)
  k_left_of : PySem.W.keepIn K (.ref a.f_left_of) = true
  B_left_of : Binds K a.d_left_of ["counts", "met"] []
  F_loose_of : Fun K "loose_of" "loose_of" s_loose_of a.f_loose_of a.d_loose_of
  m_loose_of : mg "loose_of" = some (.ref a.f_loose_of)
  k_loose_of : PySem.W.keepIn K (.ref a.f_loose_of) = true
  B_loose_of : Binds K a.d_loose_of ["counts", "met", "apart"] []
  F_many_of : Fun K "many_of" "many_of" s_many_of a.f_many_of a.d_many_of
  m_many_of : mg "many_of" = some (.ref a.f_many_of)
  k_many_of : PySem.W.keepIn K (.ref a.f_many_of) = true
  B_many_of : Binds K a.d_many_of ["web", "counts"] []
  F_over_told : Fun K "over_told" "over_told" s_over_told a.f_over_told a.d_over_told
  m_over_told : mg "over_told" = some (.ref a.f_over_told)
  k_over_told : PySem.W.keepIn K (.ref a.f_over_told) = true
  B_over_told : Binds K a.d_over_told ["counts", "met"] []
  F_many_with : Fun K "many_with" "many_with" s_many_with a.f_many_with a.d_many_with
  m_many_with : mg "many_with" = some (.ref a.f_many_with)
  k_many_with : PySem.W.keepIn K (.ref a.f_many_with) = true
  B_many_with : Binds K a.d_many_with ["counts", "met", "apart"] []
  F_counted : Fun K "counted" "counted" s_counted a.f_counted a.d_counted
  m_counted : mg "counted" = some (.ref a.f_counted)
  k_counted : PySem.W.keepIn K (.ref a.f_counted) = true
  B_counted : Binds K a.d_counted ["counts", "met", "apart"] []
  F_want_few : Fun K "want_few" "want_few" s_want_few a.f_want_few a.d_want_few
  m_want_few : mg "want_few" = some (.ref a.f_want_few)
  k_want_few : PySem.W.keepIn K (.ref a.f_want_few) = true
  B_want_few : Binds K a.d_want_few ["counts"] []
  F_is_tuple : Fun K "is_tuple" "is_tuple" s_is_tuple a.f_is_tuple a.d_is_tuple
  m_is_tuple : mg "is_tuple" = some (.ref a.f_is_tuple)
  k_is_tuple : PySem.W.keepIn K (.ref a.f_is_tuple) = true
  B_is_tuple : Binds K a.d_is_tuple ["value", "many"] []
  F_is_integer : Fun K "is_integer" "is_integer" s_is_integer a.f_is_integer a.d_is_integer
  m_is_integer : mg "is_integer" = some (.ref a.f_is_integer)
  k_is_integer : PySem.W.keepIn K (.ref a.f_is_integer) = true
  B_is_integer : Binds K a.d_is_integer ["value"] []
  F_is_within : Fun K "is_within" "is_within" s_is_within a.f_is_within a.d_is_within
  m_is_within : mg "is_within" = some (.ref a.f_is_within)
  k_is_within : PySem.W.keepIn K (.ref a.f_is_within) = true
  B_is_within : Binds K a.d_is_within ["value", "least", "most"] []
  F_is_pair_of : Fun K "is_pair_of" "is_pair_of" s_is_pair_of a.f_is_pair_of a.d_is_pair_of
  m_is_pair_of : mg "is_pair_of" = some (.ref a.f_is_pair_of)
  k_is_pair_of : PySem.W.keepIn K (.ref a.f_is_pair_of) = true
  B_is_pair_of : Binds K a.d_is_pair_of ["persons", "value"] []
  F_are_pairs_of : Fun K "are_pairs_of" "are_pairs_of" s_are_pairs_of a.f_are_pairs_of a.d_are_pairs_of
  m_are_pairs_of : mg "are_pairs_of" = some (.ref a.f_are_pairs_of)
  k_are_pairs_of : PySem.W.keepIn K (.ref a.f_are_pairs_of) = true
  B_are_pairs_of : Binds K a.d_are_pairs_of ["persons", "value"] []
  F_is_list_value : Fun K "is_list_value" "is_list_value" s_is_list_value a.f_is_list_value a.d_is_list_value
  m_is_list_value : mg "is_list_value" = some (.ref a.f_is_list_value)
  k_is_list_value : PySem.W.keepIn K (.ref a.f_is_list_value) = true
  B_is_list_value : Binds K a.d_is_list_value ["value"] []
  F_want_list : Fun K "want_list" "want_list" s_want_list a.f_want_list a.d_want_list
  m_want_list : mg "want_list" = some (.ref a.f_want_list)
  k_want_list : PySem.W.keepIn K (.ref a.f_want_list) = true
  B_want_list : Binds K a.d_want_list ["counts"] []
  F_want_told : Fun K "want_told" "want_told" s_want_told a.f_want_told a.d_want_told
  m_want_told : mg "want_told" = some (.ref a.f_want_told)
  k_want_told : PySem.W.keepIn K (.ref a.f_want_told) = true
  B_want_told : Binds K a.d_want_told ["counts", "met", "apart"] []
  F_with_more : Fun K "with_more" "with_more" s_with_more a.f_with_more a.d_with_more
  m_with_more : mg "with_more" = some (.ref a.f_with_more)
  k_with_more : PySem.W.keepIn K (.ref a.f_with_more) = true
  B_with_more : Binds K a.d_with_more ["pairs", "pair"] []
  F_best_asks : Fun K "best_asks" "best_asks" s_best_asks a.f_best_asks a.d_best_asks
  m_best_asks : mg "best_asks" = some (.ref a.f_best_asks)
  k_best_asks : PySem.W.keepIn K (.ref a.f_best_asks) = true
  B_best_asks : Binds K a.d_best_asks ["counts", "met", "apart"] []
  F_is_web_value : Fun K "is_web_value" "is_web_value" s_is_web_value a.f_is_web_value a.d_is_web_value
  m_is_web_value : mg "is_web_value" = some (.ref a.f_is_web_value)
  k_is_web_value : PySem.W.keepIn K (.ref a.f_is_web_value) = true
  B_is_web_value : Binds K a.d_is_web_value ["value"] []
  F_want_web : Fun K "want_web" "want_web" s_want_web a.f_want_web a.d_want_web
  m_want_web : mg "want_web" = some (.ref a.f_want_web)
  k_want_web : PySem.W.keepIn K (.ref a.f_want_web) = true
  B_want_web : Binds K a.d_want_web ["web"] []
  F_counts_of : Fun K "counts_of" "counts_of" s_counts_of a.f_counts_of a.d_counts_of
  m_counts_of : mg "counts_of" = some (.ref a.f_counts_of)
  k_counts_of : PySem.W.keepIn K (.ref a.f_counts_of) = true
  B_counts_of : Binds K a.d_counts_of ["web"] []
  F_as_told : Fun K "as_told" "as_told" s_as_told a.f_as_told a.d_as_told
  m_as_told : mg "as_told" = some (.ref a.f_as_told)
  k_as_told : PySem.W.keepIn K (.ref a.f_as_told) = true
  B_as_told : Binds K a.d_as_told ["web", "pairs"] []
  F_is_key_of : Fun K "is_key_of" "is_key_of" s_is_key_of a.f_is_key_of a.d_is_key_of
  m_is_key_of : mg "is_key_of" = some (.ref a.f_is_key_of)
  k_is_key_of : PySem.W.keepIn K (.ref a.f_is_key_of) = true
  B_is_key_of : Binds K a.d_is_key_of ["web", "pairs"] []
  F_want_pairs : Fun K "want_pairs" "want_pairs" s_want_pairs a.f_want_pairs a.d_want_pairs
  m_want_pairs : mg "want_pairs" = some (.ref a.f_want_pairs)
  k_want_pairs : PySem.W.keepIn K (.ref a.f_want_pairs) = true
  B_want_pairs : Binds K a.d_want_pairs ["persons", "pairs"] []
  F_is_key : Fun K "is_key" "is_key" s_is_key a.f_is_key a.d_is_key
  m_is_key : mg "is_key" = some (.ref a.f_is_key)
  k_is_key : PySem.W.keepIn K (.ref a.f_is_key) = true
  B_is_key : Binds K a.d_is_key ["web", "pairs"] []
  F_many_told : Fun K "many_told" "many_told" s_many_told a.f_many_told a.d_many_told
  m_many_told : mg "many_told" = some (.ref a.f_many_told)
  k_many_told : PySem.W.keepIn K (.ref a.f_many_told) = true
  B_many_told : Binds K a.d_many_told ["counts", "met", "apart"] []
  F_other_web : Fun K "other_web" "other_web" s_other_web a.f_other_web a.d_other_web
  m_other_web : mg "other_web" = some (.ref a.f_other_web)
  k_other_web : PySem.W.keepIn K (.ref a.f_other_web) = true
  B_other_web : Binds K a.d_other_web ["web", "pairs"] []
  F_part_of : Fun K "part_of" "part_of" s_part_of a.f_part_of a.d_part_of
  m_part_of : mg "part_of" = some (.ref a.f_part_of)
  k_part_of : PySem.W.keepIn K (.ref a.f_part_of) = true
  B_part_of : Binds K a.d_part_of ["above", "below"] []
  F_share_of : Fun K "share_of" "share_of" s_share_of a.f_share_of a.d_share_of
  m_share_of : mg "share_of" = some (.ref a.f_share_of)
  k_share_of : PySem.W.keepIn K (.ref a.f_share_of) = true
  B_share_of : Binds K a.d_share_of ["counts", "met", "apart", "pair", "many"] []
  F_want_pair : Fun K "want_pair" "want_pair" s_want_pair a.f_want_pair a.d_want_pair
  m_want_pair : mg "want_pair" = some (.ref a.f_want_pair)
  k_want_pair : PySem.W.keepIn K (.ref a.f_want_pair) = true
  B_want_pair : Binds K a.d_want_pair ["persons", "pair"] []
  F_share : Fun K "share" "share" s_share a.f_share a.d_share
  m_share : mg "share" = some (.ref a.f_share)
  k_share : PySem.W.keepIn K (.ref a.f_share) = true
  B_share : Binds K a.d_share ["counts", "met", "apart", "pair"] []
  F_sure_apart : Fun K "sure_apart" "sure_apart" s_sure_apart a.f_sure_apart a.d_sure_apart
  m_sure_apart : mg "sure_apart" = some (.ref a.f_sure_apart)
  k_sure_apart : PySem.W.keepIn K (.ref a.f_sure_apart) = true
  B_sure_apart : Binds K a.d_sure_apart ["counts", "met", "apart"] []
  F_sure_met : Fun K "sure_met" "sure_met" s_sure_met a.f_sure_met a.d_sure_met
  m_sure_met : mg "sure_met" = some (.ref a.f_sure_met)
  k_sure_met : PySem.W.keepIn K (.ref a.f_sure_met) = true
  B_sure_met : Binds K a.d_sure_met ["counts", "met", "apart"] []
  F_factor_of : Fun K "factor_of" "factor_of" s_factor_of a.f_factor_of a.d_factor_of
  m_factor_of : mg "factor_of" = some (.ref a.f_factor_of)
  k_factor_of : PySem.W.keepIn K (.ref a.f_factor_of) = true
  B_factor_of : Binds K a.d_factor_of ["web", "counts"] []
  F_web_of : Fun K "web_of" "web_of" s_web_of a.f_web_of a.d_web_of
  m_web_of : mg "web_of" = some (.ref a.f_web_of)
  k_web_of : PySem.W.keepIn K (.ref a.f_web_of) = true
  B_web_of : Binds K a.d_web_of ["counts", "met", "apart"] []
  F_told_web : Fun K "told_web" "told_web" s_told_web a.f_told_web a.d_told_web
  m_told_web : mg "told_web" = some (.ref a.f_told_web)
  k_told_web : PySem.W.keepIn K (.ref a.f_told_web) = true
  B_told_web : Binds K a.d_told_web ["counts", "met", "apart"] []
  F__law_asked_right : Fun K "_law_asked_right" "_law_asked_right" s__law_asked_right a.f__law_asked_right a.d__law_asked_right
  m__law_asked_right : mg "_law_asked_right" = some (.ref a.f__law_asked_right)
  k__law_asked_right : PySem.W.keepIn K (.ref a.f__law_asked_right) = true
  B__law_asked_right : Binds K a.d__law_asked_right ["pot", "web", "is_best"] []
  F__law_pot : Fun K "_law_pot" "_law_pot" s__law_pot a.f__law_pot a.d__law_pot
  m__law_pot : mg "_law_pot" = some (.ref a.f__law_pot)
  k__law_pot : PySem.W.keepIn K (.ref a.f__law_pot) = true
  B__law_pot : Binds K a.d__law_pot ["script", "k"] []
  F__law_web : Fun K "_law_web" "_law_web" s__law_web a.f__law_web a.d__law_web
  m__law_web : mg "_law_web" = some (.ref a.f__law_web)
  k__law_web : PySem.W.keepIn K (.ref a.f__law_web) = true
  B__law_web : Binds K a.d__law_web ["pot", "most"] []
  F_law : Fun K "law" "law" s_law a.f_law a.d_law
  m_law : mg "law" = some (.ref a.f_law)
  k_law : PySem.W.keepIn K (.ref a.f_law) = true
  B_law : Binds K a.d_law ["script"] []
  C_Grown : Cls K a.c_Grown
  K_Grown : Mk K a.c_Grown a.f_Grown___init__
  m_Grown : mg "Grown" = some (.ref a.c_Grown)
  n_own_later : NoAttr K a.c_Grown "own_later"
  n_own_begin : NoAttr K a.c_Grown "own_begin"
  n_own_most : NoAttr K a.c_Grown "own_most"
  n_own_many : NoAttr K a.c_Grown "own_many"
  F_Grown___init__ : Fun K "__init__" "Grown.__init__" s_Grown___init__ a.f_Grown___init__ a.d_Grown___init__
  B_Grown___init__ : Binds K a.d_Grown___init__ ["self", "web", "counts"] []
  F_Grown_steps : Fun K "steps" "Grown.steps" s_Grown_steps a.f_Grown_steps a.d_Grown_steps
  B_Grown_steps : Binds K a.d_Grown_steps ["self", "person", "left"] []
  M_Grown_steps : Meth K a.c_Grown "steps" a.f_Grown_steps
  F_Grown_rest : Fun K "rest" "Grown.rest" s_Grown_rest a.f_Grown_rest a.d_Grown_rest
  B_Grown_rest : Binds K a.d_Grown_rest ["self", "person", "left"] []
  M_Grown_rest : Meth K a.c_Grown "rest" a.f_Grown_rest
  F_Grown_most : Fun K "most" "Grown.most" s_Grown_most a.f_Grown_most a.d_Grown_most
  B_Grown_most : Binds K a.d_Grown_most ["self", "person", "left"] []
  M_Grown_most : Meth K a.c_Grown "most" a.f_Grown_most
  F_Grown_many : Fun K "many" "Grown.many" s_Grown_many a.f_Grown_many a.d_Grown_many
  B_Grown_many : Binds K a.d_Grown_many ["self", "person", "left"] []
  M_Grown_many : Meth K a.c_Grown "many" a.f_Grown_many
  F_Grown_first : Fun K "first" "Grown.first" s_Grown_first a.f_Grown_first a.d_Grown_first
  B_Grown_first : Binds K a.d_Grown_first ["self"] []
  M_Grown_first : Meth K a.c_Grown "first" a.f_Grown_first
section
variable {P : Program} {w : World} {K : PySem.W.Frag} {mg : Str → Option Value} {base : Heap} {a : Ad}
theorem sc_later_of : FnScope ["web", "person", "one", "late"] ["web"] (defScope s_later_of) := ⟨rfl, rfl, rfl, by decide +kernel, rfl, by decide +kernel, by decide +kernel⟩
theorem fn_later_of (T : Txt K mg a) : FnOk P w K mg base CX0 1 a.f_later_of a.d_later_of ["web"] (spD K g_later_of) := fn_imp (fn_ok T.F_later_of sc_later_of fun cdv A outer s H E hr => by
  have hu := hr.units
  exact (ss_one (s_ret (b_f (f_lc (own := [("person", 1)]) (by rfl) sc_later_of.nd (bi_range1 (by rfl) T.b_range (ba_cons (b_ix ix_seq rd_ix (b_var 0) b_int) ba_nil)) (blkOk_by (by rfl)) (by simp) (fun _ _ _ _ _ => (bg_name (i := 1) sc_later_of.nd rfl (by first | exact Or.inl rfl | exact Or.inr rfl))) (fun _ _ _ _ _ => bts_nil) (fun _ _ _ _ _ => (b_f (f_lc (own := [("one", 2), ("late", 3)]) (by rfl) sc_later_of.nd (bi_seq (b_ix ix_seq rd_ix (b_var 0) b_int)) (blkOk_by (by rfl)) (by simp) (fun _ _ _ _ _ => (bg_tup (by rfl) (bgs_cons (bg_name (i := 2) sc_later_of.nd rfl (by first | exact Or.inl rfl | exact Or.inr rfl)) (bgs_cons (bg_name (i := 3) sc_later_of.nd rfl (by first | exact Or.inl rfl | exact Or.inr rfl)) bgs_nil)))) (fun _ _ _ _ _ => (bts_one (bt_cmp (o_eq hu) rd_eq (b_var 2) (b_var 1) (nomark _)))) (fun _ _ _ _ _ => (b_var 3)))))))))) ok_later_of
theorem sc_choices_of : FnScope ["some", "found", "one", "late"] ["some"] (defScope s_choices_of) := ⟨rfl, rfl, rfl, by decide +kernel, rfl, by decide +kernel, by decide +kernel⟩
theorem fn_choices_of (T : Txt K mg a) : FnOk P w K mg base CX0 1 a.f_choices_of a.d_choices_of ["some"] (spD K g_choices_of) := fn_imp (fn_ok T.F_choices_of sc_choices_of fun cdv A outer s H E hr => by
  have hu := hr.units
  exact (ss_cons (s_setF (i := 1) sc_choices_of.nd rfl (by first | exact Or.inl rfl | exact Or.inr rfl) (f_lst (ba_cons (b_tup ba_nil) ba_nil)))
    (ss_cons (s_for PassesOwn.never (by rfl) (bi_seq (b_f (f_rev (b_var 0)))) (sg_name (i := 2) sc_choices_of.nd rfl (by first | exact Or.inl rfl | exact Or.inr rfl)) (ss_one (s_setF (i := 1) sc_choices_of.nd rfl (by first | exact Or.inl rfl | exact Or.inr rfl) (f_op op_cat rf_cat (b_f (f_lc (own := [("late", 3)]) (by rfl) sc_choices_of.nd (bi_seq (b_var 1)) (blkOk_by (by rfl)) (by simp) (fun _ _ _ _ _ => (bg_name (i := 3) sc_choices_of.nd rfl (by first | exact Or.inl rfl | exact Or.inr rfl))) (fun _ _ _ _ _ => bts_nil) (fun _ _ _ _ _ => (b_op op_plus rd_plus (b_tup (ba_cons (b_var 2) ba_nil)) (b_var 3))))) (b_var 1)))))
    (ss_one (s_ret (b_var 1)))))) ok_choices_of
theorem sc_taken : FnScope ["left", "person", "choice", "found", "late"] ["left", "person", "choice"] (defScope s_taken) := ⟨rfl, rfl, rfl, by decide +kernel, rfl, by decide +kernel, by decide +kernel⟩
theorem fn_taken (T : Txt K mg a) : FnOk P w K mg base CX0 1 a.f_taken a.d_taken ["left", "person", "choice"] (spD K g_taken) := fn_imp (fn_ok T.F_taken sc_taken fun cdv A outer s H E hr => by
  have hu := hr.units
  exact (ss_cons (s_setF (i := 3) sc_taken.nd rfl (by first | exact Or.inl rfl | exact Or.inr rfl) (f_cTy call_list_of rn_list (by rfl) T.b_list bt_list (ba_cons (b_var 0) ba_nil)))
    (ss_cons (s_sub (i := 3) (pv 3) (b_var 1) (b_op op_sub rd_I0 (b_ix ix_seq rd_ix (b_var 3) (b_var 1)) (b_cB call_len_seq rn_len (by rfl) T.b_len bt_len (ba_cons (b_var 2) ba_nil))))
    (ss_cons (s_for PassesOwn.never (by rfl) (bi_seq (b_var 2)) (sg_name (i := 4) sc_taken.nd rfl (by first | exact Or.inl rfl | exact Or.inr rfl)) (ss_one (s_sub (i := 3) (pv 3) (b_var 4) (b_op op_sub rd_I0 (b_ix ix_seq rd_ix (b_var 3) (b_var 4)) b_int))))
    (ss_one (s_ret (b_if (bt_cmp (o_ge hu) rd_ord (b_cB (c_min (by rfl) hu) rn_min (by rfl) T.b_min bt_min (ba_cons (b_var 3) ba_nil)) b_int (nomark _)) (b_cTy call_tuple_of rn_tuple (by rfl) T.b_tuple bt_tuple (ba_cons (b_var 3) ba_nil)) b_non))))))) ok_taken
theorem sc_Grown___init__ : FnScope ["self", "web", "counts", "some"] ["self", "web", "counts"] (defScope s_Grown___init__) := ⟨rfl, rfl, rfl, by decide +kernel, rfl, by decide +kernel, by decide +kernel⟩
theorem fn_Grown___init__ (T : Txt K mg a) : FnOk P w K mg base CX0 2 a.f_Grown___init__ a.d_Grown___init__ ["self", "web", "counts"] (spInit K a.c_Grown) := by
  refine T.F_Grown___init__.ok sc_Grown___init__ (fun vs H Q E h => ?_) (fun cdv A outer s H vs Q E hr h => ?_)
  · obtain ⟨W, g, dx, vw, vc, Ew, cs, rfl, _⟩ := h
    rfl
  · obtain ⟨W, g, dx, vw, vc, Ew, cs, rfl, hWg, o, hg, iw, ic, w, k⟩ := h
    have hu := hr.units
    refine ⟨_, pss_cons (ps_fld (pv 0) (bf_at (m := md0) (d := d_init_later) W (f_lc (own := [("some", 3)]) (by rfl) sc_Grown___init__.nd (bi_seq (b_call (fn_later_of T) (hr.mono (by decide)) (by rfl) T.m_later_of T.k_later_of T.B_later_of (ba_cons (b_var 1) ba_nil))) (blkOk_by (by rfl)) (by simp) (fun _ _ _ _ _ => (bg_name (i := 3) sc_Grown___init__.nd rfl (by first | exact Or.inl rfl | exact Or.inr rfl))) (fun _ _ _ _ _ => bts_nil) (fun _ _ _ _ _ => (b_call (fn_choices_of T) (hr.mono (by decide)) (by rfl) T.m_choices_of T.k_choices_of T.B_choices_of (ba_cons (b_var 3) ba_nil))))) rfl) (pss_cons (ps_fld (pv 0) (be_at (m := md0) W (b_cTy call_tuple_of rn_tuple (by rfl) T.b_tuple bt_tuple (ba_cons (b_var 2) ba_nil))) rfl) (pss_cons (ps_fld (pv 0) pe_dnewT rfl) (pss_one (ps_fld (pv 0) pe_dnewT rfl)))), ?_⟩
    have n0 : ∀ {H' : Hp}, Same (era W H) (era W H') → EnvIs K (era W H') (L2.start ["self", "web", "counts", "some"] [.ref g, vw, vc]) [.hd g, .d (webD cs.length Ew), .d (isD cs), .no] := fun s => .cons .hd (.cons (.d (iw.up s)) (.cons (.d (ic.up s)) (.cons .no .nil)))
    refine ⟨_, _, o, n0 (fun _ _ e => e), init_later w g, fun p H1 xs l e1 hp hx i1 hl => ?_⟩
    subst hl
    refine ⟨_, rfl, g, a.c_Grown, dx, [], rfl, e1.1 g _ hg (fun z => z), T.C_Grown, T.n_own_later, (by show 0 < 1000; decide), ?_⟩
    have v1 : Same (era W H) (era W (upd H1 g (.ins a.c_Grown dx (putF "own_later" (.ref p) [])))) := fun b o' e => by
      obtain ⟨q1, q2⟩ := era_to e
      exact era_of (by rw [upd_ne (fun z => q2 (by rw [z]; exact hWg))]; exact e1.1 b o' q1 fun z => z) q2
    refine ⟨_, fun x => x = isD cs, ⟨trivial, fun _ z => z.elim, fun b z => ?_, none_same, fun _ _ => rfl⟩, n0 v1, rfl, fun v H2 x e2 i2 hx2 => ?_⟩
    · by_cases q : b = g
      · rw [q, upd_same]; simp
      · rw [upd_ne q]
        exact (o.evo e1).tr b z
    subst hx2
    refine ⟨_, rfl, g, a.c_Grown, dx, _, rfl, e2.1 g _ upd_same (fun z => z), T.C_Grown, T.n_own_begin, (by show 1 < 1000; decide), ?_⟩
    intro dm hdm
    have mg1 : g ≠ dm := ne_of_none upd_same hdm
    refine ⟨_, rfl, g, a.c_Grown, dx, _, rfl, (by rw [upd_ne mg1]; exact upd_same), T.C_Grown, T.n_own_most, (by show 2 < 1000; decide), ?_⟩
    intro dn hdn
    have ng1 : g ≠ dn := ne_of_none upd_same hdn
    refine ⟨_, rfl, g, a.c_Grown, dx, _, rfl, (by rw [upd_ne ng1]; exact upd_same), T.C_Grown, T.n_own_many, (by show 3 < 1000; decide), ?_⟩
    exact init_end hWg hg e1 hp hx i1 e2 i2 hdm hdn o.tr fun H' kp q1 q2 q3 q4 q5 q6 q7 q8 q9 => by
      rw [← q9]
      exact k H' _ _ dm dn _ kp q1 gfs_L gfs_B gfs_M gfs_N gfs_no q2 q3 q4 q5 q6 q7 q8
theorem sc_Grown_steps : FnScope ["self", "person", "left", "some", "choice", "late"] ["self", "person", "left"] (defScope s_Grown_steps) := ⟨rfl, rfl, rfl, by decide +kernel, rfl, by decide +kernel, by decide +kernel⟩
section
variable {G : Gr} {vl vb : V} {Ew : List P2} {cs : List Int}
theorem fn_Grown_steps (T : Txt K mg a) {L : List (List (List Nat))} {BT : D} (GD : GrD K a.c_Grown G vl vb L BT) : FnOk P w K mg base CX0 2 a.f_Grown_steps a.d_Grown_steps ["self", "person", "left"] (spM K (mdG G) G.g (g_Grown_steps L)) := fn_impM (fn_okM T.F_Grown_steps sc_Grown_steps fun cdv A outer s H E hr => by
  have hu := hr.units
  exact (ss_cons (s_setLc (i := 3) (own := [("choice", 4)]) (by rfl) sc_Grown_steps.nd rfl rfl (sw_true rfl rfl rfl (by decide +kernel)) (bi_seq (b_ix ix_seq rd_ix (b_fld GD.ok rfl (GD.na T.n_own_later) GD.l_own_later GD.i_own_later (pv 0)) (b_var 1))) (blkOk_by (by rfl)) (by simp) (fun _ _ _ _ _ => (bg_name (i := 4) sc_Grown_steps.nd rfl (by first | exact Or.inl rfl | exact Or.inr rfl))) (fun _ _ _ _ _ => bts_nil) (fun _ _ _ _ _ => (b_tup (ba_cons (b_var 4) (ba_cons (b_call (fn_taken T) (hr.mono (by decide)) (by rfl) T.m_taken T.k_taken T.B_taken (ba_cons (b_var 2) (ba_cons (b_var 1) (ba_cons (b_var 4) ba_nil)))) ba_nil)))))
    (ss_one (s_ret (b_f (f_lc (own := [("choice", 4), ("late", 5)]) (by rfl) sc_Grown_steps.nd (bi_seq (b_var 3)) (blkOk_by (by rfl)) (by simp) (fun _ _ _ _ _ => (bg_tup (by rfl) (bgs_cons (bg_name (i := 4) sc_Grown_steps.nd rfl (by first | exact Or.inl rfl | exact Or.inr rfl)) (bgs_cons (bg_name (i := 5) sc_Grown_steps.nd rfl (by first | exact Or.inl rfl | exact Or.inr rfl)) bgs_nil)))) (fun _ _ _ _ _ => (bts_one (bt_cmp o_isnot rd_is (b_var 5) b_non (nomark _)))) (fun _ _ _ _ _ => (b_tup (ba_cons (b_var 4) (ba_cons (b_var 5) ba_nil)))))))))) (ok_Grown_steps G.g L)
theorem sc_Grown_rest : FnScope ["self", "person", "left"] ["self", "person", "left"] (defScope s_Grown_rest) := ⟨rfl, rfl, rfl, by decide +kernel, rfl, by decide +kernel, by decide +kernel⟩
theorem fn_Grown_rest (T : Txt K mg a) {L : List (List (List Nat))} {BT : D} (GD : GrD K a.c_Grown G vl vb L BT) : FnOk P w K mg base CX0 1 a.f_Grown_rest a.d_Grown_rest ["self", "person", "left"] (spT K (mdG G) G.g g_Grown_rest) := fn_impT (fn_okT T.F_Grown_rest sc_Grown_rest rfl fun cdv A outer s H E hr => n_cat (ba_cons (b_var 1) ba_nil) (b_slT (b_var 2) (bo_some (b_var 1)) bo_none)) (ok_Grown_rest G.g)
theorem sc_Grown_most : FnScope ["self", "person", "left", "key", "some", "choice", "late"] ["self", "person", "left"] (defScope s_Grown_most) := ⟨rfl, rfl, rfl, by decide +kernel, rfl, by decide +kernel, by decide +kernel⟩
theorem fn_Grown_most (T : Txt K mg a) (w1 : GrW Ew cs) (GD : GrD K a.c_Grown G vl vb (chs Ew cs.length) (isD cs)) (hS : G.S1 = S1F (chs Ew cs.length) ∧ G.S2 = S2F (chs Ew cs.length) ∧ G.Ks = Kss cs) : ∀ j : Nat, FnOk P w K mg base CX0 (2 + j) a.f_Grown_most a.d_Grown_most ["self", "person", "left"] (spM K (mdG G) G.g (g_Grown_most Ew cs j))
  | 0 => ⟨fun vs H Q E ⟨W, us, ds, R, e, o, i, ⟨p, left, _, h1, h2, _⟩, q⟩ => absurd h2 (by omega), fun A outer s H args us vs Q E _ _ _ _ ⟨W, us', ds, R, e, o, i, ⟨p, left, _, h1, h2, _⟩, q⟩ => absurd h2 (by omega)⟩
  | j + 1 => fn_impM (g' := semM G.g 7 3 (d_Grown_most G.g (chs Ew cs.length) G.Ks G.S1 (g_Grown_most Ew cs j))) (fn_okM (k := 2 + j) T.F_Grown_most sc_Grown_most fun cdv A outer s H E hr => by
    have hu := hr.units
    have R := fn_Grown_most T w1 GD hS j
    exact ss_cons (s_if (bt_cmp (o_eq hu) rd_eq (b_var 1) (b_cB call_len_seq rn_len (by rfl) T.b_len bt_len (ba_cons (b_var 2) ba_nil)) (nomark _)) (ss_one (s_ret b_int)) ss_nil) (ss_memo (ik := 3) (i0 := 0) GD.ok rfl hu (.inl ⟨rfl, rfl⟩) GD.l_own_most (GD.na T.n_own_most) sc_Grown_most.nd rfl (by first | exact Or.inl rfl | exact Or.inr rfl) (n_meth GD.ok rfl (GD.me T.M_Grown_rest) (GD.no _ (by decide)) (fn_Grown_rest T GD) (hr.mono (by omega)) T.B_Grown_rest (pv 0) (ba_cons (b_var 1) (ba_cons (b_var 2) ba_nil))) (s_setLc (i := 4) (own := [("choice", 5), ("late", 6)]) (by rfl) sc_Grown_most.nd rfl rfl (sw_true rfl rfl rfl (by decide +kernel)) (bi_seq (b_meth GD.ok rfl (GD.me T.M_Grown_steps) (GD.no _ (by decide)) (fn_Grown_steps T GD) (hr.mono (by omega)) T.B_Grown_steps (pv 0) (ba_cons (b_var 1) (ba_cons (b_var 2) ba_nil)))) (blkOk_by (by rfl)) (by simp) (fun _ _ _ _ _ => (bg_tup (by rfl) (bgs_cons (bg_name (i := 5) sc_Grown_most.nd rfl (by first | exact Or.inl rfl | exact Or.inr rfl)) (bgs_cons (bg_name (i := 6) sc_Grown_most.nd rfl (by first | exact Or.inl rfl | exact Or.inr rfl)) bgs_nil)))) (fun _ _ _ _ _ => bts_nil) (fun _ _ _ _ _ => (b_op op_plus rd_plus (b_cB call_len_seq rn_len (by rfl) T.b_len bt_len (ba_cons (b_var 5) ba_nil)) (b_meth GD.ok rfl (GD.me T.M_Grown_most) (GD.no _ (by decide)) R (hr.mono (by omega)) T.B_Grown_most (pv 0) (ba_cons (b_op op_plus rd_plus (b_var 1) b_int) (ba_cons (b_var 6) ba_nil)))))) (b_cB (c_max (by rfl) hu) rn_max (by rfl) T.b_max bt_max (ba_cons (b_var 4) ba_nil)) (fun _ => pv 3) (fun _ => pv 0))) (fun ds Q h => by
    rw [hS.2.2, hS.1]
    exact ok_Grown_most w1 G.g j ds Q h)
theorem sc_Grown_many : FnScope ["self", "person", "left", "key", "some", "choice", "late"] ["self", "person", "left"] (defScope s_Grown_many) := ⟨rfl, rfl, rfl, by decide +kernel, rfl, by decide +kernel, by decide +kernel⟩
theorem fn_Grown_many (T : Txt K mg a) (w1 : GrW Ew cs) (GD : GrD K a.c_Grown G vl vb (chs Ew cs.length) (isD cs)) (hS : G.S1 = S1F (chs Ew cs.length) ∧ G.S2 = S2F (chs Ew cs.length) ∧ G.Ks = Kss cs) : ∀ j : Nat, FnOk P w K mg base CX0 (2 + j) a.f_Grown_many a.d_Grown_many ["self", "person", "left"] (spM K (mdG G) G.g (g_Grown_many Ew cs j))
  | 0 => ⟨fun vs H Q E ⟨W, us, ds, R, e, o, i, ⟨p, left, _, h1, h2, _⟩, q⟩ => absurd h2 (by omega), fun A outer s H args us vs Q E _ _ _ _ ⟨W, us', ds, R, e, o, i, ⟨p, left, _, h1, h2, _⟩, q⟩ => absurd h2 (by omega)⟩
  | j + 1 => fn_impM (g' := semM G.g 7 3 (d_Grown_many G.g (chs Ew cs.length) G.Ks G.S2 (g_Grown_many Ew cs j))) (fn_okM (k := 2 + j) T.F_Grown_many sc_Grown_many fun cdv A outer s H E hr => by
    have hu := hr.units
    have R := fn_Grown_many T w1 GD hS j
    exact ss_cons (s_if (bt_cmp (o_eq hu) rd_eq (b_var 1) (b_cB call_len_seq rn_len (by rfl) T.b_len bt_len (ba_cons (b_var 2) ba_nil)) (nomark _)) (ss_one (s_ret b_int)) ss_nil) (ss_memo (ik := 3) (i0 := 0) GD.ok rfl hu (.inr ⟨rfl, rfl⟩) GD.l_own_many (GD.na T.n_own_many) sc_Grown_many.nd rfl (by first | exact Or.inl rfl | exact Or.inr rfl) (n_meth GD.ok rfl (GD.me T.M_Grown_rest) (GD.no _ (by decide)) (fn_Grown_rest T GD) (hr.mono (by omega)) T.B_Grown_rest (pv 0) (ba_cons (b_var 1) (ba_cons (b_var 2) ba_nil))) (s_setLc (i := 4) (own := [("choice", 5), ("late", 6)]) (by rfl) sc_Grown_many.nd rfl rfl (sw_true rfl rfl rfl (by decide +kernel)) (bi_seq (b_meth GD.ok rfl (GD.me T.M_Grown_steps) (GD.no _ (by decide)) (fn_Grown_steps T GD) (hr.mono (by omega)) T.B_Grown_steps (pv 0) (ba_cons (b_var 1) (ba_cons (b_var 2) ba_nil)))) (blkOk_by (by rfl)) (by simp) (fun _ _ _ _ _ => (bg_tup (by rfl) (bgs_cons (bg_name (i := 5) sc_Grown_many.nd rfl (by first | exact Or.inl rfl | exact Or.inr rfl)) (bgs_cons (bg_name (i := 6) sc_Grown_many.nd rfl (by first | exact Or.inl rfl | exact Or.inr rfl)) bgs_nil)))) (fun _ _ _ _ _ => (bts_one (bt_cmp (o_eq hu) rd_eq (b_ix ix_seq rd_ix (b_var 6) (b_var 1)) b_int (nomark _)))) (fun _ _ _ _ _ => (b_meth GD.ok rfl (GD.me T.M_Grown_many) (GD.no _ (by decide)) R (hr.mono (by omega)) T.B_Grown_many (pv 0) (ba_cons (b_op op_plus rd_plus (b_var 1) b_int) (ba_cons (b_var 6) ba_nil))))) (b_cB (c_sum (by rfl)) rn_sum (by rfl) T.b_sum bt_sum (ba_cons (b_var 4) ba_nil)) (fun _ => pv 3) (fun _ => pv 0))) (fun ds Q h => by
    rw [hS.2.2, hS.2.1]
    exact ok_Grown_many w1 G.g j ds Q h)
theorem sc_Grown_first : FnScope ["self", "left", "found", "person", "due", "some", "step", "late"] ["self"] (defScope s_Grown_first) := ⟨rfl, rfl, rfl, by decide +kernel, rfl, by decide +kernel, by decide +kernel⟩
theorem fn_Grown_first (T : Txt K mg a) (w1 : GrW Ew cs) (h0 : okL cs = true) (GD : GrD K a.c_Grown G vl vb (chs Ew cs.length) (isD cs)) (hS : G.S1 = S1F (chs Ew cs.length) ∧ G.S2 = S2F (chs Ew cs.length) ∧ G.Ks = Kss cs) : FnOk P w K mg base CX0 14 a.f_Grown_first a.d_Grown_first ["self"] (spM K (mdG G) G.g (g_Grown_first Ew cs)) := fn_impM (fn_okM T.F_Grown_first sc_Grown_first fun cdv A outer s H E hr => by
  have hu := hr.units
  exact (ss_cons (s_par2 (i := 1) (j := 2) (by rfl) sc_Grown_first.nd rfl rfl (by decide) (bc_d (b_fld GD.ok rfl (GD.na T.n_own_begin) GD.l_own_begin GD.i_own_begin (pv 0)) (bc_f (f_lst ba_nil) bc_nil)))
    (ss_cons (s_for PassesOwn.never (by rfl) (bi_range1 (by rfl) T.b_range (ba_cons (b_cB call_len_seq rn_len (by rfl) T.b_len bt_len (ba_cons (b_var 1) ba_nil)) ba_nil)) (sg_name (i := 3) sc_Grown_first.nd rfl (by first | exact Or.inl rfl | exact Or.inr rfl)) (ss_cons (s_set (i := 4) sc_Grown_first.nd rfl (by first | exact Or.inl rfl | exact Or.inr rfl) (b_meth GD.ok rfl (GD.me T.M_Grown_most) (GD.no _ (by decide)) (fn_Grown_most T w1 GD hS 11) (hr.mono (by omega)) T.B_Grown_most (pv 0) (ba_cons (b_var 3) (ba_cons (b_var 1) ba_nil))))
    (ss_cons (s_setLc (i := 5) (own := [("step", 6)]) (by rfl) sc_Grown_first.nd rfl rfl (sw_true rfl rfl rfl (by decide +kernel)) (bi_seq (b_meth GD.ok rfl (GD.me T.M_Grown_steps) (GD.no _ (by decide)) (fn_Grown_steps T GD) (hr.mono (by omega)) T.B_Grown_steps (pv 0) (ba_cons (b_var 3) (ba_cons (b_var 1) ba_nil)))) (blkOk_by (by rfl)) (by simp) (fun _ _ _ _ _ => (bg_name (i := 6) sc_Grown_first.nd rfl (by first | exact Or.inl rfl | exact Or.inr rfl))) (fun _ _ _ _ _ => (bts_one (bt_cmp (o_eq hu) rd_eq (b_op op_plus rd_plus (b_cB call_len_seq rn_len (by rfl) T.b_len bt_len (ba_cons (b_ix ix_seq rd_ix (b_var 6) b_int) ba_nil)) (b_meth GD.ok rfl (GD.me T.M_Grown_most) (GD.no _ (by decide)) (fn_Grown_most T w1 GD hS 11) (hr.mono (by omega)) T.B_Grown_most (pv 0) (ba_cons (b_op op_plus rd_plus (b_var 3) b_int) (ba_cons (b_ix ix_seq rd_ix (b_var 6) b_int) ba_nil)))) (b_var 4) (nomark _)))) (fun _ _ _ _ _ => (b_var 6)))
    (ss_cons (s_ext (i := 2) (pv 2) (b_f (f_lc (own := [("late", 7)]) (by rfl) sc_Grown_first.nd (bi_seq (b_ix ix_seq rd_ix (b_ix ix_seq rd_ix (b_var 5) b_int) b_int)) (blkOk_by (by rfl)) (by simp) (fun _ _ _ _ _ => (bg_name (i := 7) sc_Grown_first.nd rfl (by first | exact Or.inl rfl | exact Or.inr rfl))) (fun _ _ _ _ _ => bts_nil) (fun _ _ _ _ _ => (b_tup (ba_cons (b_var 3) (ba_cons (b_var 7) ba_nil)))))))
    (ss_one (s_set (i := 1) sc_Grown_first.nd rfl (by first | exact Or.inl rfl | exact Or.inr rfl) (b_ix ix_seq rd_ix (b_ix ix_seq rd_ix (b_var 5) b_int) b_int)))))))
    (ss_one (s_ret (b_cTy call_tuple_of rn_tuple (by rfl) T.b_tuple bt_tuple (ba_cons (b_var 2) ba_nil))))))) (ok_Grown_first w1 h0 G.g)
end
theorem fm_Grown_first (T : Txt K mg a) : FnOk P w K mg base CX0 14 a.f_Grown_first a.d_Grown_first ["self"] (spMeth K a.c_Grown g_Grown_first) := fn_ex fun G vl vb Ew cs w1 h0 GD hS => fn_Grown_first T w1 h0 GD hS
theorem fm_Grown_many (T : Txt K mg a) : FnOk P w K mg base CX0 13 a.f_Grown_many a.d_Grown_many ["self", "person", "left"] (spMeth K a.c_Grown fun E cs => g_Grown_many E cs 11) := fn_ex fun G vl vb Ew cs w1 h0 GD hS => fn_Grown_many T w1 GD hS 11
theorem sc__law_all_pairs : FnScope ["many", "found", "one", "other"] ["many"] (defScope s__law_all_pairs) := ⟨rfl, rfl, rfl, by decide +kernel, rfl, by decide +kernel, by decide +kernel⟩
theorem fn__law_all_pairs (T : Txt K mg a) : FnOk P w K mg base CX0 1 a.f__law_all_pairs a.d__law_all_pairs ["many"] (spD K g__law_all_pairs) := fn_imp (fn_ok T.F__law_all_pairs sc__law_all_pairs fun cdv A outer s H E hr => by
  have hu := hr.units
  exact (ss_cons (s_setF (i := 1) sc__law_all_pairs.nd rfl (by first | exact Or.inl rfl | exact Or.inr rfl) (f_lst ba_nil))
    (ss_cons (s_for PassesOwn.never (by rfl) (bi_range1 (by rfl) T.b_range (ba_cons (b_var 0) ba_nil)) (sg_name (i := 2) sc__law_all_pairs.nd rfl (by first | exact Or.inl rfl | exact Or.inr rfl)) (ss_one (s_ext (i := 1) (pv 1) (b_f (f_lc (own := [("other", 3)]) (by rfl) sc__law_all_pairs.nd (bi_range2 (by rfl) T.b_range (ba_cons (b_op op_plus rd_plus (b_var 2) b_int) (ba_cons (b_var 0) ba_nil))) (blkOk_by (by rfl)) (by simp) (fun _ _ _ _ _ => (bg_name (i := 3) sc__law_all_pairs.nd rfl (by first | exact Or.inl rfl | exact Or.inr rfl))) (fun _ _ _ _ _ => bts_nil) (fun _ _ _ _ _ => (b_tup (ba_cons (b_var 2) (ba_cons (b_var 3) ba_nil)))))))))
    (ss_one (s_ret (b_var 1)))))) ok__law_all_pairs
theorem sc__law_draw : FnScope ["pot", "many", "digit"] ["pot", "many"] (defScope s__law_draw) := ⟨rfl, rfl, rfl, by decide +kernel, rfl, by decide +kernel, by decide +kernel⟩
theorem fn__law_draw (T : Txt K mg a) : FnOk P w K mg base CX0 1 a.f__law_draw a.d__law_draw ["pot", "many"] (spP K g__law_draw) := by
  refine T.F__law_draw.ok sc__law_draw (fun vs H Q E h => ?_) (fun cdv A outer s H vs Q E hr h => ?_)
  · obtain ⟨W, p, us, ds, R, rfl, o, i, ⟨n, rfl, _⟩, q⟩ := h
    rw [List.length_cons, i.length]
    rfl
  · obtain ⟨W, p, us, ds, R, rfl, o, i, ⟨n, rfl, ⟨n1, n2⟩, hR⟩, q⟩ := h
    cases i with
    | cons i1 i2 =>
    cases i2
    cases i1
    obtain ⟨x, y, hp, hx, hy, hz⟩ := o.R
    have fin : ∀ (x' y' : Int) (k : Int) (H' : Hp), 0 ≤ x' → 0 ≤ y' → y' < 4294967296 → H' p = some (.lst [.int x', .int y']) → (∀ b o', H b = some o' → b ≠ p → H' b = some o') → 0 ≤ k → k < n → Q (.int k) H' := fun x' y' k H' h1 h2 h3 h4 h5 h6 h7 =>
      q _ _ (.int k) ⟨fun b o' e nb => h5 b o' e nb, ⟨x', y', h4, h1, h2, h3⟩⟩ (.int k) (hR k h6 h7)
    refine ⟨_, pss_cons (ps_if (pt_cmpR op_gt (pe_ix ix_seq (pv 0) pe_int (fun _ _ => rfl)) pe_int (nomark _))
        (pss_cons (ps_asg (pe_callB call_divmod (by rfl) T.b_divmod bt_divmod (pa_cons (pe_ix ix_seq (pv 0) pe_int (fun _ _ => rfl)) (pa_cons (pv 1) pa_nil))) (pg_tup (by rfl) (pgs_cons (pg_sub (pv 0) pe_int set_list) (pgs_cons (pg_name (i := 2) sc__law_draw.nd rfl (by first | exact Or.inl rfl | exact Or.inr rfl)) pgs_nil))))
          (pss_one (ps_ret (pv 2)))) pss_nil)
      (pss_cons (ps_asg (pe_op op_mod (pe_callTy call_int1 (by rfl) T.b_int bt_int (pa_cons (pe_op op_plus (pe_op op_mul (pe_ix ix_seq (pv 0) pe_int (fun _ _ => rfl)) pe_int) pe_int) pa_nil)) pe_int) (pg_sub (pv 0) pe_int set_list))
      (pss_one (ps_ret (pe_op op_mod (pe_callTy call_int1 (by rfl) T.b_int bt_int (pa_cons (pe_op op_fdiv (pe_op op_mod (pe_callTy call_int1 (by rfl) T.b_int bt_int (pa_cons (pe_op op_mul (pe_ix ix_seq (pv 0) pe_int (fun _ _ => rfl)) (pe_ix ix_seq (pv 0) pe_int (fun _ _ => rfl))) pa_nil)) pe_int) pe_int) pa_nil)) (pv 1))))), ?_⟩
    have at0 : ∀ (H' : Hp) (x' y' : Int), H' p = some (.lst [.int x', .int y']) → rIx K (.ref p) (.int 0) H' = fun Q => rIx K (.ref p) (.int 0) H' Q := fun _ _ _ _ => rfl
    have ix0 : ∀ (H' : Hp) (x' y' : Int) (Q' : VK), H' p = some (.lst [.int x', .int y']) → Q' (.int x') H' → rIx K (.ref p) (.int 0) H' Q' := fun H' x' y' Q' h h' => .inl ⟨p, _, 0, .int x', rfl, rfl, SqL.of h, rfl, h'⟩
    have ix1 : ∀ (H' : Hp) (x' y' : Int) (Q' : VK), H' p = some (.lst [.int x', .int y']) → Q' (.int y') H' → rIx K (.ref p) (.int 1) H' Q' := fun H' x' y' Q' h h' => .inl ⟨p, _, 1, .int y', rfl, rfl, SqL.of h, rfl, h'⟩
    have c1 : ∀ i : Int, -(2 ^ 64) < i → i < 2 ^ 64 → ∀ j, CMul i j := fun i a b j => .inl ⟨a, b⟩
    refine ⟨_, rfl, ix0 H x y _ hp ?_⟩
    refine ⟨_, _, rfl, rfl, _, rfl, ?_⟩
    refine ite2 (fun hc => ?_) (fun hc => ?_)
    · refine ⟨_, rfl, ix0 H x y _ hp ⟨_, rfl, _, _, rfl, ⟨n1, n2⟩, fun t ht => ?_⟩⟩
      have npt : p ≠ t := ne_of_none hp ht
      have hp2 : upd H t (.tup [.int (x / n), .int (x % n)]) p = some (.lst [.int x, .int y]) := by rw [upd_ne npt]; exact hp
      refine ⟨t, _, rfl, SqT.of upd_same, rfl, _, _, rfl, ⟨_, rfl, p, _, _, _, rfl, rfl, hp2, rfl, _, _, rfl, ⟨rfl, ?_⟩⟩⟩
      refine ⟨_, rfl, ?_⟩
      refine fin (x / n) y (x % n) _ (Int.ediv_nonneg hx (by omega)) hy hz upd_same (fun b o' e nb => ?_) (Int.emod_nonneg _ (by omega)) (Int.emod_lt_of_pos _ n1)
      rw [upd_ne nb, upd_ne (ne_of_none e ht)]
      exact e
    · refine ⟨_, rfl, ix1 H x y _ hp ?_⟩
      refine ⟨_, _, rfl, rfl, c1 _ (by omega) (by omega) _, .inl ⟨_, _, rfl, rfl, .inl ⟨_, rfl, _, _, rfl, rfl, (show (0 : Int) < 2147483587 by decide), ?_⟩⟩⟩
      refine ⟨_, rfl, p, _, _, _, rfl, rfl, hp, rfl, ?_⟩
      obtain ⟨y2, hY⟩ : ∃ y2 : Int, y2 = (y * 40692 + 10559) % 2147483587 := ⟨_, rfl⟩
      have hy0 : 0 ≤ y2 := by rw [hY]; exact Int.emod_nonneg _ (by decide)
      have hy1 : y2 < 4294967296 := by
        rw [hY]
        exact Int.lt_trans (Int.emod_lt_of_pos _ (by decide)) (by decide)
      have hp2 : upd H p (.lst ([V.int x, V.int y].set (Int.toNat 1) (V.int ((y * 40692 + 10559) % 2147483587)))) p = some (.lst [.int x, .int y2]) := by rw [hY]; exact upd_same
      refine ⟨_, rfl, ix1 _ x y2 _ hp2 ⟨_, rfl, ix1 _ x y2 _ hp2 ?_⟩⟩
      refine ⟨_, _, rfl, rfl, c1 _ (by omega) (by omega) _, .inl ⟨_, rfl, _, _, rfl, rfl, (show (0 : Int) < 2147483549 by decide), _, _, rfl, rfl, ⟨(show (0 : Int) < 17 by decide), (show (17 : Int) < 1073741824 by decide)⟩, .inl ⟨_, rfl, _, rfl, _, _, rfl, rfl, n1, ?_⟩⟩⟩
      refine fin x y2 _ _ hx hy0 hy1 hp2 (fun b o' e nb => ?_) (Int.emod_nonneg _ (by omega)) (Int.emod_lt_of_pos _ n1)
      rw [upd_ne nb]
      exact e
theorem sc__law_pick : FnScope ["pot", "some"] ["pot", "some"] (defScope s__law_pick) := ⟨rfl, rfl, rfl, by decide +kernel, rfl, by decide +kernel, by decide +kernel⟩
theorem fn__law_pick (T : Txt K mg a) : FnOk P w K mg base CX0 2 a.f__law_pick a.d__law_pick ["pot", "some"] (spP K g__law_pick) := fn_impP (fn_okP T.F__law_pick sc__law_pick fun p cdv A outer s H E hr => by
  have hu := hr.units
  exact (ss_one (s_ret (b_ix ix_seq rd_ix (b_var 1) (b_callP (fn__law_draw T) (hr.mono (by decide)) (by rfl) T.m__law_draw T.k__law_draw T.B__law_draw (pv 0) (ba_cons (b_cB call_len_seq rn_len (by rfl) T.b_len bt_len (ba_cons (b_var 1) ba_nil)) ba_nil)))))) ok__law_pick
theorem sc_all_pairs : FnScope ["persons", "found", "one", "other"] ["persons"] (defScope s_all_pairs) := ⟨rfl, rfl, rfl, by decide +kernel, rfl, by decide +kernel, by decide +kernel⟩
theorem fn_all_pairs (T : Txt K mg a) : FnOk P w K mg base CX0 1 a.f_all_pairs a.d_all_pairs ["persons"] (spD K g_all_pairs) := fn_imp (fn_ok T.F_all_pairs sc_all_pairs fun cdv A outer s H E hr => by
  have hu := hr.units
  exact (ss_cons (s_setF (i := 1) sc_all_pairs.nd rfl (by first | exact Or.inl rfl | exact Or.inr rfl) (f_lst ba_nil))
    (ss_cons (s_for PassesOwn.never (by rfl) (bi_range1 (by rfl) T.b_range (ba_cons (b_var 0) ba_nil)) (sg_name (i := 2) sc_all_pairs.nd rfl (by first | exact Or.inl rfl | exact Or.inr rfl)) (ss_one (s_ext (i := 1) (pv 1) (b_f (f_lc (own := [("other", 3)]) (by rfl) sc_all_pairs.nd (bi_range2 (by rfl) T.b_range (ba_cons (b_op op_plus rd_plus (b_var 2) b_int) (ba_cons (b_var 0) ba_nil))) (blkOk_by (by rfl)) (by simp) (fun _ _ _ _ _ => (bg_name (i := 3) sc_all_pairs.nd rfl (by first | exact Or.inl rfl | exact Or.inr rfl))) (fun _ _ _ _ _ => bts_nil) (fun _ _ _ _ _ => (b_tup (ba_cons (b_var 2) (ba_cons (b_var 3) ba_nil)))))))))
    (ss_one (s_ret (b_var 1)))))) ok_all_pairs
theorem sc_counts_in : FnScope ["persons", "pairs", "found", "one", "other"] ["persons", "pairs"] (defScope s_counts_in) := ⟨rfl, rfl, rfl, by decide +kernel, rfl, by decide +kernel, by decide +kernel⟩
theorem fn_counts_in (T : Txt K mg a) : FnOk P w K mg base CX0 1 a.f_counts_in a.d_counts_in ["persons", "pairs"] (spD K g_counts_in) := fn_imp (fn_ok T.F_counts_in sc_counts_in fun cdv A outer s H E hr => by
  have hu := hr.units
  exact (ss_cons (s_setF (i := 2) sc_counts_in.nd rfl (by first | exact Or.inl rfl | exact Or.inr rfl) (f_op op_rep rf_rep (b_f (f_lst (ba_cons b_int ba_nil))) (b_var 0)))
    (ss_cons (s_for PassesOwn.never (by rfl) (bi_seq (b_var 1)) (sg_tup (by rfl) (sgs_cons (i := 3) sc_counts_in.nd rfl (by first | exact Or.inl rfl | exact Or.inr rfl) (sgs_cons (i := 4) sc_counts_in.nd rfl (by first | exact Or.inl rfl | exact Or.inr rfl) sgs_nil))) (ss_cons (s_sub (i := 2) (pv 2) (b_var 3) (b_op op_plus rd_plus (b_ix ix_seq rd_ix (b_var 2) (b_var 3)) b_int))
    (ss_one (s_sub (i := 2) (pv 2) (b_var 4) (b_op op_plus rd_plus (b_ix ix_seq rd_ix (b_var 2) (b_var 4)) b_int)))))
    (ss_one (s_ret (b_cTy call_tuple_of rn_tuple (by rfl) T.b_tuple bt_tuple (ba_cons (b_var 2) ba_nil))))))) ok_counts_in
theorem sc_left_of : FnScope ["counts", "met", "one", "many"] ["counts", "met"] (defScope s_left_of) := ⟨rfl, rfl, rfl, by decide +kernel, rfl, by decide +kernel, by decide +kernel⟩
theorem fn_left_of (T : Txt K mg a) : FnOk P w K mg base CX0 2 a.f_left_of a.d_left_of ["counts", "met"] (spD K g_left_of) := fn_imp (fn_ok T.F_left_of sc_left_of fun cdv A outer s H E hr => by
  have hu := hr.units
  exact (ss_one (s_ret (b_cTy call_tuple_of rn_tuple (by rfl) T.b_tuple bt_tuple (ba_cons (b_f (f_lc (own := [("one", 2), ("many", 3)]) (by rfl) sc_left_of.nd (bi_zip (by rfl) T.b_zip (ba_cons (b_var 0) (ba_cons (b_call (fn_counts_in T) (hr.mono (by decide)) (by rfl) T.m_counts_in T.k_counts_in T.B_counts_in (ba_cons (b_cB call_len_seq rn_len (by rfl) T.b_len bt_len (ba_cons (b_var 0) ba_nil)) (ba_cons (b_var 1) ba_nil))) ba_nil))) (blkOk_by (by rfl)) (by simp) (fun _ _ _ _ _ => (bg_tup (by rfl) (bgs_cons (bg_name (i := 2) sc_left_of.nd rfl (by first | exact Or.inl rfl | exact Or.inr rfl)) (bgs_cons (bg_name (i := 3) sc_left_of.nd rfl (by first | exact Or.inl rfl | exact Or.inr rfl)) bgs_nil)))) (fun _ _ _ _ _ => bts_nil) (fun _ _ _ _ _ => (b_op op_sub rd_I0 (b_var 2) (b_var 3))))) ba_nil))))) ok_left_of
theorem sc_loose_of : FnScope ["counts", "met", "apart", "some", "pair"] ["counts", "met", "apart"] (defScope s_loose_of) := ⟨rfl, rfl, rfl, by decide +kernel, rfl, by decide +kernel, by decide +kernel⟩
theorem fn_loose_of (T : Txt K mg a) : FnOk P w K mg base CX0 2 a.f_loose_of a.d_loose_of ["counts", "met", "apart"] (spD K g_loose_of) := fn_imp (fn_ok T.F_loose_of sc_loose_of fun cdv A outer s H E hr => by
  have hu := hr.units
  exact (ss_cons (s_setLc (i := 3) (own := [("pair", 4)]) (by rfl) sc_loose_of.nd rfl rfl (sw_true rfl rfl rfl (by decide +kernel)) (bi_seq (b_call (fn_all_pairs T) (hr.mono (by decide)) (by rfl) T.m_all_pairs T.k_all_pairs T.B_all_pairs (ba_cons (b_cB call_len_seq rn_len (by rfl) T.b_len bt_len (ba_cons (b_var 0) ba_nil)) ba_nil))) (blkOk_by (by rfl)) (by simp) (fun _ _ _ _ _ => (bg_name (i := 4) sc_loose_of.nd rfl (by first | exact Or.inl rfl | exact Or.inr rfl))) (fun _ _ _ _ _ => (bts_one (bt_w (bw_and (bt_cmp (o_notin hu) rd_in (b_var 4) (b_var 1) (by with_unfolding_all rfl)) (bw_and1 (bt_cmp (o_notin hu) rd_in (b_var 4) (b_var 2) (by with_unfolding_all rfl))))))) (fun _ _ _ _ _ => (b_var 4)))
    (ss_one (s_ret (b_tup (ba_cons (b_globS (by rfl) T.c_WEB) (ba_cons (b_cB call_len_seq rn_len (by rfl) T.b_len bt_len (ba_cons (b_var 0) ba_nil)) (ba_cons (b_cTy call_tuple_of rn_tuple (by rfl) T.b_tuple bt_tuple (ba_cons (b_var 3) ba_nil)) ba_nil)))))))) ok_loose_of
theorem sc_many_of : FnScope ["web", "counts"] ["web", "counts"] (defScope s_many_of) := ⟨rfl, rfl, rfl, by decide +kernel, rfl, by decide +kernel, by decide +kernel⟩
theorem fn_many_of (T : Txt K mg a) : FnOk P w K mg base CX0 15 a.f_many_of a.d_many_of ["web", "counts"] (spD K g_many_of) := fn_imp (fn_ok T.F_many_of sc_many_of fun cdv A outer s H E hr => by
  have hu := hr.units
  exact (ss_one (s_ret (b_growN T.C_Grown T.K_Grown (fn_Grown___init__ T) (hr.mono (by decide)) (by rfl) T.m_Grown T.B_Grown___init__ T.M_Grown_many (fm_Grown_many T) (hr.mono (by decide)) T.B_Grown_many (ba_cons (b_var 0) (ba_cons (b_var 1) ba_nil)) (ba_cons b_int (ba_cons (b_cTy call_tuple_of rn_tuple (by rfl) T.b_tuple bt_tuple (ba_cons (b_var 1) ba_nil)) ba_nil)))))) ok_many_of
theorem sc_over_told : FnScope ["counts", "met", "some", "person", "one"] ["counts", "met"] (defScope s_over_told) := ⟨rfl, rfl, rfl, by decide +kernel, rfl, by decide +kernel, by decide +kernel⟩
theorem fn_over_told (T : Txt K mg a) : FnOk P w K mg base CX0 3 a.f_over_told a.d_over_told ["counts", "met"] (spD K g_over_told) := fn_imp (fn_ok T.F_over_told sc_over_told fun cdv A outer s H E hr => by
  have hu := hr.units
  exact (ss_cons (s_setLc (i := 2) (own := [("person", 3), ("one", 4)]) (by rfl) sc_over_told.nd rfl rfl (sw_true rfl rfl rfl (by decide +kernel)) (bi_enum (by rfl) T.b_enumerate (ba_cons (b_call (fn_left_of T) (hr.mono (by decide)) (by rfl) T.m_left_of T.k_left_of T.B_left_of (ba_cons (b_var 0) (ba_cons (b_var 1) ba_nil))) ba_nil)) (blkOk_by (by rfl)) (by simp) (fun _ _ _ _ _ => (bg_tup (by rfl) (bgs_cons (bg_name (i := 3) sc_over_told.nd rfl (by first | exact Or.inl rfl | exact Or.inr rfl)) (bgs_cons (bg_name (i := 4) sc_over_told.nd rfl (by first | exact Or.inl rfl | exact Or.inr rfl)) bgs_nil)))) (fun _ _ _ _ _ => (bts_one (bt_cmp (o_lt hu) rd_ord (b_var 4) b_int (nomark _)))) (fun _ _ _ _ _ => (b_var 3)))
    (ss_one (s_ret (b_if (bt_cmp (o_ne hu) rd_eq (b_var 2) (b_f (f_lst ba_nil)) (nomark _)) (b_ix ix_seq rd_ix (b_var 2) b_int) b_non))))) ok_over_told
theorem sc_many_with : FnScope ["counts", "met", "apart"] ["counts", "met", "apart"] (defScope s_many_with) := ⟨rfl, rfl, rfl, by decide +kernel, rfl, by decide +kernel, by decide +kernel⟩
theorem fn_many_with (T : Txt K mg a) : FnOk P w K mg base CX0 16 a.f_many_with a.d_many_with ["counts", "met", "apart"] (spD K g_many_with) := fn_imp (fn_ok T.F_many_with sc_many_with fun cdv A outer s H E hr => by
  have hu := hr.units
  exact (ss_cons (s_if (bt_cmp o_isnot rd_is (b_call (fn_over_told T) (hr.mono (by decide)) (by rfl) T.m_over_told T.k_over_told T.B_over_told (ba_cons (b_var 0) (ba_cons (b_var 1) ba_nil))) b_non (nomark _)) (ss_one (s_ret b_int)) ss_nil)
    (ss_one (s_ret (b_call (fn_many_of T) (hr.mono (by decide)) (by rfl) T.m_many_of T.k_many_of T.B_many_of (ba_cons (b_call (fn_loose_of T) (hr.mono (by decide)) (by rfl) T.m_loose_of T.k_loose_of T.B_loose_of (ba_cons (b_var 0) (ba_cons (b_var 1) (ba_cons (b_var 2) ba_nil)))) (ba_cons (b_call (fn_left_of T) (hr.mono (by decide)) (by rfl) T.m_left_of T.k_left_of T.B_left_of (ba_cons (b_var 0) (ba_cons (b_var 1) ba_nil))) ba_nil))))))) ok_many_with
theorem sc_counted : FnScope ["counts", "met", "apart", "found"] ["counts", "met", "apart"] (defScope s_counted) := ⟨rfl, rfl, rfl, by decide +kernel, rfl, by decide +kernel, by decide +kernel⟩
theorem fn_counted (T : Txt K mg a) : FnOk P w K mg base CX0 17 a.f_counted a.d_counted ["counts", "met", "apart"] (spD K g_counted) := fn_imp (fn_ok T.F_counted sc_counted fun cdv A outer s H E hr => by
  have hu := hr.units
  exact (ss_cons (s_set (i := 3) sc_counted.nd rfl (by first | exact Or.inl rfl | exact Or.inr rfl) (b_call (fn_many_with T) (hr.mono (by decide)) (by rfl) T.m_many_with T.k_many_with T.B_many_with (ba_cons (b_var 0) (ba_cons (b_var 1) (ba_cons (b_var 2) ba_nil)))))
    (ss_cons (s_if (bt_cmp (o_eq hu) rd_eq (b_var 3) b_int (nomark _)) (ss_one s_never) ss_nil)
    (ss_one (s_ret (b_var 3)))))) ok_counted
theorem sc_want_few : FnScope ["counts"] ["counts"] (defScope s_want_few) := ⟨rfl, rfl, rfl, by decide +kernel, rfl, by decide +kernel, by decide +kernel⟩
theorem fn_want_few (T : Txt K mg a) : FnOk P w K mg base CX0 1 a.f_want_few a.d_want_few ["counts"] (spD K g_want_few) := fn_imp (fn_ok T.F_want_few sc_want_few fun cdv A outer s H E hr => by
  have hu := hr.units
  exact (ss_one (s_if (bt_cmp (o_gt hu) rd_ord (b_cB call_len_seq rn_len (by rfl) T.b_len bt_len (ba_cons (b_var 0) ba_nil)) (b_globI (by rfl) T.c_MOST_TOLD) (nomark _)) (ss_one s_never) ss_nil))) ok_want_few
theorem sc_is_tuple : FnScope ["value", "many"] ["value", "many"] (defScope s_is_tuple) := ⟨rfl, rfl, rfl, by decide +kernel, rfl, by decide +kernel, by decide +kernel⟩
theorem fn_is_tuple (T : Txt K mg a) : FnOk P w K mg base CX0 1 a.f_is_tuple a.d_is_tuple ["value", "many"] (spD K g_is_tuple) := fn_imp (fn_ok T.F_is_tuple sc_is_tuple fun cdv A outer s H E hr => by
  have hu := hr.units
  exact (ss_one (s_ret (b_and (b_isi ty_tuple (by rfl) T.b_isinstance bt_isinstance (by rfl) T.b_tuple bt_tuple (b_var 0)) (b_one (b_cmp (o_eq hu) rd_eq (b_cB call_len_seq rn_len (by rfl) T.b_len bt_len (ba_cons (b_var 0) ba_nil)) (b_var 1) (nomark _))))))) ok_is_tuple
theorem sc_is_integer : FnScope ["value"] ["value"] (defScope s_is_integer) := ⟨rfl, rfl, rfl, by decide +kernel, rfl, by decide +kernel, by decide +kernel⟩
theorem fn_is_integer (T : Txt K mg a) : FnOk P w K mg base CX0 1 a.f_is_integer a.d_is_integer ["value"] (spD K g_is_integer) := fn_imp (fn_ok T.F_is_integer sc_is_integer fun cdv A outer s H E hr => by
  have hu := hr.units
  exact (ss_one (s_ret (b_and (b_isi ty_int (by rfl) T.b_isinstance bt_isinstance (by rfl) T.b_int bt_int (b_var 0)) (b_one (b_not (b_isi ty_bool (by rfl) T.b_isinstance bt_isinstance (by rfl) T.b_bool bt_bool (b_var 0)))))))) ok_is_integer
theorem sc_is_within : FnScope ["value", "least", "most"] ["value", "least", "most"] (defScope s_is_within) := ⟨rfl, rfl, rfl, by decide +kernel, rfl, by decide +kernel, by decide +kernel⟩
theorem fn_is_within (T : Txt K mg a) : FnOk P w K mg base CX0 2 a.f_is_within a.d_is_within ["value", "least", "most"] (spD K g_is_within) := fn_imp (fn_ok T.F_is_within sc_is_within fun cdv A outer s H E hr => by
  have hu := hr.units
  exact (ss_one (s_ret (b_and (b_call (fn_is_integer T) (hr.mono (by decide)) (by rfl) T.m_is_integer T.k_is_integer T.B_is_integer (ba_cons (b_var 0) ba_nil)) (b_one (b_chain (o_le hu) rd_ord (o_le hu) rd_ord (b_var 1) (b_var 0) (b_var 2))))))) ok_is_within
theorem sc_is_pair_of : FnScope ["persons", "value", "one"] ["persons", "value"] (defScope s_is_pair_of) := ⟨rfl, rfl, rfl, by decide +kernel, rfl, by decide +kernel, by decide +kernel⟩
theorem fn_is_pair_of (T : Txt K mg a) : FnOk P w K mg base CX0 3 a.f_is_pair_of a.d_is_pair_of ["persons", "value"] (spD K g_is_pair_of) := fn_imp (fn_ok T.F_is_pair_of sc_is_pair_of fun cdv A outer s H E hr => by
  have hu := hr.units
  exact (ss_one (s_ret (b_and (b_call (fn_is_tuple T) (hr.mono (by decide)) (by rfl) T.m_is_tuple T.k_is_tuple T.B_is_tuple (ba_cons (b_var 1) (ba_cons b_int ba_nil))) (b_and (b_cB (cr_all (by rfl)) rn_bools (by rfl) T.b_all bt_all (ba_cons (b_f (f_lc (own := [("one", 2)]) (by rfl) sc_is_pair_of.nd (bi_seq (b_var 1)) (blkOk_by (by rfl)) (by simp) (fun _ _ _ _ _ => (bg_name (i := 2) sc_is_pair_of.nd rfl (by first | exact Or.inl rfl | exact Or.inr rfl))) (fun _ _ _ _ _ => bts_nil) (fun _ _ _ _ _ => (b_call (fn_is_within T) (hr.mono (by decide)) (by rfl) T.m_is_within T.k_is_within T.B_is_within (ba_cons (b_var 2) (ba_cons b_int (ba_cons (b_op op_sub rd_I0 (b_var 0) b_int) ba_nil))))))) ba_nil)) (b_one (b_cmp (o_lt hu) rd_ord (b_ix ix_seq rd_ix (b_var 1) b_int) (b_ix ix_seq rd_ix (b_var 1) b_int) (nomark _)))))))) ok_is_pair_of
theorem sc_are_pairs_of : FnScope ["persons", "value", "one", "near", "far"] ["persons", "value"] (defScope s_are_pairs_of) := ⟨rfl, rfl, rfl, by decide +kernel, rfl, by decide +kernel, by decide +kernel⟩
theorem fn_are_pairs_of (T : Txt K mg a) : FnOk P w K mg base CX0 4 a.f_are_pairs_of a.d_are_pairs_of ["persons", "value"] (spD K g_are_pairs_of) := fn_imp (fn_ok T.F_are_pairs_of sc_are_pairs_of fun cdv A outer s H E hr => by
  have hu := hr.units
  exact (ss_cons (s_if (bt_w (bw_or (bt_not (bt_val (b_isi ty_tuple (by rfl) T.b_isinstance bt_isinstance (by rfl) T.b_tuple bt_tuple (b_var 1)))) (bw_or1 (bt_not (bt_val (b_cB (cr_all (by rfl)) rn_bools (by rfl) T.b_all bt_all (ba_cons (b_f (f_lc (own := [("one", 2)]) (by rfl) sc_are_pairs_of.nd (bi_seq (b_var 1)) (blkOk_by (by rfl)) (by simp) (fun _ _ _ _ _ => (bg_name (i := 2) sc_are_pairs_of.nd rfl (by first | exact Or.inl rfl | exact Or.inr rfl))) (fun _ _ _ _ _ => bts_nil) (fun _ _ _ _ _ => (b_call (fn_is_pair_of T) (hr.mono (by decide)) (by rfl) T.m_is_pair_of T.k_is_pair_of T.B_is_pair_of (ba_cons (b_var 0) (ba_cons (b_var 2) ba_nil)))))) ba_nil))))))) (ss_one (s_ret b_bl)) ss_nil)
    (ss_one (s_ret (b_cB (cr_all (by rfl)) rn_bools (by rfl) T.b_all bt_all (ba_cons (b_f (f_lc (own := [("near", 3), ("far", 4)]) (by rfl) sc_are_pairs_of.nd (bi_zip (by rfl) T.b_zip (ba_cons (b_var 1) (ba_cons (b_slT (b_var 1) (bo_some b_int) bo_none) ba_nil))) (blkOk_by (by rfl)) (by simp) (fun _ _ _ _ _ => (bg_tup (by rfl) (bgs_cons (bg_name (i := 3) sc_are_pairs_of.nd rfl (by first | exact Or.inl rfl | exact Or.inr rfl)) (bgs_cons (bg_name (i := 4) sc_are_pairs_of.nd rfl (by first | exact Or.inl rfl | exact Or.inr rfl)) bgs_nil)))) (fun _ _ _ _ _ => bts_nil) (fun _ _ _ _ _ => (b_cmp (o_lt hu) rd_ord (b_var 3) (b_var 4) (nomark _))))) ba_nil)))))) ok_are_pairs_of
theorem sc_is_list_value : FnScope ["value", "one"] ["value"] (defScope s_is_list_value) := ⟨rfl, rfl, rfl, by decide +kernel, rfl, by decide +kernel, by decide +kernel⟩
theorem fn_is_list_value (T : Txt K mg a) : FnOk P w K mg base CX0 3 a.f_is_list_value a.d_is_list_value ["value"] (spD K g_is_list_value) := fn_imp (fn_ok T.F_is_list_value sc_is_list_value fun cdv A outer s H E hr => by
  have hu := hr.units
  exact (ss_cons (s_if (bt_w (bw_or (bt_not (bt_val (b_isi ty_tuple (by rfl) T.b_isinstance bt_isinstance (by rfl) T.b_tuple bt_tuple (b_var 0)))) (bw_or1 (bt_not (bt_chain (o_le hu) rd_ord (o_le hu) rd_ord b_int (b_cB call_len_seq rn_len (by rfl) T.b_len bt_len (ba_cons (b_var 0) ba_nil)) (b_globI (by rfl) T.c_MOST_PERSONS)))))) (ss_one (s_ret b_bl)) ss_nil)
    (ss_one (s_ret (b_cB (cr_all (by rfl)) rn_bools (by rfl) T.b_all bt_all (ba_cons (b_f (f_lc (own := [("one", 1)]) (by rfl) sc_is_list_value.nd (bi_seq (b_var 0)) (blkOk_by (by rfl)) (by simp) (fun _ _ _ _ _ => (bg_name (i := 1) sc_is_list_value.nd rfl (by first | exact Or.inl rfl | exact Or.inr rfl))) (fun _ _ _ _ _ => bts_nil) (fun _ _ _ _ _ => (b_call (fn_is_within T) (hr.mono (by decide)) (by rfl) T.m_is_within T.k_is_within T.B_is_within (ba_cons (b_var 1) (ba_cons b_int (ba_cons (b_globI (by rfl) T.c_MOST_COUNT) ba_nil))))))) ba_nil)))))) ok_is_list_value
theorem sc_want_list : FnScope ["counts"] ["counts"] (defScope s_want_list) := ⟨rfl, rfl, rfl, by decide +kernel, rfl, by decide +kernel, by decide +kernel⟩
theorem fn_want_list (T : Txt K mg a) : FnOk P w K mg base CX0 4 a.f_want_list a.d_want_list ["counts"] (spD K g_want_list) := fn_imp (fn_ok T.F_want_list sc_want_list fun cdv A outer s H E hr => by
  have hu := hr.units
  exact (ss_one (s_if (bt_not (bt_val (b_call (fn_is_list_value T) (hr.mono (by decide)) (by rfl) T.m_is_list_value T.k_is_list_value T.B_is_list_value (ba_cons (b_var 0) ba_nil)))) (ss_one s_never) ss_nil))) ok_want_list
theorem sc_want_told : FnScope ["counts", "met", "apart", "pair"] ["counts", "met", "apart"] (defScope s_want_told) := ⟨rfl, rfl, rfl, by decide +kernel, rfl, by decide +kernel, by decide +kernel⟩
theorem fn_want_told (T : Txt K mg a) : FnOk P w K mg base CX0 5 a.f_want_told a.d_want_told ["counts", "met", "apart"] (spD K g_want_told) := fn_imp (fn_ok T.F_want_told sc_want_told fun cdv A outer s H E hr => by
  have hu := hr.units
  exact (ss_cons (s_expr (b_call (fn_want_list T) (hr.mono (by decide)) (by rfl) T.m_want_list T.k_want_list T.B_want_list (ba_cons (b_var 0) ba_nil)))
    (ss_cons (s_if (bt_not (bt_val (b_call (fn_are_pairs_of T) (hr.mono (by decide)) (by rfl) T.m_are_pairs_of T.k_are_pairs_of T.B_are_pairs_of (ba_cons (b_cB call_len_seq rn_len (by rfl) T.b_len bt_len (ba_cons (b_var 0) ba_nil)) (ba_cons (b_var 1) ba_nil))))) (ss_one s_never) ss_nil)
    (ss_one (s_if (bt_w (bw_or (bt_not (bt_val (b_call (fn_are_pairs_of T) (hr.mono (by decide)) (by rfl) T.m_are_pairs_of T.k_are_pairs_of T.B_are_pairs_of (ba_cons (b_cB call_len_seq rn_len (by rfl) T.b_len bt_len (ba_cons (b_var 0) ba_nil)) (ba_cons (b_var 2) ba_nil))))) (bw_or1 (bt_val (b_cB (cr_any (by rfl)) rn_bools (by rfl) T.b_any bt_any (ba_cons (b_f (f_lc (own := [("pair", 3)]) (by rfl) sc_want_told.nd (bi_seq (b_var 2)) (blkOk_by (by rfl)) (by simp) (fun _ _ _ _ _ => (bg_name (i := 3) sc_want_told.nd rfl (by first | exact Or.inl rfl | exact Or.inr rfl))) (fun _ _ _ _ _ => bts_nil) (fun _ _ _ _ _ => (b_cmp (o_in hu) rd_in (b_var 3) (b_var 1) (by with_unfolding_all rfl))))) ba_nil)))))) (ss_one s_never) ss_nil))))) ok_want_told
theorem sc_with_more : FnScope ["pairs", "pair"] ["pairs", "pair"] (defScope s_with_more) := ⟨rfl, rfl, rfl, by decide +kernel, rfl, by decide +kernel, by decide +kernel⟩
theorem fn_with_more (T : Txt K mg a) : FnOk P w K mg base CX0 1 a.f_with_more a.d_with_more ["pairs", "pair"] (spD K g_with_more) := fn_imp (fn_ok T.F_with_more sc_with_more fun cdv A outer s H E hr => by
  have hu := hr.units
  exact (ss_one (s_ret (b_cTy call_tuple_of rn_tuple (by rfl) T.b_tuple bt_tuple (ba_cons (b_f (f_cB (c_sorted hu) rn_srt (by rfl) T.b_sorted bt_sorted (ba_cons (b_op op_plus rd_plus (b_var 0) (b_tup (ba_cons (b_var 1) ba_nil))) ba_nil))) ba_nil))))) ok_with_more
theorem sc_best_asks : FnScope ["counts", "met", "apart", "many", "worst", "pair", "some", "left"] ["counts", "met", "apart"] (defScope s_best_asks) := ⟨rfl, rfl, rfl, by decide +kernel, rfl, by decide +kernel, by decide +kernel⟩
theorem fn_best_asks (T : Txt K mg a) : FnOk P w K mg base CX0 18 a.f_best_asks a.d_best_asks ["counts", "met", "apart"] (spD K g_best_asks) := fn_imp (fn_ok T.F_best_asks sc_best_asks fun cdv A outer s H E hr => by
  have hu := hr.units
  exact (ss_cons (s_expr (b_call (fn_want_told T) (hr.mono (by decide)) (by rfl) T.m_want_told T.k_want_told T.B_want_told (ba_cons (b_var 0) (ba_cons (b_var 1) (ba_cons (b_var 2) ba_nil)))))
    (ss_cons (s_expr (b_call (fn_want_few T) (hr.mono (by decide)) (by rfl) T.m_want_few T.k_want_few T.B_want_few (ba_cons (b_var 0) ba_nil)))
    (ss_cons (s_set (i := 3) sc_best_asks.nd rfl (by first | exact Or.inl rfl | exact Or.inr rfl) (b_call (fn_counted T) (hr.mono (by decide)) (by rfl) T.m_counted T.k_counted T.B_counted (ba_cons (b_var 0) (ba_cons (b_var 1) (ba_cons (b_var 2) ba_nil)))))
    (ss_cons (s_setF (i := 4) sc_best_asks.nd rfl (by first | exact Or.inl rfl | exact Or.inr rfl) (f_lst ba_nil))
    (ss_cons (s_for PassesOwn.never (by rfl) (bi_seq (b_call (fn_all_pairs T) (hr.mono (by decide)) (by rfl) T.m_all_pairs T.k_all_pairs T.B_all_pairs (ba_cons (b_cB call_len_seq rn_len (by rfl) T.b_len bt_len (ba_cons (b_var 0) ba_nil)) ba_nil))) (sg_name (i := 5) sc_best_asks.nd rfl (by first | exact Or.inl rfl | exact Or.inr rfl)) (ss_one (s_if (bt_w (bw_and (bt_cmp (o_notin hu) rd_in (b_var 5) (b_var 1) (by with_unfolding_all rfl)) (bw_and1 (bt_cmp (o_notin hu) rd_in (b_var 5) (b_var 2) (by with_unfolding_all rfl))))) (ss_cons (s_set (i := 6) sc_best_asks.nd rfl (by first | exact Or.inl rfl | exact Or.inr rfl) (b_call (fn_many_with T) (hr.mono (by decide)) (by rfl) T.m_many_with T.k_many_with T.B_many_with (ba_cons (b_var 0) (ba_cons (b_call (fn_with_more T) (hr.mono (by decide)) (by rfl) T.m_with_more T.k_with_more T.B_with_more (ba_cons (b_var 1) (ba_cons (b_var 5) ba_nil))) (ba_cons (b_var 2) ba_nil)))))
    (ss_one (s_app (i := 4) (pv 4) (b_tup (ba_cons (b_cB (call_max2 (by rfl)) rn_i2 (by rfl) T.b_max bt_max (ba_cons (b_var 6) (ba_cons (b_op op_sub rd_I0 (b_var 3) (b_var 6)) ba_nil))) (ba_cons (b_var 5) ba_nil)))))) ss_nil)))
    (ss_cons (s_if (bt_cmp (o_eq hu) rd_eq (b_var 3) b_int (nomark _)) (ss_one (s_ret (b_tup ba_nil))) ss_nil)
    (ss_one (s_ret (b_cTy call_tuple_of rn_tuple (by rfl) T.b_tuple bt_tuple (ba_cons (b_f (f_lc (own := [("left", 7), ("pair", 5)]) (by rfl) sc_best_asks.nd (bi_seq (b_var 4)) (blkOk_by (by rfl)) (by simp) (fun _ _ _ _ _ => (bg_tup (by rfl) (bgs_cons (bg_name (i := 7) sc_best_asks.nd rfl (by first | exact Or.inl rfl | exact Or.inr rfl)) (bgs_cons (bg_name (i := 5) sc_best_asks.nd rfl (by first | exact Or.inl rfl | exact Or.inr rfl)) bgs_nil)))) (fun _ _ _ _ _ => (bts_one (bt_cmp (o_eq hu) rd_eq (b_var 7) (b_ix ix_seq rd_ix (b_cB (c_min (by rfl) hu) rn_min (by rfl) T.b_min bt_min (ba_cons (b_var 4) ba_nil)) b_int) (nomark _)))) (fun _ _ _ _ _ => (b_var 5)))) ba_nil))))))))))) ok_best_asks
theorem sc_is_web_value : FnScope ["value"] ["value"] (defScope s_is_web_value) := ⟨rfl, rfl, rfl, by decide +kernel, rfl, by decide +kernel, by decide +kernel⟩
theorem fn_is_web_value (T : Txt K mg a) : FnOk P w K mg base CX0 5 a.f_is_web_value a.d_is_web_value ["value"] (spD K g_is_web_value) := fn_imp (fn_ok T.F_is_web_value sc_is_web_value fun cdv A outer s H E hr => by
  have hu := hr.units
  exact (ss_cons (s_if (bt_w (bw_or (bt_not (bt_val (b_call (fn_is_tuple T) (hr.mono (by decide)) (by rfl) T.m_is_tuple T.k_is_tuple T.B_is_tuple (ba_cons (b_var 0) (ba_cons b_int ba_nil))))) (bw_or (bt_not (bt_val (b_isi ty_str (by rfl) T.b_isinstance bt_isinstance (by rfl) T.b_str bt_str (b_ix ix_seq rd_ix (b_var 0) b_int)))) (bw_or1 (bt_cmp (o_ne hu) rd_eq (b_ix ix_seq rd_ix (b_var 0) b_int) b_str (nomark _)))))) (ss_one (s_ret b_bl)) ss_nil)
    (ss_one (s_ret (b_and (b_call (fn_is_within T) (hr.mono (by decide)) (by rfl) T.m_is_within T.k_is_within T.B_is_within (ba_cons (b_ix ix_seq rd_ix (b_var 0) b_int) (ba_cons b_int (ba_cons (b_globI (by rfl) T.c_MOST_PERSONS) ba_nil)))) (b_one (b_call (fn_are_pairs_of T) (hr.mono (by decide)) (by rfl) T.m_are_pairs_of T.k_are_pairs_of T.B_are_pairs_of (ba_cons (b_ix ix_seq rd_ix (b_var 0) b_int) (ba_cons (b_ix ix_seq rd_ix (b_var 0) b_int) ba_nil))))))))) ok_is_web_value
theorem sc_want_web : FnScope ["web"] ["web"] (defScope s_want_web) := ⟨rfl, rfl, rfl, by decide +kernel, rfl, by decide +kernel, by decide +kernel⟩
theorem fn_want_web (T : Txt K mg a) : FnOk P w K mg base CX0 6 a.f_want_web a.d_want_web ["web"] (spD K g_want_web) := fn_imp (fn_ok T.F_want_web sc_want_web fun cdv A outer s H E hr => by
  have hu := hr.units
  exact (ss_one (s_if (bt_not (bt_val (b_call (fn_is_web_value T) (hr.mono (by decide)) (by rfl) T.m_is_web_value T.k_is_web_value T.B_is_web_value (ba_cons (b_var 0) ba_nil)))) (ss_one s_never) ss_nil))) ok_want_web
theorem sc_counts_of : FnScope ["web"] ["web"] (defScope s_counts_of) := ⟨rfl, rfl, rfl, by decide +kernel, rfl, by decide +kernel, by decide +kernel⟩
theorem fn_counts_of (T : Txt K mg a) : FnOk P w K mg base CX0 7 a.f_counts_of a.d_counts_of ["web"] (spD K g_counts_of) := fn_imp (fn_ok T.F_counts_of sc_counts_of fun cdv A outer s H E hr => by
  have hu := hr.units
  exact (ss_cons (s_expr (b_call (fn_want_web T) (hr.mono (by decide)) (by rfl) T.m_want_web T.k_want_web T.B_want_web (ba_cons (b_var 0) ba_nil)))
    (ss_one (s_ret (b_call (fn_counts_in T) (hr.mono (by decide)) (by rfl) T.m_counts_in T.k_counts_in T.B_counts_in (ba_cons (b_ix ix_seq rd_ix (b_var 0) b_int) (ba_cons (b_ix ix_seq rd_ix (b_var 0) b_int) ba_nil))))))) ok_counts_of
theorem sc_as_told : FnScope ["web", "pairs", "met", "pair"] ["web", "pairs"] (defScope s_as_told) := ⟨rfl, rfl, rfl, by decide +kernel, rfl, by decide +kernel, by decide +kernel⟩
theorem fn_as_told (T : Txt K mg a) : FnOk P w K mg base CX0 1 a.f_as_told a.d_as_told ["web", "pairs"] (spD K g_as_told) := fn_imp (fn_ok T.F_as_told sc_as_told fun cdv A outer s H E hr => by
  have hu := hr.units
  exact (ss_cons (s_set (i := 2) sc_as_told.nd rfl (by first | exact Or.inl rfl | exact Or.inr rfl) (b_cTy call_tuple_of rn_tuple (by rfl) T.b_tuple bt_tuple (ba_cons (b_f (f_lc (own := [("pair", 3)]) (by rfl) sc_as_told.nd (bi_seq (b_var 1)) (blkOk_by (by rfl)) (by simp) (fun _ _ _ _ _ => (bg_name (i := 3) sc_as_told.nd rfl (by first | exact Or.inl rfl | exact Or.inr rfl))) (fun _ _ _ _ _ => (bts_one (bt_cmp (o_in hu) rd_in (b_var 3) (b_ix ix_seq rd_ix (b_var 0) b_int) (by with_unfolding_all rfl)))) (fun _ _ _ _ _ => (b_var 3)))) ba_nil)))
    (ss_one (s_ret (b_tup (ba_cons (b_var 2) (ba_cons (b_cTy call_tuple_of rn_tuple (by rfl) T.b_tuple bt_tuple (ba_cons (b_f (f_lc (own := [("pair", 3)]) (by rfl) sc_as_told.nd (bi_seq (b_var 1)) (blkOk_by (by rfl)) (by simp) (fun _ _ _ _ _ => (bg_name (i := 3) sc_as_told.nd rfl (by first | exact Or.inl rfl | exact Or.inr rfl))) (fun _ _ _ _ _ => (bts_one (bt_cmp (o_notin hu) rd_in (b_var 3) (b_ix ix_seq rd_ix (b_var 0) b_int) (by with_unfolding_all rfl)))) (fun _ _ _ _ _ => (b_var 3)))) ba_nil)) ba_nil))))))) ok_as_told
theorem sc_is_key_of : FnScope ["web", "pairs", "met", "apart"] ["web", "pairs"] (defScope s_is_key_of) := ⟨rfl, rfl, rfl, by decide +kernel, rfl, by decide +kernel, by decide +kernel⟩
theorem fn_is_key_of (T : Txt K mg a) : FnOk P w K mg base CX0 17 a.f_is_key_of a.d_is_key_of ["web", "pairs"] (spD K g_is_key_of) := fn_imp (fn_ok T.F_is_key_of sc_is_key_of fun cdv A outer s H E hr => by
  have hu := hr.units
  exact (ss_cons (s_asg (b_call (fn_as_told T) (hr.mono (by decide)) (by rfl) T.m_as_told T.k_as_told T.B_as_told (ba_cons (b_var 0) (ba_cons (b_var 1) ba_nil))) (sg_tup (by rfl) (sgs_cons (i := 2) sc_is_key_of.nd rfl (by first | exact Or.inl rfl | exact Or.inr rfl) (sgs_cons (i := 3) sc_is_key_of.nd rfl (by first | exact Or.inl rfl | exact Or.inr rfl) sgs_nil))))
    (ss_one (s_ret (b_cmp (o_eq hu) rd_eq (b_call (fn_many_with T) (hr.mono (by decide)) (by rfl) T.m_many_with T.k_many_with T.B_many_with (ba_cons (b_call (fn_counts_in T) (hr.mono (by decide)) (by rfl) T.m_counts_in T.k_counts_in T.B_counts_in (ba_cons (b_ix ix_seq rd_ix (b_var 0) b_int) (ba_cons (b_ix ix_seq rd_ix (b_var 0) b_int) ba_nil))) (ba_cons (b_var 2) (ba_cons (b_var 3) ba_nil)))) b_int (nomark _)))))) ok_is_key_of
theorem sc_want_pairs : FnScope ["persons", "pairs"] ["persons", "pairs"] (defScope s_want_pairs) := ⟨rfl, rfl, rfl, by decide +kernel, rfl, by decide +kernel, by decide +kernel⟩
theorem fn_want_pairs (T : Txt K mg a) : FnOk P w K mg base CX0 5 a.f_want_pairs a.d_want_pairs ["persons", "pairs"] (spD K g_want_pairs) := fn_imp (fn_ok T.F_want_pairs sc_want_pairs fun cdv A outer s H E hr => by
  have hu := hr.units
  exact (ss_one (s_if (bt_not (bt_val (b_call (fn_are_pairs_of T) (hr.mono (by decide)) (by rfl) T.m_are_pairs_of T.k_are_pairs_of T.B_are_pairs_of (ba_cons (b_var 0) (ba_cons (b_var 1) ba_nil))))) (ss_one s_never) ss_nil))) ok_want_pairs
theorem sc_is_key : FnScope ["web", "pairs"] ["web", "pairs"] (defScope s_is_key) := ⟨rfl, rfl, rfl, by decide +kernel, rfl, by decide +kernel, by decide +kernel⟩
theorem fn_is_key (T : Txt K mg a) : FnOk P w K mg base CX0 18 a.f_is_key a.d_is_key ["web", "pairs"] (spD K g_is_key) := fn_imp (fn_ok T.F_is_key sc_is_key fun cdv A outer s H E hr => by
  have hu := hr.units
  exact (ss_cons (s_expr (b_call (fn_want_web T) (hr.mono (by decide)) (by rfl) T.m_want_web T.k_want_web T.B_want_web (ba_cons (b_var 0) ba_nil)))
    (ss_cons (s_expr (b_call (fn_want_pairs T) (hr.mono (by decide)) (by rfl) T.m_want_pairs T.k_want_pairs T.B_want_pairs (ba_cons (b_ix ix_seq rd_ix (b_var 0) b_int) (ba_cons (b_var 1) ba_nil))))
    (ss_cons (s_expr (b_call (fn_want_few T) (hr.mono (by decide)) (by rfl) T.m_want_few T.k_want_few T.B_want_few (ba_cons (b_call (fn_counts_in T) (hr.mono (by decide)) (by rfl) T.m_counts_in T.k_counts_in T.B_counts_in (ba_cons (b_ix ix_seq rd_ix (b_var 0) b_int) (ba_cons (b_ix ix_seq rd_ix (b_var 0) b_int) ba_nil))) ba_nil)))
    (ss_one (s_ret (b_call (fn_is_key_of T) (hr.mono (by decide)) (by rfl) T.m_is_key_of T.k_is_key_of T.B_is_key_of (ba_cons (b_var 0) (ba_cons (b_var 1) ba_nil))))))))) ok_is_key
theorem sc_many_told : FnScope ["counts", "met", "apart"] ["counts", "met", "apart"] (defScope s_many_told) := ⟨rfl, rfl, rfl, by decide +kernel, rfl, by decide +kernel, by decide +kernel⟩
theorem fn_many_told (T : Txt K mg a) : FnOk P w K mg base CX0 17 a.f_many_told a.d_many_told ["counts", "met", "apart"] (spD K g_many_told) := fn_imp (fn_ok T.F_many_told sc_many_told fun cdv A outer s H E hr => by
  have hu := hr.units
  exact (ss_cons (s_expr (b_call (fn_want_told T) (hr.mono (by decide)) (by rfl) T.m_want_told T.k_want_told T.B_want_told (ba_cons (b_var 0) (ba_cons (b_var 1) (ba_cons (b_var 2) ba_nil)))))
    (ss_cons (s_expr (b_call (fn_want_few T) (hr.mono (by decide)) (by rfl) T.m_want_few T.k_want_few T.B_want_few (ba_cons (b_var 0) ba_nil)))
    (ss_one (s_ret (b_call (fn_many_with T) (hr.mono (by decide)) (by rfl) T.m_many_with T.k_many_with T.B_many_with (ba_cons (b_var 0) (ba_cons (b_var 1) (ba_cons (b_var 2) ba_nil))))))))) ok_many_told
theorem sc_other_web : FnScope ["web", "pairs", "counts", "met", "apart", "loose", "one", "late"] ["web", "pairs"] (defScope s_other_web) := ⟨rfl, rfl, rfl, by decide +kernel, rfl, by decide +kernel, by decide +kernel⟩
theorem fn_other_web (T : Txt K mg a) : FnOk P w K mg base CX0 17 a.f_other_web a.d_other_web ["web", "pairs"] (spD K g_other_web) := fn_imp (fn_ok T.F_other_web sc_other_web fun cdv A outer s H E hr => by
  have hu := hr.units
  exact (ss_cons (s_expr (b_call (fn_want_web T) (hr.mono (by decide)) (by rfl) T.m_want_web T.k_want_web T.B_want_web (ba_cons (b_var 0) ba_nil)))
    (ss_cons (s_expr (b_call (fn_want_pairs T) (hr.mono (by decide)) (by rfl) T.m_want_pairs T.k_want_pairs T.B_want_pairs (ba_cons (b_ix ix_seq rd_ix (b_var 0) b_int) (ba_cons (b_var 1) ba_nil))))
    (ss_cons (s_set (i := 2) sc_other_web.nd rfl (by first | exact Or.inl rfl | exact Or.inr rfl) (b_call (fn_counts_in T) (hr.mono (by decide)) (by rfl) T.m_counts_in T.k_counts_in T.B_counts_in (ba_cons (b_ix ix_seq rd_ix (b_var 0) b_int) (ba_cons (b_ix ix_seq rd_ix (b_var 0) b_int) ba_nil))))
    (ss_cons (s_expr (b_call (fn_want_few T) (hr.mono (by decide)) (by rfl) T.m_want_few T.k_want_few T.B_want_few (ba_cons (b_var 2) ba_nil)))
    (ss_cons (s_asg (b_call (fn_as_told T) (hr.mono (by decide)) (by rfl) T.m_as_told T.k_as_told T.B_as_told (ba_cons (b_var 0) (ba_cons (b_var 1) ba_nil))) (sg_tup (by rfl) (sgs_cons (i := 3) sc_other_web.nd rfl (by first | exact Or.inl rfl | exact Or.inr rfl) (sgs_cons (i := 4) sc_other_web.nd rfl (by first | exact Or.inl rfl | exact Or.inr rfl) sgs_nil))))
    (ss_cons (s_if (bt_cmp (o_eq hu) rd_eq (b_call (fn_many_with T) (hr.mono (by decide)) (by rfl) T.m_many_with T.k_many_with T.B_many_with (ba_cons (b_var 2) (ba_cons (b_var 3) (ba_cons (b_var 4) ba_nil)))) b_int (nomark _)) (ss_one (s_ret b_non)) ss_nil)
    ss_never))))))) ok_other_web
theorem sc_part_of : FnScope ["above", "below", "shared"] ["above", "below"] (defScope s_part_of) := ⟨rfl, rfl, rfl, by decide +kernel, rfl, by decide +kernel, by decide +kernel⟩
theorem fn_part_of (T : Txt K mg a) : FnOk P w K mg base CX0 1 a.f_part_of a.d_part_of ["above", "below"] (spD K g_part_of) := fn_imp (fn_ok T.F_part_of sc_part_of fun cdv A outer s H E hr => by
  have hu := hr.units
  exact (ss_cons (s_set (i := 2) sc_part_of.nd rfl (by first | exact Or.inl rfl | exact Or.inr rfl) (b_cFun cr_gcd rn_gcd (by rfl) T.b_gcd (ba_cons (b_var 0) (ba_cons (b_var 1) ba_nil))))
    (ss_one (s_ret (b_tup (ba_cons (b_op op_fdiv rd_I (b_var 0) (b_var 2)) (ba_cons (b_op op_fdiv rd_I (b_var 1) (b_var 2)) ba_nil))))))) ok_part_of
theorem sc_share_of : FnScope ["counts", "met", "apart", "pair", "many"] ["counts", "met", "apart", "pair", "many"] (defScope s_share_of) := ⟨rfl, rfl, rfl, by decide +kernel, rfl, by decide +kernel, by decide +kernel⟩
theorem fn_share_of (T : Txt K mg a) : FnOk P w K mg base CX0 17 a.f_share_of a.d_share_of ["counts", "met", "apart", "pair", "many"] (spD K g_share_of) := fn_imp (fn_ok T.F_share_of sc_share_of fun cdv A outer s H E hr => by
  have hu := hr.units
  exact (ss_cons (s_if (bt_w (bw_or (bt_cmp (o_in hu) rd_in (b_var 3) (b_var 1) (by with_unfolding_all rfl)) (bw_or1 (bt_cmp (o_in hu) rd_in (b_var 3) (b_var 2) (by with_unfolding_all rfl))))) (ss_one (s_ret (b_tup (ba_cons (b_cTy call_int1 rn_int (by rfl) T.b_int bt_int (ba_cons (b_cmp (o_in hu) rd_in (b_var 3) (b_var 1) (by with_unfolding_all rfl)) ba_nil)) (ba_cons b_int ba_nil))))) ss_nil)
    (ss_one (s_ret (b_call (fn_part_of T) (hr.mono (by decide)) (by rfl) T.m_part_of T.k_part_of T.B_part_of (ba_cons (b_call (fn_many_with T) (hr.mono (by decide)) (by rfl) T.m_many_with T.k_many_with T.B_many_with (ba_cons (b_var 0) (ba_cons (b_call (fn_with_more T) (hr.mono (by decide)) (by rfl) T.m_with_more T.k_with_more T.B_with_more (ba_cons (b_var 1) (ba_cons (b_var 3) ba_nil))) (ba_cons (b_var 2) ba_nil)))) (ba_cons (b_var 4) ba_nil))))))) ok_share_of
theorem sc_want_pair : FnScope ["persons", "pair"] ["persons", "pair"] (defScope s_want_pair) := ⟨rfl, rfl, rfl, by decide +kernel, rfl, by decide +kernel, by decide +kernel⟩
theorem fn_want_pair (T : Txt K mg a) : FnOk P w K mg base CX0 4 a.f_want_pair a.d_want_pair ["persons", "pair"] (spD K g_want_pair) := fn_imp (fn_ok T.F_want_pair sc_want_pair fun cdv A outer s H E hr => by
  have hu := hr.units
  exact (ss_one (s_if (bt_not (bt_val (b_call (fn_is_pair_of T) (hr.mono (by decide)) (by rfl) T.m_is_pair_of T.k_is_pair_of T.B_is_pair_of (ba_cons (b_var 0) (ba_cons (b_var 1) ba_nil))))) (ss_one s_never) ss_nil))) ok_want_pair
theorem sc_share : FnScope ["counts", "met", "apart", "pair"] ["counts", "met", "apart", "pair"] (defScope s_share) := ⟨rfl, rfl, rfl, by decide +kernel, rfl, by decide +kernel, by decide +kernel⟩
theorem fn_share (T : Txt K mg a) : FnOk P w K mg base CX0 18 a.f_share a.d_share ["counts", "met", "apart", "pair"] (spD K g_share) := fn_imp (fn_ok T.F_share sc_share fun cdv A outer s H E hr => by
  have hu := hr.units
  exact (ss_cons (s_expr (b_call (fn_want_told T) (hr.mono (by decide)) (by rfl) T.m_want_told T.k_want_told T.B_want_told (ba_cons (b_var 0) (ba_cons (b_var 1) (ba_cons (b_var 2) ba_nil)))))
    (ss_cons (s_expr (b_call (fn_want_pair T) (hr.mono (by decide)) (by rfl) T.m_want_pair T.k_want_pair T.B_want_pair (ba_cons (b_cB call_len_seq rn_len (by rfl) T.b_len bt_len (ba_cons (b_var 0) ba_nil)) (ba_cons (b_var 3) ba_nil))))
    (ss_cons (s_expr (b_call (fn_want_few T) (hr.mono (by decide)) (by rfl) T.m_want_few T.k_want_few T.B_want_few (ba_cons (b_var 0) ba_nil)))
    (ss_one (s_ret (b_call (fn_share_of T) (hr.mono (by decide)) (by rfl) T.m_share_of T.k_share_of T.B_share_of (ba_cons (b_var 0) (ba_cons (b_var 1) (ba_cons (b_var 2) (ba_cons (b_var 3) (ba_cons (b_call (fn_counted T) (hr.mono (by decide)) (by rfl) T.m_counted T.k_counted T.B_counted (ba_cons (b_var 0) (ba_cons (b_var 1) (ba_cons (b_var 2) ba_nil)))) ba_nil)))))))))))) ok_share
theorem sc_sure_apart : FnScope ["counts", "met", "apart", "loose", "some", "pair"] ["counts", "met", "apart"] (defScope s_sure_apart) := ⟨rfl, rfl, rfl, by decide +kernel, rfl, by decide +kernel, by decide +kernel⟩
theorem fn_sure_apart (T : Txt K mg a) : FnOk P w K mg base CX0 17 a.f_sure_apart a.d_sure_apart ["counts", "met", "apart"] (spD K g_sure_apart) := fn_imp (fn_ok T.F_sure_apart sc_sure_apart fun cdv A outer s H E hr => by
  have hu := hr.units
  exact (ss_cons (s_expr (b_call (fn_want_told T) (hr.mono (by decide)) (by rfl) T.m_want_told T.k_want_told T.B_want_told (ba_cons (b_var 0) (ba_cons (b_var 1) (ba_cons (b_var 2) ba_nil)))))
    (ss_cons (s_expr (b_call (fn_want_few T) (hr.mono (by decide)) (by rfl) T.m_want_few T.k_want_few T.B_want_few (ba_cons (b_var 0) ba_nil)))
    (ss_cons (s_if (bt_cmp (o_eq hu) rd_eq (b_call (fn_many_with T) (hr.mono (by decide)) (by rfl) T.m_many_with T.k_many_with T.B_many_with (ba_cons (b_var 0) (ba_cons (b_var 1) (ba_cons (b_var 2) ba_nil)))) b_int (nomark _)) (ss_one (s_ret b_non)) ss_nil)
    (ss_cons (s_set (i := 3) sc_sure_apart.nd rfl (by first | exact Or.inl rfl | exact Or.inr rfl) (b_ix ix_seq rd_ix (b_call (fn_loose_of T) (hr.mono (by decide)) (by rfl) T.m_loose_of T.k_loose_of T.B_loose_of (ba_cons (b_var 0) (ba_cons (b_var 1) (ba_cons (b_var 2) ba_nil)))) b_int))
    (ss_cons (s_setLc (i := 4) (own := [("pair", 5)]) (by rfl) sc_sure_apart.nd rfl rfl (sw_true rfl rfl rfl (by decide +kernel)) (bi_seq (b_var 3)) (blkOk_by (by rfl)) (by simp) (fun _ _ _ _ _ => (bg_name (i := 5) sc_sure_apart.nd rfl (by first | exact Or.inl rfl | exact Or.inr rfl))) (fun _ _ _ _ _ => (bts_one (bt_cmp (o_eq hu) rd_eq (b_call (fn_many_with T) (hr.mono (by decide)) (by rfl) T.m_many_with T.k_many_with T.B_many_with (ba_cons (b_var 0) (ba_cons (b_call (fn_with_more T) (hr.mono (by decide)) (by rfl) T.m_with_more T.k_with_more T.B_with_more (ba_cons (b_var 1) (ba_cons (b_var 5) ba_nil))) (ba_cons (b_var 2) ba_nil)))) b_int (nomark _)))) (fun _ _ _ _ _ => (b_var 5)))
    (ss_one (s_ret (b_cTy call_tuple_of rn_tuple (by rfl) T.b_tuple bt_tuple (ba_cons (b_f (f_cB (c_sorted hu) rn_srt (by rfl) T.b_sorted bt_sorted (ba_cons (b_op op_plus rd_plus (b_var 2) (b_cTy call_tuple_of rn_tuple (by rfl) T.b_tuple bt_tuple (ba_cons (b_var 4) ba_nil))) ba_nil))) ba_nil)))))))))) ok_sure_apart
theorem sc_sure_met : FnScope ["counts", "met", "apart", "loose", "some", "pair"] ["counts", "met", "apart"] (defScope s_sure_met) := ⟨rfl, rfl, rfl, by decide +kernel, rfl, by decide +kernel, by decide +kernel⟩
theorem fn_sure_met (T : Txt K mg a) : FnOk P w K mg base CX0 17 a.f_sure_met a.d_sure_met ["counts", "met", "apart"] (spD K g_sure_met) := fn_imp (fn_ok T.F_sure_met sc_sure_met fun cdv A outer s H E hr => by
  have hu := hr.units
  exact (ss_cons (s_expr (b_call (fn_want_told T) (hr.mono (by decide)) (by rfl) T.m_want_told T.k_want_told T.B_want_told (ba_cons (b_var 0) (ba_cons (b_var 1) (ba_cons (b_var 2) ba_nil)))))
    (ss_cons (s_expr (b_call (fn_want_few T) (hr.mono (by decide)) (by rfl) T.m_want_few T.k_want_few T.B_want_few (ba_cons (b_var 0) ba_nil)))
    (ss_cons (s_if (bt_cmp (o_eq hu) rd_eq (b_call (fn_many_with T) (hr.mono (by decide)) (by rfl) T.m_many_with T.k_many_with T.B_many_with (ba_cons (b_var 0) (ba_cons (b_var 1) (ba_cons (b_var 2) ba_nil)))) b_int (nomark _)) (ss_one (s_ret b_non)) ss_nil)
    (ss_cons (s_set (i := 3) sc_sure_met.nd rfl (by first | exact Or.inl rfl | exact Or.inr rfl) (b_ix ix_seq rd_ix (b_call (fn_loose_of T) (hr.mono (by decide)) (by rfl) T.m_loose_of T.k_loose_of T.B_loose_of (ba_cons (b_var 0) (ba_cons (b_var 1) (ba_cons (b_var 2) ba_nil)))) b_int))
    (ss_cons (s_setLc (i := 4) (own := [("pair", 5)]) (by rfl) sc_sure_met.nd rfl rfl (sw_true rfl rfl rfl (by decide +kernel)) (bi_seq (b_var 3)) (blkOk_by (by rfl)) (by simp) (fun _ _ _ _ _ => (bg_name (i := 5) sc_sure_met.nd rfl (by first | exact Or.inl rfl | exact Or.inr rfl))) (fun _ _ _ _ _ => (bts_one (bt_cmp (o_eq hu) rd_eq (b_call (fn_many_with T) (hr.mono (by decide)) (by rfl) T.m_many_with T.k_many_with T.B_many_with (ba_cons (b_var 0) (ba_cons (b_var 1) (ba_cons (b_call (fn_with_more T) (hr.mono (by decide)) (by rfl) T.m_with_more T.k_with_more T.B_with_more (ba_cons (b_var 2) (ba_cons (b_var 5) ba_nil))) ba_nil)))) b_int (nomark _)))) (fun _ _ _ _ _ => (b_var 5)))
    (ss_one (s_ret (b_cTy call_tuple_of rn_tuple (by rfl) T.b_tuple bt_tuple (ba_cons (b_f (f_cB (c_sorted hu) rn_srt (by rfl) T.b_sorted bt_sorted (ba_cons (b_op op_plus rd_plus (b_var 1) (b_cTy call_tuple_of rn_tuple (by rfl) T.b_tuple bt_tuple (ba_cons (b_var 4) ba_nil))) ba_nil))) ba_nil)))))))))) ok_sure_met
theorem sc_factor_of : FnScope ["web", "counts", "found"] ["web", "counts"] (defScope s_factor_of) := ⟨rfl, rfl, rfl, by decide +kernel, rfl, by decide +kernel, by decide +kernel⟩
theorem fn_factor_of (T : Txt K mg a) : FnOk P w K mg base CX0 15 a.f_factor_of a.d_factor_of ["web", "counts"] (spD K g_factor_of) := fn_imp (fn_ok T.F_factor_of sc_factor_of fun cdv A outer s H E hr => by
  have hu := hr.units
  exact (ss_cons (s_set (i := 2) sc_factor_of.nd rfl (by first | exact Or.inl rfl | exact Or.inr rfl) (b_grow0 T.C_Grown T.K_Grown (fn_Grown___init__ T) (hr.mono (by decide)) (by rfl) T.m_Grown T.B_Grown___init__ T.M_Grown_first (fm_Grown_first T) (hr.mono (by decide)) T.B_Grown_first (ba_cons (b_var 0) (ba_cons (b_var 1) ba_nil))))
    (ss_one (s_ret (b_if (bt_cmp (o_eq hu) rd_eq (b_op op_mul rd_I b_int (b_cB call_len_seq rn_len (by rfl) T.b_len bt_len (ba_cons (b_var 2) ba_nil))) (b_cB (c_sum (by rfl)) rn_sum (by rfl) T.b_sum bt_sum (ba_cons (b_var 1) ba_nil)) (nomark _)) (b_var 2) b_non))))) ok_factor_of
theorem sc_web_of : FnScope ["counts", "met", "apart", "found"] ["counts", "met", "apart"] (defScope s_web_of) := ⟨rfl, rfl, rfl, by decide +kernel, rfl, by decide +kernel, by decide +kernel⟩
theorem fn_web_of (T : Txt K mg a) : FnOk P w K mg base CX0 16 a.f_web_of a.d_web_of ["counts", "met", "apart"] (spD K g_web_of) := fn_imp (fn_ok T.F_web_of sc_web_of fun cdv A outer s H E hr => by
  have hu := hr.units
  exact (ss_cons (s_if (bt_cmp o_isnot rd_is (b_call (fn_over_told T) (hr.mono (by decide)) (by rfl) T.m_over_told T.k_over_told T.B_over_told (ba_cons (b_var 0) (ba_cons (b_var 1) ba_nil))) b_non (nomark _)) (ss_one (s_ret b_non)) ss_nil)
    (ss_cons (s_set (i := 3) sc_web_of.nd rfl (by first | exact Or.inl rfl | exact Or.inr rfl) (b_call (fn_factor_of T) (hr.mono (by decide)) (by rfl) T.m_factor_of T.k_factor_of T.B_factor_of (ba_cons (b_call (fn_loose_of T) (hr.mono (by decide)) (by rfl) T.m_loose_of T.k_loose_of T.B_loose_of (ba_cons (b_var 0) (ba_cons (b_var 1) (ba_cons (b_var 2) ba_nil)))) (ba_cons (b_call (fn_left_of T) (hr.mono (by decide)) (by rfl) T.m_left_of T.k_left_of T.B_left_of (ba_cons (b_var 0) (ba_cons (b_var 1) ba_nil))) ba_nil))))
    (ss_one (s_ret (b_if (bt_cmp o_is rd_is (b_var 3) b_non (nomark _)) b_non (b_tup (ba_cons (b_globS (by rfl) T.c_WEB) (ba_cons (b_cB call_len_seq rn_len (by rfl) T.b_len bt_len (ba_cons (b_var 0) ba_nil)) (ba_cons (b_cTy call_tuple_of rn_tuple (by rfl) T.b_tuple bt_tuple (ba_cons (b_f (f_cB (c_sorted hu) rn_srt (by rfl) T.b_sorted bt_sorted (ba_cons (b_op op_plus rd_plus (b_var 3) (b_var 1)) ba_nil))) ba_nil)) ba_nil)))))))))) ok_web_of
theorem sc_told_web : FnScope ["counts", "met", "apart"] ["counts", "met", "apart"] (defScope s_told_web) := ⟨rfl, rfl, rfl, by decide +kernel, rfl, by decide +kernel, by decide +kernel⟩
theorem fn_told_web (T : Txt K mg a) : FnOk P w K mg base CX0 17 a.f_told_web a.d_told_web ["counts", "met", "apart"] (spD K g_told_web) := fn_imp (fn_ok T.F_told_web sc_told_web fun cdv A outer s H E hr => by
  have hu := hr.units
  exact (ss_cons (s_expr (b_call (fn_want_told T) (hr.mono (by decide)) (by rfl) T.m_want_told T.k_want_told T.B_want_told (ba_cons (b_var 0) (ba_cons (b_var 1) (ba_cons (b_var 2) ba_nil)))))
    (ss_cons (s_expr (b_call (fn_want_few T) (hr.mono (by decide)) (by rfl) T.m_want_few T.k_want_few T.B_want_few (ba_cons (b_var 0) ba_nil)))
    (ss_one (s_ret (b_call (fn_web_of T) (hr.mono (by decide)) (by rfl) T.m_web_of T.k_web_of T.B_web_of (ba_cons (b_var 0) (ba_cons (b_var 1) (ba_cons (b_var 2) ba_nil))))))))) ok_told_web
theorem sc__law_asked_right : FnScope ["pot", "web", "is_best", "counts", "met", "apart", "many", "turn", "some", "loose", "pair", "part", "late", "asked"] ["pot", "web", "is_best"] (defScope s__law_asked_right) := ⟨rfl, rfl, rfl, by decide +kernel, rfl, by decide +kernel, by decide +kernel⟩
theorem fn__law_asked_right (T : Txt K mg a) : FnOk P w K mg base CX0 19 a.f__law_asked_right a.d__law_asked_right ["pot", "web", "is_best"] (spP K g__law_asked_right) := fn_impP (fn_okP T.F__law_asked_right sc__law_asked_right fun p cdv A outer s H E hr => by
  have hu := hr.units
  exact (ss_cons (s_asg (b_tup (ba_cons (b_call (fn_counts_of T) (hr.mono (by decide)) (by rfl) T.m_counts_of T.k_counts_of T.B_counts_of (ba_cons (b_var 1) ba_nil)) (ba_cons (b_tup ba_nil) (ba_cons (b_tup ba_nil) ba_nil)))) (sg_tup (by rfl) (sgs_cons (i := 3) sc__law_asked_right.nd rfl (by first | exact Or.inl rfl | exact Or.inr rfl) (sgs_cons (i := 4) sc__law_asked_right.nd rfl (by first | exact Or.inl rfl | exact Or.inr rfl) (sgs_cons (i := 5) sc__law_asked_right.nd rfl (by first | exact Or.inl rfl | exact Or.inr rfl) sgs_nil)))))
    (ss_cons (s_set (i := 6) sc__law_asked_right.nd rfl (by first | exact Or.inl rfl | exact Or.inr rfl) (b_call (fn_many_told T) (hr.mono (by decide)) (by rfl) T.m_many_told T.k_many_told T.B_many_told (ba_cons (b_var 3) (ba_cons (b_var 4) (ba_cons (b_var 5) ba_nil)))))
    (ss_cons (s_for PassesOwn.never (by rfl) (bi_range1 (by rfl) T.b_range (ba_cons b_int ba_nil)) (sg_name (i := 7) sc__law_asked_right.nd rfl (by first | exact Or.inl rfl | exact Or.inr rfl)) (ss_cons (s_if (bt_cmp (o_eq hu) rd_eq (b_var 6) b_int (nomark _)) (ss_cons (s_set (i := 13) sc__law_asked_right.nd rfl (by first | exact Or.inl rfl | exact Or.inr rfl) (b_cTy call_tuple_of rn_tuple (by rfl) T.b_tuple bt_tuple (ba_cons (b_f (f_cB (c_sorted hu) rn_srt (by rfl) T.b_sorted bt_sorted (ba_cons (b_op op_plus rd_plus (b_var 4) (b_var 5)) ba_nil))) ba_nil)))
    (ss_one (s_ret (b_and (b_cmp (o_eq hu) rd_eq (b_call (fn_told_web T) (hr.mono (by decide)) (by rfl) T.m_told_web T.k_told_web T.B_told_web (ba_cons (b_var 3) (ba_cons (b_var 4) (ba_cons (b_var 5) ba_nil)))) (b_var 1) (nomark _)) (b_and (b_cmp o_is rd_is (b_call (fn_is_key T) (hr.mono (by decide)) (by rfl) T.m_is_key T.k_is_key T.B_is_key (ba_cons (b_var 1) (ba_cons (b_var 13) ba_nil))) b_bl (nomark _)) (b_one (b_cmp o_is rd_is (b_call (fn_other_web T) (hr.mono (by decide)) (by rfl) T.m_other_web T.k_other_web T.B_other_web (ba_cons (b_var 1) (ba_cons (b_var 13) ba_nil))) b_non (nomark _)))))))) ss_nil)
    (ss_cons (s_set (i := 8) sc__law_asked_right.nd rfl (by first | exact Or.inl rfl | exact Or.inr rfl) (b_call (fn_best_asks T) (hr.mono (by decide)) (by rfl) T.m_best_asks T.k_best_asks T.B_best_asks (ba_cons (b_var 3) (ba_cons (b_var 4) (ba_cons (b_var 5) ba_nil)))))
    (ss_cons (s_setLc (i := 9) (own := [("pair", 10)]) (by rfl) sc__law_asked_right.nd rfl rfl (sw_true rfl rfl rfl (by decide +kernel)) (bi_seq (b_call (fn__law_all_pairs T) (hr.mono (by decide)) (by rfl) T.m__law_all_pairs T.k__law_all_pairs T.B__law_all_pairs (ba_cons (b_ix ix_seq rd_ix (b_var 1) b_int) ba_nil))) (blkOk_by (by rfl)) (by simp) (fun _ _ _ _ _ => (bg_name (i := 10) sc__law_asked_right.nd rfl (by first | exact Or.inl rfl | exact Or.inr rfl))) (fun _ _ _ _ _ => (bts_one (bt_w (bw_and (bt_cmp (o_notin hu) rd_in (b_var 10) (b_var 4) (by with_unfolding_all rfl)) (bw_and1 (bt_cmp (o_notin hu) rd_in (b_var 10) (b_var 5) (by with_unfolding_all rfl))))))) (fun _ _ _ _ _ => (b_var 10)))
    (ss_cons (s_set (i := 10) sc__law_asked_right.nd rfl (by first | exact Or.inl rfl | exact Or.inr rfl) (b_callP (fn__law_pick T) (hr.mono (by decide)) (by rfl) T.m__law_pick T.k__law_pick T.B__law_pick (pv 0) (ba_cons (b_if (bt_val (b_var 2)) (b_var 8) (b_var 9)) ba_nil)))
    (ss_cons (s_set (i := 11) sc__law_asked_right.nd rfl (by first | exact Or.inl rfl | exact Or.inr rfl) (b_call (fn_share T) (hr.mono (by decide)) (by rfl) T.m_share T.k_share T.B_share (ba_cons (b_var 3) (ba_cons (b_var 4) (ba_cons (b_var 5) (ba_cons (b_var 10) ba_nil))))))
    (ss_cons (s_if (bt_w (bw_and (bt_val (b_var 2)) (bw_and1 (bt_w (bw_or (bt_cmp (o_in hu) rd_in (b_var 10) (b_call (fn_sure_met T) (hr.mono (by decide)) (by rfl) T.m_sure_met T.k_sure_met T.B_sure_met (ba_cons (b_var 3) (ba_cons (b_var 4) (ba_cons (b_var 5) ba_nil)))) (by with_unfolding_all rfl)) (bw_or (bt_cmp (o_in hu) rd_in (b_var 10) (b_call (fn_sure_apart T) (hr.mono (by decide)) (by rfl) T.m_sure_apart T.k_sure_apart T.B_sure_apart (ba_cons (b_var 3) (ba_cons (b_var 4) (ba_cons (b_var 5) ba_nil)))) (by with_unfolding_all rfl)) (bw_or1 (bt_cmp (o_in hu) rd_in (b_var 11) (b_tup (ba_cons (b_tup (ba_cons b_int (ba_cons b_int ba_nil))) (ba_cons (b_tup (ba_cons b_int (ba_cons b_int ba_nil))) ba_nil))) (by with_unfolding_all rfl))))))))) (ss_one (s_ret b_bl)) ss_nil)
    (ss_cons (s_asg (b_if (bt_cmp (o_in hu) rd_in (b_var 10) (b_ix ix_seq rd_ix (b_var 1) b_int) (by with_unfolding_all rfl)) (b_tup (ba_cons (b_cTy call_tuple_of rn_tuple (by rfl) T.b_tuple bt_tuple (ba_cons (b_f (f_cB (c_sorted hu) rn_srt (by rfl) T.b_sorted bt_sorted (ba_cons (b_op op_plus rd_plus (b_var 4) (b_tup (ba_cons (b_var 10) ba_nil))) ba_nil))) ba_nil)) (ba_cons (b_var 5) ba_nil))) (b_tup (ba_cons (b_var 4) (ba_cons (b_cTy call_tuple_of rn_tuple (by rfl) T.b_tuple bt_tuple (ba_cons (b_f (f_cB (c_sorted hu) rn_srt (by rfl) T.b_sorted bt_sorted (ba_cons (b_op op_plus rd_plus (b_var 5) (b_tup (ba_cons (b_var 10) ba_nil))) ba_nil))) ba_nil)) ba_nil)))) (sg_tup (by rfl) (sgs_cons (i := 4) sc__law_asked_right.nd rfl (by first | exact Or.inl rfl | exact Or.inr rfl) (sgs_cons (i := 5) sc__law_asked_right.nd rfl (by first | exact Or.inl rfl | exact Or.inr rfl) sgs_nil))))
    (ss_cons (s_set (i := 12) sc__law_asked_right.nd rfl (by first | exact Or.inl rfl | exact Or.inr rfl) (b_call (fn_many_told T) (hr.mono (by decide)) (by rfl) T.m_many_told T.k_many_told T.B_many_told (ba_cons (b_var 3) (ba_cons (b_var 4) (ba_cons (b_var 5) ba_nil)))))
    (ss_cons (s_if (bt_w (bw_or (bt_cmp (o_ne hu) rd_eq (b_op op_mul rd_I (b_var 12) (b_ix ix_seq rd_ix (b_var 11) b_int)) (b_op op_mul rd_I (b_var 6) (b_if (bt_cmp (o_in hu) rd_in (b_var 10) (b_ix ix_seq rd_ix (b_var 1) b_int) (by with_unfolding_all rfl)) (b_ix ix_seq rd_ix (b_var 11) b_int) (b_op op_sub rd_I0 (b_ix ix_seq rd_ix (b_var 11) b_int) (b_ix ix_seq rd_ix (b_var 11) b_int)))) (nomark _)) (bw_or1 (bt_w (bw_and (bt_val (b_var 2)) (bw_and1 (bt_cmp (o_ge hu) rd_ord (b_var 12) (b_var 6) (nomark _)))))))) (ss_one (s_ret b_bl)) ss_nil)
    (ss_one (s_set (i := 6) sc__law_asked_right.nd rfl (by first | exact Or.inl rfl | exact Or.inr rfl) (b_var 12)))))))))))))
    (ss_one (s_ret (b_cmp (o_eq hu) rd_eq (b_var 6) b_int (nomark _)))))))) ok__law_asked_right
theorem sc__law_pot : FnScope ["script", "k", "cell"] ["script", "k"] (defScope s__law_pot) := ⟨rfl, rfl, rfl, by decide +kernel, rfl, by decide +kernel, by decide +kernel⟩
theorem fn__law_pot (T : Txt K mg a) : FnOk P w K mg base CX0 1 a.f__law_pot a.d__law_pot ["script", "k"] (spPot K) := fn_okPot T.F__law_pot sc__law_pot (fun B sa ns hs cdv A outer s H E hr => by
  have hu := hr.units
  exact (br_cons (s_set (i := 2) sc__law_pot.nd rfl (by first | exact Or.inl rfl | exact Or.inr rfl) (b_if (bt_cmp (o_lt hu) rd_ord (b_var 1) (b_lenS hs (by rfl) T.b_len (pv 0)) (nomark _)) (b_cB call_abs rn_i1 (by rfl) T.b_abs bt_abs (ba_cons (b_ixS hs (pv 0) (b_var 1)) ba_nil)) (b_op op_plus rd_plus (b_op op_mul rd_I b_int (b_var 1)) b_int))) (br_one (f_lst (ba_cons (b_cB (call_max2 (by rfl)) rn_i2 (by rfl) T.b_max bt_max (ba_cons b_int (ba_cons (b_op op_sub rd_I0 (b_var 2) (b_op op_pow rd_I b_int b_int)) ba_nil))) (ba_cons (b_op op_plus rd_plus (b_op op_mod rd_I (b_cTy call_int1 rn_int (by rfl) T.b_int bt_int (ba_cons (b_op op_plus rd_plus (b_op op_plus rd_plus (b_op op_mul rd_I (b_op op_mod rd_I (b_cTy call_int1 rn_int (by rfl) T.b_int bt_int (ba_cons (b_var 2) ba_nil)) b_int) b_int) (b_op op_mul rd_I b_int (b_var 1))) b_int) ba_nil)) b_int) b_int) ba_nil)))))) ok__law_pot
theorem sc__law_web : FnScope ["pot", "most", "many", "thick", "pair"] ["pot", "most"] (defScope s__law_web) := ⟨rfl, rfl, rfl, by decide +kernel, rfl, by decide +kernel, by decide +kernel⟩
theorem fn__law_web (T : Txt K mg a) : FnOk P w K mg base CX0 2 a.f__law_web a.d__law_web ["pot", "most"] (spP K g__law_web) := fn_impP (fn_okP T.F__law_web sc__law_web fun p cdv A outer s H E hr => by
  have hu := hr.units
  exact (ss_cons (s_asg (b_tup (ba_cons (b_op op_plus rd_plus b_int (b_callP (fn__law_draw T) (hr.mono (by decide)) (by rfl) T.m__law_draw T.k__law_draw T.B__law_draw (pv 0) (ba_cons (b_var 1) ba_nil))) (ba_cons (b_op op_plus rd_plus b_int (b_callP (fn__law_draw T) (hr.mono (by decide)) (by rfl) T.m__law_draw T.k__law_draw T.B__law_draw (pv 0) (ba_cons b_int ba_nil))) ba_nil))) (sg_tup (by rfl) (sgs_cons (i := 2) sc__law_web.nd rfl (by first | exact Or.inl rfl | exact Or.inr rfl) (sgs_cons (i := 3) sc__law_web.nd rfl (by first | exact Or.inl rfl | exact Or.inr rfl) sgs_nil))))
    (ss_one (s_ret (b_tup (ba_cons b_str (ba_cons (b_var 2) (ba_cons (b_cTy call_tuple_of rn_tuple (by rfl) T.b_tuple bt_tuple (ba_cons (b_f (f_lc (own := [("pair", 4)]) (by rfl) sc__law_web.nd (bi_seq (b_call (fn__law_all_pairs T) (hr.mono (by decide)) (by rfl) T.m__law_all_pairs T.k__law_all_pairs T.B__law_all_pairs (ba_cons (b_var 2) ba_nil))) (blkOk_by (by rfl)) (by simp) (fun _ _ _ _ _ => (bg_name (i := 4) sc__law_web.nd rfl (by first | exact Or.inl rfl | exact Or.inr rfl))) (fun _ _ _ _ _ => (bts_one (bt_cmp (o_lt hu) rd_ord (b_callP (fn__law_draw T) (hr.mono (by decide)) (by rfl) T.m__law_draw T.k__law_draw T.B__law_draw (pv 0) (ba_cons b_int ba_nil)) (b_var 3) (nomark _)))) (fun _ _ _ _ _ => (b_var 4)))) ba_nil)) ba_nil)))))))) ok__law_web
theorem sc_law : FnScope ["script", "k", "pot", "web"] ["script"] (defScope s_law) := ⟨rfl, rfl, rfl, by decide +kernel, rfl, by decide +kernel, by decide +kernel⟩
theorem fn_law (T : Txt K mg a) : FnOk P w K mg base CX0 20 a.f_law a.d_law ["script"] (spLaw K) := fn_okLaw T.F_law sc_law (fun B sa ns hs cdv A outer s H E hr => by
  have hu := hr.units
  exact (ss_cons (s_for PassesOwn.never (by rfl) (bi_range1 (by rfl) T.b_range (ba_cons (b_cB (call_max2 (by rfl)) rn_i2 (by rfl) T.b_max bt_max (ba_cons b_int (ba_cons (b_cB (call_min2 (by rfl)) rn_i2 (by rfl) T.b_min bt_min (ba_cons b_int (ba_cons (b_lenS hs (by rfl) T.b_len (pv 0)) ba_nil))) ba_nil))) ba_nil)) (sg_name (i := 1) sc_law.nd rfl (by first | exact Or.inl rfl | exact Or.inr rfl)) (ss_potL (i := 2) sc_law.nd rfl (by first | exact Or.inl rfl | exact Or.inr rfl) (f_potS (fn__law_pot T) (hr.mono (by decide)) (by rfl) T.m__law_pot T.k__law_pot T.B__law_pot hs (pv 0) (b_var 1)) (fun p => (ss_cons (s_set (i := 3) sc_law.nd rfl (by first | exact Or.inl rfl | exact Or.inr rfl) (b_callP (fn__law_web T) (hr.mono (by decide)) (by rfl) T.m__law_web T.k__law_web T.B__law_web (pv 2) (ba_cons b_int ba_nil)))
    (ss_one (s_if (bt_w (bw_or (bt_not (bt_val (b_callP (fn__law_asked_right T) (hr.mono (by decide)) (by rfl) T.m__law_asked_right T.k__law_asked_right T.B__law_asked_right (pv 2) (ba_cons (b_var 3) (ba_cons b_bl ba_nil))))) (bw_or1 (bt_not (bt_val (b_callP (fn__law_asked_right T) (hr.mono (by decide)) (by rfl) T.m__law_asked_right T.k__law_asked_right T.B__law_asked_right (pv 2) (ba_cons (b_var 3) (ba_cons b_bl ba_nil)))))))) (ss_one (s_ret b_bl)) ss_nil))))))
    (ss_one (s_ret b_bl)))) ok_law
end
theorem all_mk {l : PySem.W.OpenLaw} {w : World} {K : PySem.W.Frag} {h : Heap} {mg : Str → Option Value} {fa C f_later_of f_choices_of f_taken f__law_all_pairs f__law_draw f__law_pick f_all_pairs f_counts_in f_left_of f_loose_of f_many_of f_over_told f_many_with f_counted f_want_few f_is_tuple f_is_integer f_is_within f_is_pair_of f_are_pairs_of f_is_list_value f_want_list f_want_told f_with_more f_best_asks f_is_web_value f_want_web f_counts_of f_as_told f_is_key_of f_want_pairs f_is_key f_many_told f_other_web f_part_of f_share_of f_want_pair f_share f_sure_apart f_sure_met f_factor_of f_web_of f_told_web f__law_asked_right f__law_pot f__law_web f_law f_Grown___init__ f_Grown_steps f_Grown_rest f_Grown_most f_Grown_many f_Grown_first : Addr} (X : K.In h) (G : h.Ns mainGlobals mg) (hfa : mg "law" = some (.ref fa))
    {t_WEB : Tok}
    {t_MOST_TOLD : Tok}
    {t_MOST_PERSONS : Tok}
    {t_MOST_COUNT : Tok}
    {od_later_of an_later_of : Option Addr} {sl_later_of : Array (Option Value)} {oc_later_of kV_later_of dc_later_of pm_later_of cd_later_of ct_later_of : Value}
    {od_choices_of an_choices_of : Option Addr} {sl_choices_of : Array (Option Value)} {oc_choices_of kV_choices_of dc_choices_of pm_choices_of cd_choices_of ct_choices_of : Value}
    {od_taken an_taken : Option Addr} {sl_taken : Array (Option Value)} {oc_taken kV_taken dc_taken pm_taken cd_taken ct_taken : Value}
    {od__law_all_pairs an__law_all_pairs : Option Addr} {sl__law_all_pairs : Array (Option Value)} {oc__law_all_pairs kV__law_all_pairs dc__law_all_pairs pm__law_all_pairs cd__law_all_pairs ct__law_all_pairs : Value}
    {od__law_draw an__law_draw : Option Addr} {sl__law_draw : Array (Option Value)} {oc__law_draw kV__law_draw dc__law_draw pm__law_draw cd__law_draw ct__law_draw : Value}
    {od__law_pick an__law_pick : Option Addr} {sl__law_pick : Array (Option Value)} {oc__law_pick kV__law_pick dc__law_pick pm__law_pick cd__law_pick ct__law_pick : Value}
    {od_all_pairs an_all_pairs : Option Addr} {sl_all_pairs : Array (Option Value)} {oc_all_pairs kV_all_pairs dc_all_pairs pm_all_pairs cd_all_pairs ct_all_pairs : Value}
    {od_counts_in an_counts_in : Option Addr} {sl_counts_in : Array (Option Value)} {oc_counts_in kV_counts_in dc_counts_in pm_counts_in cd_counts_in ct_counts_in : Value}
    {od_left_of an_left_of : Option Addr} {sl_left_of : Array (Option Value)} {oc_left_of kV_left_of dc_left_of pm_left_of cd_left_of ct_left_of : Value}
    {od_loose_of an_loose_of : Option Addr} {sl_loose_of : Array (Option Value)} {oc_loose_of kV_loose_of dc_loose_of pm_loose_of cd_loose_of ct_loose_of : Value}
    {od_many_of an_many_of : Option Addr} {sl_many_of : Array (Option Value)} {oc_many_of kV_many_of dc_many_of pm_many_of cd_many_of ct_many_of : Value}
    {od_over_told an_over_told : Option Addr} {sl_over_told : Array (Option Value)} {oc_over_told kV_over_told dc_over_told pm_over_told cd_over_told ct_over_told : Value}
    {od_many_with an_many_with : Option Addr} {sl_many_with : Array (Option Value)} {oc_many_with kV_many_with dc_many_with pm_many_with cd_many_with ct_many_with : Value}
    {od_counted an_counted : Option Addr} {sl_counted : Array (Option Value)} {oc_counted kV_counted dc_counted pm_counted cd_counted ct_counted : Value}
    {od_want_few an_want_few : Option Addr} {sl_want_few : Array (Option Value)} {oc_want_few kV_want_few dc_want_few pm_want_few cd_want_few ct_want_few : Value}
    {od_is_tuple an_is_tuple : Option Addr} {sl_is_tuple : Array (Option Value)} {oc_is_tuple kV_is_tuple dc_is_tuple pm_is_tuple cd_is_tuple ct_is_tuple : Value}
    {od_is_integer an_is_integer : Option Addr} {sl_is_integer : Array (Option Value)} {oc_is_integer kV_is_integer dc_is_integer pm_is_integer cd_is_integer ct_is_integer : Value}
    {od_is_within an_is_within : Option Addr} {sl_is_within : Array (Option Value)} {oc_is_within kV_is_within dc_is_within pm_is_within cd_is_within ct_is_within : Value}
    {od_is_pair_of an_is_pair_of : Option Addr} {sl_is_pair_of : Array (Option Value)} {oc_is_pair_of kV_is_pair_of dc_is_pair_of pm_is_pair_of cd_is_pair_of ct_is_pair_of : Value}
    {od_are_pairs_of an_are_pairs_of : Option Addr} {sl_are_pairs_of : Array (Option Value)} {oc_are_pairs_of kV_are_pairs_of dc_are_pairs_of pm_are_pairs_of cd_are_pairs_of ct_are_pairs_of : Value}
    {od_is_list_value an_is_list_value : Option Addr} {sl_is_list_value : Array (Option Value)} {oc_is_list_value kV_is_list_value dc_is_list_value pm_is_list_value cd_is_list_value ct_is_list_value : Value}
    {od_want_list an_want_list : Option Addr} {sl_want_list : Array (Option Value)} {oc_want_list kV_want_list dc_want_list pm_want_list cd_want_list ct_want_list : Value}
    {od_want_told an_want_told : Option Addr} {sl_want_told : Array (Option Value)} {oc_want_told kV_want_told dc_want_told pm_want_told cd_want_told ct_want_told : Value}
    {od_with_more an_with_more : Option Addr} {sl_with_more : Array (Option Value)} {oc_with_more kV_with_more dc_with_more pm_with_more cd_with_more ct_with_more : Value}
    {od_best_asks an_best_asks : Option Addr} {sl_best_asks : Array (Option Value)} {oc_best_asks kV_best_asks dc_best_asks pm_best_asks cd_best_asks ct_best_asks : Value}
    {od_is_web_value an_is_web_value : Option Addr} {sl_is_web_value : Array (Option Value)} {oc_is_web_value kV_is_web_value dc_is_web_value pm_is_web_value cd_is_web_value ct_is_web_value : Value}
    {od_want_web an_want_web : Option Addr} {sl_want_web : Array (Option Value)} {oc_want_web kV_want_web dc_want_web pm_want_web cd_want_web ct_want_web : Value}
    {od_counts_of an_counts_of : Option Addr} {sl_counts_of : Array (Option Value)} {oc_counts_of kV_counts_of dc_counts_of pm_counts_of cd_counts_of ct_counts_of : Value}
    {od_as_told an_as_told : Option Addr} {sl_as_told : Array (Option Value)} {oc_as_told kV_as_told dc_as_told pm_as_told cd_as_told ct_as_told : Value}
    {od_is_key_of an_is_key_of : Option Addr} {sl_is_key_of : Array (Option Value)} {oc_is_key_of kV_is_key_of dc_is_key_of pm_is_key_of cd_is_key_of ct_is_key_of : Value}
    {od_want_pairs an_want_pairs : Option Addr} {sl_want_pairs : Array (Option Value)} {oc_want_pairs kV_want_pairs dc_want_pairs pm_want_pairs cd_want_pairs ct_want_pairs : Value}
    {od_is_key an_is_key : Option Addr} {sl_is_key : Array (Option Value)} {oc_is_key kV_is_key dc_is_key pm_is_key cd_is_key ct_is_key : Value}
    {od_many_told an_many_told : Option Addr} {sl_many_told : Array (Option Value)} {oc_many_told kV_many_told dc_many_told pm_many_told cd_many_told ct_many_told : Value}
    {od_other_web an_other_web : Option Addr} {sl_other_web : Array (Option Value)} {oc_other_web kV_other_web dc_other_web pm_other_web cd_other_web ct_other_web : Value}
    {od_part_of an_part_of : Option Addr} {sl_part_of : Array (Option Value)} {oc_part_of kV_part_of dc_part_of pm_part_of cd_part_of ct_part_of : Value}
    {od_share_of an_share_of : Option Addr} {sl_share_of : Array (Option Value)} {oc_share_of kV_share_of dc_share_of pm_share_of cd_share_of ct_share_of : Value}
    {od_want_pair an_want_pair : Option Addr} {sl_want_pair : Array (Option Value)} {oc_want_pair kV_want_pair dc_want_pair pm_want_pair cd_want_pair ct_want_pair : Value}
    {od_share an_share : Option Addr} {sl_share : Array (Option Value)} {oc_share kV_share dc_share pm_share cd_share ct_share : Value}
    {od_sure_apart an_sure_apart : Option Addr} {sl_sure_apart : Array (Option Value)} {oc_sure_apart kV_sure_apart dc_sure_apart pm_sure_apart cd_sure_apart ct_sure_apart : Value}
    {od_sure_met an_sure_met : Option Addr} {sl_sure_met : Array (Option Value)} {oc_sure_met kV_sure_met dc_sure_met pm_sure_met cd_sure_met ct_sure_met : Value}
    {od_factor_of an_factor_of : Option Addr} {sl_factor_of : Array (Option Value)} {oc_factor_of kV_factor_of dc_factor_of pm_factor_of cd_factor_of ct_factor_of : Value}
    {od_web_of an_web_of : Option Addr} {sl_web_of : Array (Option Value)} {oc_web_of kV_web_of dc_web_of pm_web_of cd_web_of ct_web_of : Value}
    {od_told_web an_told_web : Option Addr} {sl_told_web : Array (Option Value)} {oc_told_web kV_told_web dc_told_web pm_told_web cd_told_web ct_told_web : Value}
    {od__law_asked_right an__law_asked_right : Option Addr} {sl__law_asked_right : Array (Option Value)} {oc__law_asked_right kV__law_asked_right dc__law_asked_right pm__law_asked_right cd__law_asked_right ct__law_asked_right : Value}
    {od__law_pot an__law_pot : Option Addr} {sl__law_pot : Array (Option Value)} {oc__law_pot kV__law_pot dc__law_pot pm__law_pot cd__law_pot ct__law_pot : Value}
    {od__law_web an__law_web : Option Addr} {sl__law_web : Array (Option Value)} {oc__law_web kV__law_web dc__law_web pm__law_web cd__law_web ct__law_web : Value}
    {od_law an_law : Option Addr} {sl_law : Array (Option Value)} {oc_law kV_law dc_law pm_law cd_law ct_law : Value}
    {od_Grown___init__ an_Grown___init__ : Option Addr} {sl_Grown___init__ : Array (Option Value)} {oc_Grown___init__ kV_Grown___init__ dc_Grown___init__ pm_Grown___init__ cd_Grown___init__ ct_Grown___init__ : Value}
    {od_Grown_steps an_Grown_steps : Option Addr} {sl_Grown_steps : Array (Option Value)} {oc_Grown_steps kV_Grown_steps dc_Grown_steps pm_Grown_steps cd_Grown_steps ct_Grown_steps : Value}
    {od_Grown_rest an_Grown_rest : Option Addr} {sl_Grown_rest : Array (Option Value)} {oc_Grown_rest kV_Grown_rest dc_Grown_rest pm_Grown_rest cd_Grown_rest ct_Grown_rest : Value}
    {od_Grown_most an_Grown_most : Option Addr} {sl_Grown_most : Array (Option Value)} {oc_Grown_most kV_Grown_most dc_Grown_most pm_Grown_most cd_Grown_most ct_Grown_most : Value}
    {od_Grown_many an_Grown_many : Option Addr} {sl_Grown_many : Array (Option Value)} {oc_Grown_many kV_Grown_many dc_Grown_many pm_Grown_many cd_Grown_many ct_Grown_many : Value}
    {od_Grown_first an_Grown_first : Option Addr} {sl_Grown_first : Array (Option Value)} {oc_Grown_first kV_Grown_first dc_Grown_first pm_Grown_first cd_Grown_first ct_Grown_first : Value}
    (aC : PySem.W.nsIn K mainGlobals "Grown" = some (some (.ref C)))
    (z_int : PySem.W.nsIn K mainGlobals "int" = some none)
    (z_max : PySem.W.nsIn K mainGlobals "max" = some none)
    (z_len : PySem.W.nsIn K mainGlobals "len" = some none)
    (z_abs : PySem.W.nsIn K mainGlobals "abs" = some none)
    (z_divmod : PySem.W.nsIn K mainGlobals "divmod" = some none)
    (z_range : PySem.W.nsIn K mainGlobals "range" = some none)
    (z_min : PySem.W.nsIn K mainGlobals "min" = some none)
    (z_sorted : PySem.W.nsIn K mainGlobals "sorted" = some none)
    (z_tuple : PySem.W.nsIn K mainGlobals "tuple" = some none)
    (z_zip : PySem.W.nsIn K mainGlobals "zip" = some none)
    (z_enumerate : PySem.W.nsIn K mainGlobals "enumerate" = some none)
    (z_any : PySem.W.nsIn K mainGlobals "any" = some none)
    (z_isinstance : PySem.W.nsIn K mainGlobals "isinstance" = some none)
    (z_all : PySem.W.nsIn K mainGlobals "all" = some none)
    (z_bool : PySem.W.nsIn K mainGlobals "bool" = some none)
    (z_str : PySem.W.nsIn K mainGlobals "str" = some none)
    (z_sum : PySem.W.nsIn K mainGlobals "sum" = some none)
    (z_list : PySem.W.nsIn K mainGlobals "list" = some none)
    (z_gcd : PySem.W.nsIn K mainGlobals "gcd" = some (some (.builtin "math.gcd")))
    (q_WEB : PySem.W.nsIn K mainGlobals "WEB" = some (some (.str "web" t_WEB)))
    (q_MOST_TOLD : PySem.W.nsIn K mainGlobals "MOST_TOLD" = some (some (.int 8 t_MOST_TOLD)))
    (q_MOST_PERSONS : PySem.W.nsIn K mainGlobals "MOST_PERSONS" = some (some (.int 10 t_MOST_PERSONS)))
    (q_MOST_COUNT : PySem.W.nsIn K mainGlobals "MOST_COUNT" = some (some (.int 40 t_MOST_COUNT)))
    (a_later_of : PySem.W.nsIn K mainGlobals "later_of" = some (some (.ref f_later_of)))
    (l_later_of : K.lookup f_later_of = some ⟨oc_later_of, od_later_of, .func (PySem.W.fnOf "later_of" "later_of" (defArgs s_later_of) (defBody s_later_of) (defScope s_later_of) .none kV_later_of dc_later_of pm_later_of an_later_of cd_later_of ct_later_of), sl_later_of⟩)
    (c_later_of : PySem.W.codeIn K cd_later_of "later_of" = true)
    (k_later_of : PySem.W.keepIn K (.ref f_later_of) = true)
    (a_choices_of : PySem.W.nsIn K mainGlobals "choices_of" = some (some (.ref f_choices_of)))
    (l_choices_of : K.lookup f_choices_of = some ⟨oc_choices_of, od_choices_of, .func (PySem.W.fnOf "choices_of" "choices_of" (defArgs s_choices_of) (defBody s_choices_of) (defScope s_choices_of) .none kV_choices_of dc_choices_of pm_choices_of an_choices_of cd_choices_of ct_choices_of), sl_choices_of⟩)
    (c_choices_of : PySem.W.codeIn K cd_choices_of "choices_of" = true)
    (k_choices_of : PySem.W.keepIn K (.ref f_choices_of) = true)
    (a_taken : PySem.W.nsIn K mainGlobals "taken" = some (some (.ref f_taken)))
    (l_taken : K.lookup f_taken = some ⟨oc_taken, od_taken, .func (PySem.W.fnOf "taken" "taken" (defArgs s_taken) (defBody s_taken) (defScope s_taken) .none kV_taken dc_taken pm_taken an_taken cd_taken ct_taken), sl_taken⟩)
    (c_taken : PySem.W.codeIn K cd_taken "taken" = true)
    (k_taken : PySem.W.keepIn K (.ref f_taken) = true)
    (a__law_all_pairs : PySem.W.nsIn K mainGlobals "_law_all_pairs" = some (some (.ref f__law_all_pairs)))
    (l__law_all_pairs : K.lookup f__law_all_pairs = some ⟨oc__law_all_pairs, od__law_all_pairs, .func (PySem.W.fnOf "_law_all_pairs" "_law_all_pairs" (defArgs s__law_all_pairs) (defBody s__law_all_pairs) (defScope s__law_all_pairs) .none kV__law_all_pairs dc__law_all_pairs pm__law_all_pairs an__law_all_pairs cd__law_all_pairs ct__law_all_pairs), sl__law_all_pairs⟩)
    (c__law_all_pairs : PySem.W.codeIn K cd__law_all_pairs "_law_all_pairs" = true)
    (k__law_all_pairs : PySem.W.keepIn K (.ref f__law_all_pairs) = true)
    (a__law_draw : PySem.W.nsIn K mainGlobals "_law_draw" = some (some (.ref f__law_draw)))
    (l__law_draw : K.lookup f__law_draw = some ⟨oc__law_draw, od__law_draw, .func (PySem.W.fnOf "_law_draw" "_law_draw" (defArgs s__law_draw) (defBody s__law_draw) (defScope s__law_draw) .none kV__law_draw dc__law_draw pm__law_draw an__law_draw cd__law_draw ct__law_draw), sl__law_draw⟩)
    (c__law_draw : PySem.W.codeIn K cd__law_draw "_law_draw" = true)
    (k__law_draw : PySem.W.keepIn K (.ref f__law_draw) = true)
    (a__law_pick : PySem.W.nsIn K mainGlobals "_law_pick" = some (some (.ref f__law_pick)))
    (l__law_pick : K.lookup f__law_pick = some ⟨oc__law_pick, od__law_pick, .func (PySem.W.fnOf "_law_pick" "_law_pick" (defArgs s__law_pick) (defBody s__law_pick) (defScope s__law_pick) .none kV__law_pick dc__law_pick pm__law_pick an__law_pick cd__law_pick ct__law_pick), sl__law_pick⟩)
    (c__law_pick : PySem.W.codeIn K cd__law_pick "_law_pick" = true)
    (k__law_pick : PySem.W.keepIn K (.ref f__law_pick) = true)
    (a_all_pairs : PySem.W.nsIn K mainGlobals "all_pairs" = some (some (.ref f_all_pairs)))
    (l_all_pairs : K.lookup f_all_pairs = some ⟨oc_all_pairs, od_all_pairs, .func (PySem.W.fnOf "all_pairs" "all_pairs" (defArgs s_all_pairs) (defBody s_all_pairs) (defScope s_all_pairs) .none kV_all_pairs dc_all_pairs pm_all_pairs an_all_pairs cd_all_pairs ct_all_pairs), sl_all_pairs⟩)
    (c_all_pairs : PySem.W.codeIn K cd_all_pairs "all_pairs" = true)
    (k_all_pairs : PySem.W.keepIn K (.ref f_all_pairs) = true)
    (a_counts_in : PySem.W.nsIn K mainGlobals "counts_in" = some (some (.ref f_counts_in)))
    (l_counts_in : K.lookup f_counts_in = some ⟨oc_counts_in, od_counts_in, .func (PySem.W.fnOf "counts_in" "counts_in" (defArgs s_counts_in) (defBody s_counts_in) (defScope s_counts_in) .none kV_counts_in dc_counts_in pm_counts_in an_counts_in cd_counts_in ct_counts_in), sl_counts_in⟩)
    (c_counts_in : PySem.W.codeIn K cd_counts_in "counts_in" = true)
    (k_counts_in : PySem.W.keepIn K (.ref f_counts_in) = true)
    (a_left_of : PySem.W.nsIn K mainGlobals "left_of" = some (some (.ref f_left_of)))
    (l_left_of : K.lookup f_left_of = some ⟨oc_left_of, od_left_of, .func (PySem.W.fnOf "left_of" "left_of" (defArgs s_left_of) (defBody s_left_of) (defScope s_left_of) .none kV_left_of dc_left_of pm_left_of an_left_of cd_left_of ct_left_of), sl_left_of⟩)
    (c_left_of : PySem.W.codeIn K cd_left_of "left_of" = true)
    (k_left_of : PySem.W.keepIn K (.ref f_left_of) = true)
    (a_loose_of : PySem.W.nsIn K mainGlobals "loose_of" = some (some (.ref f_loose_of)))
    (l_loose_of : K.lookup f_loose_of = some ⟨oc_loose_of, od_loose_of, .func (PySem.W.fnOf "loose_of" "loose_of" (defArgs s_loose_of) (defBody s_loose_of) (defScope s_loose_of) .none kV_loose_of dc_loose_of pm_loose_of an_loose_of cd_loose_of ct_loose_of), sl_loose_of⟩)
    (c_loose_of : PySem.W.codeIn K cd_loose_of "loose_of" = true)
    (k_loose_of : PySem.W.keepIn K (.ref f_loose_of) = true)
    (a_many_of : PySem.W.nsIn K mainGlobals "many_of" = some (some (.ref f_many_of)))
    (l_many_of : K.lookup f_many_of = some ⟨oc_many_of, od_many_of, .func (PySem.W.fnOf "many_of" "many_of" (defArgs s_many_of) (defBody s_many_of) (defScope s_many_of) .none kV_many_of dc_many_of pm_many_of an_many_of cd_many_of ct_many_of), sl_many_of⟩)
    (c_many_of : PySem.W.codeIn K cd_many_of "many_of" = true)
    (k_many_of : PySem.W.keepIn K (.ref f_many_of) = true)
    (a_over_told : PySem.W.nsIn K mainGlobals "over_told" = some (some (.ref f_over_told)))
    (l_over_told : K.lookup f_over_told = some ⟨oc_over_told, od_over_told, .func (PySem.W.fnOf "over_told" "over_told" (defArgs s_over_told) (defBody s_over_told) (defScope s_over_told) .none kV_over_told dc_over_told pm_over_told an_over_told cd_over_told ct_over_told), sl_over_told⟩)
    (c_over_told : PySem.W.codeIn K cd_over_told "over_told" = true)
    (k_over_told : PySem.W.keepIn K (.ref f_over_told) = true)
    (a_many_with : PySem.W.nsIn K mainGlobals "many_with" = some (some (.ref f_many_with)))
    (l_many_with : K.lookup f_many_with = some ⟨oc_many_with, od_many_with, .func (PySem.W.fnOf "many_with" "many_with" (defArgs s_many_with) (defBody s_many_with) (defScope s_many_with) .none kV_many_with dc_many_with pm_many_with an_many_with cd_many_with ct_many_with), sl_many_with⟩)
    (c_many_with : PySem.W.codeIn K cd_many_with "many_with" = true)
    (k_many_with : PySem.W.keepIn K (.ref f_many_with) = true)
    (a_counted : PySem.W.nsIn K mainGlobals "counted" = some (some (.ref f_counted)))
    (l_counted : K.lookup f_counted = some ⟨oc_counted, od_counted, .func (PySem.W.fnOf "counted" "counted" (defArgs s_counted) (defBody s_counted) (defScope s_counted) .none kV_counted dc_counted pm_counted an_counted cd_counted ct_counted), sl_counted⟩)
    (c_counted : PySem.W.codeIn K cd_counted "counted" = true)
    (k_counted : PySem.W.keepIn K (.ref f_counted) = true)
    (a_want_few : PySem.W.nsIn K mainGlobals "want_few" = some (some (.ref f_want_few)))
    (l_want_few : K.lookup f_want_few = some ⟨oc_want_few, od_want_few, .func (PySem.W.fnOf "want_few" "want_few" (defArgs s_want_few) (defBody s_want_few) (defScope s_want_few) .none kV_want_few dc_want_few pm_want_few an_want_few cd_want_few ct_want_few), sl_want_few⟩)
    (c_want_few : PySem.W.codeIn K cd_want_few "want_few" = true)
    (k_want_few : PySem.W.keepIn K (.ref f_want_few) = true)
    (a_is_tuple : PySem.W.nsIn K mainGlobals "is_tuple" = some (some (.ref f_is_tuple)))
    (l_is_tuple : K.lookup f_is_tuple = some ⟨oc_is_tuple, od_is_tuple, .func (PySem.W.fnOf "is_tuple" "is_tuple" (defArgs s_is_tuple) (defBody s_is_tuple) (defScope s_is_tuple) .none kV_is_tuple dc_is_tuple pm_is_tuple an_is_tuple cd_is_tuple ct_is_tuple), sl_is_tuple⟩)
    (c_is_tuple : PySem.W.codeIn K cd_is_tuple "is_tuple" = true)
    (k_is_tuple : PySem.W.keepIn K (.ref f_is_tuple) = true)
    (a_is_integer : PySem.W.nsIn K mainGlobals "is_integer" = some (some (.ref f_is_integer)))
    (l_is_integer : K.lookup f_is_integer = some ⟨oc_is_integer, od_is_integer, .func (PySem.W.fnOf "is_integer" "is_integer" (defArgs s_is_integer) (defBody s_is_integer) (defScope s_is_integer) .none kV_is_integer dc_is_integer pm_is_integer an_is_integer cd_is_integer ct_is_integer), sl_is_integer⟩)
    (c_is_integer : PySem.W.codeIn K cd_is_integer "is_integer" = true)
    (k_is_integer : PySem.W.keepIn K (.ref f_is_integer) = true)
    (a_is_within : PySem.W.nsIn K mainGlobals "is_within" = some (some (.ref f_is_within)))
    (l_is_within : K.lookup f_is_within = some ⟨oc_is_within, od_is_within, .func (PySem.W.fnOf "is_within" "is_within" (defArgs s_is_within) (defBody s_is_within) (defScope s_is_within) .none kV_is_within dc_is_within pm_is_within an_is_within cd_is_within ct_is_within), sl_is_within⟩)
    (c_is_within : PySem.W.codeIn K cd_is_within "is_within" = true)
    (k_is_within : PySem.W.keepIn K (.ref f_is_within) = true)
    (a_is_pair_of : PySem.W.nsIn K mainGlobals "is_pair_of" = some (some (.ref f_is_pair_of)))
    (l_is_pair_of : K.lookup f_is_pair_of = some ⟨oc_is_pair_of, od_is_pair_of, .func (PySem.W.fnOf "is_pair_of" "is_pair_of" (defArgs s_is_pair_of) (defBody s_is_pair_of) (defScope s_is_pair_of) .none kV_is_pair_of dc_is_pair_of pm_is_pair_of an_is_pair_of cd_is_pair_of ct_is_pair_of), sl_is_pair_of⟩)
    (c_is_pair_of : PySem.W.codeIn K cd_is_pair_of "is_pair_of" = true)
    (k_is_pair_of : PySem.W.keepIn K (.ref f_is_pair_of) = true)
    (a_are_pairs_of : PySem.W.nsIn K mainGlobals "are_pairs_of" = some (some (.ref f_are_pairs_of)))
    (l_are_pairs_of : K.lookup f_are_pairs_of = some ⟨oc_are_pairs_of, od_are_pairs_of, .func (PySem.W.fnOf "are_pairs_of" "are_pairs_of" (defArgs s_are_pairs_of) (defBody s_are_pairs_of) (defScope s_are_pairs_of) .none kV_are_pairs_of dc_are_pairs_of pm_are_pairs_of an_are_pairs_of cd_are_pairs_of ct_are_pairs_of), sl_are_pairs_of⟩)
    (c_are_pairs_of : PySem.W.codeIn K cd_are_pairs_of "are_pairs_of" = true)
    (k_are_pairs_of : PySem.W.keepIn K (.ref f_are_pairs_of) = true)
    (a_is_list_value : PySem.W.nsIn K mainGlobals "is_list_value" = some (some (.ref f_is_list_value)))
    (l_is_list_value : K.lookup f_is_list_value = some ⟨oc_is_list_value, od_is_list_value, .func (PySem.W.fnOf "is_list_value" "is_list_value" (defArgs s_is_list_value) (defBody s_is_list_value) (defScope s_is_list_value) .none kV_is_list_value dc_is_list_value pm_is_list_value an_is_list_value cd_is_list_value ct_is_list_value), sl_is_list_value⟩)
    (c_is_list_value : PySem.W.codeIn K cd_is_list_value "is_list_value" = true)
    (k_is_list_value : PySem.W.keepIn K (.ref f_is_list_value) = true)
    (a_want_list : PySem.W.nsIn K mainGlobals "want_list" = some (some (.ref f_want_list)))
    (l_want_list : K.lookup f_want_list = some ⟨oc_want_list, od_want_list, .func (PySem.W.fnOf "want_list" "want_list" (defArgs s_want_list) (defBody s_want_list) (defScope s_want_list) .none kV_want_list dc_want_list pm_want_list an_want_list cd_want_list ct_want_list), sl_want_list⟩)
    (c_want_list : PySem.W.codeIn K cd_want_list "want_list" = true)
    (k_want_list : PySem.W.keepIn K (.ref f_want_list) = true)
    (a_want_told : PySem.W.nsIn K mainGlobals "want_told" = some (some (.ref f_want_told)))
    (l_want_told : K.lookup f_want_told = some ⟨oc_want_told, od_want_told, .func (PySem.W.fnOf "want_told" "want_told" (defArgs s_want_told) (defBody s_want_told) (defScope s_want_told) .none kV_want_told dc_want_told pm_want_told an_want_told cd_want_told ct_want_told), sl_want_told⟩)
    (c_want_told : PySem.W.codeIn K cd_want_told "want_told" = true)
    (k_want_told : PySem.W.keepIn K (.ref f_want_told) = true)
    (a_with_more : PySem.W.nsIn K mainGlobals "with_more" = some (some (.ref f_with_more)))
    (l_with_more : K.lookup f_with_more = some ⟨oc_with_more, od_with_more, .func (PySem.W.fnOf "with_more" "with_more" (defArgs s_with_more) (defBody s_with_more) (defScope s_with_more) .none kV_with_more dc_with_more pm_with_more an_with_more cd_with_more ct_with_more), sl_with_more⟩)
    (c_with_more : PySem.W.codeIn K cd_with_more "with_more" = true)
    (k_with_more : PySem.W.keepIn K (.ref f_with_more) = true)
    (a_best_asks : PySem.W.nsIn K mainGlobals "best_asks" = some (some (.ref f_best_asks)))
    (l_best_asks : K.lookup f_best_asks = some ⟨oc_best_asks, od_best_asks, .func (PySem.W.fnOf "best_asks" "best_asks" (defArgs s_best_asks) (defBody s_best_asks) (defScope s_best_asks) .none kV_best_asks dc_best_asks pm_best_asks an_best_asks cd_best_asks ct_best_asks), sl_best_asks⟩)
    (c_best_asks : PySem.W.codeIn K cd_best_asks "best_asks" = true)
    (k_best_asks : PySem.W.keepIn K (.ref f_best_asks) = true)
    (a_is_web_value : PySem.W.nsIn K mainGlobals "is_web_value" = some (some (.ref f_is_web_value)))
    (l_is_web_value : K.lookup f_is_web_value = some ⟨oc_is_web_value, od_is_web_value, .func (PySem.W.fnOf "is_web_value" "is_web_value" (defArgs s_is_web_value) (defBody s_is_web_value) (defScope s_is_web_value) .none kV_is_web_value dc_is_web_value pm_is_web_value an_is_web_value cd_is_web_value ct_is_web_value), sl_is_web_value⟩)
    (c_is_web_value : PySem.W.codeIn K cd_is_web_value "is_web_value" = true)
    (k_is_web_value : PySem.W.keepIn K (.ref f_is_web_value) = true)
    (a_want_web : PySem.W.nsIn K mainGlobals "want_web" = some (some (.ref f_want_web)))
    (l_want_web : K.lookup f_want_web = some ⟨oc_want_web, od_want_web, .func (PySem.W.fnOf "want_web" "want_web" (defArgs s_want_web) (defBody s_want_web) (defScope s_want_web) .none kV_want_web dc_want_web pm_want_web an_want_web cd_want_web ct_want_web), sl_want_web⟩)
    (c_want_web : PySem.W.codeIn K cd_want_web "want_web" = true)
    (k_want_web : PySem.W.keepIn K (.ref f_want_web) = true)
    (a_counts_of : PySem.W.nsIn K mainGlobals "counts_of" = some (some (.ref f_counts_of)))
    (l_counts_of : K.lookup f_counts_of = some ⟨oc_counts_of, od_counts_of, .func (PySem.W.fnOf "counts_of" "counts_of" (defArgs s_counts_of) (defBody s_counts_of) (defScope s_counts_of) .none kV_counts_of dc_counts_of pm_counts_of an_counts_of cd_counts_of ct_counts_of), sl_counts_of⟩)
    (c_counts_of : PySem.W.codeIn K cd_counts_of "counts_of" = true)
    (k_counts_of : PySem.W.keepIn K (.ref f_counts_of) = true)
    (a_as_told : PySem.W.nsIn K mainGlobals "as_told" = some (some (.ref f_as_told)))
    (l_as_told : K.lookup f_as_told = some ⟨oc_as_told, od_as_told, .func (PySem.W.fnOf "as_told" "as_told" (defArgs s_as_told) (defBody s_as_told) (defScope s_as_told) .none kV_as_told dc_as_told pm_as_told an_as_told cd_as_told ct_as_told), sl_as_told⟩)
    (c_as_told : PySem.W.codeIn K cd_as_told "as_told" = true)
    (k_as_told : PySem.W.keepIn K (.ref f_as_told) = true)
    (a_is_key_of : PySem.W.nsIn K mainGlobals "is_key_of" = some (some (.ref f_is_key_of)))
    (l_is_key_of : K.lookup f_is_key_of = some ⟨oc_is_key_of, od_is_key_of, .func (PySem.W.fnOf "is_key_of" "is_key_of" (defArgs s_is_key_of) (defBody s_is_key_of) (defScope s_is_key_of) .none kV_is_key_of dc_is_key_of pm_is_key_of an_is_key_of cd_is_key_of ct_is_key_of), sl_is_key_of⟩)
    (c_is_key_of : PySem.W.codeIn K cd_is_key_of "is_key_of" = true)
    (k_is_key_of : PySem.W.keepIn K (.ref f_is_key_of) = true)
    (a_want_pairs : PySem.W.nsIn K mainGlobals "want_pairs" = some (some (.ref f_want_pairs)))
    (l_want_pairs : K.lookup f_want_pairs = some ⟨oc_want_pairs, od_want_pairs, .func (PySem.W.fnOf "want_pairs" "want_pairs" (defArgs s_want_pairs) (defBody s_want_pairs) (defScope s_want_pairs) .none kV_want_pairs dc_want_pairs pm_want_pairs an_want_pairs cd_want_pairs ct_want_pairs), sl_want_pairs⟩)
    (c_want_pairs : PySem.W.codeIn K cd_want_pairs "want_pairs" = true)
    (k_want_pairs : PySem.W.keepIn K (.ref f_want_pairs) = true)
    (a_is_key : PySem.W.nsIn K mainGlobals "is_key" = some (some (.ref f_is_key)))
    (l_is_key : K.lookup f_is_key = some ⟨oc_is_key, od_is_key, .func (PySem.W.fnOf "is_key" "is_key" (defArgs s_is_key) (defBody s_is_key) (defScope s_is_key) .none kV_is_key dc_is_key pm_is_key an_is_key cd_is_key ct_is_key), sl_is_key⟩)
    (c_is_key : PySem.W.codeIn K cd_is_key "is_key" = true)
    (k_is_key : PySem.W.keepIn K (.ref f_is_key) = true)
    (a_many_told : PySem.W.nsIn K mainGlobals "many_told" = some (some (.ref f_many_told)))
    (l_many_told : K.lookup f_many_told = some ⟨oc_many_told, od_many_told, .func (PySem.W.fnOf "many_told" "many_told" (defArgs s_many_told) (defBody s_many_told) (defScope s_many_told) .none kV_many_told dc_many_told pm_many_told an_many_told cd_many_told ct_many_told), sl_many_told⟩)
    (c_many_told : PySem.W.codeIn K cd_many_told "many_told" = true)
    (k_many_told : PySem.W.keepIn K (.ref f_many_told) = true)
    (a_other_web : PySem.W.nsIn K mainGlobals "other_web" = some (some (.ref f_other_web)))
    (l_other_web : K.lookup f_other_web = some ⟨oc_other_web, od_other_web, .func (PySem.W.fnOf "other_web" "other_web" (defArgs s_other_web) (defBody s_other_web) (defScope s_other_web) .none kV_other_web dc_other_web pm_other_web an_other_web cd_other_web ct_other_web), sl_other_web⟩)
    (c_other_web : PySem.W.codeIn K cd_other_web "other_web" = true)
    (k_other_web : PySem.W.keepIn K (.ref f_other_web) = true)
    (a_part_of : PySem.W.nsIn K mainGlobals "part_of" = some (some (.ref f_part_of)))
    (l_part_of : K.lookup f_part_of = some ⟨oc_part_of, od_part_of, .func (PySem.W.fnOf "part_of" "part_of" (defArgs s_part_of) (defBody s_part_of) (defScope s_part_of) .none kV_part_of dc_part_of pm_part_of an_part_of cd_part_of ct_part_of), sl_part_of⟩)
    (c_part_of : PySem.W.codeIn K cd_part_of "part_of" = true)
    (k_part_of : PySem.W.keepIn K (.ref f_part_of) = true)
    (a_share_of : PySem.W.nsIn K mainGlobals "share_of" = some (some (.ref f_share_of)))
    (l_share_of : K.lookup f_share_of = some ⟨oc_share_of, od_share_of, .func (PySem.W.fnOf "share_of" "share_of" (defArgs s_share_of) (defBody s_share_of) (defScope s_share_of) .none kV_share_of dc_share_of pm_share_of an_share_of cd_share_of ct_share_of), sl_share_of⟩)
    (c_share_of : PySem.W.codeIn K cd_share_of "share_of" = true)
    (k_share_of : PySem.W.keepIn K (.ref f_share_of) = true)
    (a_want_pair : PySem.W.nsIn K mainGlobals "want_pair" = some (some (.ref f_want_pair)))
    (l_want_pair : K.lookup f_want_pair = some ⟨oc_want_pair, od_want_pair, .func (PySem.W.fnOf "want_pair" "want_pair" (defArgs s_want_pair) (defBody s_want_pair) (defScope s_want_pair) .none kV_want_pair dc_want_pair pm_want_pair an_want_pair cd_want_pair ct_want_pair), sl_want_pair⟩)
    (c_want_pair : PySem.W.codeIn K cd_want_pair "want_pair" = true)
    (k_want_pair : PySem.W.keepIn K (.ref f_want_pair) = true)
    (a_share : PySem.W.nsIn K mainGlobals "share" = some (some (.ref f_share)))
    (l_share : K.lookup f_share = some ⟨oc_share, od_share, .func (PySem.W.fnOf "share" "share" (defArgs s_share) (defBody s_share) (defScope s_share) .none kV_share dc_share pm_share an_share cd_share ct_share), sl_share⟩)
    (c_share : PySem.W.codeIn K cd_share "share" = true)
    (k_share : PySem.W.keepIn K (.ref f_share) = true)
    (a_sure_apart : PySem.W.nsIn K mainGlobals "sure_apart" = some (some (.ref f_sure_apart)))
    (l_sure_apart : K.lookup f_sure_apart = some ⟨oc_sure_apart, od_sure_apart, .func (PySem.W.fnOf "sure_apart" "sure_apart" (defArgs s_sure_apart) (defBody s_sure_apart) (defScope s_sure_apart) .none kV_sure_apart dc_sure_apart pm_sure_apart an_sure_apart cd_sure_apart ct_sure_apart), sl_sure_apart⟩)
    (c_sure_apart : PySem.W.codeIn K cd_sure_apart "sure_apart" = true)
    (k_sure_apart : PySem.W.keepIn K (.ref f_sure_apart) = true)
    (a_sure_met : PySem.W.nsIn K mainGlobals "sure_met" = some (some (.ref f_sure_met)))
    (l_sure_met : K.lookup f_sure_met = some ⟨oc_sure_met, od_sure_met, .func (PySem.W.fnOf "sure_met" "sure_met" (defArgs s_sure_met) (defBody s_sure_met) (defScope s_sure_met) .none kV_sure_met dc_sure_met pm_sure_met an_sure_met cd_sure_met ct_sure_met), sl_sure_met⟩)
    (c_sure_met : PySem.W.codeIn K cd_sure_met "sure_met" = true)
    (k_sure_met : PySem.W.keepIn K (.ref f_sure_met) = true)
    (a_factor_of : PySem.W.nsIn K mainGlobals "factor_of" = some (some (.ref f_factor_of)))
    (l_factor_of : K.lookup f_factor_of = some ⟨oc_factor_of, od_factor_of, .func (PySem.W.fnOf "factor_of" "factor_of" (defArgs s_factor_of) (defBody s_factor_of) (defScope s_factor_of) .none kV_factor_of dc_factor_of pm_factor_of an_factor_of cd_factor_of ct_factor_of), sl_factor_of⟩)
    (c_factor_of : PySem.W.codeIn K cd_factor_of "factor_of" = true)
    (k_factor_of : PySem.W.keepIn K (.ref f_factor_of) = true)
    (a_web_of : PySem.W.nsIn K mainGlobals "web_of" = some (some (.ref f_web_of)))
    (l_web_of : K.lookup f_web_of = some ⟨oc_web_of, od_web_of, .func (PySem.W.fnOf "web_of" "web_of" (defArgs s_web_of) (defBody s_web_of) (defScope s_web_of) .none kV_web_of dc_web_of pm_web_of an_web_of cd_web_of ct_web_of), sl_web_of⟩)
    (c_web_of : PySem.W.codeIn K cd_web_of "web_of" = true)
    (k_web_of : PySem.W.keepIn K (.ref f_web_of) = true)
    (a_told_web : PySem.W.nsIn K mainGlobals "told_web" = some (some (.ref f_told_web)))
    (l_told_web : K.lookup f_told_web = some ⟨oc_told_web, od_told_web, .func (PySem.W.fnOf "told_web" "told_web" (defArgs s_told_web) (defBody s_told_web) (defScope s_told_web) .none kV_told_web dc_told_web pm_told_web an_told_web cd_told_web ct_told_web), sl_told_web⟩)
    (c_told_web : PySem.W.codeIn K cd_told_web "told_web" = true)
    (k_told_web : PySem.W.keepIn K (.ref f_told_web) = true)
    (a__law_asked_right : PySem.W.nsIn K mainGlobals "_law_asked_right" = some (some (.ref f__law_asked_right)))
    (l__law_asked_right : K.lookup f__law_asked_right = some ⟨oc__law_asked_right, od__law_asked_right, .func (PySem.W.fnOf "_law_asked_right" "_law_asked_right" (defArgs s__law_asked_right) (defBody s__law_asked_right) (defScope s__law_asked_right) .none kV__law_asked_right dc__law_asked_right pm__law_asked_right an__law_asked_right cd__law_asked_right ct__law_asked_right), sl__law_asked_right⟩)
    (c__law_asked_right : PySem.W.codeIn K cd__law_asked_right "_law_asked_right" = true)
    (k__law_asked_right : PySem.W.keepIn K (.ref f__law_asked_right) = true)
    (a__law_pot : PySem.W.nsIn K mainGlobals "_law_pot" = some (some (.ref f__law_pot)))
    (l__law_pot : K.lookup f__law_pot = some ⟨oc__law_pot, od__law_pot, .func (PySem.W.fnOf "_law_pot" "_law_pot" (defArgs s__law_pot) (defBody s__law_pot) (defScope s__law_pot) .none kV__law_pot dc__law_pot pm__law_pot an__law_pot cd__law_pot ct__law_pot), sl__law_pot⟩)
    (c__law_pot : PySem.W.codeIn K cd__law_pot "_law_pot" = true)
    (k__law_pot : PySem.W.keepIn K (.ref f__law_pot) = true)
    (a__law_web : PySem.W.nsIn K mainGlobals "_law_web" = some (some (.ref f__law_web)))
    (l__law_web : K.lookup f__law_web = some ⟨oc__law_web, od__law_web, .func (PySem.W.fnOf "_law_web" "_law_web" (defArgs s__law_web) (defBody s__law_web) (defScope s__law_web) .none kV__law_web dc__law_web pm__law_web an__law_web cd__law_web ct__law_web), sl__law_web⟩)
    (c__law_web : PySem.W.codeIn K cd__law_web "_law_web" = true)
    (k__law_web : PySem.W.keepIn K (.ref f__law_web) = true)
    (a_law : PySem.W.nsIn K mainGlobals "law" = some (some (.ref f_law)))
    (l_law : K.lookup f_law = some ⟨oc_law, od_law, .func (PySem.W.fnOf "law" "law" (defArgs s_law) (defBody s_law) (defScope s_law) .none kV_law dc_law pm_law an_law cd_law ct_law), sl_law⟩)
    (c_law : PySem.W.codeIn K cd_law "law" = true)
    (k_law : PySem.W.keepIn K (.ref f_law) = true)
    (a_Grown___init__ : PySem.W.findIn K (.ref C) "__init__" = some (some (.ref f_Grown___init__)))
    (i_Grown___init__ : PySem.W.isFn K (.ref f_Grown___init__) = true)
    (l_Grown___init__ : K.lookup f_Grown___init__ = some ⟨oc_Grown___init__, od_Grown___init__, .func (PySem.W.fnOf "__init__" "Grown.__init__" (defArgs s_Grown___init__) (defBody s_Grown___init__) (defScope s_Grown___init__) .none kV_Grown___init__ dc_Grown___init__ pm_Grown___init__ an_Grown___init__ cd_Grown___init__ ct_Grown___init__), sl_Grown___init__⟩)
    (c_Grown___init__ : PySem.W.codeIn K cd_Grown___init__ "Grown.__init__" = true)
    (k_Grown___init__ : PySem.W.keepIn K (.ref f_Grown___init__) = true)
    (a_Grown_steps : PySem.W.findIn K (.ref C) "steps" = some (some (.ref f_Grown_steps)))
    (i_Grown_steps : PySem.W.isFn K (.ref f_Grown_steps) = true)
    (l_Grown_steps : K.lookup f_Grown_steps = some ⟨oc_Grown_steps, od_Grown_steps, .func (PySem.W.fnOf "steps" "Grown.steps" (defArgs s_Grown_steps) (defBody s_Grown_steps) (defScope s_Grown_steps) .none kV_Grown_steps dc_Grown_steps pm_Grown_steps an_Grown_steps cd_Grown_steps ct_Grown_steps), sl_Grown_steps⟩)
    (c_Grown_steps : PySem.W.codeIn K cd_Grown_steps "Grown.steps" = true)
    (k_Grown_steps : PySem.W.keepIn K (.ref f_Grown_steps) = true)
    (a_Grown_rest : PySem.W.findIn K (.ref C) "rest" = some (some (.ref f_Grown_rest)))
    (i_Grown_rest : PySem.W.isFn K (.ref f_Grown_rest) = true)
    (l_Grown_rest : K.lookup f_Grown_rest = some ⟨oc_Grown_rest, od_Grown_rest, .func (PySem.W.fnOf "rest" "Grown.rest" (defArgs s_Grown_rest) (defBody s_Grown_rest) (defScope s_Grown_rest) .none kV_Grown_rest dc_Grown_rest pm_Grown_rest an_Grown_rest cd_Grown_rest ct_Grown_rest), sl_Grown_rest⟩)
    (c_Grown_rest : PySem.W.codeIn K cd_Grown_rest "Grown.rest" = true)
    (k_Grown_rest : PySem.W.keepIn K (.ref f_Grown_rest) = true)
    (a_Grown_most : PySem.W.findIn K (.ref C) "most" = some (some (.ref f_Grown_most)))
    (i_Grown_most : PySem.W.isFn K (.ref f_Grown_most) = true)
    (l_Grown_most : K.lookup f_Grown_most = some ⟨oc_Grown_most, od_Grown_most, .func (PySem.W.fnOf "most" "Grown.most" (defArgs s_Grown_most) (defBody s_Grown_most) (defScope s_Grown_most) .none kV_Grown_most dc_Grown_most pm_Grown_most an_Grown_most cd_Grown_most ct_Grown_most), sl_Grown_most⟩)
    (c_Grown_most : PySem.W.codeIn K cd_Grown_most "Grown.most" = true)
    (k_Grown_most : PySem.W.keepIn K (.ref f_Grown_most) = true)
    (a_Grown_many : PySem.W.findIn K (.ref C) "many" = some (some (.ref f_Grown_many)))
    (i_Grown_many : PySem.W.isFn K (.ref f_Grown_many) = true)
    (l_Grown_many : K.lookup f_Grown_many = some ⟨oc_Grown_many, od_Grown_many, .func (PySem.W.fnOf "many" "Grown.many" (defArgs s_Grown_many) (defBody s_Grown_many) (defScope s_Grown_many) .none kV_Grown_many dc_Grown_many pm_Grown_many an_Grown_many cd_Grown_many ct_Grown_many), sl_Grown_many⟩)
    (c_Grown_many : PySem.W.codeIn K cd_Grown_many "Grown.many" = true)
    (k_Grown_many : PySem.W.keepIn K (.ref f_Grown_many) = true)
    (a_Grown_first : PySem.W.findIn K (.ref C) "first" = some (some (.ref f_Grown_first)))
    (i_Grown_first : PySem.W.isFn K (.ref f_Grown_first) = true)
    (l_Grown_first : K.lookup f_Grown_first = some ⟨oc_Grown_first, od_Grown_first, .func (PySem.W.fnOf "first" "Grown.first" (defArgs s_Grown_first) (defBody s_Grown_first) (defScope s_Grown_first) .none kV_Grown_first dc_Grown_first pm_Grown_first an_Grown_first cd_Grown_first ct_Grown_first), sl_Grown_first⟩)
    (c_Grown_first : PySem.W.codeIn K cd_Grown_first "Grown.first" = true)
    (k_Grown_first : PySem.W.keepIn K (.ref f_Grown_first) = true)
    (pg : PySem.W.plainGet K C Str.empty = true)
    (hdi : PySem.W.hasDictIn K C = true)
    (po : PySem.W.plainOver K C = true)
    (sa : PySem.W.findIn K (.ref C) "__setattr__" = some (some (.builtin "object.__setattr__")))
    (mk : PySem.W.makesIn K C = true)
    (kc : PySem.W.keepIn K (.ref C) = true)
    (n_own_later : PySem.W.findIn K (.ref C) "own_later" = some none)
    (n_own_begin : PySem.W.findIn K (.ref C) "own_begin" = some none)
    (n_own_most : PySem.W.findIn K (.ref C) "own_most" = some none)
    (n_own_many : PySem.W.findIn K (.ref C) "own_many" = some none) :
    ∃ fd : FuncData, (∀ (s : Shared) (v : Value), BindsTo s fd ⟨[v], []⟩ [("script", v)]) ∧ ∀ base : Heap, K.In base → base.Ns mainGlobals mg → FnOk l.prog w K mg base CX0 20 fa fd ["script"] (spLaw K) := by
  have e := hfa.symm.trans (PySem.W.mg_of X G a_law)
  cases e
  have F_later_of := fun_mk (st := s_later_of) l_later_of c_later_of k_later_of
  have B_later_of := F_later_of.binds (ps := ["web"]) fun _ _ _ _ _ _ us hl => match us, hl with | [_], _ => rfl
  have F_choices_of := fun_mk (st := s_choices_of) l_choices_of c_choices_of k_choices_of
  have B_choices_of := F_choices_of.binds (ps := ["some"]) fun _ _ _ _ _ _ us hl => match us, hl with | [_], _ => rfl
  have F_taken := fun_mk (st := s_taken) l_taken c_taken k_taken
  have B_taken := F_taken.binds (ps := ["left", "person", "choice"]) fun _ _ _ _ _ _ us hl => match us, hl with | [_, _, _], _ => rfl
  have F__law_all_pairs := fun_mk (st := s__law_all_pairs) l__law_all_pairs c__law_all_pairs k__law_all_pairs
  have B__law_all_pairs := F__law_all_pairs.binds (ps := ["many"]) fun _ _ _ _ _ _ us hl => match us, hl with | [_], _ => rfl
  have F__law_draw := fun_mk (st := s__law_draw) l__law_draw c__law_draw k__law_draw
  have B__law_draw := F__law_draw.binds (ps := ["pot", "many"]) fun _ _ _ _ _ _ us hl => match us, hl with | [_, _], _ => rfl
  have F__law_pick := fun_mk (st := s__law_pick) l__law_pick c__law_pick k__law_pick
  have B__law_pick := F__law_pick.binds (ps := ["pot", "some"]) fun _ _ _ _ _ _ us hl => match us, hl with | [_, _], _ => rfl
  have F_all_pairs := fun_mk (st := s_all_pairs) l_all_pairs c_all_pairs k_all_pairs
  have B_all_pairs := F_all_pairs.binds (ps := ["persons"]) fun _ _ _ _ _ _ us hl => match us, hl with | [_], _ => rfl
  have F_counts_in := fun_mk (st := s_counts_in) l_counts_in c_counts_in k_counts_in
  have B_counts_in := F_counts_in.binds (ps := ["persons", "pairs"]) fun _ _ _ _ _ _ us hl => match us, hl with | [_, _], _ => rfl
  have F_left_of := fun_mk (st := s_left_of) l_left_of c_left_of k_left_of
  have B_left_of := F_left_of.binds (ps := ["counts", "met"]) fun _ _ _ _ _ _ us hl => match us, hl with | [_, _], _ => rfl
  have F_loose_of := fun_mk (st := s_loose_of) l_loose_of c_loose_of k_loose_of
  have B_loose_of := F_loose_of.binds (ps := ["counts", "met", "apart"]) fun _ _ _ _ _ _ us hl => match us, hl with | [_, _, _], _ => rfl
  have F_many_of := fun_mk (st := s_many_of) l_many_of c_many_of k_many_of
  have B_many_of := F_many_of.binds (ps := ["web", "counts"]) fun _ _ _ _ _ _ us hl => match us, hl with | [_, _], _ => rfl
  have F_over_told := fun_mk (st := s_over_told) l_over_told c_over_told k_over_told
  have B_over_told := F_over_told.binds (ps := ["counts", "met"]) fun _ _ _ _ _ _ us hl => match us, hl with | [_, _], _ => rfl
  have F_many_with := fun_mk (st := s_many_with) l_many_with c_many_with k_many_with
  have B_many_with := F_many_with.binds (ps := ["counts", "met", "apart"]) fun _ _ _ _ _ _ us hl => match us, hl with | [_, _, _], _ => rfl
  have F_counted := fun_mk (st := s_counted) l_counted c_counted k_counted
  have B_counted := F_counted.binds (ps := ["counts", "met", "apart"]) fun _ _ _ _ _ _ us hl => match us, hl with | [_, _, _], _ => rfl
  have F_want_few := fun_mk (st := s_want_few) l_want_few c_want_few k_want_few
  have B_want_few := F_want_few.binds (ps := ["counts"]) fun _ _ _ _ _ _ us hl => match us, hl with | [_], _ => rfl
  have F_is_tuple := fun_mk (st := s_is_tuple) l_is_tuple c_is_tuple k_is_tuple
  have B_is_tuple := F_is_tuple.binds (ps := ["value", "many"]) fun _ _ _ _ _ _ us hl => match us, hl with | [_, _], _ => rfl
  have F_is_integer := fun_mk (st := s_is_integer) l_is_integer c_is_integer k_is_integer
  have B_is_integer := F_is_integer.binds (ps := ["value"]) fun _ _ _ _ _ _ us hl => match us, hl with | [_], _ => rfl
  have F_is_within := fun_mk (st := s_is_within) l_is_within c_is_within k_is_within
  have B_is_within := F_is_within.binds (ps := ["value", "least", "most"]) fun _ _ _ _ _ _ us hl => match us, hl with | [_, _, _], _ => rfl
  have F_is_pair_of := fun_mk (st := s_is_pair_of) l_is_pair_of c_is_pair_of k_is_pair_of
  have B_is_pair_of := F_is_pair_of.binds (ps := ["persons", "value"]) fun _ _ _ _ _ _ us hl => match us, hl with | [_, _], _ => rfl
  have F_are_pairs_of := fun_mk (st := s_are_pairs_of) l_are_pairs_of c_are_pairs_of k_are_pairs_of
  have B_are_pairs_of := F_are_pairs_of.binds (ps := ["persons", "value"]) fun _ _ _ _ _ _ us hl => match us, hl with | [_, _], _ => rfl
  have F_is_list_value := fun_mk (st := s_is_list_value) l_is_list_value c_is_list_value k_is_list_value
  have B_is_list_value := F_is_list_value.binds (ps := ["value"]) fun _ _ _ _ _ _ us hl => match us, hl with | [_], _ => rfl
  have F_want_list := fun_mk (st := s_want_list) l_want_list c_want_list k_want_list
  have B_want_list := F_want_list.binds (ps := ["counts"]) fun _ _ _ _ _ _ us hl => match us, hl with | [_], _ => rfl
  have F_want_told := fun_mk (st := s_want_told) l_want_told c_want_told k_want_told
  have B_want_told := F_want_told.binds (ps := ["counts", "met", "apart"]) fun _ _ _ _ _ _ us hl => match us, hl with | [_, _, _], _ => rfl
  have F_with_more := fun_mk (st := s_with_more) l_with_more c_with_more k_with_more
  have B_with_more := F_with_more.binds (ps := ["pairs", "pair"]) fun _ _ _ _ _ _ us hl => match us, hl with | [_, _], _ => rfl
  have F_best_asks := fun_mk (st := s_best_asks) l_best_asks c_best_asks k_best_asks
  have B_best_asks := F_best_asks.binds (ps := ["counts", "met", "apart"]) fun _ _ _ _ _ _ us hl => match us, hl with | [_, _, _], _ => rfl
  have F_is_web_value := fun_mk (st := s_is_web_value) l_is_web_value c_is_web_value k_is_web_value
  have B_is_web_value := F_is_web_value.binds (ps := ["value"]) fun _ _ _ _ _ _ us hl => match us, hl with | [_], _ => rfl
  have F_want_web := fun_mk (st := s_want_web) l_want_web c_want_web k_want_web
  have B_want_web := F_want_web.binds (ps := ["web"]) fun _ _ _ _ _ _ us hl => match us, hl with | [_], _ => rfl
  have F_counts_of := fun_mk (st := s_counts_of) l_counts_of c_counts_of k_counts_of
  have B_counts_of := F_counts_of.binds (ps := ["web"]) fun _ _ _ _ _ _ us hl => match us, hl with | [_], _ => rfl
  have F_as_told := fun_mk (st := s_as_told) l_as_told c_as_told k_as_told
  have B_as_told := F_as_told.binds (ps := ["web", "pairs"]) fun _ _ _ _ _ _ us hl => match us, hl with | [_, _], _ => rfl
  have F_is_key_of := fun_mk (st := s_is_key_of) l_is_key_of c_is_key_of k_is_key_of
  have B_is_key_of := F_is_key_of.binds (ps := ["web", "pairs"]) fun _ _ _ _ _ _ us hl => match us, hl with | [_, _], _ => rfl
  have F_want_pairs := fun_mk (st := s_want_pairs) l_want_pairs c_want_pairs k_want_pairs
  have B_want_pairs := F_want_pairs.binds (ps := ["persons", "pairs"]) fun _ _ _ _ _ _ us hl => match us, hl with | [_, _], _ => rfl
  have F_is_key := fun_mk (st := s_is_key) l_is_key c_is_key k_is_key
  have B_is_key := F_is_key.binds (ps := ["web", "pairs"]) fun _ _ _ _ _ _ us hl => match us, hl with | [_, _], _ => rfl
  have F_many_told := fun_mk (st := s_many_told) l_many_told c_many_told k_many_told
  have B_many_told := F_many_told.binds (ps := ["counts", "met", "apart"]) fun _ _ _ _ _ _ us hl => match us, hl with | [_, _, _], _ => rfl
  have F_other_web := fun_mk (st := s_other_web) l_other_web c_other_web k_other_web
  have B_other_web := F_other_web.binds (ps := ["web", "pairs"]) fun _ _ _ _ _ _ us hl => match us, hl with | [_, _], _ => rfl
  have F_part_of := fun_mk (st := s_part_of) l_part_of c_part_of k_part_of
  have B_part_of := F_part_of.binds (ps := ["above", "below"]) fun _ _ _ _ _ _ us hl => match us, hl with | [_, _], _ => rfl
  have F_share_of := fun_mk (st := s_share_of) l_share_of c_share_of k_share_of
  have B_share_of := F_share_of.binds (ps := ["counts", "met", "apart", "pair", "many"]) fun _ _ _ _ _ _ us hl => match us, hl with | [_, _, _, _, _], _ => rfl
  have F_want_pair := fun_mk (st := s_want_pair) l_want_pair c_want_pair k_want_pair
  have B_want_pair := F_want_pair.binds (ps := ["persons", "pair"]) fun _ _ _ _ _ _ us hl => match us, hl with | [_, _], _ => rfl
  have F_share := fun_mk (st := s_share) l_share c_share k_share
  have B_share := F_share.binds (ps := ["counts", "met", "apart", "pair"]) fun _ _ _ _ _ _ us hl => match us, hl with | [_, _, _, _], _ => rfl
  have F_sure_apart := fun_mk (st := s_sure_apart) l_sure_apart c_sure_apart k_sure_apart
  have B_sure_apart := F_sure_apart.binds (ps := ["counts", "met", "apart"]) fun _ _ _ _ _ _ us hl => match us, hl with | [_, _, _], _ => rfl
  have F_sure_met := fun_mk (st := s_sure_met) l_sure_met c_sure_met k_sure_met
  have B_sure_met := F_sure_met.binds (ps := ["counts", "met", "apart"]) fun _ _ _ _ _ _ us hl => match us, hl with | [_, _, _], _ => rfl
  have F_factor_of := fun_mk (st := s_factor_of) l_factor_of c_factor_of k_factor_of
  have B_factor_of := F_factor_of.binds (ps := ["web", "counts"]) fun _ _ _ _ _ _ us hl => match us, hl with | [_, _], _ => rfl
  have F_web_of := fun_mk (st := s_web_of) l_web_of c_web_of k_web_of
  have B_web_of := F_web_of.binds (ps := ["counts", "met", "apart"]) fun _ _ _ _ _ _ us hl => match us, hl with | [_, _, _], _ => rfl
  have F_told_web := fun_mk (st := s_told_web) l_told_web c_told_web k_told_web
  have B_told_web := F_told_web.binds (ps := ["counts", "met", "apart"]) fun _ _ _ _ _ _ us hl => match us, hl with | [_, _, _], _ => rfl
  have F__law_asked_right := fun_mk (st := s__law_asked_right) l__law_asked_right c__law_asked_right k__law_asked_right
  have B__law_asked_right := F__law_asked_right.binds (ps := ["pot", "web", "is_best"]) fun _ _ _ _ _ _ us hl => match us, hl with | [_, _, _], _ => rfl
  have F__law_pot := fun_mk (st := s__law_pot) l__law_pot c__law_pot k__law_pot
  have B__law_pot := F__law_pot.binds (ps := ["script", "k"]) fun _ _ _ _ _ _ us hl => match us, hl with | [_, _], _ => rfl
  have F__law_web := fun_mk (st := s__law_web) l__law_web c__law_web k__law_web
  have B__law_web := F__law_web.binds (ps := ["pot", "most"]) fun _ _ _ _ _ _ us hl => match us, hl with | [_, _], _ => rfl
  have F_law := fun_mk (st := s_law) l_law c_law k_law
  have B_law := F_law.binds (ps := ["script"]) fun _ _ _ _ _ _ us hl => match us, hl with | [_], _ => rfl
  have F_Grown___init__ := fun_mk (st := s_Grown___init__) l_Grown___init__ c_Grown___init__ k_Grown___init__
  have B_Grown___init__ := F_Grown___init__.binds (ps := ["self", "web", "counts"]) fun _ _ _ _ _ _ us hl => match us, hl with | [_, _, _], _ => rfl
  have F_Grown_steps := fun_mk (st := s_Grown_steps) l_Grown_steps c_Grown_steps k_Grown_steps
  have B_Grown_steps := F_Grown_steps.binds (ps := ["self", "person", "left"]) fun _ _ _ _ _ _ us hl => match us, hl with | [_, _, _], _ => rfl
  have F_Grown_rest := fun_mk (st := s_Grown_rest) l_Grown_rest c_Grown_rest k_Grown_rest
  have B_Grown_rest := F_Grown_rest.binds (ps := ["self", "person", "left"]) fun _ _ _ _ _ _ us hl => match us, hl with | [_, _, _], _ => rfl
  have F_Grown_most := fun_mk (st := s_Grown_most) l_Grown_most c_Grown_most k_Grown_most
  have B_Grown_most := F_Grown_most.binds (ps := ["self", "person", "left"]) fun _ _ _ _ _ _ us hl => match us, hl with | [_, _, _], _ => rfl
  have F_Grown_many := fun_mk (st := s_Grown_many) l_Grown_many c_Grown_many k_Grown_many
  have B_Grown_many := F_Grown_many.binds (ps := ["self", "person", "left"]) fun _ _ _ _ _ _ us hl => match us, hl with | [_, _, _], _ => rfl
  have F_Grown_first := fun_mk (st := s_Grown_first) l_Grown_first c_Grown_first k_Grown_first
  have B_Grown_first := F_Grown_first.binds (ps := ["self"]) fun _ _ _ _ _ _ us hl => match us, hl with | [_], _ => rfl
  have C_Grown : Cls K C := ⟨pg, hdi, po, sa⟩
  let A : Ad := ⟨C, f_later_of, PySem.W.fnOf "later_of" "later_of" (defArgs s_later_of) (defBody s_later_of) (defScope s_later_of) .none kV_later_of dc_later_of pm_later_of an_later_of cd_later_of ct_later_of, f_choices_of, PySem.W.fnOf "choices_of" "choices_of" (defArgs s_choices_of) (defBody s_choices_of) (defScope s_choices_of) .none kV_choices_of dc_choices_of pm_choices_of an_choices_of cd_choices_of ct_choices_of, f_taken, PySem.W.fnOf "taken" "taken" (defArgs s_taken) (defBody s_taken) (defScope s_taken) .none kV_taken dc_taken pm_taken an_taken cd_taken ct_taken, f__law_all_pairs, PySem.W.fnOf "_law_all_pairs" "_law_all_pairs" (defArgs s__law_all_pairs) (defBody s__law_all_pairs) (defScope s__law_all_pairs) .none kV__law_all_pairs dc__law_all_pairs pm__law_all_pairs an__law_all_pairs cd__law_all_pairs ct__law_all_pairs, f__law_draw, PySem.W.fnOf "_law_draw" "_law_draw" (defArgs s__law_draw) (defBody s__law_draw) (defScope s__law_draw) .none kV__law_draw dc__law_draw pm__law_draw an__law_draw cd__law_draw ct__law_draw, f__law_pick, PySem.W.fnOf "_law_pick" "_law_pick" (defArgs s__law_pick) (defBody s__law_pick) (defScope s__law_pick) .none kV__law_pick dc__law_pick pm__law_pick an__law_pick cd__law_pick ct__law_pick, f_all_pairs, PySem.W.fnOf "all_pairs" "all_pairs" (defArgs s_all_pairs) (defBody s_all_pairs) (defScope s_all_pairs) .none kV_all_pairs dc_all_pairs pm_all_pairs an_all_pairs cd_all_pairs ct_all_pairs, f_counts_in, PySem.W.fnOf "counts_in" "counts_in" (defArgs s_counts_in) (defBody s_counts_in) (defScope s_counts_in) .none kV_counts_in dc_counts_in pm_counts_in an_counts_in cd_counts_in ct_counts_in, f_left_of, PySem.W.fnOf "left_of" "left_of" (defArgs s_left_of) (defBody s_left_of) (defScope s_left_of) .none kV_left_of dc_left_of pm_left_of an_left_of cd_left_of ct_left_of, f_loose_of, PySem.W.fnOf "loose_of" "loose_of" (defArgs s_loose_of) (defBody s_loose_of) (defScope s_loose_of) .none kV_loose_of dc_loose_of pm_loose_of an_loose_of cd_loose_of ct_loose_of, f_many_of, PySem.W.fnOf "many_of" "many_of" (defArgs s_many_of) (defBody s_many_of) (defScope s_many_of) .none kV_many_of dc_many_of pm_many_of an_many_of cd_many_of ct_many_of, f_over_told, PySem.W.fnOf "over_told" "over_told" (defArgs s_over_told) (defBody s_over_told) (defScope s_over_told) .none kV_over_told dc_over_told pm_over_told an_over_told cd_over_told ct_over_told, f_many_with, PySem.W.fnOf "many_with" "many_with" (defArgs s_many_with) (defBody s_many_with) (defScope s_many_with) .none kV_many_with dc_many_with pm_many_with an_many_with cd_many_with ct_many_with, f_counted, PySem.W.fnOf "counted" "counted" (defArgs s_counted) (defBody s_counted) (defScope s_counted) .none kV_counted dc_counted pm_counted an_counted cd_counted ct_counted, f_want_few, PySem.W.fnOf "want_few" "want_few" (defArgs s_want_few) (defBody s_want_few) (defScope s_want_few) .none kV_want_few dc_want_few pm_want_few an_want_few cd_want_few ct_want_few, f_is_tuple, PySem.W.fnOf "is_tuple" "is_tuple" (defArgs s_is_tuple) (defBody s_is_tuple) (defScope s_is_tuple) .none kV_is_tuple dc_is_tuple pm_is_tuple an_is_tuple cd_is_tuple ct_is_tuple, f_is_integer, PySem.W.fnOf "is_integer" "is_integer" (defArgs s_is_integer) (defBody s_is_integer) (defScope s_is_integer) .none kV_is_integer dc_is_integer pm_is_integer an_is_integer cd_is_integer ct_is_integer, f_is_within, PySem.W.fnOf "is_within" "is_within" (defArgs s_is_within) (defBody s_is_within) (defScope s_is_within) .none kV_is_within dc_is_within pm_is_within an_is_within cd_is_within ct_is_within, f_is_pair_of, PySem.W.fnOf "is_pair_of" "is_pair_of" (defArgs s_is_pair_of) (defBody s_is_pair_of) (defScope s_is_pair_of) .none kV_is_pair_of dc_is_pair_of pm_is_pair_of an_is_pair_of cd_is_pair_of ct_is_pair_of, f_are_pairs_of, PySem.W.fnOf "are_pairs_of" "are_pairs_of" (defArgs s_are_pairs_of) (defBody s_are_pairs_of) (defScope s_are_pairs_of) .none kV_are_pairs_of dc_are_pairs_of pm_are_pairs_of an_are_pairs_of cd_are_pairs_of ct_are_pairs_of, f_is_list_value, PySem.W.fnOf "is_list_value" "is_list_value" (defArgs s_is_list_value) (defBody s_is_list_value) (defScope s_is_list_value) .none kV_is_list_value dc_is_list_value pm_is_list_value an_is_list_value cd_is_list_value ct_is_list_value, f_want_list, PySem.W.fnOf "want_list" "want_list" (defArgs s_want_list) (defBody s_want_list) (defScope s_want_list) .none kV_want_list dc_want_list pm_want_list an_want_list cd_want_list ct_want_list, f_want_told, PySem.W.fnOf "want_told" "want_told" (defArgs s_want_told) (defBody s_want_told) (defScope s_want_told) .none kV_want_told dc_want_told pm_want_told an_want_told cd_want_told ct_want_told, f_with_more, PySem.W.fnOf "with_more" "with_more" (defArgs s_with_more) (defBody s_with_more) (defScope s_with_more) .none kV_with_more dc_with_more pm_with_more an_with_more cd_with_more ct_with_more, f_best_asks, PySem.W.fnOf "best_asks" "best_asks" (defArgs s_best_asks) (defBody s_best_asks) (defScope s_best_asks) .none kV_best_asks dc_best_asks pm_best_asks an_best_asks cd_best_asks ct_best_asks, f_is_web_value, PySem.W.fnOf "is_web_value" "is_web_value" (defArgs s_is_web_value) (defBody s_is_web_value) (defScope s_is_web_value) .none kV_is_web_value dc_is_web_value pm_is_web_value an_is_web_value cd_is_web_value ct_is_web_value, f_want_web, PySem.W.fnOf "want_web" "want_web" (defArgs s_want_web) (defBody s_want_web) (defScope s_want_web) .none kV_want_web dc_want_web pm_want_web an_want_web cd_want_web ct_want_web, f_counts_of, PySem.W.fnOf "counts_of" "counts_of" (defArgs s_counts_of) (defBody s_counts_of) (defScope s_counts_of) .none kV_counts_of dc_counts_of pm_counts_of an_counts_of cd_counts_of ct_counts_of, f_as_told, PySem.W.fnOf "as_told" "as_told" (defArgs s_as_told) (defBody s_as_told) (defScope s_as_told) .none kV_as_told dc_as_told pm_as_told an_as_told cd_as_told ct_as_told, f_is_key_of, PySem.W.fnOf "is_key_of" "is_key_of" (defArgs s_is_key_of) (defBody s_is_key_of) (defScope s_is_key_of) .none kV_is_key_of dc_is_key_of pm_is_key_of an_is_key_of cd_is_key_of ct_is_key_of, f_want_pairs, PySem.W.fnOf "want_pairs" "want_pairs" (defArgs s_want_pairs) (defBody s_want_pairs) (defScope s_want_pairs) .none kV_want_pairs dc_want_pairs pm_want_pairs an_want_pairs cd_want_pairs ct_want_pairs, f_is_key, PySem.W.fnOf "is_key" "is_key" (defArgs s_is_key) (defBody s_is_key) (defScope s_is_key) .none kV_is_key dc_is_key pm_is_key an_is_key cd_is_key ct_is_key, f_many_told, PySem.W.fnOf "many_told" "many_told" (defArgs s_many_told) (defBody s_many_told) (defScope s_many_told) .none kV_many_told dc_many_told pm_many_told an_many_told cd_many_told ct_many_told, f_other_web, PySem.W.fnOf "other_web" "other_web" (defArgs s_other_web) (defBody s_other_web) (defScope s_other_web) .none kV_other_web dc_other_web pm_other_web an_other_web cd_other_web ct_other_web, f_part_of, PySem.W.fnOf "part_of" "part_of" (defArgs s_part_of) (defBody s_part_of) (defScope s_part_of) .none kV_part_of dc_part_of pm_part_of an_part_of cd_part_of ct_part_of, f_share_of, PySem.W.fnOf "share_of" "share_of" (defArgs s_share_of) (defBody s_share_of) (defScope s_share_of) .none kV_share_of dc_share_of pm_share_of an_share_of cd_share_of ct_share_of, f_want_pair, PySem.W.fnOf "want_pair" "want_pair" (defArgs s_want_pair) (defBody s_want_pair) (defScope s_want_pair) .none kV_want_pair dc_want_pair pm_want_pair an_want_pair cd_want_pair ct_want_pair, f_share, PySem.W.fnOf "share" "share" (defArgs s_share) (defBody s_share) (defScope s_share) .none kV_share dc_share pm_share an_share cd_share ct_share, f_sure_apart, PySem.W.fnOf "sure_apart" "sure_apart" (defArgs s_sure_apart) (defBody s_sure_apart) (defScope s_sure_apart) .none kV_sure_apart dc_sure_apart pm_sure_apart an_sure_apart cd_sure_apart ct_sure_apart, f_sure_met, PySem.W.fnOf "sure_met" "sure_met" (defArgs s_sure_met) (defBody s_sure_met) (defScope s_sure_met) .none kV_sure_met dc_sure_met pm_sure_met an_sure_met cd_sure_met ct_sure_met, f_factor_of, PySem.W.fnOf "factor_of" "factor_of" (defArgs s_factor_of) (defBody s_factor_of) (defScope s_factor_of) .none kV_factor_of dc_factor_of pm_factor_of an_factor_of cd_factor_of ct_factor_of, f_web_of, PySem.W.fnOf "web_of" "web_of" (defArgs s_web_of) (defBody s_web_of) (defScope s_web_of) .none kV_web_of dc_web_of pm_web_of an_web_of cd_web_of ct_web_of, f_told_web, PySem.W.fnOf "told_web" "told_web" (defArgs s_told_web) (defBody s_told_web) (defScope s_told_web) .none kV_told_web dc_told_web pm_told_web an_told_web cd_told_web ct_told_web, f__law_asked_right, PySem.W.fnOf "_law_asked_right" "_law_asked_right" (defArgs s__law_asked_right) (defBody s__law_asked_right) (defScope s__law_asked_right) .none kV__law_asked_right dc__law_asked_right pm__law_asked_right an__law_asked_right cd__law_asked_right ct__law_asked_right, f__law_pot, PySem.W.fnOf "_law_pot" "_law_pot" (defArgs s__law_pot) (defBody s__law_pot) (defScope s__law_pot) .none kV__law_pot dc__law_pot pm__law_pot an__law_pot cd__law_pot ct__law_pot, f__law_web, PySem.W.fnOf "_law_web" "_law_web" (defArgs s__law_web) (defBody s__law_web) (defScope s__law_web) .none kV__law_web dc__law_web pm__law_web an__law_web cd__law_web ct__law_web, fa, PySem.W.fnOf "law" "law" (defArgs s_law) (defBody s_law) (defScope s_law) .none kV_law dc_law pm_law an_law cd_law ct_law, f_Grown___init__, PySem.W.fnOf "__init__" "Grown.__init__" (defArgs s_Grown___init__) (defBody s_Grown___init__) (defScope s_Grown___init__) .none kV_Grown___init__ dc_Grown___init__ pm_Grown___init__ an_Grown___init__ cd_Grown___init__ ct_Grown___init__, f_Grown_steps, PySem.W.fnOf "steps" "Grown.steps" (defArgs s_Grown_steps) (defBody s_Grown_steps) (defScope s_Grown_steps) .none kV_Grown_steps dc_Grown_steps pm_Grown_steps an_Grown_steps cd_Grown_steps ct_Grown_steps, f_Grown_rest, PySem.W.fnOf "rest" "Grown.rest" (defArgs s_Grown_rest) (defBody s_Grown_rest) (defScope s_Grown_rest) .none kV_Grown_rest dc_Grown_rest pm_Grown_rest an_Grown_rest cd_Grown_rest ct_Grown_rest, f_Grown_most, PySem.W.fnOf "most" "Grown.most" (defArgs s_Grown_most) (defBody s_Grown_most) (defScope s_Grown_most) .none kV_Grown_most dc_Grown_most pm_Grown_most an_Grown_most cd_Grown_most ct_Grown_most, f_Grown_many, PySem.W.fnOf "many" "Grown.many" (defArgs s_Grown_many) (defBody s_Grown_many) (defScope s_Grown_many) .none kV_Grown_many dc_Grown_many pm_Grown_many an_Grown_many cd_Grown_many ct_Grown_many, f_Grown_first, PySem.W.fnOf "first" "Grown.first" (defArgs s_Grown_first) (defBody s_Grown_first) (defScope s_Grown_first) .none kV_Grown_first dc_Grown_first pm_Grown_first an_Grown_first cd_Grown_first ct_Grown_first⟩
  have T : Txt K mg A := ⟨PySem.W.mg_none_of X G z_int,
    PySem.W.mg_none_of X G z_max,
    PySem.W.mg_none_of X G z_len,
    PySem.W.mg_none_of X G z_abs,
    PySem.W.mg_none_of X G z_divmod,
    PySem.W.mg_none_of X G z_range,
    PySem.W.mg_none_of X G z_min,
    PySem.W.mg_none_of X G z_sorted,
    PySem.W.mg_none_of X G z_tuple,
    PySem.W.mg_none_of X G z_zip,
    PySem.W.mg_none_of X G z_enumerate,
    PySem.W.mg_none_of X G z_any,
    PySem.W.mg_none_of X G z_isinstance,
    PySem.W.mg_none_of X G z_all,
    PySem.W.mg_none_of X G z_bool,
    PySem.W.mg_none_of X G z_str,
    PySem.W.mg_none_of X G z_sum,
    PySem.W.mg_none_of X G z_list,
    PySem.W.mg_of X G z_gcd,
    ⟨_, PySem.W.mg_of X G q_WEB⟩,
    ⟨_, PySem.W.mg_of X G q_MOST_TOLD⟩,
    ⟨_, PySem.W.mg_of X G q_MOST_PERSONS⟩,
    ⟨_, PySem.W.mg_of X G q_MOST_COUNT⟩,
    F_later_of,
    PySem.W.mg_of X G a_later_of,
    k_later_of,
    B_later_of,
    F_choices_of,
    PySem.W.mg_of X G a_choices_of,
    k_choices_of,
    B_choices_of,
    F_taken,
    PySem.W.mg_of X G a_taken,
    k_taken,
    B_taken,
    F__law_all_pairs,
    PySem.W.mg_of X G a__law_all_pairs,
    k__law_all_pairs,
    B__law_all_pairs,
    F__law_draw,
    PySem.W.mg_of X G a__law_draw,
    k__law_draw,
    B__law_draw,
    F__law_pick,
    PySem.W.mg_of X G a__law_pick,
    k__law_pick,
    B__law_pick,
    F_all_pairs,
    PySem.W.mg_of X G a_all_pairs,
    k_all_pairs,
    B_all_pairs,
    F_counts_in,
    PySem.W.mg_of X G a_counts_in,
    k_counts_in,
    B_counts_in,
    F_left_of,
    PySem.W.mg_of X G a_left_of,
    k_left_of,
    B_left_of,
    F_loose_of,
    PySem.W.mg_of X G a_loose_of,
    k_loose_of,
    B_loose_of,
    F_many_of,
    PySem.W.mg_of X G a_many_of,
    k_many_of,
    B_many_of,
    F_over_told,
    PySem.W.mg_of X G a_over_told,
    k_over_told,
    B_over_told,
    F_many_with,
    PySem.W.mg_of X G a_many_with,
    k_many_with,
    B_many_with,
    F_counted,
    PySem.W.mg_of X G a_counted,
    k_counted,
    B_counted,
    F_want_few,
    PySem.W.mg_of X G a_want_few,
    k_want_few,
    B_want_few,
    F_is_tuple,
    PySem.W.mg_of X G a_is_tuple,
    k_is_tuple,
    B_is_tuple,
    F_is_integer,
    PySem.W.mg_of X G a_is_integer,
    k_is_integer,
    B_is_integer,
    F_is_within,
    PySem.W.mg_of X G a_is_within,
    k_is_within,
    B_is_within,
    F_is_pair_of,
    PySem.W.mg_of X G a_is_pair_of,
    k_is_pair_of,
    B_is_pair_of,
    F_are_pairs_of,
    PySem.W.mg_of X G a_are_pairs_of,
    k_are_pairs_of,
    B_are_pairs_of,
    F_is_list_value,
    PySem.W.mg_of X G a_is_list_value,
    k_is_list_value,
    B_is_list_value,
    F_want_list,
    PySem.W.mg_of X G a_want_list,
    k_want_list,
    B_want_list,
    F_want_told,
    PySem.W.mg_of X G a_want_told,
    k_want_told,
    B_want_told,
    F_with_more,
    PySem.W.mg_of X G a_with_more,
    k_with_more,
    B_with_more,
    F_best_asks,
    PySem.W.mg_of X G a_best_asks,
    k_best_asks,
    B_best_asks,
    F_is_web_value,
    PySem.W.mg_of X G a_is_web_value,
    k_is_web_value,
    B_is_web_value,
    F_want_web,
    PySem.W.mg_of X G a_want_web,
    k_want_web,
    B_want_web,
    F_counts_of,
    PySem.W.mg_of X G a_counts_of,
    k_counts_of,
    B_counts_of,
    F_as_told,
    PySem.W.mg_of X G a_as_told,
    k_as_told,
    B_as_told,
    F_is_key_of,
    PySem.W.mg_of X G a_is_key_of,
    k_is_key_of,
    B_is_key_of,
    F_want_pairs,
    PySem.W.mg_of X G a_want_pairs,
    k_want_pairs,
    B_want_pairs,
    F_is_key,
    PySem.W.mg_of X G a_is_key,
    k_is_key,
    B_is_key,
    F_many_told,
    PySem.W.mg_of X G a_many_told,
    k_many_told,
    B_many_told,
    F_other_web,
    PySem.W.mg_of X G a_other_web,
    k_other_web,
    B_other_web,
    F_part_of,
    PySem.W.mg_of X G a_part_of,
    k_part_of,
    B_part_of,
    F_share_of,
    PySem.W.mg_of X G a_share_of,
    k_share_of,
    B_share_of,
    F_want_pair,
    PySem.W.mg_of X G a_want_pair,
    k_want_pair,
    B_want_pair,
    F_share,
    PySem.W.mg_of X G a_share,
    k_share,
    B_share,
    F_sure_apart,
    PySem.W.mg_of X G a_sure_apart,
    k_sure_apart,
    B_sure_apart,
    F_sure_met,
    PySem.W.mg_of X G a_sure_met,
    k_sure_met,
    B_sure_met,
    F_factor_of,
    PySem.W.mg_of X G a_factor_of,
    k_factor_of,
    B_factor_of,
    F_web_of,
    PySem.W.mg_of X G a_web_of,
    k_web_of,
    B_web_of,
    F_told_web,
    PySem.W.mg_of X G a_told_web,
    k_told_web,
    B_told_web,
    F__law_asked_right,
    PySem.W.mg_of X G a__law_asked_right,
    k__law_asked_right,
    B__law_asked_right,
    F__law_pot,
    PySem.W.mg_of X G a__law_pot,
    k__law_pot,
    B__law_pot,
    F__law_web,
    PySem.W.mg_of X G a__law_web,
    k__law_web,
    B__law_web,
    F_law,
    PySem.W.mg_of X G a_law,
    k_law,
    B_law,
    C_Grown,
    ⟨mk, a_Grown___init__, i_Grown___init__, kc⟩,
    PySem.W.mg_of X G aC,
    n_own_later,
    n_own_begin,
    n_own_most,
    n_own_many,
    F_Grown___init__,
    B_Grown___init__,
    F_Grown_steps,
    B_Grown_steps,
    ⟨a_Grown_steps, i_Grown_steps, k_Grown_steps⟩,
    F_Grown_rest,
    B_Grown_rest,
    ⟨a_Grown_rest, i_Grown_rest, k_Grown_rest⟩,
    F_Grown_most,
    B_Grown_most,
    ⟨a_Grown_most, i_Grown_most, k_Grown_most⟩,
    F_Grown_many,
    B_Grown_many,
    ⟨a_Grown_many, i_Grown_many, k_Grown_many⟩,
    F_Grown_first,
    B_Grown_first,
    ⟨a_Grown_first, i_Grown_first, k_Grown_first⟩⟩
  exact ⟨_, fun s v => .of_eq rfl, fun base _ _ => fn_law T⟩
theorem walk {l : PySem.W.OpenLaw} {q : Program} {loose : List Str} {XP : (Str → Option Value) → Heap → Prop} {YP : World → Heap → Prop} {d : DefRec} {K : Params → PySem.W.Frag} (hn : l.most = some 63) (hdf : d.params.defaults = [])
    (hY : ∀ (w : World) (h : Heap), YP w h → (K w.params).In h)
    (F : ∀ (w : World) (mg : Str → Option Value) (fa : Addr) (h : Heap), (K w.params).In h → h.Ns mainGlobals mg → mg d.name = some (.ref fa) →
      ∃ fd : FuncData, (∀ (s : Shared) (u : Value), BindsTo s fd ⟨[u], []⟩ [("script", u)]) ∧ ∀ base : Heap, (K w.params).In base → base.Ns mainGlobals mg → FnOk l.prog w (K w.params) mg base CX0 20 fa fd ["script"] (spLaw (K w.params))) :
    PySem.W.WalkO q loose XP YP l.row.toRowW d [] (fun f vs => PySem.call f vs) :=
  L2.walk_of (n := 63) (k := 20) (x := "script") (CX := fun _ => CX0) (sp := fun w => spLaw (K w.params)) hn (by decide) hdf ⟨rfl, by decide, by decide⟩ hY F (fun _ _ a ns hl _ hS => ⟨a, ns, rfl, hS, hl, fun _ => rfl⟩) fun _ _ _ _ _ z => z
end HM
open PySem PySem.W PyProof.Rows
set_option maxRecDepth 100000 in
set_option maxHeartbeats 0 in
theorem PySem.Challenge.cw_howmanymet_k58_whole_asks_until_one_web_holds : PySem.Challenge.rw_howmanymet_k58_whole_asks_until_one_web.Holds := by
  w_on; o_law; k_head; (case hw => w_witness2)
  k_fill
  refine HM.walk (l := PySem.Challenge.rw_howmanymet_k58_whole_asks_until_one_web) rfl rfl (fun w h Y => PySem.W.kIn_of Y) ?F
  case F =>
    intro w mg fa h KX G hmg
    refine' HM.all_mk KX G hmg ?aC ?z_int ?z_max ?z_len ?z_abs ?z_divmod ?z_range ?z_min ?z_sorted ?z_tuple ?z_zip ?z_enumerate ?z_any ?z_isinstance ?z_all ?z_bool ?z_str ?z_sum ?z_list ?z_gcd ?q_WEB ?q_MOST_TOLD ?q_MOST_PERSONS ?q_MOST_COUNT ?a_later_of ?l_later_of ?c_later_of ?k_later_of ?a_choices_of ?l_choices_of ?c_choices_of ?k_choices_of ?a_taken ?l_taken ?c_taken ?k_taken ?a__law_all_pairs ?l__law_all_pairs ?c__law_all_pairs ?k__law_all_pairs ?a__law_draw ?l__law_draw ?c__law_draw ?k__law_draw ?a__law_pick ?l__law_pick ?c__law_pick ?k__law_pick ?a_all_pairs ?l_all_pairs ?c_all_pairs ?k_all_pairs ?a_counts_in ?l_counts_in ?c_counts_in ?k_counts_in ?a_left_of ?l_left_of ?c_left_of ?k_left_of ?a_loose_of ?l_loose_of ?c_loose_of ?k_loose_of ?a_many_of ?l_many_of ?c_many_of ?k_many_of ?a_over_told ?l_over_told ?c_over_told ?k_over_told ?a_many_with ?l_many_with ?c_many_with ?k_many_with ?a_counted ?l_counted ?c_counted ?k_counted ?a_want_few ?l_want_few ?c_want_few ?k_want_few ?a_is_tuple ?l_is_tuple ?c_is_tuple ?k_is_tuple ?a_is_integer ?l_is_integer ?c_is_integer ?k_is_integer ?a_is_within ?l_is_within ?c_is_within ?k_is_within ?a_is_pair_of ?l_is_pair_of ?c_is_pair_of ?k_is_pair_of ?a_are_pairs_of ?l_are_pairs_of ?c_are_pairs_of ?k_are_pairs_of ?a_is_list_value ?l_is_list_value ?c_is_list_value ?k_is_list_value ?a_want_list ?l_want_list ?c_want_list ?k_want_list ?a_want_told ?l_want_told ?c_want_told ?k_want_told ?a_with_more ?l_with_more ?c_with_more ?k_with_more ?a_best_asks ?l_best_asks ?c_best_asks ?k_best_asks ?a_is_web_value ?l_is_web_value ?c_is_web_value ?k_is_web_value ?a_want_web ?l_want_web ?c_want_web ?k_want_web ?a_counts_of ?l_counts_of ?c_counts_of ?k_counts_of ?a_as_told ?l_as_told ?c_as_told ?k_as_told ?a_is_key_of ?l_is_key_of ?c_is_key_of ?k_is_key_of ?a_want_pairs ?l_want_pairs ?c_want_pairs ?k_want_pairs ?a_is_key ?l_is_key ?c_is_key ?k_is_key ?a_many_told ?l_many_told ?c_many_told ?k_many_told ?a_other_web ?l_other_web ?c_other_web ?k_other_web ?a_part_of ?l_part_of ?c_part_of ?k_part_of ?a_share_of ?l_share_of ?c_share_of ?k_share_of ?a_want_pair ?l_want_pair ?c_want_pair ?k_want_pair ?a_share ?l_share ?c_share ?k_share ?a_sure_apart ?l_sure_apart ?c_sure_apart ?k_sure_apart ?a_sure_met ?l_sure_met ?c_sure_met ?k_sure_met ?a_factor_of ?l_factor_of ?c_factor_of ?k_factor_of ?a_web_of ?l_web_of ?c_web_of ?k_web_of ?a_told_web ?l_told_web ?c_told_web ?k_told_web ?a__law_asked_right ?l__law_asked_right ?c__law_asked_right ?k__law_asked_right ?a__law_pot ?l__law_pot ?c__law_pot ?k__law_pot ?a__law_web ?l__law_web ?c__law_web ?k__law_web ?a_law ?l_law ?c_law ?k_law ?a_Grown___init__ ?i_Grown___init__ ?l_Grown___init__ ?c_Grown___init__ ?k_Grown___init__ ?a_Grown_steps ?i_Grown_steps ?l_Grown_steps ?c_Grown_steps ?k_Grown_steps ?a_Grown_rest ?i_Grown_rest ?l_Grown_rest ?c_Grown_rest ?k_Grown_rest ?a_Grown_most ?i_Grown_most ?l_Grown_most ?c_Grown_most ?k_Grown_most ?a_Grown_many ?i_Grown_many ?l_Grown_many ?c_Grown_many ?k_Grown_many ?a_Grown_first ?i_Grown_first ?l_Grown_first ?c_Grown_first ?k_Grown_first ?pg ?hdi ?po ?sa ?mk ?kc ?n_own_later ?n_own_begin ?n_own_most ?n_own_many
    (case aC => k_is); (case z_int => k_is); (case z_max => k_is); (case z_len => k_is); (case z_abs => k_is); (case z_divmod => k_is)
    (case z_range => k_is); (case z_min => k_is); (case z_sorted => k_is); (case z_tuple => k_is); (case z_zip => k_is); (case z_enumerate => k_is)
    (case z_any => k_is); (case z_isinstance => k_is); (case z_all => k_is); (case z_bool => k_is); (case z_str => k_is); (case z_sum => k_is)
    (case z_list => k_is); (case z_gcd => k_is); (case q_WEB => k_is); (case q_MOST_TOLD => k_is); (case q_MOST_PERSONS => k_is); (case q_MOST_COUNT => k_is)
    (case a_later_of => k_is); (case l_later_of => k_is); (case c_later_of => k_is); (case k_later_of => k_is); (case a_choices_of => k_is); (case l_choices_of => k_is)
    (case c_choices_of => k_is); (case k_choices_of => k_is); (case a_taken => k_is); (case l_taken => k_is); (case c_taken => k_is); (case k_taken => k_is)
    (case a__law_all_pairs => k_is); (case l__law_all_pairs => k_is); (case c__law_all_pairs => k_is); (case k__law_all_pairs => k_is); (case a__law_draw => k_is); (case l__law_draw => k_is)
    (case c__law_draw => k_is); (case k__law_draw => k_is); (case a__law_pick => k_is); (case l__law_pick => k_is); (case c__law_pick => k_is); (case k__law_pick => k_is)
    (case a_all_pairs => k_is); (case l_all_pairs => k_is); (case c_all_pairs => k_is); (case k_all_pairs => k_is); (case a_counts_in => k_is); (case l_counts_in => k_is)
    (case c_counts_in => k_is); (case k_counts_in => k_is); (case a_left_of => k_is); (case l_left_of => k_is); (case c_left_of => k_is); (case k_left_of => k_is)
    (case a_loose_of => k_is); (case l_loose_of => k_is); (case c_loose_of => k_is); (case k_loose_of => k_is); (case a_many_of => k_is); (case l_many_of => k_is)
    (case c_many_of => k_is); (case k_many_of => k_is); (case a_over_told => k_is); (case l_over_told => k_is); (case c_over_told => k_is); (case k_over_told => k_is)
    (case a_many_with => k_is); (case l_many_with => k_is); (case c_many_with => k_is); (case k_many_with => k_is); (case a_counted => k_is); (case l_counted => k_is)
    (case c_counted => k_is); (case k_counted => k_is); (case a_want_few => k_is); (case l_want_few => k_is); (case c_want_few => k_is); (case k_want_few => k_is)
    (case a_is_tuple => k_is); (case l_is_tuple => k_is); (case c_is_tuple => k_is); (case k_is_tuple => k_is); (case a_is_integer => k_is); (case l_is_integer => k_is)
    (case c_is_integer => k_is); (case k_is_integer => k_is); (case a_is_within => k_is); (case l_is_within => k_is); (case c_is_within => k_is); (case k_is_within => k_is)
    (case a_is_pair_of => k_is); (case l_is_pair_of => k_is); (case c_is_pair_of => k_is); (case k_is_pair_of => k_is); (case a_are_pairs_of => k_is); (case l_are_pairs_of => k_is)
    (case c_are_pairs_of => k_is); (case k_are_pairs_of => k_is); (case a_is_list_value => k_is); (case l_is_list_value => k_is); (case c_is_list_value => k_is); (case k_is_list_value => k_is)
    (case a_want_list => k_is); (case l_want_list => k_is); (case c_want_list => k_is); (case k_want_list => k_is); (case a_want_told => k_is); (case l_want_told => k_is)
    (case c_want_told => k_is); (case k_want_told => k_is); (case a_with_more => k_is); (case l_with_more => k_is); (case c_with_more => k_is); (case k_with_more => k_is)
    (case a_best_asks => k_is); (case l_best_asks => k_is); (case c_best_asks => k_is); (case k_best_asks => k_is); (case a_is_web_value => k_is); (case l_is_web_value => k_is)
    (case c_is_web_value => k_is); (case k_is_web_value => k_is); (case a_want_web => k_is); (case l_want_web => k_is); (case c_want_web => k_is); (case k_want_web => k_is)
    (case a_counts_of => k_is); (case l_counts_of => k_is); (case c_counts_of => k_is); (case k_counts_of => k_is); (case a_as_told => k_is); (case l_as_told => k_is)
    (case c_as_told => k_is); (case k_as_told => k_is); (case a_is_key_of => k_is); (case l_is_key_of => k_is); (case c_is_key_of => k_is); (case k_is_key_of => k_is)
    (case a_want_pairs => k_is); (case l_want_pairs => k_is); (case c_want_pairs => k_is); (case k_want_pairs => k_is); (case a_is_key => k_is); (case l_is_key => k_is)
    (case c_is_key => k_is); (case k_is_key => k_is); (case a_many_told => k_is); (case l_many_told => k_is); (case c_many_told => k_is); (case k_many_told => k_is)
    (case a_other_web => k_is); (case l_other_web => k_is); (case c_other_web => k_is); (case k_other_web => k_is); (case a_part_of => k_is); (case l_part_of => k_is)
    (case c_part_of => k_is); (case k_part_of => k_is); (case a_share_of => k_is); (case l_share_of => k_is); (case c_share_of => k_is); (case k_share_of => k_is)
    (case a_want_pair => k_is); (case l_want_pair => k_is); (case c_want_pair => k_is); (case k_want_pair => k_is); (case a_share => k_is); (case l_share => k_is)
    (case c_share => k_is); (case k_share => k_is); (case a_sure_apart => k_is); (case l_sure_apart => k_is); (case c_sure_apart => k_is); (case k_sure_apart => k_is)
    (case a_sure_met => k_is); (case l_sure_met => k_is); (case c_sure_met => k_is); (case k_sure_met => k_is); (case a_factor_of => k_is); (case l_factor_of => k_is)
    (case c_factor_of => k_is); (case k_factor_of => k_is); (case a_web_of => k_is); (case l_web_of => k_is); (case c_web_of => k_is); (case k_web_of => k_is)
    (case a_told_web => k_is); (case l_told_web => k_is); (case c_told_web => k_is); (case k_told_web => k_is); (case a__law_asked_right => k_is); (case l__law_asked_right => k_is)
    (case c__law_asked_right => k_is); (case k__law_asked_right => k_is); (case a__law_pot => k_is); (case l__law_pot => k_is); (case c__law_pot => k_is); (case k__law_pot => k_is)
    (case a__law_web => k_is); (case l__law_web => k_is); (case c__law_web => k_is); (case k__law_web => k_is); (case a_law => k_is); (case l_law => k_is)
    (case c_law => k_is); (case k_law => k_is); (case a_Grown___init__ => k_is); (case i_Grown___init__ => k_is); (case l_Grown___init__ => k_is); (case c_Grown___init__ => k_is)
    (case k_Grown___init__ => k_is); (case a_Grown_steps => k_is); (case i_Grown_steps => k_is); (case l_Grown_steps => k_is); (case c_Grown_steps => k_is); (case k_Grown_steps => k_is)
    (case a_Grown_rest => k_is); (case i_Grown_rest => k_is); (case l_Grown_rest => k_is); (case c_Grown_rest => k_is); (case k_Grown_rest => k_is); (case a_Grown_most => k_is)
    (case i_Grown_most => k_is); (case l_Grown_most => k_is); (case c_Grown_most => k_is); (case k_Grown_most => k_is); (case a_Grown_many => k_is); (case i_Grown_many => k_is)
    (case l_Grown_many => k_is); (case c_Grown_many => k_is); (case k_Grown_many => k_is); (case a_Grown_first => k_is); (case i_Grown_first => k_is); (case l_Grown_first => k_is)
    (case c_Grown_first => k_is); (case k_Grown_first => k_is); (case pg => k_is); (case hdi => k_is); (case po => k_is); (case sa => k_is)
    (case mk => k_is); (case kc => k_is); (case n_own_later => k_is); (case n_own_begin => k_is); (case n_own_most => k_is); (case n_own_many => k_is)

