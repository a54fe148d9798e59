import PyProof.Rows.All
import HandS.ForMost
import HandS.AnyAll
import HandS.TupAny
import HandS.IsInst
import HandS.Deep
import HandS.TupMul
import HandS.TupLe
import KE.LtData
import KE.DataCmp
import HandS.SortInts
import HandS.Conv
import HandS.Zip
import HandS.Rev
import HandS.RevRange
import HandS.Comp
import HandS.More
import HandS.Gcd
import HandS.Style
import KE.DataMinMax
import PyProof.Rows.RowBridgeK
import PySem.Challenge.RW_breadward_k44_whole_portions_and_mirrors
set_option linter.all false
section
set_option Elab.async false
set_option maxRecDepth 100000
/-! EL base: data, what stands for data in an abstract heap, slots. -/
namespace EL
open PySem PySem.Spec PyProof.Rows L2

/-- plain data -/
inductive Dt where
  | non | bl (b : Bool) | int (i : Int) | str (s : Str) | tup (xs : List Dt) | lst (xs : List Dt) | scr (ns : List Int)
  deriving Inhabited

abbrev NoW : Addr → Prop := fun _ => False

/-- the script: locked, or of the written part -/
def Scr (K : PySem.W.Frag) (H : Hp) (a : Addr) (ns : List Int) : Prop :=
  (∃ o, H a = some (.frz o (.lst (ns.map V.int)))) ∨
  ∃ (o : Obj) (its : Array Value) (n : Nat), K.lookup a = some o ∧ o.cls = .type "list" ∧ o.dict = none ∧ o.data = .seq its n ∧ its.size ≤ sizeLine ∧ Vals (ns.map V.int) its.toList
theorem Scr.sq {K : PySem.W.Frag} {H : Hp} {a : Addr} {ns : List Int} (h : Scr K H a ns) : SqL K H a (ns.map V.int) := by
  rcases h with ⟨o, h⟩ | h
  · exact .inl (.inr ⟨o, h⟩)
  · exact .inr h

mutual
/-- v stands for d; the lists that it goes through are none of W -/
inductive Rep (K : PySem.W.Frag) (H : Hp) (W : Addr → Prop) : V → Dt → Prop
  | non : Rep K H W .non .non
  | bl (b : Bool) : Rep K H W (.bl b) (.bl b)
  | int (i : Int) : Rep K H W (.int i) (.int i)
  | str (x : Str) : Rep K H W (.str x) (.str x)
  | tup {a : Addr} {xs : List V} {ds : List Dt} : H a = some (.tup xs) → RepA K H W xs ds → Rep K H W (.ref a) (.tup ds)
  | lst {a : Addr} {xs : List V} {ds : List Dt} : H a = some (.lst xs) → ¬ W a → RepA K H W xs ds → Rep K H W (.ref a) (.lst ds)
  | scr {a : Addr} {ns : List Int} : Scr K H a ns → Rep K H W (.ref a) (.scr ns)
inductive RepA (K : PySem.W.Frag) (H : Hp) (W : Addr → Prop) : List V → List Dt → Prop
  | nil : RepA K H W [] []
  | cons {v : V} {d : Dt} {vs : List V} {ds : List Dt} : Rep K H W v d → RepA K H W vs ds → RepA K H W (v :: vs) (d :: ds)
end

def nt : HO → Bool
  | .tbl _ => false
  | _ => true
/-- all that stood stands (tables of code objects may grow) -/
structure Ext (H H' : Hp) : Prop where
  keep : ∀ b o, H b = some o → nt o = true → H' b = some o
  there : ∀ b, H' b = none → H b = none
theorem Ext.refl (H : Hp) : Ext H H := ⟨fun _ _ h _ => h, fun _ h => h⟩
theorem Ext.trans {H H1 H2 : Hp} (a : Ext H H1) (b : Ext H1 H2) : Ext H H2 := ⟨fun c o h n => b.keep c o (a.keep c o h n) n, fun c h => a.there c (b.there c h)⟩
theorem Ext.new {H : Hp} {p : Addr} {o : HO} (h : H p = none) : Ext H (upd H p o) := ⟨fun b u e _ => by
  rw [upd_ne (ne_of_none e h)]; exact e, fun b e => by
  by_cases hb : b = p
  · rw [hb]; exact h
  · rw [upd_ne hb] at e; exact e⟩

/-- lists outside W, tuples and what is locked stand as they stood -/
structure KeepW (W : Addr → Prop) (H H' : Hp) : Prop where
  tup : ∀ b xs, H b = some (.tup xs) → H' b = some (.tup xs)
  frz : ∀ b o u, H b = some (.frz o u) → H' b = some (.frz o u)
  lst : ∀ b xs, H b = some (.lst xs) → ¬ W b → H' b = some (.lst xs)
theorem Ext.kw {W : Addr → Prop} {H H' : Hp} (e : Ext H H') : KeepW W H H' := ⟨fun b xs h => e.keep b _ h rfl, fun b o u h => e.keep b _ h rfl, fun b xs h _ => e.keep b _ h rfl⟩
/-- a list of W is changed -/
theorem KeepW.set {W : Addr → Prop} {H : Hp} {p : Addr} {o : HO} {vs : List V} (h : H p = some (.lst vs)) (w : W p) : KeepW W H (upd H p o) :=
  ⟨fun b xs e => by rw [upd_ne (ne_of e h (fun z => by cases z))]; exact e, fun b o u e => by rw [upd_ne (ne_of e h (fun z => by cases z))]; exact e,
   fun b xs e n => by rw [upd_ne (fun z => n (by rw [z]; exact w))]; exact e⟩

section
variable {K : PySem.W.Frag} {H H' : Hp} {W W' : Addr → Prop}
theorem Scr.keep {a : Addr} {ns : List Int} (k : KeepW W H H') (h : Scr K H a ns) : Scr K H' a ns := by
  rcases h with ⟨o, h⟩ | h
  · exact .inl ⟨o, k.frz _ _ _ h⟩
  · exact .inr h
mutual
theorem Rep.keep (k : KeepW W H H') (hw : ∀ a xs, H a = some (.lst xs) → W' a → W a) : ∀ {v : V} {d : Dt}, Rep K H W v d → Rep K H' W' v d
  | _, _, .non => .non
  | _, _, .bl b => .bl b
  | _, _, .int i => .int i
  | _, _, .str x => .str x
  | _, _, .tup h r => .tup (k.tup _ _ h) (RepA.keep k hw r)
  | _, _, .lst h n r => .lst (k.lst _ _ h n) (fun z => n (hw _ _ h z)) (RepA.keep k hw r)
  | _, _, .scr h => .scr (h.keep k)
theorem RepA.keep (k : KeepW W H H') (hw : ∀ a xs, H a = some (.lst xs) → W' a → W a) : ∀ {vs : List V} {ds : List Dt}, RepA K H W vs ds → RepA K H' W' vs ds
  | _, _, .nil => .nil
  | _, _, .cons h r => .cons (Rep.keep k hw h) (RepA.keep k hw r)
end
theorem Rep.ext {v : V} {d : Dt} (h : Rep K H W v d) (e : Ext H H') : Rep K H' W v d := h.keep e.kw fun _ _ _ z => z
theorem RepA.ext {vs : List V} {ds : List Dt} (h : RepA K H W vs ds) (e : Ext H H') : RepA K H' W vs ds := h.keep e.kw fun _ _ _ z => z
theorem Rep.sub {v : V} {d : Dt} (h : Rep K H W v d) (hw : ∀ a xs, H a = some (.lst xs) → W' a → W a) : Rep K H W' v d := h.keep (Ext.refl H).kw hw
theorem RepA.sub {vs : List V} {ds : List Dt} (h : RepA K H W vs ds) (hw : ∀ a xs, H a = some (.lst xs) → W' a → W a) : RepA K H W' vs ds := h.keep (Ext.refl H).kw hw
theorem Rep.loose {v : V} {d : Dt} (h : Rep K H W v d) : Rep K H NoW v d := h.sub fun _ _ _ z => z.elim
theorem RepA.loose {vs : List V} {ds : List Dt} (h : RepA K H W vs ds) : RepA K H NoW vs ds := h.sub fun _ _ _ z => z.elim
theorem RepA.newp {p : Addr} {o : HO} {vs : List V} {ds : List Dt} (h : RepA K H W vs ds) (hp : H p = none) : RepA K (upd H p o) (fun a => W a ∨ a = p) vs ds := h.keep (Ext.new hp).kw fun a xs e z => by
  rcases z with z | z
  · exact z
  · rw [z, hp] at e; cases e
theorem RepA.length : ∀ {vs : List V} {ds : List Dt}, RepA K H W vs ds → vs.length = ds.length
  | _, _, .nil => rfl
  | _, _, .cons _ r => by rw [List.length_cons, List.length_cons, RepA.length r]
theorem RepA.get : ∀ {vs : List V} {ds : List Dt} {i : Nat} {d : Dt}, RepA K H W vs ds → ds[i]? = some d → ∃ v, vs[i]? = some v ∧ Rep K H W v d
  | _, _, _, _, .nil, e => by simp at e
  | _, _, 0, _, .cons h _, e => by simp at e; subst e; exact ⟨_, rfl, h⟩
  | _, _, i + 1, d, .cons _ r, e => by
    obtain ⟨v, h1, h2⟩ := RepA.get (i := i) (d := d) r (by simpa using e)
    exact ⟨v, by simpa using h1, h2⟩
theorem RepA.append : ∀ {vs ws : List V} {ds es : List Dt}, RepA K H W vs ds → RepA K H W ws es → RepA K H W (vs ++ ws) (ds ++ es)
  | _, _, _, _, .nil, s => s
  | _, _, _, _, .cons h r, s => .cons h (RepA.append r s)
theorem RepA.take : ∀ {vs : List V} {ds : List Dt} (n : Nat), RepA K H W vs ds → RepA K H W (vs.take n) (ds.take n)
  | _, _, 0, _ => .nil
  | _, _, _ + 1, .nil => .nil
  | _, _, n + 1, .cons h r => .cons h (RepA.take n r)
theorem RepA.drop : ∀ {vs : List V} {ds : List Dt} (n : Nat), RepA K H W vs ds → RepA K H W (vs.drop n) (ds.drop n)
  | _, _, 0, r => r
  | _, _, _ + 1, .nil => .nil
  | _, _, n + 1, .cons _ r => RepA.drop n r
theorem RepA.set {v : V} {d : Dt} (h : Rep K H W v d) : ∀ {vs : List V} {ds : List Dt} (i : Nat), RepA K H W vs ds → RepA K H W (vs.set i v) (ds.set i d)
  | _, _, _, .nil => .nil
  | _, _, 0, .cons _ r => .cons h r
  | _, _, i + 1, .cons q r => .cons q (RepA.set h i r)
theorem RepA.reverse {vs : List V} {ds : List Dt} (h : RepA K H W vs ds) : RepA K H W vs.reverse ds.reverse := by
  induction vs generalizing ds with
  | nil => cases h; exact .nil
  | cons v vs ih =>
    cases h with
    | cons h r =>
      rw [List.reverse_cons, List.reverse_cons]
      exact (ih r).append (.cons h .nil)
theorem RepA.one {v : V} {d : Dt} (h : Rep K H W v d) : RepA K H W [v] [d] := .cons h .nil
theorem RepA.ints : ∀ {vs : List V} {ns : List Int}, RepA K H W vs (ns.map Dt.int) → vs = ns.map V.int
  | _, [], h => by cases h; rfl
  | _, n :: ns, h => by
    cases h with
    | cons h r => cases h; rw [RepA.ints r]; rfl
theorem repA_ints : ∀ (ns : List Int), RepA K H W (ns.map V.int) (ns.map Dt.int)
  | [] => .nil
  | n :: ns => .cons (.int n) (repA_ints ns)
end

/-! data in which no list stands -/
mutual
def Dt.free : Dt → Bool
  | .tup xs => Dt.freeA xs
  | .lst _ => false
  | _ => true
def Dt.freeA : List Dt → Bool
  | [] => true
  | x :: xs => x.free && Dt.freeA xs
end
section
variable {K : PySem.W.Frag} {H : Hp} {W W' : Addr → Prop}
mutual
theorem Rep.free : ∀ {d : Dt} {v : V}, Rep K H W v d → d.free = true → Rep K H W' v d
  | _, _, .non, _ => .non
  | _, _, .bl b, _ => .bl b
  | _, _, .int i, _ => .int i
  | _, _, .str x, _ => .str x
  | _, _, .tup h r, e => .tup h (RepA.free r (by simpa [Dt.free] using e))
  | _, _, .lst h n r, e => by simp [Dt.free] at e
  | _, _, .scr h, _ => .scr h
theorem RepA.free : ∀ {ds : List Dt} {vs : List V}, RepA K H W vs ds → Dt.freeA ds = true → RepA K H W' vs ds
  | _, _, .nil, _ => .nil
  | _, _, .cons h r, e => by
    have e' := Bool.and_eq_true_iff.mp (show (_ && _) = true from by simpa [Dt.freeA] using e)
    exact .cons (Rep.free h e'.1) (RepA.free r e'.2)
end
end

/-- what holds of every heap here: no list or tuple is too long, the tables at T are there -/
def Gd (T : List Addr) (H : Hp) : Prop := (∀ a xs, H a = some (.lst xs) ∨ H a = some (.tup xs) → xs.length ≤ sizeLine) ∧ ∀ P ∈ T, GxR.TabG H P
section
variable {T : List Addr} {H : Hp} {p : Addr}
theorem Gd.put {o : HO} (g : Gd T H) (hp : ∀ ps, H p ≠ some (.tbl ps)) (ho : ∀ xs, o = .lst xs ∨ o = .tup xs → xs.length ≤ sizeLine) : Gd T (upd H p o) := by
  refine ⟨fun a xs h => ?_, fun P hP => ?_⟩
  · by_cases e : a = p
    · subst e
      rw [upd_same] at h
      refine ho xs ?_
      rcases h with h | h
      · exact .inl (Option.some.inj h)
      · exact .inr (Option.some.inj h)
    · rw [upd_ne e] at h
      exact g.1 a xs h
  · obtain ⟨ps, e, t⟩ := g.2 P hP
    refine ⟨ps, ?_, t⟩
    rw [upd_ne (fun z => by rw [z] at e; exact hp ps e)]
    exact e
theorem Gd.newL {xs : List V} (g : Gd T H) (hp : H p = none) (hx : xs.length ≤ sizeLine) : Gd T (upd H p (.lst xs)) := g.put (fun ps e => by rw [hp] at e; cases e) fun ys h => by
  rcases h with h | h
  · cases h; exact hx
  · cases h
theorem Gd.newT {xs : List V} (g : Gd T H) (hp : H p = none) (hx : xs.length ≤ sizeLine) : Gd T (upd H p (.tup xs)) := g.put (fun ps e => by rw [hp] at e; cases e) fun ys h => by
  rcases h with h | h
  · cases h
  · cases h; exact hx
theorem Gd.setL {xs ys : List V} (g : Gd T H) (hp : H p = some (.lst ys)) (hx : xs.length ≤ sizeLine) : Gd T (upd H p (.lst xs)) := g.put (fun ps e => by rw [hp] at e; cases e) fun ys h => by
  rcases h with h | h
  · cases h; exact hx
  · cases h
end

/-! ### slots -/
inductive Sl where
  | un | im (d : Dt) | ow (ds : List Dt)
  deriving Inhabited
abbrev Rho := List Sl
def getS : Rho → Nat → Sl
  | [], _ => .un
  | s :: _, 0 => s
  | _ :: r, n + 1 => getS r n
def setS : Rho → Nat → Sl → Rho
  | [], _, _ => []
  | _ :: r, 0, x => x :: r
  | s :: r, n + 1, x => s :: setS r n x
theorem setS_length : ∀ (ρ : Rho) (i : Nat) (x : Sl), (setS ρ i x).length = ρ.length
  | [], _, _ => rfl
  | _ :: _, 0, _ => rfl
  | _ :: r, n + 1, x => by show (setS r n x).length + 1 = r.length + 1; rw [setS_length r n x]
theorem getS_set_same : ∀ {ρ : Rho} {i : Nat} {x : Sl}, i < ρ.length → getS (setS ρ i x) i = x
  | [], _, _, h => by simp at h
  | _ :: _, 0, _, _ => rfl
  | _ :: r, n + 1, x, h => getS_set_same (ρ := r) (i := n) (by simpa using h)
theorem getS_set_ne : ∀ {ρ : Rho} {i j : Nat} {x : Sl}, j ≠ i → getS (setS ρ i x) j = getS ρ j
  | [], _, _, _, _ => rfl
  | _ :: _, 0, 0, _, h => absurd rfl h
  | _ :: _, 0, _ + 1, _, _ => rfl
  | _ :: _, _ + 1, 0, _, _ => rfl
  | _ :: r, n + 1, j + 1, x, h => getS_set_ne (ρ := r) (i := n) (j := j) (by omega)
theorem getS_out : ∀ {ρ : Rho} {i : Nat}, ρ.length ≤ i → getS ρ i = .un
  | [], _, _ => rfl
  | _ :: _, 0, h => by simp at h
  | _ :: r, n + 1, h => getS_out (ρ := r) (by simpa using h)
theorem getS_lt {ρ : Rho} {i : Nat} (h : getS ρ i ≠ .un) : i < ρ.length := by
  rcases Nat.lt_or_ge i ρ.length with q | q
  · exact q
  · exact absurd (getS_out q) h

/-- W and the owned lists -/
def Wd (W : Addr → Prop) (ρ : Rho) (σ : L2.St) : Addr → Prop := fun a => W a ∨ ∃ i ds, getS ρ i = .ow ds ∧ σ[i]? = some (some (.ref a))
/-- the slots stand for ρ -/
structure Rp (K : PySem.W.Frag) (H : Hp) (W : Addr → Prop) (ρ : Rho) (σ : L2.St) : Prop where
  len : ρ.length = σ.length
  im : ∀ i d, getS ρ i = .im d → ∃ v, σ[i]? = some (some v) ∧ Rep K H (Wd W ρ σ) v d
  ow : ∀ i ds, getS ρ i = .ow ds → ∃ a vs, σ[i]? = some (some (.ref a)) ∧ H a = some (.lst vs) ∧ ¬ W a ∧ RepA K H (Wd W ρ σ) vs ds
  inj : ∀ i j di dj a, getS ρ i = .ow di → getS ρ j = .ow dj → σ[i]? = some (some (.ref a)) → σ[j]? = some (some (.ref a)) → i = j
  wl : ∀ a, W a → ∃ xs, H a = some (.lst xs)
section
variable {K : PySem.W.Frag} {H H' : Hp} {W : Addr → Prop} {ρ : Rho} {σ : L2.St}
theorem Rp.ext (r : Rp K H W ρ σ) (e : Ext H H') : Rp K H' W ρ σ where
  len := r.len
  im := fun i d h => by obtain ⟨v, h1, h2⟩ := r.im i d h; exact ⟨v, h1, h2.ext e⟩
  ow := fun i ds h => by obtain ⟨a, vs, h1, h2, h3, h4⟩ := r.ow i ds h; exact ⟨a, vs, h1, e.keep _ _ h2 rfl, h3, h4.ext e⟩
  inj := r.inj
  wl := fun a h => by obtain ⟨xs, q⟩ := r.wl a h; exact ⟨xs, e.keep _ _ q rfl⟩
theorem Rp.wd (r : Rp K H W ρ σ) {a : Addr} (h : Wd W ρ σ a) : ∃ xs, H a = some (.lst xs) := by
  rcases h with h | ⟨i, ds, h1, h2⟩
  · exact r.wl a h
  · obtain ⟨b, vs, h3, h4, _⟩ := r.ow i ds h1
    rw [h2] at h3
    cases h3
    exact ⟨vs, h4⟩
/-- the set W with a new list D -/
theorem Rp.addW (r : Rp K H W ρ σ) {D : Addr} {zs : List V} (hD : H D = none) : Rp K (upd H D (.lst zs)) (fun a => W a ∨ a = D) ρ σ := by
  have e : Ext H (upd H D (.lst zs)) := Ext.new hD
  have sub : ∀ a xs, H a = some (.lst xs) → Wd (fun a => W a ∨ a = D) ρ σ a → Wd W ρ σ a := fun a xs h z => by
    rcases z with (z | z) | z
    · exact .inl z
    · rw [z, hD] at h; cases h
    · exact .inr z
  refine ⟨r.len, fun i d h => ?_, fun i ds h => ?_, r.inj, fun a h => ?_⟩
  · obtain ⟨v, h1, h2⟩ := r.im i d h
    exact ⟨v, h1, h2.keep e.kw sub⟩
  · obtain ⟨a, vs, h1, h2, h3, h4⟩ := r.ow i ds h
    refine ⟨a, vs, h1, e.keep _ _ h2 rfl, fun z => ?_, h4.keep e.kw sub⟩
    rcases z with z | z
    · exact h3 z
    · rw [z, hD] at h2; cases h2
  · rcases h with h | h
    · obtain ⟨xs, q⟩ := r.wl a h
      exact ⟨xs, e.keep _ _ q rfl⟩
    · exact ⟨zs, by rw [h, upd_same]⟩
end
/-- m: frozen for good (none of W, none of the owned ones); else borrowed -/
def wOf (m : Bool) (W : Addr → Prop) (ρ : Rho) (σ : L2.St) : Addr → Prop := fun a => m = true ∧ Wd W ρ σ a
theorem Rp.wo {K : PySem.W.Frag} {H : Hp} {W : Addr → Prop} {ρ : Rho} {σ : L2.St} (r : Rp K H W ρ σ) {m : Bool} {a : Addr} (h : wOf m W ρ σ a) : ∃ xs, H a = some (.lst xs) := r.wd h.2
theorem Rep.wo {K : PySem.W.Frag} {H : Hp} {W : Addr → Prop} {ρ : Rho} {σ : L2.St} {m : Bool} {v : V} {d : Dt} (h : Rep K H (Wd W ρ σ) v d) : Rep K H (wOf m W ρ σ) v d := h.sub fun _ _ _ z => z.2
theorem RepA.wo {K : PySem.W.Frag} {H : Hp} {W : Addr → Prop} {ρ : Rho} {σ : L2.St} {m : Bool} {v : List V} {d : List Dt} (h : RepA K H (Wd W ρ σ) v d) : RepA K H (wOf m W ρ σ) v d := h.sub fun _ _ _ z => z.2
theorem Rep.wt {K : PySem.W.Frag} {H : Hp} {W : Addr → Prop} {ρ : Rho} {σ : L2.St} {v : V} {d : Dt} (h : Rep K H (wOf true W ρ σ) v d) : Rep K H (Wd W ρ σ) v d := h.sub fun _ _ _ z => ⟨rfl, z⟩
theorem RepA.wt {K : PySem.W.Frag} {H : Hp} {W : Addr → Prop} {ρ : Rho} {σ : L2.St} {v : List V} {d : List Dt} (h : RepA K H (wOf true W ρ σ) v d) : RepA K H (Wd W ρ σ) v d := h.sub fun _ _ _ z => ⟨rfl, z⟩
end EL
end

section
set_option Elab.async false
set_option maxRecDepth 100000
/-! EL expressions: a reading and the function of the slots that it gives. -/
namespace EL
open PySem PySem.Spec PyProof.Rows L2

abbrev Fn := Rho → Option Dt
abbrev FnL := Rho → Option (List Dt)
abbrev FnB := Rho → Option Bool

/-- what is wanted of a value: it stands for d -/
def Sd (m : Bool) (T : List Addr) (K : PySem.W.Frag) (t : TE) (f : Fn) : Prop :=
  ∀ (W : Addr → Prop) (ρ : Rho) (σ : L2.St) (H : Hp) (d : Dt) (Q : VK), Gd T H → Rp K H W ρ σ → f ρ = some d →
    (∀ v H', Ext H H' → Gd T H' → Rep K H' (wOf m W ρ σ) v d → Q v H') → t σ H Q
/-- a new list -/
def SdF (T : List Addr) (K : PySem.W.Frag) (t : TE) (f : FnL) : Prop :=
  ∀ (W : Addr → Prop) (ρ : Rho) (σ : L2.St) (H : Hp) (ds : List Dt) (Q : VK), Gd T H → Rp K H W ρ σ → f ρ = some ds →
    (∀ p vs H', Ext H H' → Gd T H' → H p = none → H' p = some (.lst vs) → RepA K H' (fun a => Wd W ρ σ a ∨ a = p) vs ds → Q (.ref p) H') → t σ H Q
def SdA (m : Bool) (T : List Addr) (K : PySem.W.Frag) (t : TA) (f : FnL) : Prop :=
  ∀ (W : Addr → Prop) (ρ : Rho) (σ : L2.St) (H : Hp) (ds : List Dt) (Q : List V → Hp → Prop), Gd T H → Rp K H W ρ σ → f ρ = some ds →
    (∀ vs H', Ext H H' → Gd T H' → RepA K H' (wOf m W ρ σ) vs ds → Q vs H') → t σ H Q
def SdT (T : List Addr) (K : PySem.W.Frag) (t : TT) (f : FnB) : Prop :=
  ∀ (W : Addr → Prop) (ρ : Rho) (σ : L2.St) (H : Hp) (b : Bool) (Q : Bool → Hp → Prop), Gd T H → Rp K H W ρ σ → f ρ = some b →
    (∀ H', Ext H H' → Gd T H' → Q b H') → t σ H Q

structure DE (m : Bool) (T : List Addr) (K : PySem.W.Frag) (X : Cx) (e : Expr) (t : TE) (f : Fn) : Prop where
  pe : PE X e t
  sd : Sd m T K t f
structure DF (T : List Addr) (K : PySem.W.Frag) (X : Cx) (e : Expr) (t : TE) (f : FnL) : Prop where
  pe : PE X e t
  sd : SdF T K t f
structure DA (m : Bool) (T : List Addr) (K : PySem.W.Frag) (X : Cx) (es : List Expr) (t : TA) (f : FnL) : Prop where
  pa : PA X es t
  sd : SdA m T K t f
structure DT (T : List Addr) (K : PySem.W.Frag) (X : Cx) (e : Expr) (t : TT) (f : FnB) : Prop where
  pt : PT X e t
  sd : SdT T K t f
structure DW (T : List Addr) (K : PySem.W.Frag) (X : Cx) (e : Expr) (t : TT) (f : FnB) : Prop where
  pw : PW X e t
  sd : SdT T K t f

/-! ### functions of the slots -/
def fC (d : Dt) : Fn := fun _ => some d
def fV (i : Nat) : Fn := fun ρ => match getS ρ i with | .im d => some d | _ => none
def fVb (i : Nat) : Fn := fun ρ => match getS ρ i with | .im d => some d | .ow ds => some (.lst ds) | .un => none
def f1 (g : Dt → Option Dt) (a : Fn) : Fn := fun ρ => (a ρ).bind g
def f2 (g : Dt → Dt → Option Dt) (a b : Fn) : Fn := fun ρ => (a ρ).bind fun x => (b ρ).bind fun y => g x y
def fA0 : FnL := fun _ => some []
def fAc (a : Fn) (r : FnL) : FnL := fun ρ => (a ρ).bind fun x => (r ρ).bind fun xs => some (x :: xs)
def fN (g : List Dt → Option Dt) (a : FnL) : Fn := fun ρ => (a ρ).bind g
def fIf (c : FnB) (a b : Fn) : Fn := fun ρ => (c ρ).bind fun k => if k = true then a ρ else b ρ
def fIfL (c : FnB) (a b : FnL) : FnL := fun ρ => (c ρ).bind fun k => if k = true then a ρ else b ρ
def fB (a : Fn) : FnB := fun ρ => (a ρ).bind fun d => match d with | .bl b => some b | _ => none
def Dt.tru : Dt → Option Bool
  | .non => some false
  | .bl b => some b
  | .int i => some (i != 0)
  | .str x => if x.length ≤ sizeLine then some (x.length != 0) else none
  | .tup xs => some (!xs.isEmpty)
  | .lst xs => some (!xs.isEmpty)
  | .scr _ => none
def fTru (a : Fn) : FnB := fun ρ => (a ρ).bind Dt.tru
def fAnd (a b : FnB) : FnB := fun ρ => (a ρ).bind fun k => if k = true then b ρ else some false
def fOr (a b : FnB) : FnB := fun ρ => (a ρ).bind fun k => if k = true then some true else b ρ
def fNot (a : FnB) : FnB := fun ρ => (a ρ).bind fun k => some (!k)
def fOfB (a : FnB) : Fn := fun ρ => (a ρ).bind fun k => some (.bl k)

section
variable {m : Bool} {T : List Addr} {X : Cx} {K : PySem.W.Frag} {a b c e : Expr} {es : List Expr} {ta tb tc t : TE} {tr : TA} {fa fb : Fn} {fr : FnL} {pos : Pos}

theorem sd_const {v : V} {d : Dt} (h : ∀ (H : Hp) (W : Addr → Prop), Rep K H W v d) : Sd m T K (tC v) (fC d) := fun W ρ σ H d' Q g r e q => by
  cases e
  exact q v H (Ext.refl H) g (h H _)
theorem de_int {i : Int} {j : Nat} : DE m T K X (.Constant (.int i) j pos) (tC (.int i)) (fC (.int i)) := ⟨pe_int, sd_const fun _ _ => .int i⟩
theorem de_bl {i : Bool} {j : Nat} : DE m T K X (.Constant (.bool i) j pos) (tC (.bl i)) (fC (.bl i)) := ⟨pe_bl, sd_const fun _ _ => .bl i⟩
theorem de_non {j : Nat} : DE m T K X (.Constant .none j pos) (tC .non) (fC .non) := ⟨pe_non, sd_const fun _ _ => .non⟩
theorem de_str {x : Str} {j : Nat} : DE m T K X (.Constant (.str x) j pos) (tC (.str x)) (fC (.str x)) := ⟨pe_str, sd_const fun _ _ => .str x⟩

theorem sd_var {i : Nat} : Sd m T K (tVar i) (fV i) := fun W ρ σ H d Q g r e q => by
  unfold fV at e
  cases h : getS ρ i with
  | un => rw [h] at e; cases e
  | ow ds => rw [h] at e; cases e
  | im d' =>
    rw [h] at e
    cases e
    obtain ⟨v, h1, h2⟩ := r.im i d h
    exact ⟨v, h1, q v H (Ext.refl H) g h2.wo⟩
theorem de_var (i : Nat) {x : Str} {pos : Pos} (hN : X.N[i]? = some x := by rfl) (hv : Vis X.env.scope x := by first | exact Or.inl rfl | exact Or.inr (Or.inl rfl) | exact Or.inr (Or.inr rfl)) (hd : (x == ("__debug__" : Str)) = false := by decide)
    (hcd : (x == ("__classdict__" : Str)) = false := by decide) : DE m T K X (.Name x pos) (tVar i) (fV i) := ⟨pe_var hN hv hd hcd, sd_var⟩
theorem sd_varb {i : Nat} : Sd false T K (tVar i) (fVb i) := fun W ρ σ H d Q g r e q => by
  unfold fVb at e
  cases h : getS ρ i with
  | un => rw [h] at e; cases e
  | ow ds =>
    rw [h] at e
    cases e
    obtain ⟨p, vs, h1, h2, h3, h4⟩ := r.ow i ds h
    exact ⟨_, h1, q _ H (Ext.refl H) g (.lst h2 (fun z => Bool.noConfusion z.1) h4.wo)⟩
  | im d' =>
    rw [h] at e
    cases e
    obtain ⟨v, h1, h2⟩ := r.im i d h
    exact ⟨v, h1, q v H (Ext.refl H) g h2.wo⟩
theorem dp_var (i : Nat) {x : Str} {pos : Pos} (hN : X.N[i]? = some x := by rfl) (hv : Vis X.env.scope x := by first | exact Or.inl rfl | exact Or.inr (Or.inl rfl) | exact Or.inr (Or.inr rfl)) (hd : (x == ("__debug__" : Str)) = false := by decide)
    (hcd : (x == ("__classdict__" : Str)) = false := by decide) : DE false T K X (.Name x pos) (tVar i) (fVb i) := ⟨pe_var hN hv hd hcd, sd_varb⟩

/-- a frozen value may be taken as a borrowed one -/
theorem DE.loose {f : Fn} (h : DE true T K X e t f) : DE false T K X e t f := ⟨h.pe, fun W ρ σ H d Q g r e q => h.sd W ρ σ H d Q g r e fun v H' e1 g1 r1 => q v H' e1 g1 (r1.sub fun _ _ _ z => Bool.noConfusion z.1)⟩
def fFree (a : Fn) : Fn := fun ρ => (a ρ).bind fun d => if d.free = true then some d else none
/-- a borrowed value without lists is frozen -/
theorem DE.free {f : Fn} (h : DE false T K X e t f) : DE m T K X e t (fFree f) := ⟨h.pe, fun W ρ σ H d Q g r e q => by
  unfold fFree at e
  cases hf : f ρ with
  | none => rw [hf] at e; cases e
  | some d' =>
    rw [hf] at e
    have e2 : (if d'.free = true then some d' else none) = some d := e
    by_cases hz : d'.free = true
    · rw [if_pos hz] at e2
      cases e2
      exact h.sd W ρ σ H d Q g r hf fun v H' e1 g1 r1 => q v H' e1 g1 (r1.free hz)
    · rw [if_neg hz] at e2
      cases e2⟩
def fLst (a : FnL) : Fn := fun ρ => (a ρ).bind fun ds => some (.lst ds)
/-- a new list as a value -/
theorem DF.de {f : FnL} (h : DF T K X e t f) : DE m T K X e t (fLst f) := ⟨h.pe, fun W ρ σ H d Q g r e q => by
  unfold fLst at e
  cases hf : f ρ with
  | none => rw [hf] at e; cases e
  | some ds =>
    rw [hf] at e
    cases e
    refine h.sd W ρ σ H ds Q g r hf fun p vs H' e1 g1 hp hp' ra => q _ H' e1 g1 (.lst hp' (fun z => ?_) (ra.sub fun _ _ _ z => .inl z.2))
    obtain ⟨xs, hx⟩ := r.wd z.2
    rw [hp] at hx
    cases hx⟩

/-! ### operators -/
def OpD (T : List Addr) (K : PySem.W.Frag) (r : R2) (g : Dt → Dt → Option Dt) : Prop :=
  ∀ (W : Addr → Prop) (H : Hp) (x y : V) (d e c : Dt) (Q : VK), Gd T H → (∀ a, W a → ∃ xs, H a = some (.lst xs)) → Rep K H W x d → Rep K H W y e → g d e = some c →
    (∀ v H', Ext H H' → Gd T H' → Rep K H' W v c → Q v H') → r x y H Q
theorem sd_op {r : R2} {g : Dt → Dt → Option Dt} (h : OpD T K r g) (ha : Sd m T K ta fa) (hb : Sd m T K tb fb) : Sd m T K (tOp r ta tb) (f2 g fa fb) := fun W ρ σ H d Q gd rp e q => by
  unfold f2 at e
  cases ea : fa ρ with
  | none => rw [ea] at e; cases e
  | some x =>
    rw [ea] at e
    cases eb : fb ρ with
    | none => rw [eb] at e; cases e
    | some y =>
      rw [eb] at e
      refine ha W ρ σ H x _ gd rp ea fun v H1 e1 g1 r1 => ?_
      refine hb W ρ σ H1 y _ g1 (rp.ext e1) eb fun u H2 e2 g2 r2 => ?_
      exact h (wOf m W ρ σ) H2 v u x y d Q g2 (fun p z => (rp.ext (e1.trans e2)).wo z) (r1.ext e2) r2 e fun w' H3 e3 g3 r3 => q w' H3 ((e1.trans e2).trans e3) g3 r3
theorem de_op {op : Operator} {r : R2} {g : Dt → Dt → Option Dt} (ho : OpR X (binaryOp op) r ∧ OpD T K r g) (ha : DE m T K X a ta fa) (hb : DE m T K X b tb fb) : DE m T K X (.BinOp a op b pos) (tOp r ta tb) (f2 g fa fb) :=
  ⟨pe_op ho.1 ha.pe hb.pe, sd_op ho.2 ha.sd hb.sd⟩
theorem obind {α β : Type} {o : Option α} {f : α → Option β} {c : β} (h : o.bind f = some c) : ∃ x, o = some x ∧ f x = some c := Option.bind_eq_some_iff.mp h
/-- a comparison: its value holds no list, whatever is compared -/
def CmpD (T : List Addr) (K : PySem.W.Frag) (r : R2) (g : Dt → Dt → Option Bool) : Prop :=
  ∀ (H : Hp) (x y : V) (d e : Dt) (k : Bool) (Q : VK), Gd T H → Rep K H NoW x d → Rep K H NoW y e → g d e = some k → (∀ H', Ext H H' → Gd T H' → Q (.bl k) H') → r x y H Q
def fCmp (g : Dt → Dt → Option Bool) (a b : Fn) : FnB := fun ρ => (a ρ).bind fun x => (b ρ).bind fun y => g x y
theorem sd_cmp0 {r : R2} {g : Dt → Dt → Option Bool} (h : CmpD T K r g) (ha : Sd false T K ta fa) (hb : Sd false T K tb fb) {W : Addr → Prop} {ρ : Rho} {σ : L2.St} {H : Hp} {k : Bool} {Q : VK} (gd : Gd T H) (rp : Rp K H W ρ σ) (e : fCmp g fa fb ρ = some k)
    (q : ∀ H', Ext H H' → Gd T H' → Q (.bl k) H') : tOp r ta tb σ H Q := by
  obtain ⟨x, ea, e⟩ := obind e
  obtain ⟨y, eb, e⟩ := obind e
  refine ha W ρ σ H x _ gd rp ea fun v H1 e1 g1 r1 => ?_
  refine hb W ρ σ H1 y _ g1 (rp.ext e1) eb fun u H2 e2 g2 r2 => ?_
  exact h H2 v u x y k _ g2 (r1.loose.ext e2) r2.loose e fun H3 e3 g3 => q H3 ((e1.trans e2).trans e3) g3
theorem dt_cmp {op : CmpOp} {r : R2} {g : Dt → Dt → Option Bool} (h : OpR X (compareOp op) r ∧ CmpD T K r g) (ha : DE false T K X a ta fa) (hb : DE false T K X b tb fb) (hm : behindInMarks op b = false := by first | exact nomark _ | rfl) :
    DT T K X (.Compare a [op] [b] pos) (tTest (tOp r ta tb)) (fCmp g fa fb) :=
  ⟨pt_cmpR h.1 ha.pe hb.pe hm, fun _ _ _ _ k _ gd rp e q => sd_cmp0 h.2 ha.sd hb.sd gd rp e fun H' e1 g1 => ⟨k, rfl, q H' e1 g1⟩⟩
theorem de_cmp {op : CmpOp} {r : R2} {g : Dt → Dt → Option Bool} (h : OpR X (compareOp op) r ∧ CmpD T K r g) (ha : DE false T K X a ta fa) (hb : DE false T K X b tb fb) (hm : behindInMarks op b = false := by first | exact nomark _ | rfl) :
    DE m T K X (.Compare a [op] [b] pos) (tOp r ta tb) (fOfB (fCmp g fa fb)) :=
  ⟨pe_cmpR h.1 ha.pe hb.pe hm, fun _ _ _ _ d _ gd rp e q => by
    obtain ⟨k, ek, e2⟩ := obind e
    cases e2
    exact sd_cmp0 h.2 ha.sd hb.sd gd rp ek fun H' e1 g1 => q _ H' e1 g1 (.bl k)⟩
/-- a < b < c -/
def fChain (g g' : Dt → Dt → Option Bool) (a b c : Fn) : FnB := fun ρ => (a ρ).bind fun x => (b ρ).bind fun y => (g x y).bind fun k => if k = true then (c ρ).bind fun z => g' y z else some false
theorem sd_chain {fc : Fn} {r r' : R2} {g g' : Dt → Dt → Option Bool} (h : CmpD T K r g) (h' : CmpD T K r' g') (ha : Sd false T K ta fa) (hb : Sd false T K tb fb) (hc : Sd false T K tc fc) {W : Addr → Prop} {ρ : Rho} {σ : L2.St} {H : Hp} {k : Bool} {Q : VK} (gd : Gd T H) (rp : Rp K H W ρ σ)
    (e : fChain g g' fa fb fc ρ = some k) (q : ∀ H', Ext H H' → Gd T H' → Q (.bl k) H') : tChain r r' ta tb tc σ H Q := by
  obtain ⟨x, ea, e⟩ := obind e
  obtain ⟨y, eb, e⟩ := obind e
  obtain ⟨k1, e1', e⟩ := obind e
  refine ha W ρ σ H x _ gd rp ea fun v H1 e1 g1 r1 => ?_
  refine hb W ρ σ H1 y _ g1 (rp.ext e1) eb fun u H2 e2 g2 r2 => ?_
  refine h H2 v u x y k1 _ g2 (r1.loose.ext e2) r2.loose e1' fun H3 e3 g3 => ⟨k1, rfl, ?_⟩
  cases k1 with
  | false =>
    rw [if_neg Bool.false_ne_true] at e ⊢
    cases e
    exact q H3 ((e1.trans e2).trans e3) g3
  | true =>
    rw [if_pos rfl] at e ⊢
    obtain ⟨z, ec, e⟩ := obind e
    refine hc W ρ σ H3 z _ g3 (rp.ext ((e1.trans e2).trans e3)) ec fun w' H4 e4 g4 r4 => ?_
    exact h' H4 u w' y z k _ g4 (r2.loose.ext (e3.trans e4)) r4.loose e fun H5 e5 g5 => q H5 ((((e1.trans e2).trans e3).trans e4).trans e5) g5
theorem dt_chain {fc : Fn} {op op' : CmpOp} {r r' : R2} {g g' : Dt → Dt → Option Bool} (h : OpR X (compareOp op) r ∧ CmpD T K r g) (h' : OpR X (compareOp op') r' ∧ CmpD T K r' g') (ha : DE false T K X a ta fa) (hb : DE false T K X b tb fb) (hc : DE false T K X c tc fc)
    (hm : lastMarks [op, op'] [b, c] = false := by with_unfolding_all rfl) : DT T K X (.Compare a [op, op'] [b, c] pos) (tTest (tChain r r' ta tb tc)) (fChain g g' fa fb fc) :=
  ⟨pt_chain h.1 h'.1 ha.pe hb.pe hc.pe hm, fun _ _ _ _ k _ gd rp e q => sd_chain h.2 h'.2 ha.sd hb.sd hc.sd gd rp e fun H' e1 g1 => ⟨k, rfl, q H' e1 g1⟩⟩
theorem de_chain {fc : Fn} {op op' : CmpOp} {r r' : R2} {g g' : Dt → Dt → Option Bool} (h : OpR X (compareOp op) r ∧ CmpD T K r g) (h' : OpR X (compareOp op') r' ∧ CmpD T K r' g') (ha : DE false T K X a ta fa) (hb : DE false T K X b tb fb) (hc : DE false T K X c tc fc)
    (hm : lastMarks [op, op'] [b, c] = false := by with_unfolding_all rfl) : DE m T K X (.Compare a [op, op'] [b, c] pos) (tChain r r' ta tb tc) (fOfB (fChain g g' fa fb fc)) :=
  ⟨pe_chain h.1 h'.1 ha.pe hb.pe hc.pe hm, fun _ _ _ _ d _ gd rp e q => by
    obtain ⟨k, ek, e2⟩ := obind e
    cases e2
    exact sd_chain h.2 h'.2 ha.sd hb.sd hc.sd gd rp ek fun H' e1 g1 => q _ H' e1 g1 (.bl k)⟩

/-! ### tests -/
/-- a value by its truth -/
theorem dt_tru (ha : DE false T K X a ta fa) (he : ∀ whole, isTrue a X.env whole = (do let v ← whole; standAt a.pos; holding [v] (truthy v)) := by intro _; rfl) (hk : X.K = K := by rfl) :
    DT T K X a (fun σ H Q => ta σ H fun x H' => ∃ k, TruV K x H' k ∧ Q k H') (fTru fa) := by
  subst hk
  exact ⟨pt_truth ha.pe he, fun W ρ σ H k Q gd rp e q => by
    obtain ⟨d, ea, e⟩ := obind e
    refine ha.sd W ρ σ H d _ gd rp ea fun v H1 e1 g1 r1 => ⟨k, ?_, q H1 e1 g1⟩
    cases r1 with
    | non => cases e; rfl
    | bl b => cases e; rfl
    | int i => cases e; rfl
    | str x =>
      dsimp only [Dt.tru] at e
      by_cases hx : x.length ≤ sizeLine
      · rw [if_pos hx] at e
        cases e
        exact ⟨hx, by cases x.length <;> rfl⟩
      · rw [if_neg hx] at e
        cases e
    | tup h r =>
      cases e
      refine .inr (.inl ⟨_, .of h, ?_⟩)
      cases r <;> rfl
    | lst h n r =>
      cases e
      refine .inl ⟨_, .of h, ?_⟩
      cases r <;> rfl
    | scr h => cases e⟩
section
variable {tA uA : TT} {ga gb : FnB} {rest : List Expr}
theorem dw_and1 (ha : DT T K X a tA ga) : DW T K X (.BoolOp .And [a] pos) tA ga := ⟨pw_and1 ha.pt, ha.sd⟩
theorem dw_or1 (ha : DT T K X a tA ga) : DW T K X (.BoolOp .Or [a] pos) tA ga := ⟨pw_or1 ha.pt, ha.sd⟩
theorem sd_and {t u : TT} (ha : SdT T K t ga) (hb : SdT T K u gb) : SdT T K (L2.tAnd t u) (fAnd ga gb) := fun W ρ σ H k Q gd rp e q => by
  obtain ⟨k1, ea, e⟩ := obind e
  refine ha W ρ σ H k1 _ gd rp ea fun H1 e1 g1 => ?_
  cases k1 with
  | true =>
    rw [if_pos rfl] at e ⊢
    exact hb W ρ σ H1 k Q g1 (rp.ext e1) e fun H2 e2 g2 => q H2 (e1.trans e2) g2
  | false =>
    rw [if_neg Bool.false_ne_true] at e ⊢
    cases e
    exact q H1 e1 g1
theorem sd_or {t u : TT} (ha : SdT T K t ga) (hb : SdT T K u gb) : SdT T K (L2.tOr t u) (fOr ga gb) := fun W ρ σ H k Q gd rp e q => by
  obtain ⟨k1, ea, e⟩ := obind e
  refine ha W ρ σ H k1 _ gd rp ea fun H1 e1 g1 => ?_
  cases k1 with
  | true =>
    rw [if_pos rfl] at e ⊢
    cases e
    exact q H1 e1 g1
  | false =>
    rw [if_neg Bool.false_ne_true] at e ⊢
    exact hb W ρ σ H1 k Q g1 (rp.ext e1) e fun H2 e2 g2 => q H2 (e1.trans e2) g2
theorem dw_and (ha : DT T K X a tA ga) (hb : DW T K X (.BoolOp .And (b :: rest) pos) uA gb) : DW T K X (.BoolOp .And (a :: b :: rest) pos) (L2.tAnd tA uA) (fAnd ga gb) := ⟨pw_and ha.pt hb.pw, sd_and ha.sd hb.sd⟩
theorem dw_or (ha : DT T K X a tA ga) (hb : DW T K X (.BoolOp .Or (b :: rest) pos) uA gb) : DW T K X (.BoolOp .Or (a :: b :: rest) pos) (L2.tOr tA uA) (fOr ga gb) := ⟨pw_or ha.pt hb.pw, sd_or ha.sd hb.sd⟩
theorem DW.dt (h : DW T K X e tA ga) : DT T K X e tA ga := ⟨h.pw.pt, h.sd⟩
theorem dt_not (ha : DT T K X a tA ga) : DT T K X (.UnaryOp .Not a pos) (L2.tNot tA) (fNot ga) := ⟨pt_not ha.pt, fun W ρ σ H k Q gd rp e q => by
  obtain ⟨k1, ea, e⟩ := obind e
  cases e
  exact ha.sd W ρ σ H k1 _ gd rp ea fun H1 e1 g1 => q H1 e1 g1⟩
/-! and, or, not as values -/
theorem de_not (ha : DE false T K X a ta fa) : DE m T K X (.UnaryOp .Not a pos) (tNotV ta) (fOfB (fNot (fB fa))) := ⟨pe_not ha.pe, fun W ρ σ H d Q gd rp e q => by
  obtain ⟨k1, ek, e2⟩ := obind e
  obtain ⟨k2, ek2, e3⟩ := obind ek
  obtain ⟨x, ea, ek3⟩ := obind ek2
  cases e2
  cases e3
  refine ha.sd W ρ σ H x _ gd rp ea fun v H1 e1 g1 r1 => ?_
  cases r1 with
  | bl b => cases ek3; exact ⟨_, rfl, q _ H1 e1 g1 (.bl _)⟩
  | _ => cases ek3⟩
theorem de_one {op : BoolOp} {f : Fn} (h : DE m T K X a t f) : DE m T K X (.BoolOp op [a] pos) t f := ⟨pe_one h.pe, h.sd⟩
def fAndV (a b : Fn) : Fn := fun ρ => (fB a ρ).bind fun k => if k = true then b ρ else some (.bl false)
def fOrV (a b : Fn) : Fn := fun ρ => (fB a ρ).bind fun k => if k = true then some (.bl true) else b ρ
theorem de_and (ha : DE m T K X a ta fa) (hb : DE m T K X (.BoolOp .And (b :: rest) pos) tb fb) : DE m T K X (.BoolOp .And (a :: b :: rest) pos) (tAndV ta tb) (fAndV fa fb) := ⟨pe_and ha.pe hb.pe, fun W ρ σ H d Q gd rp e q => by
  obtain ⟨k, ek, e⟩ := obind e
  obtain ⟨x, ea, ek⟩ := obind ek
  refine ha.sd W ρ σ H x _ gd rp ea fun v H1 e1 g1 r1 => ?_
  cases r1 with
  | bl b' =>
    have hk : b' = k := Option.some.inj ek
    subst hk
    refine ⟨_, rfl, ?_⟩
    cases b' with
    | true =>
      rw [if_pos rfl] at e ⊢
      exact hb.sd W ρ σ H1 d Q g1 (rp.ext e1) e fun v H2 e2 g2 r2 => q v H2 (e1.trans e2) g2 r2
    | false =>
      rw [if_neg Bool.false_ne_true] at e ⊢
      cases e
      exact q _ H1 e1 g1 (.bl _)
  | _ => cases ek⟩
theorem de_or (ha : DE m T K X a ta fa) (hb : DE m T K X (.BoolOp .Or (b :: rest) pos) tb fb) : DE m T K X (.BoolOp .Or (a :: b :: rest) pos) (tOrV ta tb) (fOrV fa fb) := ⟨pe_or ha.pe hb.pe, fun W ρ σ H d Q gd rp e q => by
  obtain ⟨k, ek, e⟩ := obind e
  obtain ⟨x, ea, ek⟩ := obind ek
  refine ha.sd W ρ σ H x _ gd rp ea fun v H1 e1 g1 r1 => ?_
  cases r1 with
  | bl b' =>
    have hk : b' = k := Option.some.inj ek
    subst hk
    refine ⟨_, rfl, ?_⟩
    cases b' with
    | false =>
      rw [if_neg Bool.false_ne_true] at e ⊢
      exact hb.sd W ρ σ H1 d Q g1 (rp.ext e1) e fun v H2 e2 g2 r2 => q v H2 (e1.trans e2) g2 r2
    | true =>
      rw [if_pos rfl] at e ⊢
      cases e
      exact q _ H1 e1 g1 (.bl _)
  | _ => cases ek⟩
theorem de_ifExp {tk : TT} {gc : FnB} (hc : DT T K X c tk gc) (ha : DE m T K X a ta fa) (hb : DE m T K X b tb fb) : DE m T K X (.IfExp c a b pos) (tIf tk ta tb) (fIf gc fa fb) := ⟨pe_ifExp hc.pt ha.pe hb.pe, fun W ρ σ H d Q gd rp e q => by
  obtain ⟨k, ek, e⟩ := obind e
  refine hc.sd W ρ σ H k _ gd rp ek fun H1 e1 g1 => ?_
  cases k with
  | true =>
    rw [if_pos rfl] at e ⊢
    exact ha.sd W ρ σ H1 d Q g1 (rp.ext e1) e fun v H2 e2 g2 r2 => q v H2 (e1.trans e2) g2 r2
  | false =>
    rw [if_neg Bool.false_ne_true] at e ⊢
    exact hb.sd W ρ σ H1 d Q g1 (rp.ext e1) e fun v H2 e2 g2 r2 => q v H2 (e1.trans e2) g2 r2⟩
end

/-! ### lists of expressions -/
theorem da_nil : DA m T K X [] tNil fA0 := ⟨pa_nil, fun W ρ σ H ds Q gd rp e q => by
  cases e
  exact q [] H (Ext.refl H) gd .nil⟩
theorem da_cons (ha : DE m T K X e ta fa) (hr : DA m T K X es tr fr) (hs : starEach (e :: es) X.env = (false, eval e X.env) :: starEach es X.env := by rfl) : DA m T K X (e :: es) (tCons ta tr) (fAc fa fr) := ⟨pa_cons ha.pe hr.pa hs, fun W ρ σ H ds Q gd rp e q => by
  obtain ⟨x, ea, e⟩ := obind e
  obtain ⟨xs, er, e⟩ := obind e
  cases e
  refine ha.sd W ρ σ H x _ gd rp ea fun v H1 e1 g1 r1 => ?_
  exact hr.sd W ρ σ H1 xs _ g1 (rp.ext e1) er fun vs H2 e2 g2 r2 => q (v :: vs) H2 (e1.trans e2) g2 (.cons (r1.ext e2) r2)⟩
def fTup (a : FnL) : Fn := fun ρ => (a ρ).bind fun ds => if ds.length ≤ 1000 then some (.tup ds) else none
theorem le1000 {n : Nat} (h : n ≤ 1000) : n ≤ sizeLine := Nat.le_of_lt (small1000 h)
theorem de_tup {k : Nat} (ha : DA m T K X es tr fr) : DE m T K X (.Tuple es k pos) (tTup tr) (fTup fr) := ⟨pe_tup ha.pa, fun W ρ σ H d Q gd rp e q => by
  obtain ⟨ds, ea, e⟩ := obind e
  by_cases hl : ds.length ≤ 1000
  · rw [if_pos hl] at e
    cases e
    refine ha.sd W ρ σ H ds _ gd rp ea fun vs H1 e1 g1 r1 => ?_
    have hn : vs.length ≤ sizeLine := by rw [r1.length]; exact le1000 hl
    refine ⟨hn, fun p hp => q _ _ (e1.trans (Ext.new hp)) (g1.newT hp hn) (.tup upd_same (r1.ext (Ext.new hp)))⟩
  · rw [if_neg hl] at e
    cases e⟩
def fLstL (a : FnL) : FnL := fun ρ => (a ρ).bind fun ds => if ds.length ≤ 1000 then some ds else none
theorem df_lst (ha : DA true T K X es tr fr) : DF T K X (.List es pos) (tLst tr) (fLstL fr) := ⟨pe_lst ha.pa, fun W ρ σ H d Q gd rp e q => by
  obtain ⟨ds, ea, e⟩ := obind e
  by_cases hl : ds.length ≤ 1000
  · rw [if_pos hl] at e
    cases e
    refine ha.sd W ρ σ H d _ gd rp ea fun vs H1 e1 g1 r1 => ?_
    have hn : vs.length ≤ sizeLine := by rw [r1.length]; exact le1000 hl
    refine ⟨hn, fun p hp => q p vs _ (e1.trans (Ext.new hp)) (g1.newL hp hn) ?_ upd_same (r1.wt.newp hp)⟩
    exact e1.there p hp
  · rw [if_neg hl] at e
    cases e⟩
end
end EL
end

section
set_option Elab.async false
set_option maxRecDepth 100000
/-! EL operators, comparisons, subscripts, slices. -/
namespace EL
open PySem PySem.Spec PyProof.Rows L2

/-! ### as the library's data -/
mutual
def Dt.py : Dt → PyData
  | .non => .none
  | .bl b => .bool b
  | .int i => .int i
  | .str x => .str x
  | .tup xs => .tuple (Dt.pyA xs)
  | .lst xs => .list (Dt.pyA xs)
  | .scr _ => .dict []
def Dt.pyA : List Dt → List PyData
  | [] => []
  | x :: xs => x.py :: Dt.pyA xs
end
theorem pyA_map : ∀ xs : List Dt, Dt.pyA xs = xs.map Dt.py
  | [] => by simp [Dt.pyA]
  | x :: xs => by simp [Dt.pyA, pyA_map xs]
section
variable {K : PySem.W.Frag} {H : Hp} {W : Addr → Prop}
mutual
theorem Rep.dp : ∀ {d : Dt} {v : V}, Rep K H W v d → d.py.canLay0 = true → Dp K H v d.py
  | _, _, .non, _ => by rw [Dt.py]; exact .non
  | _, _, .bl b, _ => by rw [Dt.py]; exact .bl b
  | _, _, .int i, _ => by rw [Dt.py]; exact .int i
  | _, _, .str x, _ => by rw [Dt.py]; exact .str x
  | _, _, .tup h r, e => by
    rw [Dt.py] at e ⊢
    exact .tup (.of h) (RepA.dp r (by simpa [PyData.canLay0] using e))
  | _, _, .lst h n r, e => by
    rw [Dt.py] at e ⊢
    exact .lst (.of h) (RepA.dp r (by simpa [PyData.canLay0] using e))
  | _, _, .scr h, e => by simp [Dt.py, PyData.canLay0] at e
theorem RepA.dp : ∀ {ds : List Dt} {vs : List V}, RepA K H W vs ds → PyData.canLayAll0 (Dt.pyA ds) = true → DpAll K H vs (Dt.pyA ds)
  | _, _, .nil, _ => by rw [Dt.pyA]; exact .nil
  | _, _, .cons h r, e => by
    rw [Dt.pyA] at e ⊢
    have e' := Bool.and_eq_true_iff.mp (show (_ && _) = true from by simpa [PyData.canLayAll0] using e)
    exact .cons (Rep.dp h e'.1) (RepA.dp r e'.2)
end
end
def Dt.ok (d : Dt) : Bool := SeqAt.shaped d.py
theorem Rep.dps {K : PySem.W.Frag} {H : Hp} {W : Addr → Prop} {d : Dt} {v : V} (r : Rep K H W v d) (h : d.ok = true) : Dp K H v d.py := r.dp (SeqAt.canLay_of_shaped h)

section
variable {T : List Addr} {X : Cx} {K : PySem.W.Frag}
/-! ### + - * // % ** -/
def gAdd : Dt → Dt → Option Dt
  | .int i, .int j => some (.int (i + j))
  | .str x, .str y => if x.length + y.length ≤ sizeLine then some (.str (x ++ y)) else none
  | .tup xs, .tup ys => if xs.length + ys.length ≤ sizeLine then some (.tup (xs ++ ys)) else none
  | .lst xs, .lst ys => if xs.length + ys.length ≤ sizeLine then some (.lst (xs ++ ys)) else none
  | _, _ => none
theorem oAdd (hk : X.K = K) : OpR X (binaryOp .Add) (fun x y H Q => rI0 (fun i j => .int (i + j)) x y H Q ∨ (∃ i j, x = .str i ∧ y = .str j ∧ i.length + j.length ≤ sizeLine ∧ Q (.str (i ++ j)) H) ∨ rCatA K x y H Q ∨ rCat x y H Q) ∧
    OpD T K (fun x y H Q => rI0 (fun i j => .int (i + j)) x y H Q ∨ (∃ i j, x = .str i ∧ y = .str j ∧ i.length + j.length ≤ sizeLine ∧ Q (.str (i ++ j)) H) ∨ rCatA K x y H Q ∨ rCat x y H Q) gAdd := by
  subst hk
  refine ⟨OpR.or op_add (OpR.or op_add_str (OpR.or op_catA op_cat)), fun W H x y d e c Q g wl r1 r2 h q => ?_⟩
  cases r1 with
  | int i =>
    cases r2 with
    | int j => cases h; exact .inl ⟨i, j, rfl, rfl, q _ H (Ext.refl H) g (.int _)⟩
    | _ => cases h
  | str i =>
    cases r2 with
    | str j =>
      dsimp only [gAdd] at h
      by_cases hz : i.length + j.length ≤ sizeLine
      · rw [if_pos hz] at h
        cases h
        exact .inr (.inl ⟨i, j, rfl, rfl, hz, q _ H (Ext.refl H) g (.str _)⟩)
      · rw [if_neg hz] at h; cases h
    | _ => cases h
  | @tup a xs ds h1 ra =>
    cases r2 with
    | @tup b ys es h2 rb =>
      dsimp only [gAdd] at h
      by_cases hz : ds.length + es.length ≤ sizeLine
      · rw [if_pos hz] at h
        cases h
        have hl : xs.length + ys.length ≤ sizeLine := by rw [ra.length, rb.length]; exact hz
        refine .inr (.inr (.inl ⟨a, b, xs, ys, rfl, rfl, .of h1, .of h2, hl, fun e => ?_, fun _ e => ?_, fun _ _ p hp => ?_⟩))
        · subst e; cases ra; exact q _ H (Ext.refl H) g (.tup h2 rb)
        · subst e; cases rb; exact q _ H (Ext.refl H) g (by rw [List.append_nil]; exact .tup h1 ra)
        · exact q _ _ (Ext.new hp) (g.newT hp (by rw [List.length_append]; exact hl)) (.tup upd_same ((ra.append rb).ext (Ext.new hp)))
      · rw [if_neg hz] at h; cases h
    | _ => cases h
  | @lst a xs ds h1 n1 ra =>
    cases r2 with
    | @lst b ys es h2 n2 rb =>
      dsimp only [gAdd] at h
      by_cases hz : ds.length + es.length ≤ sizeLine
      · rw [if_pos hz] at h
        cases h
        have hl : xs.length + ys.length ≤ sizeLine := by rw [ra.length, rb.length]; exact hz
        refine .inr (.inr (.inr ⟨a, b, xs, ys, rfl, rfl, h1, h2, hl, fun p hp => ?_⟩))
        exact q _ _ (Ext.new hp) (g.newL hp (by rw [List.length_append]; exact hl)) (.lst upd_same (fun z => by obtain ⟨zs, hz⟩ := wl p z; rw [hp] at hz; cases hz) ((ra.append rb).ext (Ext.new hp)))
      · rw [if_neg hz] at h; cases h
    | _ => cases h
  | _ => cases h
def gI (C : Int → Int → Bool) (f : Int → Int → Int) : Dt → Dt → Option Dt
  | .int i, .int j => if C i j = true then some (.int (f i j)) else none
  | _, _ => none
theorem opD_int {C : Int → Int → Prop} {D : Int → Int → Bool} {f : Int → Int → Int} (h : ∀ i j, D i j = true → C i j) : OpD T K (rI C fun i j => .int (f i j)) (gI D f) := fun W H x y d e c Q g wl r1 r2 h' q => by
  cases r1 with
  | int i =>
    cases r2 with
    | int j =>
      dsimp only [gI] at h'
      by_cases hz : D i j = true
      · rw [if_pos hz] at h'
        cases h'
        exact ⟨i, j, rfl, rfl, h i j hz, q _ H (Ext.refl H) g (.int _)⟩
      · rw [if_neg hz] at h'; cases h'
    | _ => cases h'
  | _ => cases h'
def gMinus : Dt → Dt → Option Dt
  | .int i, .int j => some (.int (i - j))
  | _, _ => none
theorem oSub : OpR X (binaryOp .Sub) (rI0 fun i j => .int (i - j)) ∧ OpD T K (rI0 fun i j => .int (i - j)) gMinus := ⟨op_sub, fun W H x y d e c Q g wl r1 r2 h q => by
  cases r1 with
  | int i =>
    cases r2 with
    | int j => cases h; exact ⟨i, j, rfl, rfl, q _ H (Ext.refl H) g (.int _)⟩
    | _ => cases h
  | _ => cases h⟩
/-- a test that nothing reckons out: the kernel must not unfold comparisons with great numbers -/
noncomputable def cdc (p : Prop) : Bool := @decide p (Classical.propDecidable p)
theorem cdc_t {p : Prop} (h : p) : cdc p = true := by unfold cdc; exact @decide_eq_true p (Classical.propDecidable p) h
theorem cdc_p {p : Prop} (h : cdc p = true) : p := by unfold cdc at h; exact @of_decide_eq_true p (Classical.propDecidable p) h
noncomputable def cMul (i j : Int) : Bool := cdc (-(2 ^ 64) < i ∧ i < 2 ^ 64) || cdc (-(2 ^ 64) < j ∧ j < 2 ^ 64)
noncomputable def gMul : Dt → Dt → Option Dt
  | .int i, .int j => if cMul i j = true then some (.int (i * j)) else none
  | .lst xs, .int k => if -(2 ^ 63) ≤ k ∧ k < 2 ^ 63 ∧ xs.length * k.toNat ≤ sizeLine then some (.lst (List.replicate k.toNat xs).flatten) else none
  | _, _ => none
def cDiv (_ j : Int) : Bool := decide (j ≠ 0 ∧ j.natAbs < 1073741824)
def cMod (_ j : Int) : Bool := decide (j ≠ 0)
def cPow (i j : Int) : Bool := decide (0 ≤ j ∧ j ≤ 1000000 ∧ i.natAbs < 2 ^ 64)
theorem RepA.rep {W : Addr → Prop} {H : Hp} {vs : List V} {ds : List Dt} (h : RepA K H W vs ds) : ∀ k : Nat, RepA K H W (List.replicate k vs).flatten (List.replicate k ds).flatten
  | 0 => .nil
  | k + 1 => by
    rw [List.replicate_succ, List.replicate_succ, List.flatten_cons, List.flatten_cons]
    exact h.append (RepA.rep h k)
theorem len_rep {α : Type} (k : Nat) (xs : List α) : (List.replicate k xs).flatten.length = xs.length * k := by
  induction k with
  | zero => simp
  | succ k ih =>
    rw [List.replicate_succ, List.flatten_cons, List.length_append, ih, Nat.mul_succ]
    omega
theorem oMul : OpR X (binaryOp .Mult) (fun x y H Q => rI CMul (fun i j => .int (i * j)) x y H Q ∨ rRep x y H Q) ∧ OpD T K (fun x y H Q => rI CMul (fun i j => .int (i * j)) x y H Q ∨ rRep x y H Q) gMul := by
  refine ⟨OpR.or op_mul op_rep, fun W H x y d e c Q g wl r1 r2 h q => ?_⟩
  cases r1 with
  | int i =>
    cases r2 with
    | int j =>
      dsimp only [gMul] at h
      by_cases hz : cMul i j = true
      · rw [if_pos hz] at h
        cases h
        refine .inl ⟨i, j, rfl, rfl, ?_, q _ H (Ext.refl H) g (.int _)⟩
        rcases Bool.or_eq_true_iff.mp hz with z | z
        · exact .inl (cdc_p z)
        · exact .inr (cdc_p z)
      · rw [if_neg hz] at h; cases h
    | _ => cases h
  | @lst a xs ds h1 n1 ra =>
    cases r2 with
    | int k =>
      dsimp only [gMul] at h
      by_cases hz : -(2 ^ 63) ≤ k ∧ k < 2 ^ 63 ∧ ds.length * k.toNat ≤ sizeLine
      · rw [if_pos hz] at h
        cases h
        have hl : xs.length * k.toNat ≤ sizeLine := by rw [ra.length]; exact hz.2.2
        refine .inr ⟨a, k, xs, rfl, rfl, h1, hz.1, hz.2.1, hl, fun p hp => ?_⟩
        exact q _ _ (Ext.new hp) (g.newL hp (by rw [len_rep]; exact hl)) (.lst upd_same (fun z => by obtain ⟨zs, hz⟩ := wl p z; rw [hp] at hz; cases hz) ((ra.rep _).ext (Ext.new hp)))
      · rw [if_neg hz] at h; cases h
    | _ => cases h
  | _ => cases h
theorem oDiv : OpR X (binaryOp .FloorDiv) (rI CDivN fun i j => .int (i.fdiv j)) ∧ OpD T K (rI CDivN fun i j => .int (i.fdiv j)) (gI cDiv Int.fdiv) := ⟨op_fdivN, opD_int fun _ j h => (of_decide_eq_true h : j ≠ 0 ∧ j.natAbs < 1073741824)⟩
theorem oMod : OpR X (binaryOp .Mod) (rI (fun _ j => j ≠ 0) fun i j => .int (i.fmod j)) ∧ OpD T K (rI (fun _ j => j ≠ 0) fun i j => .int (i.fmod j)) (gI cMod Int.fmod) := ⟨op_modN, opD_int fun _ _ h => of_decide_eq_true h⟩
theorem oPow : OpR X (binaryOp .Pow) (rI CPow fun i j => .int (i ^ j.toNat)) ∧ OpD T K (rI CPow fun i j => .int (i ^ j.toNat)) (gI cPow fun i j => i ^ j.toNat) := ⟨op_pow, opD_int fun i j h => (of_decide_eq_true h : 0 ≤ j ∧ j ≤ 1000000 ∧ i.natAbs < 2 ^ 64)⟩
def gNeg : Dt → Option Dt
  | .int i => some (.int (-i))
  | _ => none
theorem de_neg {m : Bool} {a : Expr} {ta : TE} {fa : Fn} {pos : Pos} (ha : DE m T K X a ta fa) : DE m T K X (.UnaryOp .USub a pos) (tUn (rU fun i => .int (-i)) ta) (f1 gNeg fa) := ⟨pe_un un_neg ha.pe, fun W ρ σ H d Q g r e q => by
  obtain ⟨x, ea, e⟩ := obind e
  refine ha.sd W ρ σ H x _ g r ea fun v H1 e1 g1 r1 => ?_
  cases r1 with
  | int i => cases e; exact ⟨i, rfl, q _ H1 e1 g1 (.int _)⟩
  | _ => cases e⟩

/-! ### comparisons -/
def gEq (d e : Dt) : Option Bool := if d.ok = true ∧ e.ok = true then some (PyData.eqv d.py e.py) else none
def gNe (d e : Dt) : Option Bool := if d.ok = true ∧ e.ok = true then some (!PyData.eqv d.py e.py) else none
theorem cEq (hk : X.K = K) (hu : X.A.units + 64 < cLine) : OpR X (compareOp .Eq) (rEqD K) ∧ CmpD T K (rEqD K) gEq := by subst hk; exact ⟨op_eqD hu, fun H x y d e k Q g r1 r2 h q => by
  unfold gEq at h
  by_cases hz : d.ok = true ∧ e.ok = true
  · rw [if_pos hz] at h
    cases h
    exact ⟨d.py, e.py, r1.dps hz.1, r2.dps hz.2, hz.1, hz.2, q H (Ext.refl H) g⟩
  · rw [if_neg hz] at h; cases h⟩
theorem cNe (hk : X.K = K) (hu : X.A.units + 64 < cLine) : OpR X (compareOp .NotEq) (rNeD K) ∧ CmpD T K (rNeD K) gNe := by subst hk; exact ⟨op_neD hu, fun H x y d e k Q g r1 r2 h q => by
  unfold gNe at h
  by_cases hz : d.ok = true ∧ e.ok = true
  · rw [if_pos hz] at h
    cases h
    exact ⟨d.py, e.py, r1.dps hz.1, r2.dps hz.2, hz.1, hz.2, q H (Ext.refl H) g⟩
  · rw [if_neg hz] at h; cases h⟩
def gIsN : Dt → Dt → Option Bool
  | .non, .non => some true
  | _, .non => some false
  | _, _ => none
def gNotN : Dt → Dt → Option Bool
  | .non, .non => some false
  | _, .non => some true
  | _, _ => none
theorem cIsN : OpR X (compareOp .Is) (fun x y H Q => y = .non ∧ Q (.bl (decide (x = .non))) H) ∧ CmpD T K (fun x y H Q => y = .non ∧ Q (.bl (decide (x = .non))) H) gIsN := ⟨op_isN, fun H x y d e k Q g r1 r2 h q => by
  cases r2 with
  | non =>
    refine ⟨rfl, ?_⟩
    cases r1 <;> cases h <;> exact q H (Ext.refl H) g
  | _ => cases r1 <;> cases h⟩
theorem cNotN : OpR X (compareOp .IsNot) (fun x y H Q => y = .non ∧ Q (.bl (!decide (x = .non))) H) ∧ CmpD T K (fun x y H Q => y = .non ∧ Q (.bl (!decide (x = .non))) H) gNotN := ⟨op_notN, fun H x y d e k Q g r1 r2 h q => by
  cases r2 with
  | non =>
    refine ⟨rfl, ?_⟩
    cases r1 <;> cases h <;> exact q H (Ext.refl H) g
  | _ => cases r1 <;> cases h⟩
/-- order: ints -/
def gII (f : Int → Int → Bool) : Dt → Dt → Option Bool
  | .int i, .int j => some (f i j)
  | _, _ => none
theorem cmpD_int {f : Int → Int → Bool} : CmpD T K (rI0 fun i j => .bl (f i j)) (gII f) := fun H x y d e k Q g r1 r2 h q => by
  cases r1 with
  | int i =>
    cases r2 with
    | int j => cases h; exact ⟨i, j, rfl, rfl, q H (Ext.refl H) g⟩
    | _ => cases h
  | _ => cases h
def bLt (i j : Int) : Bool := decide (i < j)
def bLe (i j : Int) : Bool := decide (i ≤ j)
def bGt (i j : Int) : Bool := decide (j < i)
def bGe (i j : Int) : Bool := decide (j ≤ i)
theorem cLt : OpR X (compareOp .Lt) (rI0 fun i j => .bl (bLt i j)) ∧ CmpD T K (rI0 fun i j => .bl (bLt i j)) (gII bLt) := ⟨op_lt, cmpD_int⟩
theorem cLe : OpR X (compareOp .LtE) (rI0 fun i j => .bl (bLe i j)) ∧ CmpD T K (rI0 fun i j => .bl (bLe i j)) (gII bLe) := ⟨op_le, cmpD_int⟩
theorem cGt : OpR X (compareOp .Gt) (rI0 fun i j => .bl (bGt i j)) ∧ CmpD T K (rI0 fun i j => .bl (bGt i j)) (gII bGt) := ⟨op_gt, cmpD_int⟩
theorem cGe : OpR X (compareOp .GtE) (rI0 fun i j => .bl (bGe i j)) ∧ CmpD T K (rI0 fun i j => .bl (bGe i j)) (gII bGe) := ⟨op_ge, cmpD_int⟩

/-! in, not in: lists and tuples of data; texts -/
def rInS (K : PySem.W.Frag) (neg : Bool) : R2 := fun x y H Q => ∃ d ds, Dp K H x d ∧ (Dp K H y (.list ds) ∨ Dp K H y (.tuple ds)) ∧ SeqAt.shaped d = true ∧ SeqAt.shaped (.list ds) = true ∧ Q (.bl (if neg then !ds.any fun z => PyData.eqv z d else ds.any fun z => PyData.eqv z d)) H
theorem op_inS (hu : X.A.units + 65 < cLine) : OpR X (compareOp .In) (rInS X.K false) := by
  intro pins s σ H x y v u Q I rx ry h
  obtain ⟨d, ds, hd, he, sd, se, q⟩ := h
  obtain ⟨as, r1⟩ := Dp.reads I d x v hd rx
  rcases he with he | he
  · obtain ⟨bs, r2⟩ := Dp.reads I (.list ds) y u he ry
    exact SeqAt.in_list_reads r2 r1 (SeqAt.canLay_of_shaped se) (SeqAt.canLay_of_shaped sd) (room_in_shaped sd hu) ⟨.bl _, H, I, rfl, q⟩
  · obtain ⟨bs, r2⟩ := Dp.reads I (.tuple ds) y u he ry
    exact SeqAt.in_tuple_reads r2 r1 (SeqAt.canLay_of_shaped se) (SeqAt.canLay_of_shaped sd) (room_in_shaped sd hu) ⟨.bl _, H, I, rfl, q⟩
theorem op_notInS (hu : X.A.units + 65 < cLine) : OpR X (compareOp .NotIn) (rInS X.K true) := by
  intro pins s σ H x y v u Q I rx ry h
  obtain ⟨d, ds, hd, he, sd, se, q⟩ := h
  obtain ⟨as, r1⟩ := Dp.reads I d x v hd rx
  rcases he with he | he
  · obtain ⟨bs, r2⟩ := Dp.reads I (.list ds) y u he ry
    exact SeqAt.notIn_list_reads r2 r1 (SeqAt.canLay_of_shaped se) (SeqAt.canLay_of_shaped sd) (room_in_shaped sd hu) ⟨.bl _, H, I, rfl, q⟩
  · obtain ⟨bs, r2⟩ := Dp.reads I (.tuple ds) y u he ry
    exact SeqAt.notIn_tuple_reads r2 r1 (SeqAt.canLay_of_shaped se) (SeqAt.canLay_of_shaped sd) (room_in_shaped sd hu) ⟨.bl _, H, I, rfl, q⟩
def okA (ds : List Dt) : Bool := (Dt.lst ds).ok
def anyEq (d : Dt) (ds : List Dt) : Bool := (Dt.pyA ds).any fun z => PyData.eqv z d.py
def inStr (x y : Str) : Bool := !(Builtin.Str.occurrences y x 0 y.length 1).isEmpty
def gIn : Dt → Dt → Option Bool
  | .str x, .str y => some (inStr x y)
  | d, .lst ds => if d.ok = true ∧ okA ds = true then some (anyEq d ds) else none
  | d, .tup ds => if d.ok = true ∧ okA ds = true then some (anyEq d ds) else none
  | _, _ => none
def gNotIn (d e : Dt) : Option Bool := (gIn d e).map not
theorem shaped_tup {ds : List PyData} (h : SeqAt.shaped (.list ds) = true) : SeqAt.shaped (.tuple ds) = true := by
  unfold SeqAt.shaped at h ⊢
  have h1 := Bool.and_eq_true_iff.mp h
  refine Bool.and_eq_true_iff.mpr ⟨?_, ?_⟩
  · simpa [PyData.canLay0] using h1.1
  · simpa [PyData.depth] using h1.2
theorem in_cases {H : Hp} {x y : V} {d e : Dt} {k : Bool} {P : Bool → Prop} (r1 : Rep K H NoW x d) (r2 : Rep K H NoW y e) (h : gIn d e = some k) (hs : ∀ i j, x = .str i → y = .str j → P (inStr i j))
    (hl : ∀ ds, Dp K H x d.py → (Dp K H y (.list ds) ∨ Dp K H y (.tuple ds)) → SeqAt.shaped d.py = true → SeqAt.shaped (.list ds) = true → P (ds.any fun z => PyData.eqv z d.py)) : P k := by
  have go : ∀ ds : List Dt, (if d.ok = true ∧ okA ds = true then some (anyEq d ds) else none) = some k → (e = .lst ds ∨ e = .tup ds) → P k := fun ds h he => by
    by_cases hz : d.ok = true ∧ okA ds = true
    · rw [if_pos hz] at h
      cases h
      have hz2 : SeqAt.shaped (.list (Dt.pyA ds)) = true := by
        have := hz.2
        unfold okA Dt.ok at this
        rw [Dt.py] at this
        exact this
      refine hl (Dt.pyA ds) (r1.dps hz.1) ?_ hz.1 hz2
      rcases he with he | he
      · subst he
        have := r2.dps hz.2
        rw [Dt.py] at this
        exact .inl this
      · subst he
        have h3 : (Dt.tup ds).ok = true := by unfold Dt.ok; rw [Dt.py]; exact shaped_tup hz2
        have := r2.dps h3
        rw [Dt.py] at this
        exact .inr this
    · rw [if_neg hz] at h; cases h
  cases e with
  | lst ds => cases d <;> exact go ds h (.inl rfl)
  | tup ds => cases d <;> exact go ds h (.inr rfl)
  | str y' =>
    cases d with
    | str x' =>
      cases h
      cases r1
      cases r2
      exact hs _ _ rfl rfl
    | _ => cases h
  | _ => cases d <;> cases h
theorem cIn (hk : X.K = K) (hu : X.A.units + 65 < cLine) : OpR X (compareOp .In) (fun x y H Q => (∃ i j, x = .str i ∧ y = .str j ∧ Q (.bl (!(Builtin.Str.occurrences j i 0 j.length 1).isEmpty)) H) ∨ rInS K false x y H Q) ∧
    CmpD T K (fun x y H Q => (∃ i j, x = .str i ∧ y = .str j ∧ Q (.bl (!(Builtin.Str.occurrences j i 0 j.length 1).isEmpty)) H) ∨ rInS K false x y H Q) gIn := by subst hk; exact ⟨OpR.or op_in_str (op_inS hu), fun H x y d e k Q g r1 r2 h q =>
  in_cases (P := fun k => (∀ H', Ext H H' → Gd T H' → Q (.bl k) H') → _) r1 r2 h (fun i j e1 e2 q => .inl ⟨i, j, e1, e2, q H (Ext.refl H) g⟩) (fun ds h1 h2 h3 h4 q => .inr ⟨_, ds, h1, h2, h3, h4, q H (Ext.refl H) g⟩) q⟩
theorem cNotIn (hk : X.K = K) (hu : X.A.units + 65 < cLine) : OpR X (compareOp .NotIn) (fun x y H Q => (∃ i j, x = .str i ∧ y = .str j ∧ Q (.bl (!(!(Builtin.Str.occurrences j i 0 j.length 1).isEmpty))) H) ∨ rInS K true x y H Q) ∧
    CmpD T K (fun x y H Q => (∃ i j, x = .str i ∧ y = .str j ∧ Q (.bl (!(!(Builtin.Str.occurrences j i 0 j.length 1).isEmpty))) H) ∨ rInS K true x y H Q) gNotIn := by subst hk; exact ⟨OpR.or op_notin_str (op_notInS hu), fun H x y d e k Q g r1 r2 h q => by
  unfold gNotIn at h
  obtain ⟨k', hk, e'⟩ := Option.map_eq_some_iff.mp h
  subst e'
  exact in_cases (P := fun k => (∀ H', Ext H H' → Gd T H' → Q (.bl (!k)) H') → _) r1 r2 hk (fun i j e1 e2 q => .inl ⟨i, j, e1, e2, q H (Ext.refl H) g⟩) (fun ds h1 h2 h3 h4 q => .inr ⟨_, ds, h1, h2, h3, h4, q H (Ext.refl H) g⟩) q⟩
end
end EL
end

section
set_option Elab.async false
set_option maxRecDepth 100000
/-! EL subscripts, slices, calls of built-ins. -/
namespace EL
open PySem PySem.Spec PyProof.Rows L2

section
variable {m : Bool} {T : List Addr} {X : Cx} {K : PySem.W.Frag} {a b c e : Expr} {es : List Expr} {ta tb tc t : TE} {tr : TA} {fa fb : Fn} {fr : FnL} {pos p2 : Pos}
/-! ### x[i] -/
def gIx : Dt → Dt → Option Dt
  | .lst xs, .int i => atI xs i
  | .tup xs, .int i => atI xs i
  | .scr ns, .int i => (atI ns i).map Dt.int
  | .str z, .int i => if z.length ≤ sizeLine then (atI z.cps.toList i).map fun c => .str ⟨#[c]⟩ else none
  | _, _ => none
theorem RepA.atI {H : Hp} {W : Addr → Prop} {vs : List V} {ds : List Dt} {i : Int} {d : Dt} (r : RepA K H W vs ds) (h : L2.atI ds i = some d) : ∃ v, L2.atI vs i = some v ∧ Rep K H W v d := by
  unfold L2.atI at h ⊢
  obtain ⟨j, h1, h2⟩ := obind h
  obtain ⟨v, h3, h4⟩ := r.get h2
  exact ⟨v, by rw [r.length, h1]; exact h3, h4⟩
theorem atI_map {α β : Type} (f : α → β) (xs : List α) (i : Int) : L2.atI (xs.map f) i = (L2.atI xs i).map f := by
  unfold L2.atI
  rw [List.length_map]
  cases ixN xs.length i with
  | none => rfl
  | some j => show (xs.map f)[j]? = (xs[j]?).map f; rw [List.getElem?_map]
theorem opD_ix : OpD T K (rIx K) gIx := fun W H x y d e c Q g wl r1 r2 h q => by
  cases r2 with
  | int i =>
    cases r1 with
    | @lst a xs ds h1 n1 ra =>
      obtain ⟨v, h3, h4⟩ := ra.atI (show L2.atI ds i = some c from h)
      exact .inl ⟨a, xs, i, v, rfl, rfl, .of h1, h3, q v H (Ext.refl H) g h4⟩
    | @tup a xs ds h1 ra =>
      obtain ⟨v, h3, h4⟩ := ra.atI (show L2.atI ds i = some c from h)
      exact .inr (.inl ⟨a, xs, i, v, rfl, rfl, .of h1, h3, q v H (Ext.refl H) g h4⟩)
    | @scr a ns hs =>
      obtain ⟨n, h3, h4⟩ := Option.map_eq_some_iff.mp (show (L2.atI ns i).map Dt.int = some c from h)
      subst h4
      exact .inl ⟨a, ns.map V.int, i, .int n, rfl, rfl, hs.sq, by rw [atI_map, h3]; rfl, q _ H (Ext.refl H) g (.int n)⟩
    | str z =>
      dsimp only [gIx] at h
      by_cases hz : z.length ≤ sizeLine
      · rw [if_pos hz] at h
        obtain ⟨n, h3, h4⟩ := Option.map_eq_some_iff.mp h
        subst h4
        exact .inr (.inr ⟨z, i, n, rfl, rfl, hz, h3, q _ H (Ext.refl H) g (.str _)⟩)
      · rw [if_neg hz] at h; cases h
    | _ => cases h
  | _ => cases r1 <;> cases h
theorem de_ix (ha : DE m T K X a ta fa) (hb : DE m T K X b tb fb) (hs : PlainIx b := by exact fun _ _ => rfl) (hk : X.K = K := by rfl) : DE m T K X (.Subscript a b pos) (tOp (rIx K) ta tb) (f2 gIx fa fb) := by subst hk; exact ⟨pe_ix ix_seq ha.pe hb.pe hs, sd_op opD_ix ha.sd hb.sd⟩

/-! ### x[i:j] -/
abbrev FnO := Rho → Option (Option Int)
def SdO (T : List Addr) (K : PySem.W.Frag) (t : TO) (f : FnO) : Prop :=
  ∀ (W : Addr → Prop) (ρ : Rho) (σ : L2.St) (H : Hp) (i : Option Int) (Q : Option Int → Hp → Prop), Gd T H → Rp K H W ρ σ → f ρ = some i → (∀ H', Ext H H' → Gd T H' → Q i H') → t σ H Q
structure DO (T : List Addr) (K : PySem.W.Frag) (X : Cx) (e : Option Expr) (t : TO) (f : FnO) : Prop where
  po : PO X e t
  sd : SdO T K t f
def fNoP : FnO := fun _ => some none
def fPart (a : Fn) : FnO := fun ρ => (a ρ).bind fun d => match d with | .int i => some (some i) | _ => none
theorem do_none : DO T K X none tNoPart fNoP := ⟨po_none, fun W ρ σ H i Q g r e q => by cases e; exact q H (Ext.refl H) g⟩
theorem do_some (ha : DE false T K X a ta fa) : DO T K X (some a) (tPart ta) (fPart fa) := ⟨po_some ha.pe, fun W ρ σ H i Q g r e q => by
  obtain ⟨d, ea, e⟩ := obind e
  refine ha.sd W ρ σ H d _ g r ea fun v H1 e1 g1 r1 => ?_
  cases r1 with
  | int i' => cases e; exact ⟨i', rfl, q H1 e1 g1⟩
  | _ => cases e⟩
def cutL {α : Type} (xs : List α) (lo hi : Option Int) : List α := (xs.drop (HT.sIx xs.length 0 lo)).take (HT.sIx xs.length xs.length hi - HT.sIx xs.length 0 lo)
theorem cutL_length {α : Type} (xs : List α) (lo hi : Option Int) : (cutL xs lo hi).length ≤ xs.length := by
  unfold cutL
  rw [List.length_take, List.length_drop]
  omega
theorem RepA.cut {H : Hp} {W : Addr → Prop} {vs : List V} {ds : List Dt} (r : RepA K H W vs ds) (lo hi : Option Int) : RepA K H W (cutV vs lo hi) (cutL ds lo hi) := by
  unfold cutV cutL
  rw [r.length]
  exact (r.drop _).take _
def gSl : Dt → Option Int → Option Int → Option Dt
  | .lst xs, lo, hi => some (.lst (cutL xs lo hi))
  | .tup xs, lo, hi => some (.tup (cutL xs lo hi))
  | .str z, lo, hi => if z.length ≤ sizeLine then some (.str (cutS z lo hi)) else none
  | _, _, _ => none
def fSl (a : Fn) (lo hi : FnO) : Fn := fun ρ => (a ρ).bind fun d => (lo ρ).bind fun i => (hi ρ).bind fun j => gSl d i j
def rSl (K : PySem.W.Frag) : V → Option Int → Option Int → Hp → VK → Prop := fun x lo hi H Q => rSlL K x lo hi H Q ∨ rSlA K x lo hi H Q ∨ rSlS x lo hi H Q
theorem sl_any : SlR X (rSl X.K) := SlR.or sl_list (SlR.or sl_tupA sl_str)
theorem cutV_length2 (vs : List V) (lo hi : Option Int) : (cutV vs lo hi).length ≤ vs.length := L2.cutV_length vs lo hi
theorem cut_whole {α : Type} {xs : List α} {lo hi : Option Int} (h : HT.sIx xs.length 0 lo = 0 ∧ HT.sIx xs.length xs.length hi = xs.length) : cutL xs lo hi = xs := by
  unfold cutL
  rw [h.1, h.2, List.drop_zero, Nat.sub_zero, List.take_length]
theorem de_slice {lo hi : Option Expr} {tl th : TO} {fl fh : FnO} (ha : DE m T K X a ta fa) (hl : DO T K X lo tl fl) (hh : DO T K X hi th fh) (hk : X.K = K := by rfl) : DE m T K X (.Subscript a (.Slice lo hi none p2) pos) (tSl (rSl K) ta tl th) (fSl fa fl fh) := by
  subst hk
  exact ⟨pe_slice sl_any ha.pe hl.po hh.po, fun W ρ σ H d Q g r e q => by
  obtain ⟨x, ea, e⟩ := obind e
  obtain ⟨i, el, e⟩ := obind e
  obtain ⟨j, eh, e⟩ := obind e
  refine ha.sd W ρ σ H x _ g r ea fun v H1 e1 g1 r1 => ?_
  refine hl.sd W ρ σ H1 i _ g1 (r.ext e1) el fun H2 e2 g2 => ?_
  refine hh.sd W ρ σ H2 j _ g2 (r.ext (e1.trans e2)) eh fun H3 e3 g3 => ?_
  have r3 := r1.ext (e2.trans e3)
  have e13 := (e1.trans e2).trans e3
  cases r3 with
  | @lst p vs ds h1 n1 ra =>
    cases e
    refine .inl ⟨p, vs, rfl, .of h1, fun l hl => ?_⟩
    exact q _ _ (e13.trans (Ext.new hl)) (g3.newL hl (Nat.le_trans (cutV_length2 vs i j) (g3.1 p vs (.inl h1)))) (.lst upd_same (fun z => by obtain ⟨zs, hz⟩ := (r.ext e13).wo z; rw [hl] at hz; cases hz) ((ra.cut i j).ext (Ext.new hl)))
  | @tup p vs ds h1 ra =>
    cases e
    refine .inr (.inl ⟨p, vs, rfl, .of h1, fun hw => ?_, fun _ l hl => ?_⟩)
    · rw [ra.length] at hw
      rw [cut_whole hw] at q
      exact q _ _ e13 g3 (.tup h1 ra)
    · exact q _ _ (e13.trans (Ext.new hl)) (g3.newT hl (Nat.le_trans (cutV_length2 vs i j) (g3.1 p vs (.inr h1)))) (.tup upd_same ((ra.cut i j).ext (Ext.new hl)))
  | str z =>
    dsimp only [gSl] at e
    by_cases hz : z.length ≤ sizeLine
    · rw [if_pos hz] at e
      cases e
      exact .inr (.inr ⟨z, rfl, hz, q _ _ e13 g3 (.str _)⟩)
    · rw [if_neg hz] at e; cases e
  | _ => cases e⟩

/-! ### calls of built-ins -/
def CallD (T : List Addr) (K : PySem.W.Frag) (r : List V → Hp → VK → Prop) (g : List Dt → Option Dt) : Prop :=
  ∀ (W : Addr → Prop) (H : Hp) (vs : List V) (ds : List Dt) (c : Dt) (Q : VK), Gd T H → (∀ a, W a → ∃ xs, H a = some (.lst xs)) → RepA K H W vs ds → g ds = some c →
    (∀ v H', Ext H H' → Gd T H' → Rep K H' W v c → Q v H') → r vs H Q
theorem sd_call {r : List V → Hp → VK → Prop} {g : List Dt → Option Dt} (h : CallD T K r g) (ha : SdA m T K tr fr) : Sd m T K (tCB r tr) (fN g fr) := fun W ρ σ H d Q gd rp e q => by
  obtain ⟨ds, ea, e⟩ := obind e
  refine ha W ρ σ H ds _ gd rp ea fun vs H1 e1 g1 r1 => ?_
  exact h (wOf m W ρ σ) H1 vs ds d Q g1 (fun p z => (rp.ext e1).wo z) r1 e fun v H2 e2 g2 r2 => q v H2 (e1.trans e2) g2 r2
theorem de_callB {id : String} {r : List V → Hp → VK → Prop} {g : List Dt → Option Dt} {x : Str} {p : Pos} (h : CallR X (.builtin id) r ∧ CallD T K r g) (hm : X.mg x = none) (hv : bootBuiltins x = some (.builtin id)) (ha : DA m T K X (e :: es) tr fr) (hg : Gl X x := by rfl) (hn : x ≠ "__name__" := by decide)
    (hdb : (x == ("__debug__" : Str)) = false := by decide) (he : starEach (e :: es) X.env = (false, eval e X.env) :: starEach es X.env := by rfl) (hpl : (backTo pos (starEach es X.env)).any (·.1) = false := by rfl) :
    DE m T K X (.Call (.Name x p) (e :: es) [] pos) (tCB r tr) (fN g fr) := ⟨pe_callB h.1 hg hm hv ha.pa hn hdb he hpl, sd_call h.2 ha.sd⟩
theorem de_callT {ty : String} {r : List V → Hp → VK → Prop} {g : List Dt → Option Dt} {x : Str} {p : Pos} (h : CallR X (.type ty) r ∧ CallD T K r g) (hm : X.mg x = none) (hv : bootBuiltins x = some (.type ty)) (ha : DA m T K X (e :: es) tr fr) (hg : Gl X x := by rfl) (hn : x ≠ "__name__" := by decide)
    (hdb : (x == ("__debug__" : Str)) = false := by decide) (he : starEach (e :: es) X.env = (false, eval e X.env) :: starEach es X.env := by rfl) (hpl : (backTo pos (starEach es X.env)).any (·.1) = false := by rfl) :
    DE m T K X (.Call (.Name x p) (e :: es) [] pos) (tCB r tr) (fN g fr) := ⟨pe_callTy h.1 hg hm hv ha.pa hn hdb he hpl, sd_call h.2 ha.sd⟩
/-- len -/
def gLen : List Dt → Option Dt
  | [.lst xs] => some (.int xs.length)
  | [.tup xs] => some (.int xs.length)
  | [.scr ns] => some (.int ns.length)
  | [.str z] => if z.length ≤ sizeLine then some (.int z.length) else none
  | _ => none
theorem repA1 {H : Hp} {W : Addr → Prop} {vs : List V} {d : Dt} (r : RepA K H W vs [d]) : ∃ v, vs = [v] ∧ Rep K H W v d := by
  cases r with
  | cons h r => cases r; exact ⟨_, rfl, h⟩
theorem repA2 {H : Hp} {W : Addr → Prop} {vs : List V} {d d' : Dt} (r : RepA K H W vs [d, d']) : ∃ v v', vs = [v, v'] ∧ Rep K H W v d ∧ Rep K H W v' d' := by
  cases r with
  | cons h r =>
    obtain ⟨v', rfl, h'⟩ := repA1 r
    exact ⟨_, _, rfl, h, h'⟩
theorem kLen (hk : X.K = K) : CallR X (.builtin "len") (fun xs H Q => (∃ p ys, xs = [.ref p] ∧ (SqL K H p ys ∨ SqT K H p ys) ∧ Q (.int ys.length) H) ∨ ∃ z, xs = [.str z] ∧ z.length ≤ sizeLine ∧ Q (.int z.length) H) ∧
    CallD T K (fun xs H Q => (∃ p ys, xs = [.ref p] ∧ (SqL K H p ys ∨ SqT K H p ys) ∧ Q (.int ys.length) H) ∨ ∃ z, xs = [.str z] ∧ z.length ≤ sizeLine ∧ Q (.int z.length) H) gLen := by subst hk; exact ⟨CallR.or call_len_seq call_len_str, fun W H vs ds c Q g wl r h q => by
  match ds, h with
  | x0 :: _ :: _, h => cases x0 <;> cases h
  | [d], h =>
    obtain ⟨v, rfl, r1⟩ := repA1 r
    cases r1 with
    | lst h1 n1 ra => cases h; exact .inl ⟨_, _, rfl, .inl (.of h1), q _ H (Ext.refl H) g (by rw [ra.length]; exact .int _)⟩
    | tup h1 ra => cases h; exact .inl ⟨_, _, rfl, .inr (.of h1), q _ H (Ext.refl H) g (by rw [ra.length]; exact .int _)⟩
    | scr hs => cases h; exact .inl ⟨_, _, rfl, .inl hs.sq, q _ H (Ext.refl H) g (by rw [List.length_map]; exact .int _)⟩
    | str z =>
      dsimp only [gLen] at h
      by_cases hz : z.length ≤ sizeLine
      · rw [if_pos hz] at h
        cases h
        exact .inr ⟨z, rfl, hz, q _ H (Ext.refl H) g (.int _)⟩
      · rw [if_neg hz] at h; cases h
    | _ => cases h⟩
/-- abs -/
def gAbs : List Dt → Option Dt
  | [.int i] => some (.int (if i < 0 then -i else i))
  | _ => none
theorem kAbs : CallR X (.builtin "abs") (fun xs H Q => ∃ i, xs = [.int i] ∧ Q (.int (if i < 0 then -i else i)) H) ∧ CallD T K (fun xs H Q => ∃ i, xs = [.int i] ∧ Q (.int (if i < 0 then -i else i)) H) gAbs := ⟨call_abs, fun W H vs ds c Q g wl r h q => by
  match ds, h with
  | x0 :: _ :: _, h => cases x0 <;> cases h
  | [d], h =>
    obtain ⟨v, rfl, r1⟩ := repA1 r
    cases r1 with
    | int i => cases h; exact ⟨i, rfl, q _ H (Ext.refl H) g (.int _)⟩
    | _ => cases h⟩
/-- int of an int or a truth value -/
def gInt : List Dt → Option Dt
  | [.int i] => some (.int i)
  | [.bl b] => some (.int (if b then 1 else 0))
  | _ => none
theorem kInt : CallR X (.type "int") (fun xs H Q => (∃ i, xs = [.int i] ∧ Q (.int i) H) ∨ ∃ k, xs = [.bl k] ∧ Q (.int (if k then 1 else 0)) H) ∧
    CallD T K (fun xs H Q => (∃ i, xs = [.int i] ∧ Q (.int i) H) ∨ ∃ k, xs = [.bl k] ∧ Q (.int (if k then 1 else 0)) H) gInt := ⟨call_int1, fun W H vs ds c Q g wl r h q => by
  match ds, h with
  | x0 :: _ :: _, h => cases x0 <;> cases h
  | [d], h =>
    obtain ⟨v, rfl, r1⟩ := repA1 r
    cases r1 with
    | int i => cases h; exact .inl ⟨i, rfl, q _ H (Ext.refl H) g (.int _)⟩
    | bl b => cases h; exact .inr ⟨b, rfl, q _ H (Ext.refl H) g (.int _)⟩
    | _ => cases h⟩
/-- max, min of two ints -/
def gMax2 : List Dt → Option Dt
  | [.int i, .int j] => some (.int (if j > i then j else i))
  | _ => none
def gMin2 : List Dt → Option Dt
  | [.int i, .int j] => some (.int (if j < i then j else i))
  | _ => none
theorem kMax2 (hc : X.calm = true) : CallR X (.builtin "max") (fun xs H Q => ∃ i j, xs = [.int i, .int j] ∧ Q (.int (if j > i then j else i)) H) ∧ CallD T K (fun xs H Q => ∃ i j, xs = [.int i, .int j] ∧ Q (.int (if j > i then j else i)) H) gMax2 := ⟨call_max2 hc, fun W H vs ds c Q g wl r h q => by
  match ds, h with
  | [x0], h => cases x0 <;> cases h
  | x0 :: x1 :: _ :: _, h => cases x0 <;> cases x1 <;> cases h
  | [d, d'], h =>
    obtain ⟨v, v', rfl, r1, r2⟩ := repA2 r
    cases r1 with
    | int i =>
      cases r2 with
      | int j => cases h; exact ⟨i, j, rfl, q _ H (Ext.refl H) g (.int _)⟩
      | _ => cases h
    | _ => cases h⟩
theorem kMin2 (hc : X.calm = true) : CallR X (.builtin "min") (fun xs H Q => ∃ i j, xs = [.int i, .int j] ∧ Q (.int (if j < i then j else i)) H) ∧ CallD T K (fun xs H Q => ∃ i j, xs = [.int i, .int j] ∧ Q (.int (if j < i then j else i)) H) gMin2 := ⟨call_min2 hc, fun W H vs ds c Q g wl r h q => by
  match ds, h with
  | [x0], h => cases x0 <;> cases h
  | x0 :: x1 :: _ :: _, h => cases x0 <;> cases x1 <;> cases h
  | [d, d'], h =>
    obtain ⟨v, v', rfl, r1, r2⟩ := repA2 r
    cases r1 with
    | int i =>
      cases r2 with
      | int j => cases h; exact ⟨i, j, rfl, q _ H (Ext.refl H) g (.int _)⟩
      | _ => cases h
    | _ => cases h⟩
/-- the ints of a list of data -/
def ints? : List Dt → Option (List Int)
  | [] => some []
  | .int i :: r => (ints? r).bind fun ns => some (i :: ns)
  | _ :: _ => none
theorem ints?_some : ∀ {ds : List Dt} {ns : List Int}, ints? ds = some ns → ds = ns.map Dt.int
  | [], ns, h => by cases h; rfl
  | .int i :: r, ns, h => by
    obtain ⟨ms, h1, h2⟩ := obind h
    cases h2
    rw [ints?_some h1]
    rfl
  | .non :: _, _, h | .bl _ :: _, _, h | .str _ :: _, _, h | .tup _ :: _, _, h | .lst _ :: _, _, h | .scr _ :: _, _, h => by cases h
theorem ints?_map : ∀ ns : List Int, ints? (ns.map Dt.int) = some ns
  | [] => rfl
  | n :: ns => by
    show ((ints? (ns.map Dt.int)).bind fun ns => some (n :: ns)) = _
    rw [ints?_map ns]; rfl
def bools? : List Dt → Option (List Bool)
  | [] => some []
  | .bl i :: r => (bools? r).bind fun ns => some (i :: ns)
  | _ :: _ => none
theorem bools?_some : ∀ {ds : List Dt} {ns : List Bool}, bools? ds = some ns → ds = ns.map Dt.bl
  | [], ns, h => by cases h; rfl
  | .bl i :: r, ns, h => by
    obtain ⟨ms, h1, h2⟩ := obind h
    cases h2
    rw [bools?_some h1]
    rfl
  | .non :: _, _, h | .int _ :: _, _, h | .str _ :: _, _, h | .tup _ :: _, _, h | .lst _ :: _, _, h | .scr _ :: _, _, h => by cases h
theorem bools?_map : ∀ ns : List Bool, bools? (ns.map Dt.bl) = some ns
  | [] => rfl
  | n :: ns => by
    show ((bools? (ns.map Dt.bl)).bind fun ns => some (n :: ns)) = _
    rw [bools?_map ns]; rfl
theorem RepA.bools {H : Hp} {W : Addr → Prop} : ∀ {vs : List V} {ns : List Bool}, RepA K H W vs (ns.map Dt.bl) → vs = ns.map V.bl
  | _, [], h => by cases h; rfl
  | _, n :: ns, h => by
    cases h with
    | cons h r => cases h; rw [RepA.bools r]; rfl
def gSum : List Dt → Option Dt
  | [.lst xs] => (ints? xs).bind fun ns => some (.int ns.sum)
  | _ => none
theorem kSum (hk : X.K = K) (hc : X.calm = true) : CallR X (.builtin "sum") (rSum K) ∧ CallD T K (rSum K) gSum := by subst hk; exact ⟨cr_sum hc, fun W H vs ds c Q g wl r h q => by
  match ds, h with
  | x0 :: _ :: _, h => cases x0 <;> cases h
  | [d], h =>
    obtain ⟨v, rfl, r1⟩ := repA1 r
    cases r1 with
    | lst h1 n1 ra =>
      obtain ⟨ns, h2, h3⟩ := obind h
      cases h3
      rw [ints?_some h2] at ra
      rw [ra.ints] at h1
      exact ⟨_, ns, rfl, .of h1, q _ H (Ext.refl H) g (.int _)⟩
    | _ => cases h⟩
def gAll : List Dt → Option Dt
  | [.lst xs] => (bools? xs).bind fun bs => some (.bl (bs.all id))
  | _ => none
def gAny : List Dt → Option Dt
  | [.lst xs] => (bools? xs).bind fun bs => some (.bl (bs.any id))
  | _ => none
theorem kAll (hk : X.K = K) (hc : X.calm = true) : CallR X (.builtin "all") (rAll K) ∧ CallD T K (rAll K) gAll := by subst hk; exact ⟨cr_all hc, fun W H vs ds c Q g wl r h q => by
  match ds, h with
  | x0 :: _ :: _, h => cases x0 <;> cases h
  | [d], h =>
    obtain ⟨v, rfl, r1⟩ := repA1 r
    cases r1 with
    | lst h1 n1 ra =>
      obtain ⟨ns, h2, h3⟩ := obind h
      cases h3
      rw [bools?_some h2] at ra
      rw [ra.bools] at h1
      exact ⟨_, ns, rfl, .of h1, q _ H (Ext.refl H) g (.bl _)⟩
    | _ => cases h⟩
theorem kAny (hk : X.K = K) (hc : X.calm = true) : CallR X (.builtin "any") (rAny K) ∧ CallD T K (rAny K) gAny := by subst hk; exact ⟨cr_any hc, fun W H vs ds c Q g wl r h q => by
  match ds, h with
  | x0 :: _ :: _, h => cases x0 <;> cases h
  | [d], h =>
    obtain ⟨v, rfl, r1⟩ := repA1 r
    cases r1 with
    | lst h1 n1 ra =>
      obtain ⟨ns, h2, h3⟩ := obind h
      cases h3
      rw [bools?_some h2] at ra
      rw [ra.bools] at h1
      exact ⟨_, ns, rfl, .of h1, q _ H (Ext.refl H) g (.bl _)⟩
    | _ => cases h⟩
/-- max, min of a list of ints -/
def maxL : List Int → Option Int
  | [] => none
  | x :: xs => some (xs.foldl (fun a b => if b > a then b else a) x)
def minL : List Int → Option Int
  | [] => none
  | x :: xs => some (xs.foldl (fun a b => if b < a then b else a) x)
theorem foldmax : ∀ (xs : List Int) (x : Int), (xs.foldl (fun a b => if b > a then b else a) x) ∈ x :: xs ∧ x ≤ xs.foldl (fun a b => if b > a then b else a) x ∧ ∀ y ∈ xs, y ≤ xs.foldl (fun a b => if b > a then b else a) x
  | [], x => ⟨by simp, Int.le_refl _, by simp⟩
  | z :: xs, x => by
    obtain ⟨h1, h2, h3⟩ := foldmax xs (if z > x then z else x)
    rw [List.foldl_cons]
    by_cases hz : z > x
    · rw [if_pos hz] at h1 h2 h3 ⊢
      refine ⟨List.mem_cons_of_mem _ h1, by omega, fun y hy => ?_⟩
      rcases List.mem_cons.mp hy with e | hy
      · rw [e]; exact h2
      · exact h3 y hy
    · rw [if_neg hz] at h1 h2 h3 ⊢
      refine ⟨?_, h2, fun y hy => ?_⟩
      · rcases List.mem_cons.mp h1 with e | h
        · rw [e]; exact List.mem_cons_self
        · exact List.mem_cons_of_mem _ (List.mem_cons_of_mem _ h)
      · rcases List.mem_cons.mp hy with e | hy
        · rw [e]; omega
        · exact h3 y hy
theorem foldmin : ∀ (xs : List Int) (x : Int), (xs.foldl (fun a b => if b < a then b else a) x) ∈ x :: xs ∧ xs.foldl (fun a b => if b < a then b else a) x ≤ x ∧ ∀ y ∈ xs, xs.foldl (fun a b => if b < a then b else a) x ≤ y
  | [], x => ⟨by simp, Int.le_refl _, by simp⟩
  | z :: xs, x => by
    obtain ⟨h1, h2, h3⟩ := foldmin xs (if z < x then z else x)
    rw [List.foldl_cons]
    by_cases hz : z < x
    · rw [if_pos hz] at h1 h2 h3 ⊢
      refine ⟨List.mem_cons_of_mem _ h1, by omega, fun y hy => ?_⟩
      rcases List.mem_cons.mp hy with e | hy
      · rw [e]; exact h2
      · exact h3 y hy
    · rw [if_neg hz] at h1 h2 h3 ⊢
      refine ⟨?_, h2, fun y hy => ?_⟩
      · rcases List.mem_cons.mp h1 with e | h
        · rw [e]; exact List.mem_cons_self
        · exact List.mem_cons_of_mem _ (List.mem_cons_of_mem _ h)
      · rcases List.mem_cons.mp hy with e | hy
        · rw [e]; omega
        · exact h3 y hy
theorem maxL_is {ns : List Int} {m' k : Int} (h : maxL ns = some k) (hm : m' ∈ ns) (hle : ∀ y, y ∈ ns → y ≤ m') : m' = k := by
  cases ns with
  | nil => cases hm
  | cons x xs =>
    obtain ⟨h1, h2, h3⟩ := foldmax xs x
    cases h
    refine Int.le_antisymm ?_ (hle _ h1)
    rcases List.mem_cons.mp hm with e | e
    · rw [e]; exact h2
    · exact h3 _ e
theorem minL_is {ns : List Int} {m' k : Int} (h : minL ns = some k) (hm : m' ∈ ns) (hle : ∀ y, y ∈ ns → m' ≤ y) : m' = k := by
  cases ns with
  | nil => cases hm
  | cons x xs =>
    obtain ⟨h1, h2, h3⟩ := foldmin xs x
    cases h
    refine Int.le_antisymm (hle _ h1) ?_
    rcases List.mem_cons.mp hm with e | e
    · rw [e]; exact h2
    · exact h3 _ e
def gMaxL : List Dt → Option Dt
  | [.lst xs] => (ints? xs).bind fun ns => (maxL ns).bind fun k => some (.int k)
  | _ => none
def gMinL : List Dt → Option Dt
  | [.lst xs] => (ints? xs).bind fun ns => (minL ns).bind fun k => some (.int k)
  | _ => none
theorem kMaxL (hk : X.K = K) (hc : X.calm = true) : CallR X (.builtin "max") (rMax K) ∧ CallD T K (rMax K) gMaxL := by subst hk; exact ⟨cr_max hc, fun W H vs ds c Q g wl r h q => by
  match ds, h with
  | x0 :: _ :: _, h => cases x0 <;> cases h
  | [d], h =>
    obtain ⟨v, rfl, r1⟩ := repA1 r
    cases r1 with
    | lst h1 n1 ra =>
      obtain ⟨ns, h2, h3⟩ := obind h
      obtain ⟨k, h4, h5⟩ := obind h3
      cases h5
      rw [ints?_some h2] at ra
      rw [ra.ints] at h1
      refine ⟨_, ns, rfl, .of h1, ?_, fun m' hm hle => ?_⟩
      · cases ns with
        | nil => cases h4
        | cons _ _ => exact Nat.succ_pos _
      · rw [maxL_is h4 hm hle]
        exact q _ H (Ext.refl H) g (.int _)
    | _ => cases h⟩
theorem kMinL (hk : X.K = K) (hc : X.calm = true) : CallR X (.builtin "min") (rMin K) ∧ CallD T K (rMin K) gMinL := by subst hk; exact ⟨cr_min hc, fun W H vs ds c Q g wl r h q => by
  match ds, h with
  | x0 :: _ :: _, h => cases x0 <;> cases h
  | [d], h =>
    obtain ⟨v, rfl, r1⟩ := repA1 r
    cases r1 with
    | lst h1 n1 ra =>
      obtain ⟨ns, h2, h3⟩ := obind h
      obtain ⟨k, h4, h5⟩ := obind h3
      cases h5
      rw [ints?_some h2] at ra
      rw [ra.ints] at h1
      refine ⟨_, ns, rfl, .of h1, ?_, fun m' hm hle => ?_⟩
      · cases ns with
        | nil => cases h4
        | cons _ _ => exact Nat.succ_pos _
      · rw [minL_is h4 hm hle]
        exact q _ H (Ext.refl H) g (.int _)
    | _ => cases h⟩
/-- sorted, ints -/
def sortI (ns : List Int) : List Int := ns.mergeSort fun a b => decide (a ≤ b)
theorem sortI_perm (ns : List Int) : (sortI ns).Perm ns := List.mergeSort_perm ns _
theorem sortI_sorted (ns : List Int) : (sortI ns).Pairwise (· ≤ ·) := by
  have h := List.pairwise_mergeSort (le := fun a b : Int => decide (a ≤ b)) (fun a b c h1 h2 => by simp only [decide_eq_true_eq] at *; omega) (fun a b => by simp only [Bool.or_eq_true, decide_eq_true_eq]; omega) ns
  exact h.imp fun h => of_decide_eq_true h
theorem sortI_one {ns ms : List Int} (hp : ms.Perm ns) (hs : ms.Pairwise (· ≤ ·)) : ms = sortI ns :=
  List.Perm.eq_of_pairwise (le := fun a b : Int => a ≤ b) (fun a b _ _ h1 h2 => Int.le_antisymm h1 h2) hs (sortI_sorted ns) (hp.trans (sortI_perm ns).symm)
def gSorted : List Dt → Option (List Dt)
  | [.lst xs] => (ints? xs).bind fun ns => some ((sortI ns).map Dt.int)
  | _ => none
def fNL (g : List Dt → Option (List Dt)) (a : FnL) : FnL := fun ρ => (a ρ).bind g
/-- a call whose answer is a new list -/
def CallF (T : List Addr) (K : PySem.W.Frag) (r : List V → Hp → VK → Prop) (g : List Dt → Option (List Dt)) : Prop :=
  ∀ (W : Addr → Prop) (H : Hp) (vs : List V) (ds : List Dt) (c : List Dt) (Q : VK), Gd T H → (∀ a, W a → ∃ xs, H a = some (.lst xs)) → RepA K H W vs ds → g ds = some c →
    (∀ p us H', Ext H H' → Gd T H' → H p = none → H' p = some (.lst us) → RepA K H' (fun a => W a ∨ a = p) us c → Q (.ref p) H') → r vs H Q
theorem sd_callF {r : List V → Hp → VK → Prop} {g : List Dt → Option (List Dt)} (h : CallF T K r g) (ha : SdA true T K tr fr) : SdF T K (tCB r tr) (fNL g fr) := fun W ρ σ H d Q gd rp e q => by
  obtain ⟨ds, ea, e⟩ := obind e
  refine ha W ρ σ H ds _ gd rp ea fun vs H1 e1 g1 r1 => ?_
  exact h (wOf true W ρ σ) H1 vs ds d Q g1 (fun p z => (rp.ext e1).wo z) r1 e fun p us H2 e2 g2 hp hp2 r2 => q p us H2 (e1.trans e2) g2 (e1.there p hp) hp2 (r2.sub fun _ _ _ z => z.imp (fun z => ⟨rfl, z⟩) fun z => z)
/-- .. whose items hold no list -/
theorem sd_callF0 {r : List V → Hp → VK → Prop} {g : List Dt → Option (List Dt)} (h : CallF T K r g) (ha : SdA false T K tr fr) : SdF T K (tCB r tr) (fNL (fun ds => (g ds).bind fun c => if Dt.freeA c = true then some c else none) fr) := fun W ρ σ H d Q gd rp e q => by
  obtain ⟨ds, ea, e⟩ := obind e
  obtain ⟨c, e0, e⟩ := obind e
  by_cases hf : Dt.freeA c = true
  · rw [if_pos hf] at e
    cases e
    refine ha W ρ σ H ds _ gd rp ea fun vs H1 e1 g1 r1 => ?_
    exact h (wOf false W ρ σ) H1 vs ds d Q g1 (fun p z => (rp.ext e1).wo z) r1 e0 fun p us H2 e2 g2 hp hp2 r2 => q p us H2 (e1.trans e2) g2 (e1.there p hp) hp2 (r2.free hf)
  · rw [if_neg hf] at e; cases e
theorem df_callB {id : String} {r : List V → Hp → VK → Prop} {g : List Dt → Option (List Dt)} {x : Str} {p : Pos} (h : CallR X (.builtin id) r ∧ CallF T K r g) (hm : X.mg x = none) (hv : bootBuiltins x = some (.builtin id)) (ha : DA false T K X (e :: es) tr fr) (hg : Gl X x := by rfl) (hn : x ≠ "__name__" := by decide)
    (hdb : (x == ("__debug__" : Str)) = false := by decide) (he : starEach (e :: es) X.env = (false, eval e X.env) :: starEach es X.env := by rfl) (hpl : (backTo pos (starEach es X.env)).any (·.1) = false := by rfl) :
    DF T K X (.Call (.Name x p) (e :: es) [] pos) (tCB r tr) (fNL (fun ds => (g ds).bind fun c => if Dt.freeA c = true then some c else none) fr) := ⟨pe_callB h.1 hg hm hv ha.pa hn hdb he hpl, sd_callF0 h.2 ha.sd⟩
theorem df_callT {ty : String} {r : List V → Hp → VK → Prop} {g : List Dt → Option (List Dt)} {x : Str} {p : Pos} (h : CallR X (.type ty) r ∧ CallF T K r g) (hm : X.mg x = none) (hv : bootBuiltins x = some (.type ty)) (ha : DA false T K X (e :: es) tr fr) (hg : Gl X x := by rfl) (hn : x ≠ "__name__" := by decide)
    (hdb : (x == ("__debug__" : Str)) = false := by decide) (he : starEach (e :: es) X.env = (false, eval e X.env) :: starEach es X.env := by rfl) (hpl : (backTo pos (starEach es X.env)).any (·.1) = false := by rfl) :
    DF T K X (.Call (.Name x p) (e :: es) [] pos) (tCB r tr) (fNL (fun ds => (g ds).bind fun c => if Dt.freeA c = true then some c else none) fr) := ⟨pe_callTy h.1 hg hm hv ha.pa hn hdb he hpl, sd_callF0 h.2 ha.sd⟩
theorem df_callTs {ty : String} {r : List V → Hp → VK → Prop} {g : List Dt → Option (List Dt)} {x : Str} {p : Pos} (h : CallR X (.type ty) r ∧ CallF T K r g) (hm : X.mg x = none) (hv : bootBuiltins x = some (.type ty)) (ha : DA true T K X (e :: es) tr fr) (hg : Gl X x := by rfl) (hn : x ≠ "__name__" := by decide)
    (hdb : (x == ("__debug__" : Str)) = false := by decide) (he : starEach (e :: es) X.env = (false, eval e X.env) :: starEach es X.env := by rfl) (hpl : (backTo pos (starEach es X.env)).any (·.1) = false := by rfl) :
    DF T K X (.Call (.Name x p) (e :: es) [] pos) (tCB r tr) (fNL g fr) := ⟨pe_callTy h.1 hg hm hv ha.pa hn hdb he hpl, sd_callF h.2 ha.sd⟩
theorem kSortedL (hk : X.K = K) : CallR X (.builtin "sorted") (rSortedI K) ∧ CallF T K (rSortedI K) gSorted := by subst hk; exact ⟨cr_sortedI, fun W H vs ds c Q g wl r h q => by
  match ds, h with
  | x0 :: _ :: _, h => cases x0 <;> cases h
  | [d], h =>
    obtain ⟨v, rfl, r1⟩ := repA1 r
    cases r1 with
    | lst h1 n1 ra =>
      obtain ⟨ns, h2, h3⟩ := obind h
      cases h3
      have hd := ints?_some h2
      have hln := ra.length
      rw [hd] at ra
      have hz := g.1 _ _ (.inl h1)
      rw [ra.ints] at h1 hz
      refine ⟨_, ns, rfl, .of h1, fun ms p hp hs hn => ?_⟩
      have e := sortI_one hp hs
      subst e
      refine q p _ _ (Ext.new hn) (g.newL hn ?_) hn upd_same (repA_ints _)
      rw [List.length_map, (sortI_perm ns).length_eq]
      rw [List.length_map] at hz
      exact hz
    | _ => cases h⟩
/-- tuple of a list or tuple -/
def gTuple : List Dt → Option Dt
  | [.lst xs] => some (.tup xs)
  | [.tup xs] => some (.tup xs)
  | _ => none
def rTuple (K : PySem.W.Frag) : List V → Hp → VK → Prop := fun xs H Q => ∃ p ys, xs = [.ref p] ∧ ((SqL K H p ys ∧ ∀ l, H l = none → Q (.ref l) (upd H l (.tup ys))) ∨ (SqT K H p ys ∧ Q (.ref p) H))
theorem kTuple (hk : X.K = K) : CallR X (.type "tuple") (rTuple K) ∧ CallD T K (rTuple K) gTuple := by subst hk; exact ⟨call_tuple_of, fun W H vs ds c Q g wl r h q => by
  match ds, h with
  | x0 :: _ :: _, h => cases x0 <;> cases h
  | [d], h =>
    obtain ⟨v, rfl, r1⟩ := repA1 r
    cases r1 with
    | lst h1 n1 ra => cases h; exact ⟨_, _, rfl, .inl ⟨.of h1, fun l hl => q _ _ (Ext.new hl) (g.newT hl (g.1 _ _ (.inl h1))) (.tup upd_same (ra.ext (Ext.new hl)))⟩⟩
    | tup h1 ra => cases h; exact ⟨_, _, rfl, .inr ⟨.of h1, q _ H (Ext.refl H) g (.tup h1 ra)⟩⟩
    | _ => cases h⟩
/-- list of a list or tuple -/
def gList : List Dt → Option (List Dt)
  | [.lst xs] => some xs
  | [.tup xs] => some xs
  | _ => none
def rList (K : PySem.W.Frag) : List V → Hp → VK → Prop := fun xs H Q => ∃ p ys, xs = [.ref p] ∧ (SqL K H p ys ∨ SqT K H p ys) ∧ ∀ l, H l = none → Q (.ref l) (upd H l (.lst ys))
theorem kList (hk : X.K = K) : CallR X (.type "list") (rList K) ∧ CallF T K (rList K) gList := by subst hk; exact ⟨call_list_of, fun W H vs ds c Q g wl r h q => by
  match ds, h with
  | x0 :: _ :: _, h => cases x0 <;> cases h
  | [d], h =>
    obtain ⟨v, rfl, r1⟩ := repA1 r
    cases r1 with
    | lst h1 n1 ra => cases h; exact ⟨_, _, rfl, .inl (.of h1), fun l hl => q l _ _ (Ext.new hl) (g.newL hl (g.1 _ _ (.inl h1))) hl upd_same (ra.newp hl)⟩
    | tup h1 ra => cases h; exact ⟨_, _, rfl, .inr (.of h1), fun l hl => q l _ _ (Ext.new hl) (g.newL hl (g.1 _ _ (.inr h1))) hl upd_same (ra.newp hl)⟩
    | _ => cases h⟩
end
end EL
end

section
set_option Elab.async false
set_option maxRecDepth 100000
/-! EL what is walked, targets, comprehensions. -/
namespace EL
open PySem PySem.Spec PyProof.Rows L2

def Own (ρ : Rho) (σ : L2.St) : Addr → Prop := fun a => ∃ i ds, getS ρ i = .ow ds ∧ σ[i]? = some (some (.ref a))
/-- what stood stands, but the lists of O -/
structure Kp (O : Addr → Prop) (H H' : Hp) : Prop where
  keep : ∀ b o, H b = some o → nt o = true → ¬ O b → H' b = some o
  there : ∀ b, H' b = none → H b = none
theorem Kp.refl (O : Addr → Prop) (H : Hp) : Kp O H H := ⟨fun _ _ h _ _ => h, fun _ h => h⟩
theorem Ext.kp {O : Addr → Prop} {H H' : Hp} (e : Ext H H') : Kp O H H' := ⟨fun b o h n _ => e.keep b o h n, e.there⟩
theorem Kp.ext {O : Addr → Prop} {H H' : Hp} (k : Kp O H H') (h : ∀ a, ¬ O a) : Ext H H' := ⟨fun b o e n => k.keep b o e n (h b), k.there⟩
theorem Kp.trans {O O' : Addr → Prop} {H H1 H2 : Hp} (a : Kp O H H1) (b : Kp O' H1 H2) (h : ∀ c, O' c → O c ∨ H c = none) : Kp O H H2 where
  keep := fun c o e n no => b.keep c o (a.keep c o e n no) n fun z => by
    rcases h c z with z | z
    · exact no z
    · rw [e] at z; cases z
  there := fun c e => a.there c (b.there c e)
theorem Kp.sub {O O' : Addr → Prop} {H H' : Hp} (k : Kp O H H') (h : ∀ a, O a → O' a) : Kp O' H H' := ⟨fun b o e n no => k.keep b o e n fun z => no (h b z), k.there⟩

/-- the turns of J hand out ds, while what stood at H1 stands but for O -/
def JOk (O : Addr → Prop) (T : List Addr) (K : PySem.W.Frag) (W : Addr → Prop) (J : It) (H1 : Hp) (ds : List Dt) : Prop :=
  ∀ H, Kp O H1 H → Gd T H → (∀ i d, ds[i]? = some d → J.go i H ∧ ∀ x H', J.yld i H x H' → Ext H H' ∧ Gd T H' ∧ Rep K H' (fun a => W a ∨ H1 a = none) x d) ∧ ∀ i, ds.length ≤ i → J.stop i H
def SdI (k : Bool) (T : List Addr) (K : PySem.W.Frag) (wi : TI) (f : FnL) : Prop :=
  ∀ (W : Addr → Prop) (ρ : Rho) (σ : L2.St) (H : Hp) (ds : List Dt) (R : It → Hp → Prop), Gd T H → Rp K H W ρ σ → f ρ = some ds →
    (∀ J H1, Ext H H1 → Gd T H1 → JOk (fun a => k = true ∧ Own ρ σ a) T K (Wd W ρ σ) J H1 ds → R J H1) → wi σ H R
structure DI (k : Bool) (T : List Addr) (K : PySem.W.Frag) (X : Cx) (tg e : Expr) (wi : TI) (f : FnL) : Prop where
  pi : PI X tg e wi
  sd : SdI k T K wi f

section
variable {m k : Bool} {T : List Addr} {X : Cx} {K : PySem.W.Frag} {a b c e tg : Expr} {es : List Expr} {ta tb tc t : TE} {tr : TA} {fa fb : Fn} {fr : FnL} {pos p : Pos}

theorem RepA.age {H1 H : Hp} {O W : Addr → Prop} {vs : List V} {ds : List Dt} (r : RepA K H1 W vs ds) (kp : Kp O H1 H) (ho : ∀ a, O a → W a ∨ ∀ xs, H1 a ≠ some (.lst xs) ∧ H1 a ≠ some (.tup xs)) (hf : ∀ a, O a → ∀ o u, H1 a ≠ some (.frz o u)) (ht : ∀ a, O a → ∀ xs, H1 a ≠ some (.tup xs)) :
    RepA K H (fun a => W a ∨ H1 a = none) vs ds := r.keep ⟨fun b xs e => kp.keep b _ e rfl fun z => ht b z xs e, fun b o u e => kp.keep b _ e rfl fun z => hf b z o u e, fun b xs e n => kp.keep b _ e rfl fun z => by
    rcases ho b z with y | y
    · exact n y
    · exact (y xs).1 e⟩ fun a xs e z => by
    rcases z with z | z
    · exact z
    · rw [e] at z; cases z
theorem RepA.aged {H H1 Hc : Hp} {W : Addr → Prop} {ρ : Rho} {σ : L2.St} {vs : List V} {ds : List Dt} (rp : Rp K H1 W ρ σ) (r : RepA K H1 (Wd W ρ σ) vs ds) (kp : Kp (fun a => k = true ∧ Own ρ σ a) H1 Hc) :
    RepA K Hc (fun a => Wd W ρ σ a ∨ H1 a = none) vs ds := by
  have there : ∀ a, (k = true ∧ Own ρ σ a) → ∃ xs, H1 a = some (.lst xs) := fun a z => rp.wd (.inr z.2)
  refine r.age kp (fun a z => .inl (.inr z.2)) (fun a z o u e => ?_) fun a z xs e => ?_
  · obtain ⟨ys, q⟩ := there a z
    rw [e] at q; cases q
  · obtain ⟨ys, q⟩ := there a z
    rw [e] at q; cases q
/-! ### lists, tuples, texts -/
def iSeq (K : PySem.W.Frag) (tl : TE) : TI := fun σ H R => tl σ H fun x H1 => (∃ a xs, x = .ref a ∧ SqL K H1 a xs ∧ R (Itl K a) H1) ∨ (∃ a xs, x = .ref a ∧ SqT K H1 a xs ∧ R (Itt K a) H1) ∨ ∃ z, x = .str z ∧ R (Its z) H1
theorem pi_seq {tl : TE} (hl : PE X e tl) : PI X tg e (iSeq X.K tl) := ⟨fun pins s0 σ0 H0 R I0 h0 => by
  refine thn (hl.run pins s0 σ0 H0 _ I0 h0) fun u s1 ⟨x, H1, I1, r1, cs⟩ => ?_
  have new : ∀ b, b ∈ [s1.heap.objs.size] → FpOk X pins H1 b := fun b hb => by
    rw [List.mem_singleton.mp hb]
    exact I1.fpOk (Nat.le_refl _) (I1.hok.fresh (Nat.le_refl _))
  rcases cs with ⟨a, xs, rfl, hq, q⟩ | ⟨a, xs, rfl, hq, q⟩ | ⟨z, rfl, q⟩
  · cases r1
    obtain ⟨its, rv, pl, _⟩ := I1.list hq
    exact wpAny_pyIter_list pl.isList ⟨s1.heap.objs.size, [s1.heap.objs.size], _, _, H1, rfl, I1.kept (t' := s1.toks) fun b o eb => Heap.get?_push_of_some _ eb, turn_list a _, ⟨_, Heap.get?_push_size _ rfl, rfl, rfl⟩, new, q⟩
  · cases r1
    obtain ⟨its, rv, pl, _⟩ := I1.tuple hq
    exact wpAny_pyIter_tuple (show s1.heap.IsTuple a its.toArray from pl) ⟨s1.heap.objs.size, [s1.heap.objs.size], _, _, H1, rfl, I1.kept (t' := s1.toks) fun b o eb => Heap.get?_push_of_some _ eb, turn_tuple a _, ⟨_, Heap.get?_push_size _ rfl, rfl, rfl⟩, new, q⟩
  · obtain ⟨tk, rfl⟩ := r1
    cases ha : z.cps.all (· < 128) with
    | false => exact wpAny_pyIter_wide ha (pi_one (tk := s1.toks) I1 _ (turn_str _ z tk "str_iterator" (Or.inr rfl)) ⟨_, Heap.get?_push_size _ rfl, rfl, rfl⟩ q)
    | true => exact wpAny_pyIter_ascii ha (pi_one (tk := s1.toks) I1 _ (turn_str _ z tk "str_ascii_iterator" (Or.inl rfl)) ⟨_, Heap.get?_push_size _ rfl, rfl, rfl⟩ q)⟩
/-- the signs of a text -/
def signs (z : Str) : List Dt := z.cps.toList.map fun c => .str ⟨#[c]⟩
def gItems : Dt → Option (List Dt)
  | .lst xs => some xs
  | .tup xs => some xs
  | .str z => some (signs z)
  | _ => none
def f1L (g : Dt → Option (List Dt)) (a : Fn) : FnL := fun ρ => (a ρ).bind g
theorem jok_list {H1 : Hp} {W : Addr → Prop} {ρ : Rho} {σ : L2.St} {q : Addr} {vs : List V} {ds : List Dt} (rp : Rp K H1 W ρ σ) (h : H1 q = some (.lst vs)) (n : k = true → ¬ Own ρ σ q) (r : RepA K H1 (Wd W ρ σ) vs ds) :
    JOk (fun a => k = true ∧ Own ρ σ a) T K (Wd W ρ σ) (Itl K q) H1 ds := fun Hc kp g => by
  have hc : Hc q = some (.lst vs) := kp.keep q _ h rfl fun z => n z.1 z.2
  have rc := r.aged (H := H1) rp kp
  refine ⟨fun i d hd => ?_, fun i hi => ⟨vs, .of hc, by rw [r.length]; exact hi⟩⟩
  obtain ⟨v, hv, rv⟩ := rc.get hd
  refine ⟨⟨vs, v, .of hc, hv⟩, fun x H' y => ?_⟩
  obtain ⟨rfl, y⟩ := y
  have e := y vs (.of hc)
  rw [hv] at e
  cases e
  exact ⟨Ext.refl _, g, rv⟩
theorem jok_tup {H1 : Hp} {W : Addr → Prop} {ρ : Rho} {σ : L2.St} {q : Addr} {vs : List V} {ds : List Dt} (rp : Rp K H1 W ρ σ) (h : H1 q = some (.tup vs)) (r : RepA K H1 (Wd W ρ σ) vs ds) :
    JOk (fun a => k = true ∧ Own ρ σ a) T K (Wd W ρ σ) (Itt K q) H1 ds := fun Hc kp g => by
  have hc : Hc q = some (.tup vs) := kp.keep q _ h rfl fun z => by
    obtain ⟨xs, hx⟩ := rp.wd (.inr z.2)
    rw [h] at hx; cases hx
  have rc := r.aged (H := H1) rp kp
  refine ⟨fun i d hd => ?_, fun i hi => ⟨vs, .of hc, by rw [r.length]; exact hi⟩⟩
  obtain ⟨v, hv, rv⟩ := rc.get hd
  refine ⟨⟨vs, v, .of hc, hv⟩, fun x H' y => ?_⟩
  obtain ⟨rfl, y⟩ := y
  have e := y vs (.of hc)
  rw [hv] at e
  cases e
  exact ⟨Ext.refl _, g, rv⟩
theorem jok_str {H1 : Hp} {O W : Addr → Prop} (z : Str) : JOk O T K W (Its z) H1 (signs z) := fun Hc kp g => by
  unfold signs
  refine ⟨fun i d hd => ?_, fun i hi => ?_⟩
  · rw [List.getElem?_map, Array.getElem?_toList] at hd
    obtain ⟨c, hc, rfl⟩ := Option.map_eq_some_iff.mp hd
    refine ⟨(Array.getElem?_eq_some_iff.mp hc).1, fun x H' y => ?_⟩
    obtain ⟨rfl, c', hc', rfl⟩ := y
    rw [hc] at hc'
    cases hc'
    exact ⟨Ext.refl _, g, .str _⟩
  · show z.cps.size ≤ i
    simpa using hi
/-- over a frozen list or tuple, a text -/
theorem di_seq (h : DE true T K X e t fa) (hk : X.K = K := by rfl) : DI k T K X tg e (iSeq K t) (f1L gItems fa) := by subst hk; exact ⟨pi_seq h.pe, fun W ρ σ H ds R g rp e' q => by
  obtain ⟨x, ea, e'⟩ := obind e'
  refine h.sd W ρ σ H x _ g rp ea fun v H1 e1 g1 r1 => ?_
  cases r1.wt with
  | lst h1 n1 ra => cases e'; exact .inl ⟨_, _, rfl, .of h1, q _ H1 e1 g1 (jok_list (rp.ext e1) h1 (fun _ z => n1 (.inr z)) ra)⟩
  | tup h1 ra => cases e'; exact .inr (.inl ⟨_, _, rfl, .of h1, q _ H1 e1 g1 (jok_tup (rp.ext e1) h1 ra)⟩)
  | str z => cases e'; exact .inr (.inr ⟨z, rfl, q _ H1 e1 g1 (jok_str z)⟩)
  | _ => cases e'⟩
/-- over a new list -/
theorem di_new {f : FnL} (h : DF T K X e t f) (hk : X.K = K := by rfl) : DI k T K X tg e (iSeq K t) f := by subst hk; exact ⟨pi_seq h.pe, fun W ρ σ H ds R g rp e' q => by
  refine h.sd W ρ σ H ds _ g rp e' fun p vs H1 e1 g1 hp hp1 r1 => ?_
  refine .inl ⟨_, _, rfl, .of hp1, q _ H1 e1 g1 (jok_list (rp.ext e1) hp1 (fun _ z => ?_) (r1.sub fun _ _ _ z => .inl z))⟩
  obtain ⟨xs, hx⟩ := rp.wd (.inr z)
  rw [hp] at hx
  cases hx⟩
/-- over an owned list that is let alone meanwhile (in a comprehension) -/
def fOwn (i : Nat) : FnL := fun ρ => match getS ρ i with | .ow ds => some ds | _ => none
theorem di_own {i : Nat} {x : Str} (hN : X.N[i]? = some x := by rfl) (hv : Vis X.env.scope x := by first | exact Or.inl rfl | exact Or.inr (Or.inl rfl) | exact Or.inr (Or.inr rfl)) (hd : (x == ("__debug__" : Str)) = false := by decide)
    (hcd : (x == ("__classdict__" : Str)) = false := by decide) (hk : X.K = K := by rfl) : DI false T K X tg (.Name x p) (iSeq K (tVar i)) (fOwn i) := by subst hk; exact ⟨pi_seq (pe_var hN hv hd hcd), fun W ρ σ H ds R g rp e' q => by
  unfold fOwn at e'
  cases h : getS ρ i with
  | un => rw [h] at e'; cases e'
  | im d => rw [h] at e'; cases e'
  | ow es =>
    rw [h] at e'
    cases e'
    obtain ⟨q', vs, h1, h2, h3, h4⟩ := rp.ow i ds h
    exact ⟨_, h1, .inl ⟨q', vs, rfl, .of h2, q _ H (Ext.refl H) g (jok_list rp h2 (fun z => Bool.noConfusion z) h4)⟩⟩⟩
/-! ### ranges -/
def rngD (lo hi : Int) : List Dt := (List.range (hi - lo).toNat).map fun i => .int (lo + (i : Nat))
noncomputable def okR (i : Int) : Bool := cdc (-(2 ^ 62) ≤ i ∧ i < 2 ^ 62)
noncomputable def gRng1 : List Dt → Option (List Dt)
  | [.int j] => if okR j = true then some (rngD 0 j) else none
  | _ => none
noncomputable def gRng2 : List Dt → Option (List Dt)
  | [.int i, .int j] => if okR i = true ∧ okR j = true then some (rngD i j) else none
  | _ => none
theorem jok_rng {H1 : Hp} {O W : Addr → Prop} (lo hi : Int) : JOk O T K W (Itr lo (hi - lo).toNat) H1 (rngD lo hi) := fun Hc kp g => by
  unfold rngD
  refine ⟨fun i d hd => ?_, fun i hi' => ?_⟩
  · rw [List.getElem?_map] at hd
    obtain ⟨j, hj, rfl⟩ := Option.map_eq_some_iff.mp hd
    obtain ⟨hj1, hj2⟩ := List.getElem?_eq_some_iff.mp hj
    rw [List.getElem_range] at hj2
    subst hj2
    rw [List.length_range] at hj1
    refine ⟨hj1, fun x H' y => ?_⟩
    obtain ⟨rfl, rfl⟩ := y
    exact ⟨Ext.refl _, g, .int _⟩
  · show (hi - lo).toNat ≤ i
    simpa using hi'
theorem di_range1 (ha : DA false T K X [a] tr fr) (hm : X.mg "range" = none) (hg : Gl X "range" := by rfl) (hs : starEach [a] X.env = [(false, eval a X.env)] := by rfl) : DI k T K X tg (.Call (.Name "range" p) [a] [] pos) (iRng1 tr) (fNL gRng1 fr) :=
  ⟨pi_range1 hg hm ha.pa hs, fun W ρ σ H ds R g rp e' q => by
  obtain ⟨xs, ea, e'⟩ := obind e'
  refine ha.sd W ρ σ H xs _ g rp ea fun vs H1 e1 g1 r1 => ?_
  match xs, e', r1 with
  | x0 :: _ :: _, e', _ => cases x0 <;> cases e'
  | [d], e', r1 =>
    obtain ⟨v, rfl, r2⟩ := repA1 r1
    cases r2 with
    | int j =>
      dsimp only [gRng1] at e'
      by_cases hz : okR j = true
      · rw [if_pos hz] at e'
        cases e'
        have hb := cdc_p hz
        refine ⟨j, rfl, hb.1, hb.2, q _ H1 e1 g1 ?_⟩
        have := jok_rng (T := T) (K := K) (H1 := H1) (O := fun a => k = true ∧ Own ρ σ a) (W := Wd W ρ σ) 0 j
        rw [Int.sub_zero] at this
        exact this
      · rw [if_neg hz] at e'; cases e'
    | _ => cases e'⟩
theorem di_range2 (ha : DA false T K X [a, b] tr fr) (hm : X.mg "range" = none) (hg : Gl X "range" := by rfl) (hs : starEach [a, b] X.env = [(false, eval a X.env), (false, eval b X.env)] := by rfl) (hs2 : starEach [b] X.env = [(false, eval b X.env)] := by rfl) :
    DI k T K X tg (.Call (.Name "range" p) [a, b] [] pos) (iRng2 tr) (fNL gRng2 fr) :=
  ⟨pi_range2 hg hm ha.pa hs hs2, fun W ρ σ H ds R g rp e' q => by
  obtain ⟨xs, ea, e'⟩ := obind e'
  refine ha.sd W ρ σ H xs _ g rp ea fun vs H1 e1 g1 r1 => ?_
  match xs, e', r1 with
  | [x0], e', _ => cases x0 <;> cases e'
  | x0 :: x1 :: _ :: _, e', _ => cases x0 <;> cases x1 <;> cases e'
  | [d, d'], e', r1 =>
    obtain ⟨v, v', rfl, r2, r3⟩ := repA2 r1
    cases r2 with
    | int i =>
      cases r3 with
      | int j =>
        dsimp only [gRng2] at e'
        by_cases hz : okR i = true ∧ okR j = true
        · rw [if_pos hz] at e'
          cases e'
          have hb := cdc_p hz.1
          have hb2 := cdc_p hz.2
          exact ⟨i, j, rfl, ⟨hb.1, hb.2, hb2.1, hb2.2⟩, q _ H1 e1 g1 (jok_rng i j)⟩
        · rw [if_neg hz] at e'; cases e'
      | _ => cases e'
    | _ => cases e'⟩
end
end EL
end

section
set_option Elab.async false
set_option maxRecDepth 100000
/-! EL targets, comprehensions. -/
namespace EL
open PySem PySem.Spec PyProof.Rows L2

theorem setσ_ne {σ : L2.St} {i j : Nat} {x : Option V} (h : j ≠ i) : (σ.set i x)[j]? = σ[j]? := by rw [List.getElem?_set_ne (Ne.symm h)]
section
variable {K : PySem.W.Frag} {H H' : Hp} {W : Addr → Prop} {ρ : Rho} {σ : L2.St}
/-- a slot is given a new content -/
theorem Own.set {i : Nat} {s : Sl} {x : Option V} (hs : ∀ ds, s ≠ .ow ds) {a : Addr} (h : Own (setS ρ i s) (σ.set i x) a) : Own ρ σ a := by
  obtain ⟨j, ds, h1, h2⟩ := h
  by_cases hj : j = i
  · subst hj
    have hl : j < ρ.length := by rw [← setS_length ρ j s]; exact getS_lt (by rw [h1]; exact fun z => Sl.noConfusion z)
    rw [getS_set_same hl] at h1
    exact absurd h1 (hs ds)
  · rw [getS_set_ne hj] at h1
    rw [setσ_ne hj] at h2
    exact ⟨j, ds, h1, h2⟩
theorem Wd.set {i : Nat} {s : Sl} {x : Option V} (hs : ∀ ds, s ≠ .ow ds) {a : Addr} (h : Wd W (setS ρ i s) (σ.set i x) a) : Wd W ρ σ a := by
  rcases h with h | h
  · exact .inl h
  · exact .inr (Own.set hs h)
theorem Rp.setIm {i : Nat} {v : V} {d : Dt} (r : Rp K H W ρ σ) (h : Rep K H (Wd W ρ σ) v d) : Rp K H W (setS ρ i (.im d)) (σ.set i (some v)) := by
  have hs : ∀ ds, Sl.im d ≠ .ow ds := fun _ z => Sl.noConfusion z
  have sub : ∀ a xs, H a = some (.lst xs) → Wd W (setS ρ i (.im d)) (σ.set i (some v)) a → Wd W ρ σ a := fun a xs _ z => Wd.set hs z
  refine ⟨by rw [setS_length, List.length_set]; exact r.len, fun j d' e => ?_, fun j ds e => ?_, fun j l dj dl a e1 e2 e3 e4 => ?_, r.wl⟩
  · by_cases hj : j = i
    · subst hj
      have hl : j < ρ.length := by rw [← setS_length ρ j (.im d)]; exact getS_lt (by rw [e]; exact fun z => Sl.noConfusion z)
      rw [getS_set_same hl] at e
      cases e
      exact ⟨v, by rw [List.getElem?_set_self (by rw [← r.len]; exact hl)], h.sub sub⟩
    · rw [getS_set_ne hj] at e
      obtain ⟨u, h1, h2⟩ := r.im j d' e
      exact ⟨u, by rw [setσ_ne hj]; exact h1, h2.sub sub⟩
  · by_cases hj : j = i
    · subst hj
      have hl : j < ρ.length := by rw [← setS_length ρ j (.im d)]; exact getS_lt (by rw [e]; exact fun z => Sl.noConfusion z)
      rw [getS_set_same hl] at e
      cases e
    · rw [getS_set_ne hj] at e
      obtain ⟨a, vs, h1, h2, h3, h4⟩ := r.ow j ds e
      exact ⟨a, vs, by rw [setσ_ne hj]; exact h1, h2, h3, h4.sub sub⟩
  · have ne : ∀ l dl, getS (setS ρ i (.im d)) l = .ow dl → l ≠ i := fun l dl e z => by
      subst z
      have hl : l < ρ.length := by rw [← setS_length ρ l (.im d)]; exact getS_lt (by rw [e]; exact fun z => Sl.noConfusion z)
      rw [getS_set_same hl] at e
      cases e
    have n1 := ne j dj e1
    have n2 := ne l dl e2
    rw [getS_set_ne n1] at e1
    rw [getS_set_ne n2] at e2
    rw [setσ_ne n1] at e3
    rw [setσ_ne n2] at e4
    exact r.inj j l dj dl a e1 e2 e3 e4
/-- a slot is forgotten -/
theorem Rp.setUn {i : Nat} {x : Option V} (r : Rp K H W ρ σ) : Rp K H W (setS ρ i .un) (σ.set i x) := by
  have hs : ∀ ds, Sl.un ≠ .ow ds := fun _ z => Sl.noConfusion z
  have sub : ∀ a xs, H a = some (.lst xs) → Wd W (setS ρ i .un) (σ.set i x) a → Wd W ρ σ a := fun a xs _ z => Wd.set hs z
  have ne : ∀ l, getS (setS ρ i .un) l ≠ .un → l ≠ i := fun l e z => by
    subst z
    have hl : l < ρ.length := by rw [← setS_length ρ l .un]; exact getS_lt e
    exact e (getS_set_same hl)
  refine ⟨by rw [setS_length, List.length_set]; exact r.len, fun j d' e => ?_, fun j ds e => ?_, fun j l dj dl a e1 e2 e3 e4 => ?_, r.wl⟩
  · have n := ne j (by rw [e]; exact fun z => Sl.noConfusion z)
    rw [getS_set_ne n] at e
    obtain ⟨u, h1, h2⟩ := r.im j d' e
    exact ⟨u, by rw [setσ_ne n]; exact h1, h2.sub sub⟩
  · have n := ne j (by rw [e]; exact fun z => Sl.noConfusion z)
    rw [getS_set_ne n] at e
    obtain ⟨a, vs, h1, h2, h3, h4⟩ := r.ow j ds e
    exact ⟨a, vs, by rw [setσ_ne n]; exact h1, h2, h3, h4.sub sub⟩
  · have n1 := ne j (by rw [e1]; exact fun z => Sl.noConfusion z)
    have n2 := ne l (by rw [e2]; exact fun z => Sl.noConfusion z)
    rw [getS_set_ne n1] at e1
    rw [getS_set_ne n2] at e2
    rw [setσ_ne n1] at e3
    rw [setσ_ne n2] at e4
    exact r.inj j l dj dl a e1 e2 e3 e4
/-- a slot takes a new list -/
theorem Rp.setOw {i : Nat} {p : Addr} {vs : List V} {ds : List Dt} (r : Rp K H W ρ σ) (e : Ext H H') (hp : H p = none) (hp' : H' p = some (.lst vs)) (ra : RepA K H' (fun a => Wd W ρ σ a ∨ a = p) vs ds) :
    Rp K H' W (setS ρ i (.ow ds)) (σ.set i (some (.ref p))) := by
  have sub0 : ∀ a, Wd W (setS ρ i (.ow ds)) (σ.set i (some (.ref p))) a → Wd W ρ σ a ∨ a = p := fun a z => by
    rcases z with z | ⟨j, es, h1, h2⟩
    · exact .inl (.inl z)
    · by_cases hj : j = i
      · subst hj
        have hl : j < ρ.length := by rw [← setS_length ρ j (.ow ds)]; exact getS_lt (by rw [h1]; exact fun z => Sl.noConfusion z)
        rw [List.getElem?_set_self (by rw [← r.len]; exact hl)] at h2
        cases h2
        exact .inr rfl
      · rw [getS_set_ne hj] at h1
        rw [setσ_ne hj] at h2
        exact .inl (.inr ⟨j, es, h1, h2⟩)
  have sub : ∀ a xs, H a = some (.lst xs) → Wd W (setS ρ i (.ow ds)) (σ.set i (some (.ref p))) a → Wd W ρ σ a := fun a xs ha z => by
    rcases sub0 a z with z | z
    · exact z
    · rw [z, hp] at ha; cases ha
  refine ⟨by rw [setS_length, List.length_set]; exact r.len, fun j d' e' => ?_, fun j es e' => ?_, fun j l dj dl a e1 e2 e3 e4 => ?_, fun a z => ?_⟩
  · by_cases hj : j = i
    · subst hj
      have hl : j < ρ.length := by rw [← setS_length ρ j (.ow ds)]; exact getS_lt (by rw [e']; exact fun z => Sl.noConfusion z)
      rw [getS_set_same hl] at e'
      cases e'
    · rw [getS_set_ne hj] at e'
      obtain ⟨u, h1, h2⟩ := r.im j d' e'
      exact ⟨u, by rw [setσ_ne hj]; exact h1, h2.keep e.kw sub⟩
  · by_cases hj : j = i
    · subst hj
      have hl : j < ρ.length := by rw [← setS_length ρ j (.ow ds)]; exact getS_lt (by rw [e']; exact fun z => Sl.noConfusion z)
      rw [getS_set_same hl] at e'
      cases e'
      refine ⟨p, vs, by rw [List.getElem?_set_self (by rw [← r.len]; exact hl)], hp', fun z => ?_, ?_⟩
      · obtain ⟨xs, hx⟩ := r.wl p z
        rw [hp] at hx; cases hx
      · exact ra.sub fun a _ _ z => sub0 a z
    · rw [getS_set_ne hj] at e'
      obtain ⟨a, us, h1, h2, h3, h4⟩ := r.ow j es e'
      exact ⟨a, us, by rw [setσ_ne hj]; exact h1, e.keep _ _ h2 rfl, h3, h4.keep e.kw sub⟩
  · have old : ∀ l dl, l ≠ i → getS (setS ρ i (.ow ds)) l = .ow dl → (σ.set i (some (V.ref p)))[l]? = some (some (.ref a)) → a ≠ p := fun l dl n e' q z => by
      rw [getS_set_ne n] at e'
      rw [setσ_ne n] at q
      obtain ⟨b, us, h1, h2, _⟩ := r.ow l dl e'
      rw [q] at h1
      cases h1
      rw [z, hp] at h2
      cases h2
    have at_ : ∀ l dl, l = i → getS (setS ρ i (.ow ds)) l = .ow dl → (σ.set i (some (V.ref p)))[l]? = some (some (.ref a)) → a = p := fun l dl n e' q => by
      subst n
      have hl : l < ρ.length := by rw [← setS_length ρ l (.ow ds)]; exact getS_lt (by rw [e']; exact fun z => Sl.noConfusion z)
      rw [List.getElem?_set_self (by rw [← r.len]; exact hl)] at q
      cases q
      rfl
    by_cases n1 : j = i
    · by_cases n2 : l = i
      · rw [n1, n2]
      · exact absurd (at_ j dj n1 e1 e3) (old l dl n2 e2 e4)
    · by_cases n2 : l = i
      · exact absurd (at_ l dl n2 e2 e4) (old j dj n1 e1 e3)
      · rw [getS_set_ne n1] at e1
        rw [getS_set_ne n2] at e2
        rw [setσ_ne n1] at e3
        rw [setσ_ne n2] at e4
        exact r.inj j l dj dl a e1 e2 e3 e4
  · obtain ⟨xs, hx⟩ := r.wl a z
    exact ⟨xs, e.keep _ _ hx rfl⟩
end
end EL
end

section
set_option Elab.async false
set_option maxRecDepth 100000
/-! EL targets, comprehensions. -/
namespace EL
open PySem PySem.Spec PyProof.Rows L2

/-! ### targets: names, tuples of targets -/
def SdG (T : List Addr) (K : PySem.W.Frag) (g : TG) (gf : Dt → Rho → Option Rho) (is : List Nat) : Prop :=
  ∀ (W : Addr → Prop) (ρ : Rho) (σ : L2.St) (H : Hp) (v : V) (d : Dt) (ρ' : Rho) (Q : L2.St → Hp → Prop), Gd T H → Rp K H W ρ σ → Rep K H (Wd W ρ σ) v d → gf d ρ = some ρ' →
    (∀ σ', Rp K H W ρ' σ' → (∀ j, j ∉ is → σ'[j]? = σ[j]?) → σ'.length = σ.length → (∀ a, Own ρ' σ' a → Own ρ σ a) → (∀ j, j ∉ is → getS ρ' j = getS ρ j) → Q σ' H) → g v σ H Q
def SdGs (T : List Addr) (K : PySem.W.Frag) (g : TGs) (gf : List Dt → Rho → Option Rho) (is : List Nat) : Prop :=
  ∀ (W : Addr → Prop) (ρ : Rho) (σ : L2.St) (H : Hp) (v : List V) (d : List Dt) (ρ' : Rho) (Q : L2.St → Hp → Prop), Gd T H → Rp K H W ρ σ → RepA K H (Wd W ρ σ) v d → gf d ρ = some ρ' →
    (∀ σ', Rp K H W ρ' σ' → (∀ j, j ∉ is → σ'[j]? = σ[j]?) → σ'.length = σ.length → (∀ a, Own ρ' σ' a → Own ρ σ a) → (∀ j, j ∉ is → getS ρ' j = getS ρ j) → Q σ' H) → g v σ H Q
structure DG (T : List Addr) (K : PySem.W.Frag) (X : Cx) (tg : Expr) (g : TG) (gf : Dt → Rho → Option Rho) (is : List Nat) : Prop where
  pg : PG X tg g
  sd : SdG T K g gf is
structure DGs (T : List Addr) (K : PySem.W.Frag) (X : Cx) (tg : List Expr) (g : TGs) (gf : List Dt → Rho → Option Rho) (is : List Nat) : Prop where
  pg : PGs X tg g
  sd : SdGs T K g gf is
def hName (i : Nat) : Dt → Rho → Option Rho := fun d ρ => some (setS ρ i (.im d))
def hNil : List Dt → Rho → Option Rho := fun ds ρ => match ds with | [] => some ρ | _ => none
def hCons (g : Dt → Rho → Option Rho) (gs : List Dt → Rho → Option Rho) : List Dt → Rho → Option Rho := fun ds ρ => match ds with | d :: r => (g d ρ).bind fun ρ' => gs r ρ' | [] => none
def hTup (n : Nat) (gs : List Dt → Rho → Option Rho) : Dt → Rho → Option Rho := fun d ρ => match d with | .tup ds => if ds.length = n then gs ds ρ else none | _ => none
section
variable {T : List Addr} {X : Cx} {K : PySem.W.Frag} {e : Expr} {es : List Expr} {pos : Pos} {g : TG} {gs : TGs} {gf : Dt → Rho → Option Rho} {gfs : List Dt → Rho → Option Rho} {is js : List Nat}
theorem dg_name (i : Nat) {x : Str} (hN : X.N.Nodup) (hi : X.N[i]? = some x := by rfl) (hx : Loc X.env.scope x := by first | exact Or.inl rfl | exact Or.inr rfl) (hf : X.fn x = true ∨ X.env.scope.names.lookup x = some .local := by first | exact .inl rfl | exact .inr rfl) :
    DG T K X (.Name x pos) (gName i) (hName i) [i] := ⟨pg_name hN hi hx hf, fun W ρ σ H v d ρ' Q _ rp r e q => by
  cases e
  refine q _ (rp.setIm r) (fun j hj => setσ_ne fun z => hj (by rw [z]; exact List.mem_singleton.mpr rfl)) (List.length_set ..) (fun a z => Own.set (fun _ y => Sl.noConfusion y) z) fun j hj => getS_set_ne fun z => hj (by rw [z]; exact List.mem_singleton.mpr rfl)⟩
theorem dgs_nil : DGs T K X [] gNil hNil [] := ⟨pgs_nil, fun W ρ σ H v d ρ' Q _ rp r e q => by
  cases r with
  | nil => cases e; exact ⟨rfl, q σ rp (fun _ _ => rfl) rfl (fun _ z => z) fun _ _ => rfl⟩
  | cons _ _ => cases e⟩
theorem dgs_cons (h : DG T K X e g gf is) (h2 : DGs T K X es gs gfs js) (hz : (assignEach (e :: es) X.env).map (·.2) = assign e X.env :: (assignEach es X.env).map (·.2) := by rfl) : DGs T K X (e :: es) (gCons g gs) (hCons gf gfs) (is ++ js) := ⟨pgs_cons h.pg h2.pg hz, fun W ρ σ H v d ρ' Q gd rp r e' q => by
  cases r with
  | nil => cases e'
  | @cons v1 d1 vs ds r1 r2 =>
    obtain ⟨ρ1, e1, e2⟩ := obind e'
    refine ⟨v1, vs, rfl, h.sd W ρ σ H v1 d1 ρ1 _ gd rp r1 e1 fun σ1 rp1 k1 l1 o1 u1 => ?_⟩
    refine h2.sd W ρ1 σ1 H vs ds ρ' Q gd rp1 (r2.sub fun a _ _ z => z.imp (fun z => z) (o1 a)) e2 fun σ2 rp2 k2 l2 o2 u2 => ?_
    refine q σ2 rp2 (fun j hj => ?_) (l2.trans l1) (fun a z => o1 a (o2 a z)) fun j hj => ?_
    · rw [List.mem_append, not_or] at hj
      exact (k2 j hj.2).trans (k1 j hj.1)
    · rw [List.mem_append, not_or] at hj
      exact (u2 j hj.2).trans (u1 j hj.1)⟩
theorem dg_tup {k n : Nat} (hc : X.calm = true) (h : DGs T K X es gs gfs is) (hn : (assignEach es X.env).length = n := by rfl) (hz : (assignEach es X.env).findIdx? (·.1) = none := by rfl) (hk : X.K = K := by rfl) : DG T K X (.Tuple es k pos) (gTup K n gs) (hTup n gfs) is := by subst hk; exact ⟨pg_tup hc h.pg hn hz, fun W ρ σ H v d ρ' Q gd rp r e' q => by
  cases r with
  | @tup a xs ds h1 ra =>
    dsimp only [hTup] at e'
    by_cases hl : ds.length = n
    · rw [if_pos hl] at e'
      exact ⟨a, xs, rfl, .of h1, by rw [ra.length]; exact hl, h.sd W ρ σ H xs ds ρ' Q gd rp ra e' q⟩
    · rw [if_neg hl] at e'; cases e'
  | _ => cases e'⟩
end

/-! ### comprehensions -/
def wipeR (ρ : Rho) : List Nat → Rho
  | [] => ρ
  | v :: vs => setS (wipeR ρ vs) v .un
def noOw (ρ : Rho) : List Nat → Bool
  | [] => true
  | v :: vs => (match getS ρ v with | .ow _ => false | _ => true) && noOw ρ vs
theorem noOw_at {ρ : Rho} : ∀ {vs : List Nat}, noOw ρ vs = true → ∀ v ∈ vs, ∀ ds, getS ρ v ≠ .ow ds
  | [], _, _, h, _, _ => by cases h
  | v :: vs, h, u, hu, ds, e => by
    have h2 := Bool.and_eq_true_iff.mp (show (_ && _) = true from h)
    rcases List.mem_cons.mp hu with rfl | hu
    · have := h2.1
      rw [e] at this
      cases this
    · exact noOw_at h2.2 u hu ds e
theorem getS_wipe {ρ : Rho} {i : Nat} : ∀ {vs : List Nat}, i ∉ vs → getS (wipeR ρ vs) i = getS ρ i
  | [], _ => rfl
  | v :: vs, h => by
    rw [List.mem_cons, not_or] at h
    show getS (setS (wipeR ρ vs) v .un) i = _
    rw [getS_set_ne h.1, getS_wipe h.2]
theorem wipeσ_ne {σ : L2.St} {i : Nat} : ∀ {vs : List Nat}, i ∉ vs → (wipe σ vs)[i]? = σ[i]?
  | [], _ => rfl
  | v :: vs, h => by
    rw [List.mem_cons, not_or] at h
    show ((wipe σ vs).set v none)[i]? = _
    rw [setσ_ne h.1, wipeσ_ne h.2]
theorem wipe_eq {σ σ' : L2.St} {vs : List Nat} (hl : σ'.length = σ.length) (h : ∀ j, j ∉ vs → σ'[j]? = σ[j]?) : wipe σ' vs = wipe σ vs := by
  apply List.ext_getElem?
  intro i
  by_cases hi : i ∈ vs
  · have key : ∀ (τ : L2.St) (us : List Nat), i ∈ us → (wipe τ us)[i]? = if i < τ.length then some none else none := fun τ us => by
      induction us with
      | nil => intro h; cases h
      | cons u us ih =>
        intro hu
        show ((wipe τ us).set u none)[i]? = _
        by_cases e : i = u
        · subst e
          rw [List.getElem?_set, if_pos rfl, wipe_length]
        · rw [setσ_ne e]
          rcases List.mem_cons.mp hu with z | z
          · exact absurd z e
          · exact ih z
    rw [key σ' vs hi, key σ vs hi, hl]
  · rw [wipeσ_ne hi, wipeσ_ne hi, h i hi]
theorem wipe_wipe {σ : L2.St} {vs : List Nat} : wipe (wipe σ vs) vs = wipe σ vs := wipe_eq (wipe_length σ vs) fun j hj => wipeσ_ne hj
section
variable {K : PySem.W.Frag} {H H' : Hp} {W : Addr → Prop} {ρ : Rho} {σ : L2.St}
theorem Rp.wipe (r : Rp K H W ρ σ) : ∀ vs : List Nat, Rp K H W (wipeR ρ vs) (L2.wipe σ vs)
  | [] => r
  | v :: vs => (Rp.wipe r vs).setUn
theorem Own.wipe {vs : List Nat} (hn : noOw ρ vs = true) {a : Addr} : Own ρ σ a ↔ Own (wipeR ρ vs) (L2.wipe σ vs) a := by
  constructor
  · rintro ⟨i, ds, h1, h2⟩
    have hi : i ∉ vs := fun z => noOw_at hn i z ds h1
    exact ⟨i, ds, by rw [getS_wipe hi]; exact h1, by rw [wipeσ_ne hi]; exact h2⟩
  · rintro ⟨i, ds, h1, h2⟩
    have hi : i ∉ vs := fun z => by
      have key : ∀ us : List Nat, i ∈ us → getS (wipeR ρ us) i = .un := fun us => by
        induction us with
        | nil => intro h; cases h
        | cons u us ih =>
          intro hu
          show getS (setS (wipeR ρ us) u .un) i = _
          by_cases e : i = u
          · subst e
            by_cases hl : i < (wipeR ρ us).length
            · exact getS_set_same hl
            · exact getS_out (by rw [setS_length]; omega)
          · rw [getS_set_ne e]
            rcases List.mem_cons.mp hu with z | z
            · exact absurd z e
            · exact ih z
      rw [key vs z] at h1
      cases h1
    exact ⟨i, ds, by rw [getS_wipe hi] at h1; exact h1, by rw [wipeσ_ne hi] at h2; exact h2⟩
end
def compGo (ρ : Rho) (gf : Dt → Rho → Option Rho) (ft : FnB) (fe : Fn) : List Dt → Option (List Dt)
  | [] => some []
  | d :: ds => (gf d ρ).bind fun ρ' => (ft ρ').bind fun b => if b = true then (fe ρ').bind fun y => (compGo ρ gf ft fe ds).bind fun r => some (y :: r) else compGo ρ gf ft fe ds
def fComp (fi : FnL) (gf : Dt → Rho → Option Rho) (ft : FnB) (fe : Fn) (vs : List Nat) : FnL := fun ρ => (fi ρ).bind fun ds => if noOw ρ vs = true ∧ ds.length ≤ sizeLine then compGo (wipeR ρ vs) gf ft fe ds else none
def fYes : FnB := fun _ => some true
theorem sd_lc {k : Bool} {T : List Addr} {K : PySem.W.Frag} {wi : TI} {g : TG} {tt : TT} {te : TE} {fi : FnL} {gf : Dt → Rho → Option Rho} {is vs : List Nat} {ft : FnB} {fe : Fn} (hi : SdI k T K wi fi) (hg : SdG T K g gf is) (ht : SdT T K tt ft) (he : Sd true T K te fe) (hs : ∀ i ∈ is, i ∈ vs) :
    SdF T K (tLc wi g tt te vs) (fComp fi gf ft fe vs) := fun W ρ σ H ds Q gd rp e q => by
  obtain ⟨src, ei, e⟩ := obind e
  by_cases hz : noOw ρ vs = true ∧ src.length ≤ sizeLine
  · rw [if_pos hz] at e
    obtain ⟨hn, hlen⟩ := hz
    refine hi W ρ σ H src _ gd rp ei fun J H1 e1 g1 jok D hD => ?_
    have rp1 := rp.ext e1
    have rpD : Rp K (upd H1 D (.lst [])) (fun a => W a ∨ a = D) (wipeR ρ vs) (L2.wipe σ vs) := (rp1.addW (zs := []) hD).wipe vs
    have gD : Gd T (upd H1 D (.lst [])) := g1.newL hD (Nat.zero_le _)
    have eD : Ext H1 (upd H1 D (.lst [])) := Ext.new hD
    -- W and D and the owned ones
    have wd : ∀ {ρ' : Rho} {σ' : L2.St}, (∀ a, Own ρ' σ' a → Own (wipeR ρ vs) (L2.wipe σ vs) a) → (∀ a, Own (wipeR ρ vs) (L2.wipe σ vs) a → Own ρ' σ' a) → ∀ a, Wd (fun a => W a ∨ a = D) ρ' σ' a ↔ (Wd W ρ σ a ∨ a = D) := fun o1 o2 a => by
      constructor
      · rintro ((z | z) | z)
        · exact .inl (.inl z)
        · exact .inr z
        · exact .inl (.inr ((Own.wipe hn).mpr (o1 a z)))
      · rintro ((z | z) | z)
        · exact .inl (.inl z)
        · exact .inr (o2 a ((Own.wipe hn).mp z))
        · exact .inl (.inr z)
    refine ⟨fun i m Hc => m = src.length - i ∧ i ≤ src.length ∧ Ext (upd H1 D (.lst [])) (upd Hc D (.lst [])) ∧ Gd T Hc ∧ ∃ acc out rest, Hc D = some (.lst acc) ∧ acc.length ≤ i ∧ RepA K Hc (fun a => Wd W ρ σ a ∨ a = D) acc out ∧ compGo (wipeR ρ vs) gf ft fe (src.drop i) = some rest ∧ out ++ rest = ds,
      ⟨src.length, rfl, Nat.zero_le _, by rw [upd_upd]; exact Ext.refl _, gD, [], [], ds, upd_same, Nat.le_refl _, .nil, e, rfl⟩, fun i m Hc hW => ?_⟩
    obtain ⟨rfl, hile, ex, gc, acc, out, rest, hDc, hacc, racc, ego, eds⟩ := hW
    -- from H1 to Hc
    have e1c : Ext H1 Hc := ⟨fun b o h n => by
      have hb : b ≠ D := ne_of_none h hD
      have := ex.keep b o (by rw [upd_ne hb]; exact h) n
      rw [upd_ne hb] at this
      exact this, fun b h => by
      by_cases hb : b = D
      · rw [hb]; exact hD
      · have := ex.there b (by rw [upd_ne hb]; exact h)
        rw [upd_ne hb] at this
        exact this⟩
    obtain ⟨jgo, jstop⟩ := jok Hc e1c.kp gc
    have rpc : Rp K Hc (fun a => W a ∨ a = D) (wipeR ρ vs) (L2.wipe σ vs) := by
      have base : Rp K (upd Hc D (.lst [])) (fun a => W a ∨ a = D) (wipeR ρ vs) (L2.wipe σ vs) := rpD.ext ex
      have kw : KeepW (Wd (fun a => W a ∨ a = D) (wipeR ρ vs) (L2.wipe σ vs)) (upd Hc D (.lst [])) Hc := by
        have := KeepW.set (o := .lst acc) (H := upd Hc D (.lst [])) (W := Wd (fun a => W a ∨ a = D) (wipeR ρ vs) (L2.wipe σ vs)) upd_same (.inl (.inr rfl))
        rw [upd_upd] at this
        have e2 : upd Hc D (.lst acc) = Hc := by
          funext b
          by_cases hb : b = D
          · rw [hb, upd_same, hDc]
          · rw [upd_ne hb]
        rw [e2] at this
        exact this
      refine ⟨base.len, fun j d h => ?_, fun j es h => ?_, base.inj, fun a z => ?_⟩
      · obtain ⟨v, h1, h2⟩ := base.im j d h
        exact ⟨v, h1, h2.keep kw fun _ _ _ z => z⟩
      · obtain ⟨b, us, h1, h2, h3, h4⟩ := base.ow j es h
        have hb : b ≠ D := fun z => h3 (.inr z)
        rw [upd_ne hb] at h2
        exact ⟨b, us, h1, h2, h3, h4.keep kw fun _ _ _ z => z⟩
      · by_cases hb : a = D
        · exact ⟨acc, by rw [hb]; exact hDc⟩
        · obtain ⟨xs, hx⟩ := base.wl a z
          rw [upd_ne hb] at hx
          exact ⟨xs, hx⟩
    by_cases hlt : i < src.length
    · obtain ⟨d, hd⟩ : ∃ d, src[i]? = some d := ⟨src[i], List.getElem?_eq_getElem hlt⟩
      obtain ⟨go, yl⟩ := jgo i d hd
      have edrop : src.drop i = d :: src.drop (i + 1) := by
        rw [List.drop_eq_getElem_cons hlt]
        rw [List.getElem?_eq_getElem hlt] at hd
        cases hd
        rfl
      rw [edrop] at ego
      obtain ⟨ρ2, eg, ego⟩ := obind ego
      obtain ⟨b, et, ego⟩ := obind ego
      refine .inr ⟨go, fun Hn => Ext (upd H1 D (.lst [])) (upd Hn D (.lst [])) ∧ Gd T Hn ∧ ∃ acc out rest, Hn D = some (.lst acc) ∧ acc.length ≤ i + 1 ∧ RepA K Hn (fun a => Wd W ρ σ a ∨ a = D) acc out ∧ compGo (wipeR ρ vs) gf ft fe (src.drop (i + 1)) = some rest ∧ out ++ rest = ds,
        fun Hn hN => ⟨src.length - (i + 1), by omega, rfl, hlt, hN⟩, fun x H' y => ?_⟩
      obtain ⟨e2, g2, rx⟩ := yl x H' y
      have grow : ∀ {Hn : Hp}, Ext Hc Hn → Ext (upd H1 D (.lst [])) (upd Hn D (.lst [])) := fun {Hn} en => ⟨fun b o h n => by
        by_cases hb : b = D
        · rw [hb, upd_same] at h ⊢
          exact h
        · have h3 := ex.keep b o h n
          rw [upd_ne hb] at h3 ⊢
          exact en.keep b o h3 n, fun b h => by
        by_cases hb : b = D
        · rw [hb, upd_same] at h; cases h
        · rw [upd_ne hb] at h ⊢
          have h3 := ex.there b (by rw [upd_ne hb]; exact en.there b h)
          rw [upd_ne hb] at h3
          exact h3⟩
      have rp2 := rpc.ext e2
      have rx' : Rep K H' (Wd (fun a => W a ∨ a = D) (wipeR ρ vs) (L2.wipe σ vs)) x d := rx.sub fun a xs h z => by
        rcases (wd (fun _ z => z) (fun _ z => z) a).mp z with z | z
        · exact .inl z
        · exact .inr (by rw [z]; exact hD)
      refine hg _ (wipeR ρ vs) (L2.wipe σ vs) H' x d ρ2 _ g2 rp2 rx' eg fun σ2 rp3 k3 l3 o3 u3 => ?_
      have hnis : ∀ j, j ∉ vs → j ∉ is := fun j hj z => hj (hs j z)
      refine ⟨?_, ?_⟩
      · rw [wipe_eq l3 fun j hj => k3 j (hnis j hj), wipe_wipe]
      have o4 : ∀ a, Own (wipeR ρ vs) (L2.wipe σ vs) a → Own ρ2 σ2 a := fun a z => by
        obtain ⟨j, es, h1, h2⟩ := z
        obtain ⟨j0, es0, h10, h20⟩ := (Own.wipe hn).mpr ⟨j, es, h1, h2⟩
        have hj0 : j0 ∉ vs := fun z => noOw_at hn j0 z es0 h10
        exact ⟨j0, es0, by rw [u3 j0 (hnis j0 hj0), getS_wipe hj0]; exact h10, by rw [k3 j0 (hnis j0 hj0), wipeσ_ne hj0]; exact h20⟩
      refine ht _ ρ2 σ2 H' b _ g2 rp3 et fun H3 e3 g3 => ?_
      cases b with
      | true =>
        rw [if_pos rfl] at ego ⊢
        obtain ⟨y', ey, ego⟩ := obind ego
        obtain ⟨r', er, ego⟩ := obind ego
        cases ego
        refine he _ ρ2 σ2 H3 y' _ g3 (rp3.ext e3) ey fun v4 H4 e4 g4 r4 => ?_
        have ec4 : Ext Hc H4 := (e2.trans e3).trans e4
        have hD4 : H4 D = some (.lst acc) := ec4.keep D _ hDc rfl
        have hal : acc.length < sizeLine := by omega
        have r4' : Rep K H4 (fun a => Wd W ρ σ a ∨ a = D) v4 y' := r4.wt.sub fun a _ _ z => (wd o3 o4 a).mpr z
        have kw : KeepW (fun a => Wd W ρ σ a ∨ a = D) H4 (upd H4 D (.lst (acc ++ [v4]))) := KeepW.set hD4 (.inr rfl)
        refine ⟨acc, hD4, hal, by rw [upd_upd]; exact grow ec4, g4.setL hD4 (by rw [List.length_append, List.length_singleton]; omega), acc ++ [v4], out ++ [y'], r', upd_same, by rw [List.length_append, List.length_singleton]; omega, ?_, er, by rw [List.append_assoc]; exact eds⟩
        exact ((racc.ext ec4).keep kw fun _ _ _ z => z).append (.one (r4'.keep kw fun _ _ _ z => z))
      | false =>
        rw [if_neg Bool.false_ne_true] at ego ⊢
        have ec3 : Ext Hc H3 := e2.trans e3
        exact ⟨grow ec3, g3, acc, out, rest, ec3.keep D _ hDc rfl, by omega, racc.ext ec3, ego, eds⟩
    · have hi' : i = src.length := by omega
      subst hi'
      refine .inl ⟨jstop _ (Nat.le_refl _), ?_⟩
      rw [List.drop_length] at ego
      cases ego
      rw [List.append_nil] at eds
      subst eds
      exact q D acc Hc (e1.trans e1c) gc (e1.there D hD) hDc racc
  · rw [if_neg hz] at e; cases e
/-- [elt for tg in iter if ..] -/
theorem df_lc {T : List Addr} {K : PySem.W.Frag} {X : Cx} {elt tg iter : Expr} {ifs : List Expr} {scope : Scope} {own : List (Str × Nat)} {pos : Pos} {wi : TI} {g : TG} {tt : TT} {te : TE} {fi : FnL} {gf : Dt → Rho → Option Rho} {is : List Nat} {ft : FnB} {fe : Fn} (hc : X.calm = true) (hN : X.N.Nodup) (hi : DI false T K X tg iter wi fi) (ok : blkC X.N X.env.scope scope own = true)
    (hg : ∀ (s : Shared) (H : Hp) (C : Addr) (cl : List (Str × Addr)) (fp : List Addr), DG T K (X.blk s H scope (compEnvC scope cl C X.env) fp) tg g gf is)
    (ht : ∀ (s : Shared) (H : Hp) (C : Addr) (cl : List (Str × Addr)) (fp : List Addr), PTs (X.blk s H scope (compEnvC scope cl C X.env) fp) ifs tt ∧ SdT T K tt ft)
    (he : ∀ (s : Shared) (H : Hp) (C : Addr) (cl : List (Str × Addr)) (fp : List Addr), DE true T K (X.blk s H scope (compEnvC scope cl C X.env) fp) elt te fe)
    (hs : is.all (fun i => (own.map (·.2)).contains i) = true := by rfl) (hfs : ∀ x, foldedSetIterable iter X.env x = pure x := by intro _; rfl) :
    DF T K X (.ListComp elt [⟨tg, iter, ifs, 0⟩] scope pos) (tLc wi g tt te (own.map (·.2))) (fComp fi gf ft fe (own.map (·.2))) :=
  ⟨pe_lc hc hN hi.pi (blkOk_by ok) (fun s H C cl fp => (hg s H C cl fp).pg) (fun s H C cl fp => (ht s H C cl fp).1) (fun s H C cl fp => (he s H C cl fp).pe) hfs,
   sd_lc hi.sd (hg { } (fun _ => none) 0 [] []).sd (ht { } (fun _ => none) 0 [] []).2 (he { } (fun _ => none) 0 [] []).sd fun i hi => by
    have := List.all_eq_true.mp hs i hi
    simpa using this⟩
theorem dts_nil {T : List Addr} {K : PySem.W.Frag} {X : Cx} : PTs X [] tYes ∧ SdT T K tYes fYes := ⟨pts_nil, fun W ρ σ H b Q g r e q => by cases e; exact q H (Ext.refl H) g⟩
theorem dts_one {T : List Addr} {K : PySem.W.Frag} {X : Cx} {c : Expr} {t : TT} {f : FnB} (h : DT T K X c t f) : PTs X [c] t ∧ SdT T K t f := ⟨pts_one h.pt, h.sd⟩
end EL
end

section
set_option Elab.async false
set_option maxRecDepth 100000
/-! EL statements. -/
namespace EL
open PySem PySem.Spec PyProof.Rows L2

/-- how a statement ends -/
inductive Fl where
  | nx (ρ : Rho) | rt (d : Dt) | bk (ρ : Rho) | ct (ρ : Rho)
abbrev FnS := Rho → Option Fl
/-- behind a statement -/
structure Aft (T : List Addr) (K : PySem.W.Frag) (W : Addr → Prop) (as : List Nat) (ρ : Rho) (σ : L2.St) (H : Hp) (ρ' : Rho) (σ' : L2.St) (H' : Hp) : Prop where
  rp : Rp K H' W ρ' σ'
  gd : Gd T H'
  kp : Kp (Own ρ σ) H H'
  ow : ∀ a, Own ρ' σ' a → Own ρ σ a ∨ H a = none
  st : ∀ j, j ∉ as → σ'[j]? = σ[j]?
def Post (T : List Addr) (K : PySem.W.Frag) (W : Addr → Prop) (as : List Nat) (ρ : Rho) (σ : L2.St) (H : Hp) (D : Ends) : Fl → Prop
  | .nx ρ' => ∀ σ' H', Aft T K W as ρ σ H ρ' σ' H' → D.nx σ' H'
  | .bk ρ' => ∀ σ' H', Aft T K W as ρ σ H ρ' σ' H' → D.bk σ' H'
  | .ct ρ' => ∀ σ' H', Aft T K W as ρ σ H ρ' σ' H' → D.ct σ' H'
  | .rt d => ∀ v H', Kp (Own ρ σ) H H' → Gd T H' → Rep K H' W v d → D.rt v H'
def SdS (T : List Addr) (K : PySem.W.Frag) (t : TS) (F : FnS) (as : List Nat) : Prop :=
  ∀ (W : Addr → Prop) (ρ : Rho) (σ : L2.St) (H : Hp) (fl : Fl) (D : Ends), Gd T H → Rp K H W ρ σ → F ρ = some fl → Post T K W as ρ σ H D fl → t D σ H
structure DS (T : List Addr) (K : PySem.W.Frag) (X : Cx) (st : Stmt) (t : TS) (F : FnS) (as : List Nat) : Prop where
  ps : PS X st t
  sd : SdS T K t F as
structure DSs (T : List Addr) (K : PySem.W.Frag) (X : Cx) (st : List Stmt) (t : TS) (F : FnS) (as : List Nat) : Prop where
  ps : PSs X st t
  sd : SdS T K t F as

section
variable {T : List Addr} {K : PySem.W.Frag} {W : Addr → Prop} {as bs : List Nat} {ρ ρ1 ρ2 : Rho} {σ σ1 σ2 : L2.St} {H H1 H2 : Hp}
theorem Aft.trans (x : Aft T K W as ρ σ H ρ1 σ1 H1) (y : Aft T K W bs ρ1 σ1 H1 ρ2 σ2 H2) : Aft T K W (as ++ bs) ρ σ H ρ2 σ2 H2 where
  rp := y.rp
  gd := y.gd
  kp := x.kp.trans y.kp x.ow
  ow := fun a z => by
    rcases y.ow a z with z | z
    · exact x.ow a z
    · exact .inr (x.kp.there a z)
  st := fun j hj => by
    rw [List.mem_append, not_or] at hj
    exact (y.st j hj.2).trans (x.st j hj.1)
theorem Aft.sub (x : Aft T K W as ρ σ H ρ1 σ1 H1) (h : ∀ j ∈ as, j ∈ bs) : Aft T K W bs ρ σ H ρ1 σ1 H1 := ⟨x.rp, x.gd, x.kp, x.ow, fun j hj => x.st j fun z => hj (h j z)⟩
theorem Aft.refl (g : Gd T H) (rp : Rp K H W ρ σ) : Aft T K W [] ρ σ H ρ σ H := ⟨rp, g, Kp.refl _ _, fun _ z => .inl z, fun _ _ => rfl⟩
theorem Aft.ext (e : Ext H H1) (g : Gd T H1) (rp : Rp K H W ρ σ) : Aft T K W [] ρ σ H ρ σ H1 := ⟨rp.ext e, g, e.kp, fun _ z => .inl z, fun _ _ => rfl⟩
theorem Post.pre {D : Ends} {fl : Fl} (x : Aft T K W as ρ σ H ρ1 σ1 H1) (h : Post T K W (as ++ bs) ρ σ H D fl) : Post T K W bs ρ1 σ1 H1 D fl := by
  cases fl with
  | nx ρ' => exact fun σ' H' y => h σ' H' (x.trans y)
  | bk ρ' => exact fun σ' H' y => h σ' H' (x.trans y)
  | ct ρ' => exact fun σ' H' y => h σ' H' (x.trans y)
  | rt d => exact fun v H' k g r => h v H' (x.kp.trans k x.ow) g r
theorem Post.sub {D : Ends} {fl : Fl} (h : Post T K W bs ρ σ H D fl) (hs : ∀ j ∈ as, j ∈ bs) : Post T K W as ρ σ H D fl := by
  cases fl with
  | nx ρ' => exact fun σ' H' y => h σ' H' (y.sub hs)
  | bk ρ' => exact fun σ' H' y => h σ' H' (y.sub hs)
  | ct ρ' => exact fun σ' H' y => h σ' H' (y.sub hs)
  | rt d => exact h
end

def sNil : FnS := fun ρ => some (.nx ρ)
def sSeq (F G : FnS) : FnS := fun ρ => (F ρ).bind fun fl => match fl with | .nx ρ' => G ρ' | .rt d => some (.rt d) | .bk ρ' => some (.bk ρ') | .ct ρ' => some (.ct ρ')
def sRet (f : Fn) : FnS := fun ρ => (f ρ).bind fun d => some (.rt d)
def sExpr (f : Fn) : FnS := fun ρ => (f ρ).bind fun _ => some (.nx ρ)
def sSet (i : Nat) (f : Fn) : FnS := fun ρ => (f ρ).bind fun d => some (.nx (setS ρ i (.im d)))
def sSetF (i : Nat) (f : FnL) : FnS := fun ρ => (f ρ).bind fun ds => some (.nx (setS ρ i (.ow ds)))
def sAsg (f : Fn) (gf : Dt → Rho → Option Rho) : FnS := fun ρ => (f ρ).bind fun d => (gf d ρ).bind fun ρ' => some (.nx ρ')
def sIf (c : FnB) (F G : FnS) : FnS := fun ρ => (c ρ).bind fun k => if k = true then F ρ else G ρ

section
variable {m k : Bool} {T : List Addr} {X : Cx} {K : PySem.W.Frag} {a b c e tg : Expr} {es : List Expr} {st : Stmt} {sts rest body : List Stmt} {ta tb tc t : TE} {tr : TA} {u v : TS} {f fa fb : Fn} {fr fl : FnL} {F G : FnS} {as bs is : List Nat} {pos p : Pos}
theorem dss_nil : DSs T K X [] tNext sNil [] := ⟨pss_nil, fun W ρ σ H fl D g r e q => by cases e; exact q σ H (Aft.refl g r)⟩
theorem sd_seq (h1 : SdS T K u F as) (h2 : SdS T K v G bs) : SdS T K (tSeq u v) (sSeq F G) (as ++ bs) := fun W ρ σ H fl D g r e q => by
  obtain ⟨f1, e1, e2⟩ := obind e
  refine h1 W ρ σ H f1 _ g r e1 ?_
  cases f1 with
  | nx ρ1 => exact fun σ1 H1 x => h2 W ρ1 σ1 H1 fl D x.gd x.rp e2 (q.pre x)
  | bk ρ1 => cases e2; exact fun σ1 H1 x => q σ1 H1 (x.sub fun j h => List.mem_append_left _ h)
  | ct ρ1 => cases e2; exact fun σ1 H1 x => q σ1 H1 (x.sub fun j h => List.mem_append_left _ h)
  | rt d => cases e2; exact q
theorem dss_cons (h1 : DS T K X st u F as) (h2 : DSs T K X rest v G bs) : DSs T K X (st :: rest) (tSeq u v) (sSeq F G) (as ++ bs) := ⟨pss_cons h1.ps h2.ps, sd_seq h1.sd h2.sd⟩
theorem dss_one (h1 : DS T K X st u F as) : DSs T K X [st] u F as := ⟨pss_one h1.ps, h1.sd⟩
/-- slots are forgotten, lists that are owned are owned no longer, behind a statement -/

theorem ds_pass : DS T K X (.Pass pos) tNext sNil [] := ⟨ps_pass, fun W ρ σ H fl D g r e q => by cases e; exact q σ H (Aft.refl g r)⟩
theorem ds_break : DS T K X (.Break pos) tBreak (fun ρ => some (.bk ρ)) [] := ⟨ps_break, fun W ρ σ H fl D g r e q => by cases e; exact q σ H (Aft.refl g r)⟩
theorem ds_continue : DS T K X (.Continue pos) tCont (fun ρ => some (.ct ρ)) [] := ⟨ps_continue, fun W ρ σ H fl D g r e q => by cases e; exact q σ H (Aft.refl g r)⟩
theorem ds_never : DS T K X st tNever (fun _ => none) [] := ⟨ps_never, fun W ρ σ H fl D g r e q => by cases e⟩
theorem dss_never : DSs T K X sts tNever (fun _ => none) [] := ⟨pss_never, fun W ρ σ H fl D g r e q => by cases e⟩
theorem ds_ret (h : DE true T K X e t f) : DS T K X (.Return (some e) pos) (tRet t) (sRet f) [] := ⟨ps_ret h.pe, fun W ρ σ H fl D g r e q => by
  obtain ⟨d, ed, e⟩ := obind e
  cases e
  exact h.sd W ρ σ H d _ g r ed fun v H' e1 g1 r1 => q v H' e1.kp g1 (r1.wt.sub fun _ _ _ z => .inl z)⟩
theorem ds_retN : DS T K X (.Return none pos) tRetN (fun _ => some (.rt .non)) [] := ⟨ps_retN, fun W ρ σ H fl D g r e q => by
  cases e
  exact q .non H (Kp.refl _ _) g .non⟩
theorem ds_expr (h : DE m T K X e t f) (hs : swapsWith e none pos.line X.env = pure false := by rfl) : DS T K X (.Expr e pos) (tDrop t) (sExpr f) [] := ⟨ps_expr h.pe hs, fun W ρ σ H fl D g r e q => by
  obtain ⟨d, ed, e⟩ := obind e
  cases e
  exact h.sd W ρ σ H d _ g r ed fun v H' e1 g1 _ => q σ H' (Aft.ext e1 g1 r)⟩
theorem sd_set {i : Nat} (h : Sd true T K t f) : SdS T K (tAsg t (gName i)) (sSet i f) [i] := fun W ρ σ H fl D g r e q => by
  obtain ⟨d, ed, e⟩ := obind e
  cases e
  refine h W ρ σ H d _ g r ed fun v H' e1 g1 r1 => q _ H' ⟨(r.ext e1).setIm r1.wt, g1, e1.kp, fun a z => .inl (Own.set (fun _ y => Sl.noConfusion y) z), fun j hj => setσ_ne fun z => hj (by rw [z]; exact List.mem_singleton.mpr rfl)⟩
theorem Own.setOw {i : Nat} {ds : List Dt} {p : Addr} {ρ : Rho} {σ : L2.St} (hl : ρ.length = σ.length) {a : Addr} (z : Own (setS ρ i (.ow ds)) (σ.set i (some (.ref p))) a) : Own ρ σ a ∨ a = p := by
  obtain ⟨j, es, h1, h2⟩ := z
  by_cases hj : j = i
  · subst hj
    have hlt : j < ρ.length := by rw [← setS_length ρ j (.ow ds)]; exact getS_lt (by rw [h1]; exact fun z => Sl.noConfusion z)
    rw [List.getElem?_set_self (by rw [← hl]; exact hlt)] at h2
    cases h2
    exact .inr rfl
  · rw [getS_set_ne hj] at h1
    rw [setσ_ne hj] at h2
    exact .inl ⟨j, es, h1, h2⟩
theorem sd_setF {i : Nat} (h : SdF T K t fl) : SdS T K (tAsg t (gName i)) (sSetF i fl) [i] := fun W ρ σ H fl' D g r e q => by
  obtain ⟨ds, ed, e⟩ := obind e
  cases e
  refine h W ρ σ H ds _ g r ed fun p vs H' e1 g1 hp hp1 r1 => q _ H' ⟨r.setOw e1 hp hp1 r1, g1, e1.kp, fun a z => ?_, fun j hj => setσ_ne fun z => hj (by rw [z]; exact List.mem_singleton.mpr rfl)⟩
  rcases Own.setOw r.len z with z | z
  · exact .inl z
  · exact .inr (by rw [z]; exact hp)
theorem ds_set {i : Nat} {x : Str} {p' : Pos} (hN : X.N.Nodup) (h : DE true T K X e t f) (hi : X.N[i]? = some x := by rfl) (hx : Loc X.env.scope x := by first | exact Or.inl rfl | exact Or.inr rfl) (hs : swapsWith e (some (.Name x p')) pos.line X.env = pure false := by rfl) (hf : X.fn x = true ∨ X.env.scope.names.lookup x = some .local := by first | exact .inl rfl | exact .inr rfl) :
    DS T K X (.Assign [.Name x p'] e pos) (tAsg t (gName i)) (sSet i f) [i] := ⟨ps_set hN hi hx h.pe hs hf, sd_set h.sd⟩
theorem ds_setF {i : Nat} {x : Str} {p' : Pos} (hN : X.N.Nodup) (h : DF T K X e t fl) (hi : X.N[i]? = some x := by rfl) (hx : Loc X.env.scope x := by first | exact Or.inl rfl | exact Or.inr rfl) (hs : swapsWith e (some (.Name x p')) pos.line X.env = pure false := by rfl) (hf : X.fn x = true ∨ X.env.scope.names.lookup x = some .local := by first | exact .inl rfl | exact .inr rfl) :
    DS T K X (.Assign [.Name x p'] e pos) (tAsg t (gName i)) (sSetF i fl) [i] := ⟨ps_set hN hi hx h.pe hs hf, sd_setF h.sd⟩
/-- y = [elt for ..]: y a plain local, on one line -/
theorem ds_setLc {i : Nat} {y : Str} {py : Pos} {elt iter : Expr} {ifs : List Expr} {scope : Scope} {own : List (Str × Nat)} {spos : Pos} {wi : TI} {g : TG} {tt : TT} {te : TE} {fi : FnL} {gf : Dt → Rho → Option Rho} {ft : FnB} {fe : Fn} (hc : X.calm = true) (hN : X.N.Nodup) (hi : DI false T K X tg iter wi fi) (ok : blkC X.N X.env.scope scope own = true)
    (hg : ∀ (s : Shared) (H : Hp) (C : Addr) (cl : List (Str × Addr)) (fp : List Addr), DG T K (X.blk s H scope (compEnvC scope cl C X.env) fp) tg g gf is)
    (ht : ∀ (s : Shared) (H : Hp) (C : Addr) (cl : List (Str × Addr)) (fp : List Addr), PTs (X.blk s H scope (compEnvC scope cl C X.env) fp) ifs tt ∧ SdT T K tt ft)
    (he : ∀ (s : Shared) (H : Hp) (C : Addr) (cl : List (Str × Addr)) (fp : List Addr), DE true T K (X.blk s H scope (compEnvC scope cl C X.env) fp) elt te fe)
    (hy : X.N[i]? = some y := by rfl) (hyl : X.env.scope.names.lookup y = some .local := by rfl)
    (hsw : swapsWith (.ListComp elt [⟨tg, iter, ifs, 0⟩] scope pos) (some (.Name y py)) spos.line X.env = pure true := by exact sw_true rfl rfl rfl (by decide +kernel))
    (hs : is.all (fun i => (own.map (·.2)).contains i) = true := by rfl) (hfs : ∀ x, foldedSetIterable iter X.env x = pure x := by intro _; rfl) :
    DS T K X (.Assign [.Name y py] (.ListComp elt [⟨tg, iter, ifs, 0⟩] scope pos) spos) (tAsg (tLc wi g tt te (own.map (·.2))) (gName i)) (sSetF i (fComp fi gf ft fe (own.map (·.2)))) [i] :=
  ⟨ps_setLc hc hN hy hyl hsw hi.pi (blkOk_by ok) (fun s H C cl fp => (hg s H C cl fp).pg) (fun s H C cl fp => (ht s H C cl fp).1) (fun s H C cl fp => (he s H C cl fp).pe) hfs,
   sd_setF (sd_lc hi.sd (hg { } (fun _ => none) 0 [] []).sd (ht { } (fun _ => none) 0 [] []).2 (he { } (fun _ => none) 0 [] []).sd fun i hi => by
    have := List.all_eq_true.mp hs i hi
    simpa using this)⟩
/-- the same, the list never changed -/
theorem ds_setLcI {i : Nat} {y : Str} {py : Pos} {elt iter : Expr} {ifs : List Expr} {scope : Scope} {own : List (Str × Nat)} {spos : Pos} {wi : TI} {g : TG} {tt : TT} {te : TE} {fi : FnL} {gf : Dt → Rho → Option Rho} {ft : FnB} {fe : Fn} (hc : X.calm = true) (hN : X.N.Nodup) (hi : DI false T K X tg iter wi fi) (ok : blkC X.N X.env.scope scope own = true)
    (hg : ∀ (s : Shared) (H : Hp) (C : Addr) (cl : List (Str × Addr)) (fp : List Addr), DG T K (X.blk s H scope (compEnvC scope cl C X.env) fp) tg g gf is)
    (ht : ∀ (s : Shared) (H : Hp) (C : Addr) (cl : List (Str × Addr)) (fp : List Addr), PTs (X.blk s H scope (compEnvC scope cl C X.env) fp) ifs tt ∧ SdT T K tt ft)
    (he : ∀ (s : Shared) (H : Hp) (C : Addr) (cl : List (Str × Addr)) (fp : List Addr), DE true T K (X.blk s H scope (compEnvC scope cl C X.env) fp) elt te fe)
    (hy : X.N[i]? = some y := by rfl) (hyl : X.env.scope.names.lookup y = some .local := by rfl)
    (hsw : swapsWith (.ListComp elt [⟨tg, iter, ifs, 0⟩] scope pos) (some (.Name y py)) spos.line X.env = pure true := by exact sw_true rfl rfl rfl (by decide +kernel))
    (hs : is.all (fun i => (own.map (·.2)).contains i) = true := by rfl) (hfs : ∀ x, foldedSetIterable iter X.env x = pure x := by intro _; rfl) :
    DS T K X (.Assign [.Name y py] (.ListComp elt [⟨tg, iter, ifs, 0⟩] scope pos) spos) (tAsg (tLc wi g tt te (own.map (·.2))) (gName i)) (sSet i (fLst (fComp fi gf ft fe (own.map (·.2))))) [i] :=
  ⟨(ds_setLc (T := T) hc hN hi ok hg ht he hy hyl hsw hs hfs).ps, sd_set (DF.de (m := true) (df_lc (T := T) (pos := pos) hc hN hi ok hg ht he hs hfs)).sd⟩
/-- a, b = e1, e2: two plain names -/
def sPar (i j : Nat) (fr : FnL) : FnS := fun ρ => (fr ρ).bind fun ds => match ds with | [d, d'] => some (.nx (setS (setS ρ i (.im d)) j (.im d'))) | _ => none
theorem ds_par {i j : Nat} {x y : Str} {px py pt : Pos} {kt k2 : Nat} {pt2 : Pos} (hc : X.calm = true) (hN : X.N.Nodup) (h : DA true T K X [a, b] tr fr) (hij : i ≠ j) (hi : X.N[i]? = some x := by rfl) (hj : X.N[j]? = some y := by rfl)
    (hx : X.env.scope.names.lookup x = some .local := by rfl) (hy : X.env.scope.names.lookup y = some .local := by rfl)
    (hw : swappedStores [.Tuple [.Name x px, .Name y py] kt pt] (.Tuple [a, b] k2 pt2) X.env = pure (some [x, y]) := by rfl)
    (hs : swapsWithSole [.Tuple [.Name x px, .Name y py] kt pt] (.Tuple [a, b] k2 pt2) pos.line X.env = pure false := by rfl) :
    DS T K X (.Assign [.Tuple [.Name x px, .Name y py] kt pt] (.Tuple [a, b] k2 pt2) pos) (tPar i j tr) (sPar i j fr) [i, j] := ⟨ps_par hc hN hi hj hij hx hy h.pa hw hs, fun W ρ σ H fl D g r e q => by
  obtain ⟨ds, ed, e⟩ := obind e
  match ds, e with
  | [d, d'], e =>
    cases e
    refine h.sd W ρ σ H [d, d'] _ g r ed fun vs H' e1 g1 r1 => ?_
    obtain ⟨v, v', rfl, r2, r3⟩ := repA2 r1.wt
    have rp1 := (r.ext e1).setIm (i := i) r2
    have o1 : ∀ a, Own (setS ρ i (.im d)) (σ.set i (some v)) a → Own ρ σ a := fun a z => Own.set (fun _ y => Sl.noConfusion y) z
    have rp2 := rp1.setIm (i := j) (r3.sub fun a _ _ z => z.imp (fun z => z) (o1 a))
    refine ⟨v, v', rfl, q _ H' ⟨rp2, g1, e1.kp, fun a z => .inl (o1 a (Own.set (fun _ y => Sl.noConfusion y) z)), fun l hl => ?_⟩⟩
    rw [List.mem_cons, List.mem_singleton, not_or] at hl
    rw [setσ_ne hl.2, setσ_ne hl.1]⟩
/-- (a, b) = e -/
theorem ds_asg {g : TG} {gf : Dt → Rho → Option Rho} (h : DE true T K X e t f) (hg : DG T K X tg g gf is) (hs : swapsWithSole [tg] e pos.line X.env = pure false := by rfl) (hw : swappedStores [tg] e X.env = pure none := by rfl) (h1 : (assignEach [tg] X.env).map (·.2) = [assign tg X.env] := by rfl) :
    DS T K X (.Assign [tg] e pos) (tAsg t g) (sAsg f gf) is := ⟨ps_asg h.pe hg.pg hs hw h1, fun W ρ σ H fl D gd r e q => by
  obtain ⟨d, ed, e⟩ := obind e
  obtain ⟨ρ', eg, e⟩ := obind e
  cases e
  refine h.sd W ρ σ H d _ gd r ed fun v H' e1 g1 r1 => ?_
  exact hg.sd W ρ σ H' v d ρ' _ g1 (r.ext e1) r1.wt eg fun σ' rp' k' l' o' u' => q σ' H' ⟨rp', g1, e1.kp, fun a z => .inl (o' a z), k'⟩⟩
theorem ds_if {tk : TT} {gc : FnB} (hc : DT T K X c tk gc) (ha : DSs T K X sts u F as) (hb : DSs T K X rest v G bs) : DS T K X (.If c sts rest pos) (tIfS tk u v) (sIf gc F G) (as ++ bs) := ⟨ps_if hc.pt ha.ps hb.ps, fun W ρ σ H fl D g r e q => by
  obtain ⟨k, ek, e⟩ := obind e
  refine hc.sd W ρ σ H k _ g r ek fun H1 e1 g1 => ?_
  have x := Aft.ext e1 g1 r
  cases k with
  | true =>
    rw [if_pos rfl] at e ⊢
    exact ha.sd W ρ σ H1 fl D g1 (r.ext e1) e (Post.pre x (q.sub fun j h => List.mem_append_left _ h))
  | false =>
    rw [if_neg Bool.false_ne_true] at e ⊢
    exact hb.sd W ρ σ H1 fl D g1 (r.ext e1) e (Post.pre x (q.sub fun j h => List.mem_append_right _ h))⟩

/-! ### slots forgotten; lists that are owned no longer -/
def clr : List Bool → Rho → Rho
  | b :: bs, s :: r => (if b = true then s else .un) :: clr bs r
  | _, r => r
theorem clr_length : ∀ (bs : List Bool) (ρ : Rho), (clr bs ρ).length = ρ.length
  | [], _ => rfl
  | _ :: _, [] => rfl
  | b :: bs, s :: r => by show (clr bs r).length + 1 = r.length + 1; rw [clr_length bs r]
theorem getS_clr : ∀ (bs : List Bool) (ρ : Rho) (i : Nat), getS (clr bs ρ) i = getS ρ i ∨ getS (clr bs ρ) i = .un
  | [], _, _ => .inl rfl
  | _ :: _, [], _ => .inl rfl
  | true :: bs, s :: r, 0 => .inl rfl
  | false :: bs, s :: r, 0 => .inr rfl
  | _ :: bs, _ :: r, i + 1 => getS_clr bs r i
theorem Own.clr {bs : List Bool} {ρ : Rho} {σ : L2.St} {a : Addr} (z : Own (clr bs ρ) σ a) : Own ρ σ a := by
  obtain ⟨i, ds, h1, h2⟩ := z
  rcases getS_clr bs ρ i with e | e
  · exact ⟨i, ds, by rw [← e]; exact h1, h2⟩
  · rw [e] at h1; cases h1
theorem Rp.clr {W : Addr → Prop} {H : Hp} {ρ : Rho} {σ : L2.St} (r : Rp K H W ρ σ) (bs : List Bool) : Rp K H W (clr bs ρ) σ := by
  have sub : ∀ a xs, H a = some (.lst xs) → Wd W (EL.clr bs ρ) σ a → Wd W ρ σ a := fun a xs _ z => z.imp (fun z => z) Own.clr
  have at_ : ∀ i s, getS (EL.clr bs ρ) i = s → s ≠ .un → getS ρ i = s := fun i s e n => by
    rcases getS_clr bs ρ i with q | q
    · rw [← q]; exact e
    · rw [q] at e; exact absurd e.symm n
  refine ⟨by rw [clr_length]; exact r.len, fun i d e => ?_, fun i ds e => ?_, fun i j di dj a e1 e2 => r.inj i j di dj a (at_ i _ e1 fun z => Sl.noConfusion z) (at_ j _ e2 fun z => Sl.noConfusion z), r.wl⟩
  · obtain ⟨v, h1, h2⟩ := r.im i d (at_ i _ e fun z => Sl.noConfusion z)
    exact ⟨v, h1, h2.sub sub⟩
  · obtain ⟨a, vs, h1, h2, h3, h4⟩ := r.ow i ds (at_ i _ e fun z => Sl.noConfusion z)
    exact ⟨a, vs, h1, h2, h3, h4.sub sub⟩
theorem Aft.clr {W : Addr → Prop} {H H' : Hp} {ρ ρ' : Rho} {σ σ' : L2.St} (x : Aft T K W as ρ σ H ρ' σ' H') (bs : List Bool) : Aft T K W as ρ σ H (EL.clr bs ρ') σ' H' := ⟨x.rp.clr bs, x.gd, x.kp, fun a z => x.ow a z.clr, x.st⟩
/-- the list of slot i is frozen -/
def frz (i : Nat) (ρ : Rho) : Rho := match getS ρ i with
  | .ow ds => setS ρ i (.im (.lst ds))
  | _ => ρ
def frzs : List Nat → Rho → Rho
  | [], ρ => ρ
  | i :: is, ρ => frzs is (frz i ρ)
theorem Own.frz {i : Nat} {ρ : Rho} {σ : L2.St} {a : Addr} (z : Own (frz i ρ) σ a) : Own ρ σ a := by
  unfold EL.frz at z
  split at z
  · rename_i ds h
    obtain ⟨j, es, h1, h2⟩ := z
    by_cases hj : j = i
    · subst hj
      rw [getS_set_same (getS_lt (by rw [h]; exact fun z => Sl.noConfusion z))] at h1
      cases h1
    · rw [getS_set_ne hj] at h1
      exact ⟨j, es, h1, h2⟩
  · exact z
theorem set_self {σ : L2.St} {i : Nat} {x : Option V} (h : σ[i]? = some x) : σ.set i x = σ := by
  apply List.ext_getElem?
  intro j
  by_cases hj : j = i
  · subst hj
    have hl := (List.getElem?_eq_some_iff.mp h).1
    rw [List.getElem?_set_self hl, h]
  · rw [setσ_ne hj]
theorem Rp.frz {W : Addr → Prop} {H : Hp} {ρ : Rho} {σ : L2.St} (r : Rp K H W ρ σ) (i : Nat) : Rp K H W (frz i ρ) σ := by
  unfold EL.frz
  split
  · rename_i ds h
    obtain ⟨a, vs, h1, h2, h3, h4⟩ := r.ow i ds h
    -- first forget, then hold again
    have r1 : Rp K H W (setS ρ i .un) σ := by
      have := r.setUn (i := i) (x := some (V.ref a))
      rw [set_self h1] at this
      exact this
    have na : ¬ Wd W (setS ρ i .un) σ a := fun z => by
      rcases z with z | ⟨j, es, e1, e2⟩
      · exact h3 z
      · have hj : j ≠ i := fun z => by
          subst z
          rw [getS_set_same (getS_lt (by rw [h]; exact fun z => Sl.noConfusion z))] at e1
          cases e1
        rw [getS_set_ne hj] at e1
        exact hj (r.inj j i es ds a e1 h e2 h1)
    have rr : Rep K H (Wd W (setS ρ i .un) σ) (.ref a) (.lst ds) := .lst h2 na (h4.sub fun b xs _ z => z.imp (fun z => z) fun z => by
      obtain ⟨j, es, e1, e2⟩ := z
      have hj : j ≠ i := fun z => by
        subst z
        rw [getS_set_same (getS_lt (by rw [h]; exact fun z => Sl.noConfusion z))] at e1
        cases e1
      rw [getS_set_ne hj] at e1
      exact ⟨j, es, e1, e2⟩)
    have r2 := r1.setIm (i := i) rr
    rw [set_self h1] at r2
    have e : ∀ (ρ : Rho) (i : Nat) (s t : Sl), setS (setS ρ i s) i t = setS ρ i t := fun ρ => by
      induction ρ with
      | nil => intros; rfl
      | cons x r ih =>
        intro i s t
        cases i with
        | zero => rfl
        | succ i => show x :: setS (setS r i s) i t = x :: setS r i t; rw [ih]
    rw [e] at r2
    exact r2
  · exact r
theorem Rp.frzs {W : Addr → Prop} {H : Hp} {σ : L2.St} : ∀ {is : List Nat} {ρ : Rho}, Rp K H W ρ σ → Rp K H W (frzs is ρ) σ
  | [], _, r => r
  | i :: is, _, r => Rp.frzs (is := is) (r.frz i)
theorem Own.frzs {σ : L2.St} {a : Addr} : ∀ {is : List Nat} {ρ : Rho}, Own (frzs is ρ) σ a → Own ρ σ a
  | [], _, z => z
  | i :: is, _, z => Own.frz (Own.frzs (is := is) z)
theorem Aft.of_own {W : Addr → Prop} {H : Hp} {ρ ρ' : Rho} {σ : L2.St} (g : Gd T H) (r : Rp K H W ρ' σ) (h : ∀ a, Own ρ' σ a → Own ρ σ a) : Aft T K W [] ρ σ H ρ' σ H := ⟨r, g, Kp.refl _ _, fun a z => .inl (h a z), fun _ _ => rfl⟩
def sFrz (is : List Nat) (F : FnS) : FnS := fun ρ => F (frzs is ρ)
def sClr (bs : List Bool) (F : FnS) : FnS := fun ρ => F (clr bs ρ)
/-- ahead of a statement lists are frozen -/
theorem DS.frz (is : List Nat) (h : DS T K X st u F as) : DS T K X st u (sFrz is F) as := ⟨h.ps, fun W ρ σ H fl D g r e q => h.sd W (frzs is ρ) σ H fl D g r.frzs e (Post.pre (Aft.of_own g r.frzs fun _ z => z.frzs) q)⟩
/-- ahead of statements slots are forgotten -/
theorem DSs.clr (bs : List Bool) (h : DSs T K X sts u F as) : DSs T K X sts u (sClr bs F) as := ⟨h.ps, fun W ρ σ H fl D g r e q => h.sd W (EL.clr bs ρ) σ H fl D g (r.clr bs) e (Post.pre (Aft.of_own g (r.clr bs) fun _ z => z.clr) q)⟩
theorem DS.clr (bs : List Bool) (h : DS T K X st u F as) : DS T K X st u (sClr bs F) as := ⟨h.ps, fun W ρ σ H fl D g r e q => h.sd W (EL.clr bs ρ) σ H fl D g (r.clr bs) e (Post.pre (Aft.of_own g (r.clr bs) fun _ z => z.clr) q)⟩

/-! ### for -/
def forGo (gf : Dt → Rho → Option Rho) (mk : List Bool) (F : FnS) : List Dt → Rho → Option Fl
  | [], ρ => some (.nx ρ)
  | d :: ds, ρ => (gf d ρ).bind fun ρ1 => (F ρ1).bind fun fl => match fl with
    | .nx ρ2 => forGo gf mk F ds (clr mk ρ2)
    | .ct ρ2 => forGo gf mk F ds (clr mk ρ2)
    | .bk ρ2 => some (.nx (clr mk ρ2))
    | .rt d => some (.rt d)
def sFor (fi : FnL) (gf : Dt → Rho → Option Rho) (mk : List Bool) (F : FnS) : FnS := fun ρ => (fi ρ).bind fun ds => forGo gf mk F ds (clr mk ρ)
theorem ds_for {wi : TI} {g : TG} {gf : Dt → Rho → Option Rho} (mk : List Bool) (hp : PassesOwn (model X.prog X.w) X.A X.env X.xe) (hc : X.calm = true) (hi : DI true T K X tg e wi fl) (hg : DG T K X tg g gf is) (hb : DSs T K X body u F as)
    (hs : ∀ x, foldedSetIterable e X.env x = pure x := by intro _; rfl) : DS T K X (.For tg e body [] pos) (tFor wi g u) (sFor fl gf mk F) (is ++ as) := ⟨ps_for hp hc hi.pi hg.pg hb.ps hs, fun W ρ σ H fl' D gd r e' q => by
  obtain ⟨src, ei, ego⟩ := obind e'
  refine hi.sd W ρ σ H src _ gd r ei fun J H1 e1 g1 jok => ?_
  have x1 : Aft T K W [] ρ σ H (clr mk ρ) σ H1 := (Aft.ext e1 g1 r).clr mk
  refine ⟨fun i m σc Hc => m = src.length - i ∧ i ≤ src.length ∧ ∃ ρc, Aft T K W (is ++ as) (clr mk ρ) σ H1 ρc σc Hc ∧ forGo gf mk F (src.drop i) ρc = some fl',
    ⟨src.length, rfl, Nat.zero_le _, clr mk ρ, (Aft.refl g1 x1.rp).sub (fun _ h => by cases h), ego⟩, fun i m σc Hc hW => ?_⟩
  obtain ⟨rfl, hile, ρc, xc, ego⟩ := hW
  have kpc : Kp (fun a => true = true ∧ Own ρ σ a) H1 Hc := xc.kp.sub fun a z => ⟨rfl, z.clr⟩
  obtain ⟨jgo, jstop⟩ := jok Hc kpc xc.gd
  by_cases hlt : i < src.length
  · obtain ⟨d, hd⟩ : ∃ d, src[i]? = some d := ⟨src[i], List.getElem?_eq_getElem hlt⟩
    obtain ⟨go, yl⟩ := jgo i d hd
    have edrop : src.drop i = d :: src.drop (i + 1) := by
      rw [List.drop_eq_getElem_cons hlt]
      rw [List.getElem?_eq_getElem hlt] at hd
      cases hd
      rfl
    rw [edrop] at ego
    obtain ⟨ρ1, eg, ego⟩ := obind ego
    obtain ⟨f1, ef, ego⟩ := obind ego
    refine .inr ⟨go, fun σn Hn => ∃ ρn, Aft T K W (is ++ as) (clr mk ρ) σ H1 ρn σn Hn ∧ forGo gf mk F (src.drop (i + 1)) ρn = some fl', fun σn Hn hN => ⟨src.length - (i + 1), by omega, rfl, hlt, hN⟩, fun x H' y => ?_⟩
    obtain ⟨e2, g2, rx⟩ := yl x H' y
    have rx' : Rep K H' (Wd W ρc σc) x d := rx.sub fun a xs h z => by
      rcases z with z | z
      · exact .inl (.inl z)
      · rcases xc.ow a z with z | z
        · exact .inl (.inr z.clr)
        · exact .inr z
    have x2 : Aft T K W (is ++ as) (clr mk ρ) σ H1 ρc σc H' := (xc.trans (Aft.ext e2 g2 xc.rp)).sub fun j h => by simpa using h
    refine hg.sd W ρc σc H' x d ρ1 _ g2 (xc.rp.ext e2) rx' eg fun σ1 rp1 k1 l1 o1 u1 => ?_
    have x3 : Aft T K W (is ++ as) (clr mk ρ) σ H1 ρ1 σ1 H' := (x2.trans (bs := is) ⟨rp1, g2, Kp.refl _ _, fun a z => .inl (o1 a z), k1⟩).sub fun j h => by
      rcases List.mem_append.mp h with h | h
      · exact h
      · exact List.mem_append_left _ h
    have fin : ∀ {ρ2 : Rho} {σ2 : L2.St} {H2 : Hp}, Aft T K W as ρ1 σ1 H' ρ2 σ2 H2 → Aft T K W (is ++ as) (clr mk ρ) σ H1 ρ2 σ2 H2 := fun y => (x3.trans y).sub fun j h => by
      rcases List.mem_append.mp h with h | h
      · exact h
      · exact List.mem_append_right _ h
    have whole : ∀ {ρ2 : Rho} {σ2 : L2.St} {H2 : Hp}, Aft T K W (is ++ as) (clr mk ρ) σ H1 ρ2 σ2 H2 → Aft T K W (is ++ as) ρ σ H ρ2 σ2 H2 := fun y => x1.trans y
    refine hb.sd W ρ1 σ1 H' f1 _ g2 rp1 ef ?_
    cases f1 with
    | nx ρ2 => exact fun σ2 H2 y => ⟨clr mk ρ2, (fin y).clr mk, ego⟩
    | ct ρ2 => exact fun σ2 H2 y => ⟨clr mk ρ2, (fin y).clr mk, ego⟩
    | bk ρ2 => cases ego; exact fun σ2 H2 y => q σ2 H2 (whole ((fin y).clr mk))
    | rt d' => cases ego; exact fun v H2 kp2 g3 r3 => q v H2 ((x1.trans x3).kp.trans kp2 (x1.trans x3).ow) g3 r3
  · have hi' : i = src.length := by omega
    subst hi'
    rw [List.drop_length] at ego
    cases ego
    exact .inl ⟨jstop _ (Nat.le_refl _), q σc Hc (x1.trans xc)⟩⟩

/-! ### while -/
/-- turns until an end -/
def itN (step : Nat → Rho → Option (Sum Rho Fl)) : Nat → Nat → Rho → Option Fl
  | 0, _, _ => none
  | n + 1, i, ρ => (step i ρ).bind fun r => match r with
    | .inl ρ' => itN step n (i + 1) ρ'
    | .inr fl => some fl
theorem itN_mono {step : Nat → Rho → Option (Sum Rho Fl)} {fl : Fl} : ∀ (n m i : Nat) (ρ : Rho), itN step n i ρ = some fl → n ≤ m → itN step m i ρ = some fl
  | 0, _, _, _, h, _ => by cases h
  | n + 1, 0, _, _, _, hm => by omega
  | n + 1, m + 1, i, ρ, h, hm => by
    obtain ⟨r, h1, h2⟩ := obind h
    show (step i ρ).bind _ = _
    rw [h1]
    cases r with
    | inl ρ' => exact itN_mono n m (i + 1) ρ' h2 (by omega)
    | inr f => exact h2
open Classical in
noncomputable def itO (step : Nat → Rho → Option (Sum Rho Fl)) (ρ : Rho) : Option Fl := if h : ∃ fl n, itN step n 0 ρ = some fl then some h.choose else none
theorem itO_of {step : Nat → Rho → Option (Sum Rho Fl)} {ρ : Rho} {fl : Fl} {n : Nat} (h : itN step n 0 ρ = some fl) : itO step ρ = some fl := by
  have ex : ∃ fl n, itN step n 0 ρ = some fl := ⟨fl, n, h⟩
  unfold itO
  rw [dif_pos ex]
  obtain ⟨n', h'⟩ := ex.choose_spec
  have h1 := itN_mono n' (n' + n) 0 ρ h' (by omega)
  have h2 := itN_mono n (n' + n) 0 ρ h (by omega)
  rw [h1] at h2
  exact h2
theorem itO_to {step : Nat → Rho → Option (Sum Rho Fl)} {ρ : Rho} {fl : Fl} (h : itO step ρ = some fl) : ∃ n, itN step n 0 ρ = some fl := by
  unfold itO at h
  by_cases ex : ∃ fl n, itN step n 0 ρ = some fl
  · rw [dif_pos ex] at h
    have := ex.choose_spec
    cases h
    exact this
  · rw [dif_neg ex] at h; cases h
def whStep (c : FnB) (mk : List Bool) (F : FnS) : Nat → Rho → Option (Sum Rho Fl) := fun _ ρ => (c ρ).bind fun k => if k = true then (F ρ).bind fun fl => match fl with
    | .nx ρ2 => some (.inl (clr mk ρ2))
    | .ct ρ2 => some (.inl (clr mk ρ2))
    | .bk ρ2 => some (.inr (.nx (clr mk ρ2)))
    | .rt d => some (.inr (.rt d))
  else some (.inr (.nx ρ))
noncomputable def sWhile (c : FnB) (mk : List Bool) (F : FnS) : FnS := fun ρ => itO (whStep c mk F) (clr mk ρ)
theorem ds_while {tk : TT} {gc : FnB} (mk : List Bool) (hp : PassesOwn (model X.prog X.w) X.A X.env X.xe) (hc : DT T K X c tk gc) (hb : DSs T K X body u F as) : DS T K X (.While c body [] pos) (tWhile tk u) (sWhile gc mk F) as := ⟨ps_while hp hc.pt hb.ps, fun W ρ σ H fl' D gd r e' q => by
  obtain ⟨n0, e'⟩ := itO_to e'
  have x0 : Aft T K W as ρ σ H (clr mk ρ) σ H := ((Aft.refl gd r).clr mk).sub fun _ h => by cases h
  refine ⟨fun m σc Hc => ∃ i ρc, Aft T K W as ρ σ H ρc σc Hc ∧ itN (whStep gc mk F) m i ρc = some fl', ⟨n0, 0, clr mk ρ, x0, e'⟩, fun m σc Hc hW => ?_⟩
  obtain ⟨i, ρc, xc, eit⟩ := hW
  cases m with
  | zero => cases eit
  | succ m =>
    obtain ⟨r1, e1, e2⟩ := obind eit
    obtain ⟨k, ek, e1⟩ := obind e1
    refine hc.sd W ρc σc Hc k _ xc.gd xc.rp ek fun H1 x1 g1 => ?_
    have xc1 : Aft T K W as ρ σ H ρc σc H1 := (xc.trans (Aft.ext x1 g1 xc.rp)).sub fun j h => by simpa using h
    cases k with
    | true =>
      rw [if_pos rfl] at e1 ⊢
      obtain ⟨f1, ef, e1⟩ := obind e1
      refine ⟨fun σn Hn => ∃ i ρn, Aft T K W as ρ σ H ρn σn Hn ∧ itN (whStep gc mk F) m i ρn = some fl', fun σn Hn hN => ⟨m, Nat.lt_succ_self m, hN⟩, ?_⟩
      have fin : ∀ {ρ2 : Rho} {σ2 : L2.St} {H2 : Hp}, Aft T K W as ρc σc H1 ρ2 σ2 H2 → Aft T K W as ρ σ H ρ2 σ2 H2 := fun y => (xc1.trans y).sub fun j h => by
        rcases List.mem_append.mp h with h | h <;> exact h
      refine hb.sd W ρc σc H1 f1 _ g1 xc1.rp ef ?_
      cases f1 with
      | nx ρ2 => cases e1; exact fun σ2 H2 y => ⟨i + 1, _, (fin y).clr mk, e2⟩
      | ct ρ2 => cases e1; exact fun σ2 H2 y => ⟨i + 1, _, (fin y).clr mk, e2⟩
      | bk ρ2 => cases e1; cases e2; exact fun σ2 H2 y => q σ2 H2 ((fin y).clr mk)
      | rt d' => cases e1; cases e2; exact fun v H2 kp2 g3 r3 => q v H2 (xc1.kp.trans kp2 xc1.ow) g3 r3
    | false =>
      rw [if_neg Bool.false_ne_true] at e1 ⊢
      cases e1
      cases e2
      exact q σc H1 xc1⟩
end
end EL
end

section
set_option Elab.async false
set_option maxRecDepth 100000
/-! EL owned lists changed; defs and their calls. -/
namespace EL
open PySem PySem.Spec PyProof.Rows L2

section
variable {K : PySem.W.Frag} {T : List Addr} {H : Hp} {W : Addr → Prop} {ρ : Rho} {σ : L2.St}
theorem Own.mut {i : Nat} {ds es : List Dt} (h : getS ρ i = .ow ds) {a : Addr} : Own (setS ρ i (.ow es)) σ a ↔ Own ρ σ a := by
  have hl : i < ρ.length := getS_lt (by rw [h]; exact fun z => Sl.noConfusion z)
  constructor
  · rintro ⟨j, fs, h1, h2⟩
    by_cases hj : j = i
    · subst hj; exact ⟨j, ds, h, h2⟩
    · rw [getS_set_ne hj] at h1; exact ⟨j, fs, h1, h2⟩
  · rintro ⟨j, fs, h1, h2⟩
    by_cases hj : j = i
    · subst hj; exact ⟨j, es, getS_set_same hl, h2⟩
    · exact ⟨j, fs, by rw [getS_set_ne hj]; exact h1, h2⟩
theorem Rp.mut {i : Nat} {p : Addr} {ds es : List Dt} {us : List V} (r : Rp K H W ρ σ) (h : getS ρ i = .ow ds) (hp : σ[i]? = some (some (.ref p))) (ra : RepA K H (Wd W ρ σ) us es) :
    Rp K (upd H p (.lst us)) W (setS ρ i (.ow es)) σ := by
  obtain ⟨p', vs, h1, h2, h3, h4⟩ := r.ow i ds h
  rw [hp] at h1
  cases h1
  have hl : i < ρ.length := getS_lt (by rw [h]; exact fun z => Sl.noConfusion z)
  have wp : Wd W ρ σ p := .inr ⟨i, ds, h, hp⟩
  have kw : KeepW (Wd W ρ σ) H (upd H p (.lst us)) := KeepW.set h2 wp
  have sub : ∀ a xs, H a = some (.lst xs) → Wd W (setS ρ i (.ow es)) σ a → Wd W ρ σ a := fun a xs _ z => z.imp (fun z => z) (Own.mut h).mp
  refine ⟨by rw [setS_length]; exact r.len, fun j d e => ?_, fun j fs e => ?_, fun j l dj dl a e1 e2 e3 e4 => ?_, fun a z => ?_⟩
  · by_cases hj : j = i
    · subst hj; rw [getS_set_same hl] at e; cases e
    · rw [getS_set_ne hj] at e
      obtain ⟨v, q1, q2⟩ := r.im j d e
      exact ⟨v, q1, q2.keep kw sub⟩
  · by_cases hj : j = i
    · subst hj
      rw [getS_set_same hl] at e
      cases e
      exact ⟨p, us, hp, upd_same, h3, ra.keep kw sub⟩
    · rw [getS_set_ne hj] at e
      obtain ⟨a, ws, q1, q2, q3, q4⟩ := r.ow j fs e
      have ha : a ≠ p := fun z => by
        subst z
        exact hj (r.inj j i fs ds a e h q1 hp)
      exact ⟨a, ws, q1, by rw [upd_ne ha]; exact q2, q3, q4.keep kw sub⟩
  · have old : ∀ l dl, getS (setS ρ i (.ow es)) l = .ow dl → ∃ dl', getS ρ l = .ow dl' := fun l dl e => by
      by_cases hj : l = i
      · subst hj; exact ⟨ds, h⟩
      · rw [getS_set_ne hj] at e; exact ⟨dl, e⟩
    obtain ⟨dj', f1⟩ := old j dj e1
    obtain ⟨dl', f2⟩ := old l dl e2
    exact r.inj j l dj' dl' a f1 f2 e3 e4
  · by_cases ha : a = p
    · exact ⟨us, by rw [ha, upd_same]⟩
    · obtain ⟨xs, q⟩ := r.wl a z
      exact ⟨xs, by rw [upd_ne ha]; exact q⟩
theorem Aft.mut {i : Nat} {p : Addr} {ds es : List Dt} {vs us : List V} (g : Gd T H) (r : Rp K H W ρ σ) (h : getS ρ i = .ow ds) (hp : σ[i]? = some (some (.ref p))) (h2 : H p = some (.lst vs)) (ra : RepA K H (Wd W ρ σ) us es) (hl : us.length ≤ sizeLine) :
    Aft T K W [] ρ σ H (setS ρ i (.ow es)) σ (upd H p (.lst us)) where
  rp := r.mut h hp ra
  gd := g.setL h2 hl
  kp := ⟨fun b o e n no => by
    have hb : b ≠ p := fun z => no (by rw [z]; exact ⟨i, ds, h, hp⟩)
    rw [upd_ne hb]; exact e, fun b e => by
    by_cases hb : b = p
    · rw [hb, upd_same] at e; cases e
    · rw [upd_ne hb] at e; exact e⟩
  ow := fun a z => .inl ((Own.mut h).mp z)
  st := fun _ _ => rfl
end

/-- a slot's own list -/
def owned (ρ : Rho) (i : Nat) : Option (List Dt) := match getS ρ i with | .ow ds => some ds | _ => none
theorem owned_some {ρ : Rho} {i : Nat} {ds : List Dt} (h : owned ρ i = some ds) : getS ρ i = .ow ds := by
  unfold owned at h
  split at h
  · rename_i es e; cases h; exact e
  · cases h
section
variable {m : Bool} {T : List Addr} {X : Cx} {K : PySem.W.Frag} {a b c e : Expr} {es : List Expr} {ta tb t : TE} {tr : TA} {f fa fb : Fn} {fr : FnL} {pos p apos : Pos} {i : Nat} {x : Str}
/-- xs.m(..): a method that changes the list; by what it does to the items -/
def MutD (T : List Addr) (K : PySem.W.Frag) (r : V → List V → Hp → VK → Prop) (g : List Dt → List Dt → Option (List Dt)) : Prop :=
  ∀ (H : Hp) (W : Addr → Prop) (l : Addr) (xs : List V) (xd : List Dt) (vs : List V) (vd : List Dt) (yd : List Dt) (Q : VK), Gd T H → H l = some (.lst xs) → RepA K H W xs xd → RepA K H W vs vd → g xd vd = some yd →
    (∀ z ys, RepA K H W ys yd → ys.length ≤ sizeLine → Q z (upd H l (.lst ys))) → r (.ref l) vs H Q
def sMut (i : Nat) (g : List Dt → List Dt → Option (List Dt)) (fr : FnL) : FnS := fun ρ => (owned ρ i).bind fun xd => (fr ρ).bind fun vd => (g xd vd).bind fun yd => some (.nx (setS ρ i (.ow yd)))
theorem sd_mut {r : V → List V → Hp → VK → Prop} {g : List Dt → List Dt → Option (List Dt)} (h : MutD T K r g) (ha : SdA true T K tr fr) : SdS T K (tDrop (tBM K "list" r (tVar i) tr)) (sMut i g fr) [] := fun W ρ σ H fl D gd rp e' q => by
  obtain ⟨xd, e1, e'⟩ := obind e'
  obtain ⟨vd, e2, e'⟩ := obind e'
  obtain ⟨yd, e3, e'⟩ := obind e'
  cases e'
  have hs := owned_some e1
  obtain ⟨l, xs, h1, h2, h3, h4⟩ := rp.ow i xd hs
  refine ⟨_, h1, .inl ⟨rfl, xs, .of h2⟩, ?_⟩
  refine ha W ρ σ H vd _ gd rp e2 fun vs H1 x1 g1 r1 => ?_
  have h21 := x1.keep _ _ h2 rfl
  refine h H1 (Wd W ρ σ) l xs xd vs vd yd _ g1 h21 (h4.ext x1) r1.wt e3 fun z ys ry hl => ?_
  have x2 := (Aft.ext (W := W) (K := K) x1 g1 rp).trans (Aft.mut g1 (rp.ext x1) hs h1 h21 ry hl)
  exact q σ _ x2
theorem sd_mut0 {r : V → List V → Hp → VK → Prop} {g : List Dt → List Dt → Option (List Dt)} (h : MutD T K r g) : SdS T K (tDrop (tBM0 K "list" r (tVar i))) (sMut i g fA0) [] := fun W ρ σ H fl D gd rp e' q => by
  obtain ⟨xd, e1, e'⟩ := obind e'
  obtain ⟨vd, e2, e'⟩ := obind e'
  obtain ⟨yd, e3, e'⟩ := obind e'
  cases e'
  cases e2
  have hs := owned_some e1
  obtain ⟨l, xs, h1, h2, h3, h4⟩ := rp.ow i xd hs
  refine ⟨_, h1, .inl ⟨rfl, xs, .of h2⟩, ?_⟩
  refine h H (Wd W ρ σ) l xs xd [] [] yd _ gd h2 h4 .nil e3 fun z ys ry hl => ?_
  exact q σ _ (Aft.mut gd rp hs h1 h2 ry hl)
def gAppend : List Dt → List Dt → Option (List Dt)
  | xs, [y] => if xs.length < sizeLine then some (xs ++ [y]) else none
  | _, _ => none
theorem uAppend : MutD T K rAppend gAppend := fun H W l xs xd vs vd yd Q g hl rx rv e q => by
  match vd, e, rv with
  | [y], e, rv =>
    obtain ⟨v, rfl, r1⟩ := repA1 rv
    dsimp only [gAppend] at e
    by_cases hz : xd.length < sizeLine
    · rw [if_pos hz] at e
      cases e
      have hx : xs.length < sizeLine := by rw [rx.length]; exact hz
      exact ⟨l, xs, v, rfl, rfl, hl, hx, q _ _ (rx.append (.one r1)) (by rw [List.length_append, List.length_singleton]; omega)⟩
    · rw [if_neg hz] at e; cases e
def gExtend : List Dt → List Dt → Option (List Dt)
  | xs, [.lst ys] => if xs.length + ys.length ≤ sizeLine then some (xs ++ ys) else none
  | _, _ => none
theorem uExtend : MutD T K rExtend gExtend := fun H W l xs xd vs vd yd Q g hl rx rv e q => by
  match vd, e, rv with
  | x0 :: _ :: _, e, _ => cases x0 <;> cases e
  | [y], e, rv =>
    obtain ⟨v, rfl, r1⟩ := repA1 rv
    cases r1 with
    | @lst b zs es h1 n1 ra =>
      dsimp only [gExtend] at e
      by_cases hz : xd.length + es.length ≤ sizeLine
      · rw [if_pos hz] at e
        cases e
        have hx : xs.length + zs.length ≤ sizeLine := by rw [rx.length, ra.length]; exact hz
        exact ⟨l, b, xs, zs, rfl, rfl, hl, h1, hx, q _ _ (rx.append ra) (by rw [List.length_append]; exact hx)⟩
      · rw [if_neg hz] at e; cases e
    | _ => cases e
def gInsert : List Dt → List Dt → Option (List Dt)
  | xs, [.int i, y] => if xs.length < sizeLine ∧ 0 ≤ i ∧ i < 2 ^ 63 then some (xs.take i.toNat ++ [y] ++ xs.drop i.toNat) else none
  | _, _ => none
def rInsert : V → List V → Hp → VK → Prop := fun x vs H Q => ∃ (l : Addr) (xs : List V) (i : Int) (y : V), x = .ref l ∧ vs = [.int i, y] ∧ H l = some (.lst xs) ∧ xs.length < sizeLine ∧ 0 ≤ i ∧ i < 2 ^ 63 ∧ Q .non (upd H l (.lst (xs.take i.toNat ++ [y] ++ xs.drop i.toNat)))
theorem uInsert : MutD T K rInsert gInsert := fun H W l xs xd vs vd yd Q g hl rx rv e q => by
  match vd, e, rv with
  | [x0], e, _ => cases x0 <;> cases e
  | x0 :: _ :: _ :: _, e, _ => cases x0 <;> cases e
  | [n, y], e, rv =>
    obtain ⟨v, v', rfl, r1, r2⟩ := repA2 rv
    cases r1 with
    | int k =>
      dsimp only [gInsert] at e
      by_cases hz : xd.length < sizeLine ∧ 0 ≤ k ∧ k < 2 ^ 63
      · rw [if_pos hz] at e
        cases e
        have hx : xs.length < sizeLine := by rw [rx.length]; exact hz.1
        refine ⟨l, xs, k, v', rfl, rfl, hl, hx, hz.2.1, hz.2.2, q _ _ (((rx.take _).append (.one r2)).append (rx.drop _)) ?_⟩
        rw [List.length_append, List.length_append, List.length_take, List.length_drop, List.length_singleton]
        omega
      · rw [if_neg hz] at e; cases e
    | _ => cases e
def gPop : List Dt → List Dt → Option (List Dt)
  | xs, [] => if xs = [] then none else some xs.dropLast
  | _, _ => none
section
variable (hN : X.N[i]? = some x) (hv : Vis X.env.scope x)
theorem ds_meth {name : Str} {id : String} {r : V → List V → Hp → VK → Prop} {g : List Dt → List Dt → Option (List Dt)} (pa : PlainAttrs "list") (slot : Slot "list" name id) (hty : typeOf (.builtin id) = pure (.type "method_descriptor")) (hm : MtR X id r) (hg : MutD T K r g) (ha : DA true T K X (e :: es) tr fr)
    (hN : X.N[i]? = some x := by rfl) (hv : Vis X.env.scope x := by first | exact Or.inl rfl | exact Or.inr (Or.inl rfl) | exact Or.inr (Or.inr rfl)) (hd : (x == ("__debug__" : Str)) = false := by decide) (hcd : (x == ("__classdict__" : Str)) = false := by decide)
    (hbase : attributeBase (.Name x p) name X.env (eval (.Name x p) X.env) = eval (.Name x p) X.env := by rfl)
    (hfew : ((backTo pos (starEach (e :: es) X.env)).all (fun x => !x.1) && (backToKw pos (keywordEach [] X.env)).all (fun x => x.1.isSome) && decide ((e :: es).length + ([] : List Keyword).length + (if ([] : List Keyword).isEmpty then 0 else 1) < 30)) = true := by rfl)
    (hline : (apos.endLine == pos.line) = true := by rfl) (hs : starEach (e :: es) X.env = (false, eval e X.env) :: starEach es X.env := by rfl) (hplain : (backTo pos (starEach es X.env)).any (·.1) = false := by rfl) {pos2 : Pos}
    (hsw : swapsWith (.Call (.Attribute (.Name x p) name apos) (e :: es) [] pos) none pos2.line X.env = pure false := by rfl) (hk : X.K = K := by rfl) :
    DS T K X (.Expr (.Call (.Attribute (.Name x p) name apos) (e :: es) [] pos) pos2) (tDrop (tBM K "list" r (tVar i) tr)) (sMut i g fr) [] := by
  subst hk
  exact ⟨ps_expr (pe_bm pa slot hty hm (pe_var hN hv hd hcd) ha.pa hbase hfew hline hs hplain) hsw, sd_mut hg ha.sd⟩
end
/-! ### xs[i] = e -/
def sPut (i : Nat) (fk fe : Fn) : FnS := fun ρ => (fe ρ).bind fun d => (owned ρ i).bind fun xd => (fk ρ).bind fun k => match k with
  | .int n => (ixN xd.length n).bind fun j => some (.nx (setS ρ i (.ow (xd.set j d))))
  | _ => none
theorem ds_put {pos2 : Pos} (hk : DE false T K X b tb fb) (he : DE true T K X e t f) (hN : X.N[i]? = some x := by rfl) (hv : Vis X.env.scope x := by first | exact Or.inl rfl | exact Or.inr (Or.inl rfl) | exact Or.inr (Or.inr rfl)) (hd : (x == ("__debug__" : Str)) = false := by decide) (hcd : (x == ("__classdict__" : Str)) = false := by decide)
    (hz : ∀ u, assign (.Subscript (.Name x p) b pos) X.env u = (do
      let o1 ← holding [u] (eval (.Name x p) X.env)
      let o2 ← holding [u, o1] (eval b X.env)
      standAt pos
      holding [u, o1, o2] (setItem o1 o2 u)
      release [u, o1, o2] []) := by intro _; rfl)
    (hs : swapsWithSole [.Subscript (.Name x p) b pos] e pos2.line X.env = pure false := by rfl) (hw : swappedStores [.Subscript (.Name x p) b pos] e X.env = pure none := by rfl) (h1 : (assignEach [.Subscript (.Name x p) b pos] X.env).map (·.2) = [assign (.Subscript (.Name x p) b pos) X.env] := by rfl) :
    DS T K X (.Assign [.Subscript (.Name x p) b pos] e pos2) (tAsg t (gSub (tVar i) tb rSetL)) (sPut i fb f) [] := ⟨ps_asg he.pe (pg_sub (pe_var hN hv hd hcd) hk.pe set_list hz) hs hw h1, fun W ρ σ H fl D gd rp e' q => by
  obtain ⟨d, e1, e'⟩ := obind e'
  obtain ⟨xd, e2, e'⟩ := obind e'
  obtain ⟨k, e3, e'⟩ := obind e'
  refine he.sd W ρ σ H d _ gd rp e1 fun v H1 x1 g1 r1 => ?_
  have hs := owned_some e2
  obtain ⟨l, xs, h1, h2, h3, h4⟩ := (rp.ext x1).ow i xd hs
  refine ⟨_, h1, ?_⟩
  refine hk.sd W ρ σ H1 k _ g1 (rp.ext x1) e3 fun u H2 x2 g2 r2 => ?_
  cases r2 with
  | int n =>
    obtain ⟨j, e4, e'⟩ := obind e'
    cases e'
    have h22 := x2.keep _ _ h2 rfl
    refine ⟨l, xs, n, j, rfl, rfl, h22, by rw [h4.length]; exact e4, ?_⟩
    have x12 := x1.trans x2
    have y := (Aft.ext (W := W) (K := K) x12 g2 rp).trans (Aft.mut (es := xd.set j d) (us := xs.set j v) g2 (rp.ext x12) hs h1 h22 ((h4.ext x2).set (r1.wt.ext x2) j) (by rw [List.length_set]; exact g2.1 l xs (.inl h22)))
    exact q σ _ y
  | _ => cases e'⟩
/-! ### x op= e -/
def sAug (i : Nat) (g : Dt → Dt → Option Dt) (f : Fn) : FnS := fun ρ => (fV i ρ).bind fun x => (f ρ).bind fun y => (g x y).bind fun z => some (.nx (setS ρ i (.im z)))
theorem ds_aug {op : Operator} {r : R2} {g : Dt → Dt → Option Dt} {p' : Pos} (hN : X.N.Nodup) (ho : PIp X op r ∧ OpD T K r g) (h : DE true T K X e t f) (hi : X.N[i]? = some x := by rfl) (hx : Loc X.env.scope x := by first | exact Or.inl rfl | exact Or.inr rfl) (hf : X.fn x = true ∨ X.env.scope.names.lookup x = some .local := by first | exact .inl rfl | exact .inr rfl) :
    DS T K X (.AugAssign (.Name x p') op e pos) (tAug i t r) (sAug i g f) [i] := ⟨ps_aug hN hi hx h.pe ho.1 hf, fun W ρ σ H fl D gd rp e' q => by
  obtain ⟨d, e1, e'⟩ := obind e'
  obtain ⟨y, e2, e'⟩ := obind e'
  obtain ⟨z, e3, e'⟩ := obind e'
  cases e'
  have hs : getS ρ i = .im d := by
    unfold fV at e1
    split at e1
    · rename_i d' hd'; cases e1; exact hd'
    · cases e1
  obtain ⟨v, h1, h2⟩ := rp.im i d hs
  refine ⟨v, h1, h.sd W ρ σ H y _ gd rp e2 fun u H1 x1 g1 r1 => ?_⟩
  refine ho.2 (wOf true W ρ σ) H1 v u d y z _ g1 (fun a w => (rp.ext x1).wo w) (h2.wo.ext x1) r1 e3 fun w' H2 x2 g2 r2 => ?_
  have x12 := x1.trans x2
  exact q _ H2 ⟨(rp.ext x12).setIm r2.wt, g2, x12.kp, fun a z => .inl (Own.set (fun _ y => Sl.noConfusion y) z), fun j hj => setσ_ne fun z => hj (by rw [z]; exact List.mem_singleton.mpr rfl)⟩⟩
theorem pipAdd : PIp X .Add (rI0 fun i j => .int (i + j)) ∧ OpD T K (rI0 fun i j => .int (i + j)) (gI (fun _ _ => true) fun i j => i + j) := ⟨iop_add, fun W H x y d e c Q g wl r1 r2 h q => by
  cases r1 with
  | int i =>
    cases r2 with
    | int j => cases h; exact ⟨i, j, rfl, rfl, q _ H (Ext.refl H) g (.int _)⟩
    | _ => cases h
  | _ => cases h⟩
theorem pipSub : PIp X .Sub (rI0 fun i j => .int (i - j)) ∧ OpD T K (rI0 fun i j => .int (i - j)) (gI (fun _ _ => true) fun i j => i - j) := ⟨iop_sub, fun W H x y d e c Q g wl r1 r2 h q => by
  cases r1 with
  | int i =>
    cases r2 with
    | int j => cases h; exact ⟨i, j, rfl, rfl, q _ H (Ext.refl H) g (.int _)⟩
    | _ => cases h
  | _ => cases h⟩

/-! ### a def, its call -/
def runF (n : Nat) (F : FnS) : List Dt → Option Dt := fun ds => (F (ds.map Sl.im ++ List.replicate (n - ds.length) .un)).bind fun fl => match fl with
  | .rt d => some d
  | .nx _ => some .non
  | _ => none
def spOf (T : List Addr) (K : PySem.W.Frag) (n : Nat) (run : List Dt → Option Dt) : Sp := fun vs H Q _ => ∃ (W : Addr → Prop) (ds : List Dt) (d : Dt), Gd T H ∧ (∀ a, W a → ∃ xs, H a = some (.lst xs)) ∧ RepA K H W vs ds ∧ ds.length = n ∧ run ds = some d ∧
  ∀ v H', Ext H H' → Gd T H' → Rep K H' W v d → Q v H'
theorem getS_app : ∀ (ds : List Dt) (k i : Nat), getS (ds.map Sl.im ++ List.replicate k .un) i = (match ds[i]? with | some d => .im d | none => .un)
  | [], k, i => by
    rw [List.map_nil, List.nil_append]
    show _ = Sl.un
    induction k generalizing i with
    | zero => exact getS_out (Nat.zero_le _)
    | succ k ih =>
      rw [List.replicate_succ]
      cases i with
      | zero => rfl
      | succ i => exact ih i
  | d :: ds, k, 0 => rfl
  | d :: ds, k, i + 1 => by
    show getS (ds.map Sl.im ++ List.replicate k .un) i = _
    rw [getS_app ds k i]
    rfl
theorem ok_def {P : Program} {w : World} {mg : Str → Option Value} {base : Heap} {qual : Str} {st : Stmt} {fo : Addr} {fd : FuncData} {N ps : List Str} {k : Nat} {F : FnS} (Fn : Fun K x qual st fo fd) (S : FnScope N ps (defScope st))
    (hbody : ∀ (cdv : Value) (A : Around) (outer : List Env) (s : Shared) (H : Hp) (E : XK), Room k (A.deeper (envOfC qual (defScope st) s.heap.objs.size fo cdv)) →
      ∃ t as, DSs T K (cxOf CX0 P w K mg base N qual (defScope st) fo cdv A outer s H E).nox (defBody st) t F as) (hn : ps.length ≤ N.length := by decide) : FnOk P w K mg base CX0 (k + 1) fo fd ps (spOf T K ps.length (runF N.length F)) := by
  refine Fn.ok S (fun vs H Q E h => ?_) (fun cdv A outer s H vs Q E hr h => ?_)
  · obtain ⟨W, ds, d, _, _, r, hl, _⟩ := h
    rw [r.length, hl]
  · obtain ⟨W, ds, d, g, wl, r, hl, e, q⟩ := h
    obtain ⟨t, as, hb⟩ := hbody cdv A outer s H E hr
    refine ⟨t, hb.ps, ?_⟩
    obtain ⟨fl, e1, e2⟩ := obind e
    have hvl := r.length
    have nown : ∀ a, ¬ Own (ds.map Sl.im ++ List.replicate (N.length - ds.length) .un) (L2.start N vs) a := fun a z => by
      obtain ⟨i, es, h1, _⟩ := z
      rw [getS_app] at h1
      cases hd : ds[i]? with
      | none => rw [hd] at h1; cases h1
      | some d' => rw [hd] at h1; cases h1
    have rp : Rp K H W (ds.map Sl.im ++ List.replicate (N.length - ds.length) .un) (L2.start N vs) := by
      refine ⟨?_, fun i d' h1 => ?_, fun i es h1 => ?_, fun i j di dj a h1 => ?_, wl⟩
      · unfold L2.start
        simp only [List.length_append, List.length_map, List.length_replicate, hvl]
      · rw [getS_app] at h1
        cases hd : ds[i]? with
        | none => rw [hd] at h1; cases h1
        | some d2 =>
          rw [hd] at h1
          cases h1
          obtain ⟨v, hv, rv⟩ := r.get hd
          refine ⟨v, ?_, rv.sub fun a _ _ z => z.elim (fun z => z) fun z => (nown a z).elim⟩
          unfold L2.start
          have hi : i < vs.length := (List.getElem?_eq_some_iff.mp hv).1
          rw [List.getElem?_append_left (by rw [List.length_map]; exact hi), List.getElem?_map, hv]
          rfl
      · rw [getS_app] at h1
        cases hd : ds[i]? with
        | none => rw [hd] at h1; cases h1
        | some d' => rw [hd] at h1; cases h1
      · rw [getS_app] at h1
        cases hd : ds[i]? with
        | none => rw [hd] at h1; cases h1
        | some d' => rw [hd] at h1; cases h1
    refine hb.sd W _ _ H fl _ g rp e1 ?_
    cases fl with
    | rt d' =>
      cases e2
      exact fun v H' kp g1 r1 => q v H' (kp.ext nown) g1 r1
    | nx ρ' =>
      cases e2
      exact fun σ' H' y => q .non H' (y.kp.ext nown) y.gd .non
    | bk ρ' => cases e2
    | ct ρ' => cases e2
theorem sd_fn {n : Nat} {run : List Dt → Option Dt} (ha : SdA m T K tr fr) : Sd m T K (tCall (spOf T K n run) [] E0 tr) (fun ρ => (fr ρ).bind fun ds => if ds.length = n then run ds else none) := fun W ρ σ H d Q g rp e' q => by
  obtain ⟨ds, e1, e'⟩ := obind e'
  by_cases hl : ds.length = n
  · rw [if_pos hl] at e'
    refine ha W ρ σ H ds _ g rp e1 fun vs H1 x1 g1 r1 => ?_
    refine ⟨wOf m W ρ σ, ds, d, g1, fun a z => (rp.ext x1).wo z, by rw [List.append_nil]; exact r1, hl, e', fun v H2 x2 g2 r2 => q v H2 (x1.trans x2) g2 r2⟩
  · rw [if_neg hl] at e'; cases e'
def fFn (n : Nat) (run : List Dt → Option Dt) (fr : FnL) : Fn := fun ρ => (fr ρ).bind fun ds => if ds.length = n then run ds else none
theorem de_call {kk : Nat} {fo : Addr} {fd : FuncData} {ps : List Str} {n : Nat} {run : List Dt → Option Dt} (F : FnOk X.prog X.w X.K X.mg X.base CX0 kk fo fd ps (spOf T K n run)) (hr : Room kk X.A) (hm : X.mg x = some (.ref fo)) (hk : PySem.W.keepIn X.K (.ref fo) = true) (hb : Binds X.K fd ps []) (ha : DA m T K X (e :: es) tr fr)
    (hg : Gl X x := by rfl) (hdb : (x == ("__debug__" : Str)) = false := by decide) (he : starEach (e :: es) X.env = (false, eval e X.env) :: starEach es X.env := by rfl) (hpl : (backTo pos (starEach es X.env)).any (·.1) = false := by rfl) :
    DE m T K X (.Call (.Name x p) (e :: es) [] pos) (tCall (spOf T K n run) [] E0 tr) (fFn n run fr) := ⟨pe_call F hr hg hm hk hb .nil pass0 ha.pa hdb he hpl, sd_fn ha.sd⟩
end
end EL
end

section
set_option Elab.async false
set_option maxRecDepth 100000
/-! EL isinstance, flat answers, the end of a law. -/
namespace EL
open PySem PySem.Spec PyProof.Rows L2

section
variable {m : Bool} {T : List Addr} {X : Cx} {K : PySem.W.Frag} {a b c e : Expr} {es : List Expr} {ta tb t : TE} {tr : TA} {f fa fb : Fn} {fr : FnL} {pos p p2 : Pos} {x : Str}
/-- an answer that is never a list is frozen whatever its parts are -/
theorem DE.flat (h : DE false T K X e t f) (hf : ∀ ρ d, f ρ = some d → d.free = true) : DE m T K X e t f := ⟨h.pe, fun W ρ σ H d Q g r e q => h.sd W ρ σ H d Q g r e fun v H' e1 g1 r1 => q v H' e1 g1 (r1.free (hf ρ d e))⟩
theorem fl_N {g : List Dt → Option Dt} (h : ∀ ds c, g ds = some c → c.free = true) : ∀ ρ d, fN g fr ρ = some d → d.free = true := fun ρ d e => by
  obtain ⟨ds, _, e2⟩ := obind e
  exact h ds d e2
theorem fl_len : ∀ ds c, gLen ds = some c → c.free = true := fun ds c h => by
  unfold gLen at h
  split at h
  · cases h; rfl
  · cases h; rfl
  · cases h; rfl
  · split at h <;> cases h
    rfl
  · cases h
theorem fl_abs : ∀ ds c, gAbs ds = some c → c.free = true := fun ds c h => by
  unfold gAbs at h
  split at h <;> cases h
  rfl
theorem fl_int : ∀ ds c, gInt ds = some c → c.free = true := fun ds c h => by
  unfold gInt at h
  split at h <;> cases h <;> rfl
theorem fl_max2 : ∀ ds c, gMax2 ds = some c → c.free = true := fun ds c h => by
  unfold gMax2 at h
  split at h <;> cases h
  rfl
theorem fl_min2 : ∀ ds c, gMin2 ds = some c → c.free = true := fun ds c h => by
  unfold gMin2 at h
  split at h <;> cases h
  rfl
theorem fl_sum : ∀ ds c, gSum ds = some c → c.free = true := fun ds c h => by
  unfold gSum at h
  split at h
  · obtain ⟨ns, _, h2⟩ := obind h
    cases h2
    rfl
  · cases h
theorem fl_all : ∀ ds c, gAll ds = some c → c.free = true := fun ds c h => by
  unfold gAll at h
  split at h
  · obtain ⟨ns, _, h2⟩ := obind h
    cases h2
    rfl
  · cases h
theorem fl_any : ∀ ds c, gAny ds = some c → c.free = true := fun ds c h => by
  unfold gAny at h
  split at h
  · obtain ⟨ns, _, h2⟩ := obind h
    cases h2
    rfl
  · cases h
theorem fl_maxL : ∀ ds c, gMaxL ds = some c → c.free = true := fun ds c h => by
  unfold gMaxL at h
  split at h
  · obtain ⟨ns, _, h2⟩ := obind h
    obtain ⟨k, _, h3⟩ := obind h2
    cases h3
    rfl
  · cases h
theorem fl_minL : ∀ ds c, gMinL ds = some c → c.free = true := fun ds c h => by
  unfold gMinL at h
  split at h
  · obtain ⟨ns, _, h2⟩ := obind h
    obtain ⟨k, _, h3⟩ := obind h2
    cases h3
    rfl
  · cases h
/-- sorted ints, whatever list they come from -/
theorem df_sortedI {q : Pos} (hm : X.mg "sorted" = none) (ha : DA false T K X [e] tr fr) (hg : Gl X "sorted" := by rfl) (hv : bootBuiltins "sorted" = some (.builtin "sorted") := by decide +kernel)
    (he : starEach [e] X.env = (false, eval e X.env) :: starEach [] X.env := by rfl) (hpl : (backTo pos (starEach [] X.env)).any (·.1) = false := by rfl) (hk : X.K = K := by rfl) :
    DF T K X (.Call (.Name "sorted" q) [e] [] pos) (tCB (rSortedI K) tr) (fNL gSorted fr) := by subst hk; exact ⟨pe_callB (kSortedL (T := T) rfl).1 hg hm hv ha.pa (by decide) (by decide) he hpl, fun W ρ σ H d Q gd rp e q => by
  obtain ⟨ds, ea, e⟩ := obind e
  refine ha.sd W ρ σ H ds _ gd rp ea fun vs H1 e1 g1 r1 => ?_
  refine (kSortedL (T := T) rfl).2 (wOf false W ρ σ) H1 vs ds d Q g1 (fun p z => (rp.ext e1).wo z) r1 e fun p us H2 e2 g2 hp hp2 r2 => ?_
  have hd : Dt.freeA d = true := by
    unfold gSorted at e
    split at e
    · obtain ⟨ns, _, h2⟩ := obind e
      cases h2
      generalize sortI ns = ms
      induction ms with
      | nil => rfl
      | cons m ms ih => show (true && Dt.freeA (ms.map Dt.int)) = true; rw [ih]; rfl
    · cases e
  exact q p us H2 (e1.trans e2) g2 (e1.there p hp) hp2 (r2.free hd)⟩
/-! ### list(range(..)), tuple(range(..)) -/
def SdR (T : List Addr) (K : PySem.W.Frag) (tr : L2.St → Hp → (Int → Int → Hp → Prop) → Prop) (f : Rho → Option (Int × Int)) : Prop :=
  ∀ (W : Addr → Prop) (ρ : Rho) (σ : L2.St) (H : Hp) (ij : Int × Int) (Q : Int → Int → Hp → Prop), Gd T H → Rp K H W ρ σ → f ρ = some ij → (∀ H', Ext H H' → Gd T H' → Q ij.1 ij.2 H') → tr σ H Q
structure DR (T : List Addr) (K : PySem.W.Frag) (X : Cx) (e : Expr) (tr : L2.St → Hp → (Int → Int → Hp → Prop) → Prop) (f : Rho → Option (Int × Int)) : Prop where
  pr : PRg X e tr
  sd : SdR T K tr f
def fR1 (a : Fn) : Rho → Option (Int × Int) := fun ρ => (a ρ).bind fun d => match d with | .int n => some (0, n) | _ => none
def fR2 (a b : Fn) : Rho → Option (Int × Int) := fun ρ => (a ρ).bind fun d => (b ρ).bind fun d' => match d, d' with | .int n, .int k => some (n, k) | _, _ => none
theorem dr_1 (h : DE false T K X a ta fa) (hm : X.mg "range" = none) (hg : Gl X "range" := by rfl) (na : starEach [a] X.env = (false, eval a X.env) :: starEach [] X.env := by rfl) : DR T K X (.Call (.Name "range" p) [a] [] pos) (tRg1 ta) (fR1 fa) := ⟨prg_1 hg hm h.pe na, fun W ρ σ H ij Q g r e q => by
  obtain ⟨d, ea, e⟩ := obind e
  refine h.sd W ρ σ H d _ g r ea fun v H1 e1 g1 r1 => ?_
  cases r1 with
  | int i => cases e; exact ⟨i, rfl, q H1 e1 g1⟩
  | _ => cases e⟩
theorem dr_2 (h : DE false T K X a ta fa) (h2 : DE false T K X b tb fb) (hm : X.mg "range" = none) (hg : Gl X "range" := by rfl) (na : starEach [a, b] X.env = (false, eval a X.env) :: starEach [b] X.env := by rfl) (nb : starEach [b] X.env = (false, eval b X.env) :: starEach [] X.env := by rfl) (np : (backTo pos (starEach [b] X.env)).any (·.1) = false := by rfl) :
    DR T K X (.Call (.Name "range" p) [a, b] [] pos) (tRg2 ta tb) (fR2 fa fb) := ⟨prg_2 hg hm h.pe h2.pe na nb np, fun W ρ σ H ij Q g r e q => by
  obtain ⟨d, ea, e⟩ := obind e
  obtain ⟨d', eb, e⟩ := obind e
  refine h.sd W ρ σ H d _ g r ea fun v H1 e1 g1 r1 => ?_
  refine h2.sd W ρ σ H1 d' _ g1 (r.ext e1) eb fun v' H2 e2 g2 r2 => ?_
  cases r1 with
  | int i =>
    cases r2 with
    | int j => cases e; exact ⟨i, j, rfl, rfl, q H2 (e1.trans e2) g2⟩
    | _ => cases e
  | _ => cases e⟩
noncomputable def okRg (ij : Int × Int) : Bool := cdc (-(2 ^ 62) ≤ ij.1 ∧ ij.1 < 2 ^ 62 ∧ -(2 ^ 62) ≤ ij.2 ∧ ij.2 < 2 ^ 62 ∧ (ij.2 - ij.1).toNat ≤ 2 ^ 24)
noncomputable def fLR (f : Rho → Option (Int × Int)) : FnL := fun ρ => (f ρ).bind fun ij => if okRg ij = true then some (rngD ij.1 ij.2) else none
noncomputable def fTR (f : Rho → Option (Int × Int)) : Fn := fun ρ => (f ρ).bind fun ij => if okRg ij = true then some (.tup (rngD ij.1 ij.2)) else none
theorem rep_rng {H : Hp} {W : Addr → Prop} (a b : Int) : RepA K H W (rgV a b) (rngD a b) := by
  unfold rgV rngD
  generalize List.range (b - a).toNat = l
  induction l with
  | nil => exact .nil
  | cons i l ih => exact .cons (.int _) ih
theorem rng_len (a b : Int) : (rngD a b).length = (b - a).toNat := by unfold rngD; rw [List.length_map, List.length_range]
theorem df_listR {tg : L2.St → Hp → (Int → Int → Hp → Prop) → Prop} {fr : Rho → Option (Int × Int)} (hc : X.calm = true) (h : DR T K X e tg fr) (hm : X.mg "list" = none) (hg : Gl X "list" := by rfl) (na : starEach [e] X.env = (false, eval e X.env) :: starEach [] X.env := by rfl) :
    DF T K X (.Call (.Name "list" p) [e] [] pos) (tLstRg tg) (fLR fr) := ⟨pe_listRg hc hg hm h.pr na, fun W ρ σ H d Q g r e q => by
  obtain ⟨ij, ea, e⟩ := obind e
  by_cases hz : okRg ij = true
  · rw [if_pos hz] at e
    cases e
    have hb := cdc_p hz
    refine h.sd W ρ σ H ij _ g r ea fun H1 e1 g1 => ⟨hb, fun l hl => ?_⟩
    refine q l _ _ (e1.trans (Ext.new hl)) (g1.newL hl ?_) (e1.there l hl) upd_same ((rep_rng ij.1 ij.2).newp hl)
    rw [rgV_length]
    exact hb.2.2.2.2
  · rw [if_neg hz] at e; cases e⟩
theorem de_tupR {tg : L2.St → Hp → (Int → Int → Hp → Prop) → Prop} {fr : Rho → Option (Int × Int)} (hc : X.calm = true) (h : DR T K X e tg fr) (hm : X.mg "tuple" = none) (hg : Gl X "tuple" := by rfl) (na : starEach [e] X.env = (false, eval e X.env) :: starEach [] X.env := by rfl) :
    DE m T K X (.Call (.Name "tuple" p) [e] [] pos) (tTupRg tg) (fTR fr) := ⟨pe_tupRg hc hg hm h.pr na, fun W ρ σ H d Q g r e q => by
  obtain ⟨ij, ea, e⟩ := obind e
  by_cases hz : okRg ij = true
  · rw [if_pos hz] at e
    cases e
    have hb := cdc_p hz
    refine h.sd W ρ σ H ij _ g r ea fun H1 e1 g1 => ⟨hb, fun l hl => ?_⟩
    refine q _ _ (e1.trans (Ext.new hl)) (g1.newT hl ?_) (.tup upd_same ((rep_rng ij.1 ij.2).ext (Ext.new hl)))
    rw [rgV_length]
    exact hb.2.2.2.2
  · rw [if_neg hz] at e; cases e⟩
/-! ### isinstance(e, T) -/
def Dt.ty : Dt → String
  | .non => "NoneType" | .bl _ => "bool" | .int _ => "int" | .str _ => "str" | .tup _ => "tuple" | .lst _ => "list" | .scr _ => "list"
def isiB (a b : String) : Bool := a == b || (a == "bool" && b == "int")
theorem isi_kit : ∀ a ∈ ["NoneType", "bool", "int", "str", "tuple", "list"], ∀ b ∈ ["bool", "int", "str", "tuple", "list"], kitB a b = some (isiB a b) := by decide +kernel
theorem Rep.ty {H : Hp} {W : Addr → Prop} {v : V} {d : Dt} (r : Rep K H W v d) : TyX K H v (.type d.ty) := by
  cases r with
  | non => exact .base .non
  | bl b => exact .base (.bl b)
  | int i => exact .base (.int i)
  | str z => exact .base (.str z)
  | tup h _ => exact .base (.tup h)
  | lst h _ _ => exact .base (.lst h)
  | scr h =>
    rcases h with ⟨o, h⟩ | ⟨o, its, n, h, c, _⟩
    · exact .base (.frz h)
    · exact .kList h c
theorem Dt.ty_mem (d : Dt) : d.ty ∈ ["NoneType", "bool", "int", "str", "tuple", "list"] := by cases d <;> simp [Dt.ty]
def fIsi (ty : String) (a : Fn) : Fn := fun ρ => (a ρ).bind fun d => some (.bl (isiB d.ty ty))
theorem de_isi {ty : Str} {tys : String} {q : Pos} (ha : DE false T K X a ta fa) (hm : X.mg "isinstance" = none) (hmt : X.mg ty = none) (hvt : bootBuiltins ty = some (.type tys) := by decide +kernel) (hmem : tys ∈ ["bool", "int", "str", "tuple", "list"] := by decide)
    (hg : Gl X "isinstance" := by rfl) (hgt : Gl X ty := by rfl) (hv : bootBuiltins "isinstance" = some (.builtin "isinstance") := by decide +kernel) (hn : ty ≠ "__name__" := by decide) (hdb : (ty == ("__debug__" : Str)) = false := by decide)
    (he : starEach [a, .Name ty p2] X.env = (false, eval a X.env) :: starEach [.Name ty p2] X.env := by rfl) (he2 : starEach [.Name ty p2] X.env = (false, eval (.Name ty p2) X.env) :: starEach [] X.env := by rfl) (hpl : (backTo pos (starEach [.Name ty p2] X.env)).any (·.1) = false := by rfl) (hk : X.K = K := by rfl) :
    DE m T K X (.Call (.Name "isinstance" q) [a, .Name ty p2] [] pos) (tCB (rIsi K) (tCons ta (tCons (tC (.ty tys)) tNil))) (fIsi tys fa) := by
  subst hk
  exact ⟨pe_callB call_isi hg hm hv (pa_cons ha.pe (pa_cons (pe_bltn (v := .ty tys) hgt hmt hvt rfl hn hdb) pa_nil he2) he) (by decide) (by decide) he hpl, fun W ρ σ H d Q g r e q => by
  obtain ⟨x, ea, e⟩ := obind e
  cases e
  refine ha.sd W ρ σ H x _ g r ea fun v H1 e1 g1 r1 => ?_
  exact ⟨v, .ty tys, _, _, _, rfl, .ty tys, r1.ty, kit_ty (isi_kit _ x.ty_mem _ hmem), q _ H1 e1 g1 (.bl _)⟩⟩
/-! ### gcd -/
def gGcd : List Dt → Option Dt
  | [.int a, .int b] => some (.int ((Nat.gcd a.natAbs b.natAbs : Nat) : Int))
  | _ => none
theorem fl_gcd : ∀ ds c, gGcd ds = some c → c.free = true := fun ds c h => by
  unfold gGcd at h
  split at h <;> cases h
  rfl
theorem kGcd : CallR X (.builtin "math.gcd") rGcd ∧ CallD T K rGcd gGcd := ⟨cr_gcd, fun W H vs ds c Q g wl r h q => by
  match ds, h with
  | [x0], h => cases x0 <;> cases h
  | x0 :: x1 :: _ :: _, h => cases x0 <;> cases x1 <;> cases h
  | [d, d'], h =>
    obtain ⟨v, v', rfl, r1, r2⟩ := repA2 r
    cases r1 with
    | int i =>
      cases r2 with
      | int j => cases h; exact ⟨i, j, rfl, q _ H (Ext.refl H) g (.int _)⟩
      | _ => cases h
    | _ => cases h⟩
theorem de_callM {id : String} {r : List V → Hp → VK → Prop} {g : List Dt → Option Dt} (h : CallR X (.builtin id) r ∧ CallD T K r g) (hm : X.mg x = some (.builtin id)) (ha : DA m T K X (e :: es) tr fr) (hg : Gl X x := by rfl)
    (hdb : (x == ("__debug__" : Str)) = false := by decide) (he : starEach (e :: es) X.env = (false, eval e X.env) :: starEach es X.env := by rfl) (hpl : (backTo pos (starEach es X.env)).any (·.1) = false := by rfl) :
    DE m T K X (.Call (.Name x p) (e :: es) [] pos) (tCB r tr) (fN g fr) := ⟨pe_callBfun h.1 hg hm ha.pa hdb he hpl, sd_call h.2 ha.sd⟩
end
theorem hu65 {k : Nat} {A : Around} (r : Room k A) : A.units + 65 < cLine := by have := r.un; omega
/-- a promise about nothing -/
theorem ok_none {P : Program} {w : World} {K : PySem.W.Frag} {mg : Str → Option Value} {base : Heap} {k : Nat} {fo : Addr} {fd : FuncData} {ps : List Str} {T : List Addr} {n : Nat} : FnOk P w K mg base CX0 k fo fd ps (spOf T K n fun _ => none) :=
  ⟨fun vs H Q E h => (by obtain ⟨_, _, _, _, _, _, _, e, _⟩ := h; cases e), fun A outer s H args us vs Q E _ _ _ _ h => (by obtain ⟨_, _, _, _, _, _, _, e, _⟩ := h; cases e)⟩
theorem sp_end {K : PySem.W.Frag} {H : Hp} {a : Addr} {ns : List Int} {run : List Dt → Option Dt} (hO : Only H) (hS : SqL K H a (ns.map V.int)) (h : run [.scr ns] = some (.bl true)) : spOf [] K 1 run [.ref a] H (fun v _ => v = .bl true) fun _ _ _ => False := by
  refine ⟨NoW, [.scr ns], .bl true, ⟨fun b xs e => ?_, fun P hP => by cases hP⟩, fun _ z => z.elim, .one (.scr ?_), rfl, h, fun v H' _ _ r => by cases r; rfl⟩
  · rcases hO b with q | ⟨o, ys, q⟩ <;> rcases e with e | e <;> rw [q] at e <;> cases e
  · rcases hS with (h | ⟨o, h⟩) | h
    · rcases hO a with q | ⟨o, ys, q⟩ <;> rw [q] at h <;> cases h
    · exact .inl ⟨o, h⟩
    · exact .inr h
end EL
end

section
set_option Elab.async false
set_option maxRecDepth 100000
/-! EL: functions of the slots reckoned with. -/
namespace EL
open PySem

/-- keeps a plain equation out of dsimp's hands: the kernel then need not unfold a test with big numbers -/
theorem nd {α : Sort u} {a b : α} (h : a = b) : a = b := h
/-! ### slots -/
@[simp] theorem getS_z (s : Sl) (r : Rho) : getS (s :: r) 0 = s := rfl
@[simp] theorem getS_s (s : Sl) (r : Rho) (n : Nat) : getS (s :: r) (n + 1) = getS r n := rfl
@[simp] theorem setS_z (s x : Sl) (r : Rho) : setS (s :: r) 0 x = x :: r := rfl
@[simp] theorem setS_s (s x : Sl) (r : Rho) (n : Nat) : setS (s :: r) (n + 1) x = s :: setS r n x := rfl
@[simp] theorem clr_t (b : List Bool) (s : Sl) (r : Rho) : clr (true :: b) (s :: r) = s :: clr b r := rfl
@[simp] theorem clr_f (b : List Bool) (s : Sl) (r : Rho) : clr (false :: b) (s :: r) = .un :: clr b r := rfl
@[simp] theorem clr_n (r : Rho) : clr [] r = r := by cases r <;> rfl
@[simp] theorem clr_e (b : List Bool) : clr b [] = [] := by cases b <;> rfl
@[simp] theorem owned_def (ρ : Rho) (i : Nat) : owned ρ i = match getS ρ i with | .ow ds => some ds | _ => none := rfl
@[simp] theorem frzs_n (ρ : Rho) : frzs [] ρ = ρ := rfl
@[simp] theorem frzs_c (i : Nat) (is : List Nat) (ρ : Rho) : frzs (i :: is) ρ = frzs is (frz i ρ) := rfl
@[simp] theorem wipeR_n (ρ : Rho) : wipeR ρ [] = ρ := rfl
@[simp] theorem wipeR_c (ρ : Rho) (v : Nat) (vs : List Nat) : wipeR ρ (v :: vs) = setS (wipeR ρ vs) v .un := rfl
@[simp] theorem noOw_n (ρ : Rho) : noOw ρ [] = true := rfl
@[simp] theorem noOw_c (ρ : Rho) (v : Nat) (vs : List Nat) : noOw ρ (v :: vs) = ((match getS ρ v with | .ow _ => false | _ => true) && noOw ρ vs) := rfl
/-! ### expressions -/
@[simp] theorem fC_a (d : Dt) (ρ : Rho) : fC d ρ = some d := rfl
@[simp] theorem fV_a (i : Nat) (ρ : Rho) : fV i ρ = match getS ρ i with | .im d => some d | _ => none := rfl
@[simp] theorem fVb_a (i : Nat) (ρ : Rho) : fVb i ρ = match getS ρ i with | .im d => some d | .ow ds => some (.lst ds) | .un => none := rfl
@[simp] theorem fOwn_a (i : Nat) (ρ : Rho) : fOwn i ρ = match getS ρ i with | .ow ds => some ds | _ => none := rfl
@[simp] theorem f1_a (g : Dt → Option Dt) (a : Fn) (ρ : Rho) : f1 g a ρ = (a ρ).bind g := rfl
@[simp] theorem f1L_a (g : Dt → Option (List Dt)) (a : Fn) (ρ : Rho) : f1L g a ρ = (a ρ).bind g := rfl
@[simp] theorem f2_a (g : Dt → Dt → Option Dt) (a b : Fn) (ρ : Rho) : f2 g a b ρ = (a ρ).bind fun x => (b ρ).bind fun y => g x y := rfl
@[simp] theorem fA0_a (ρ : Rho) : fA0 ρ = some [] := rfl
@[simp] theorem fAc_a (a : Fn) (r : FnL) (ρ : Rho) : fAc a r ρ = (a ρ).bind fun x => (r ρ).bind fun xs => some (x :: xs) := rfl
@[simp] theorem fN_a (g : List Dt → Option Dt) (a : FnL) (ρ : Rho) : fN g a ρ = (a ρ).bind g := rfl
@[simp] theorem fNL_a (g : List Dt → Option (List Dt)) (a : FnL) (ρ : Rho) : fNL g a ρ = (a ρ).bind g := rfl
@[simp] theorem fIf_a (c : FnB) (a b : Fn) (ρ : Rho) : fIf c a b ρ = (c ρ).bind fun k => if k = true then a ρ else b ρ := rfl
@[simp] theorem fTru_a (a : Fn) (ρ : Rho) : fTru a ρ = (a ρ).bind Dt.tru := rfl
@[simp] theorem fB_a (a : Fn) (ρ : Rho) : fB a ρ = (a ρ).bind fun d => match d with | .bl b => some b | _ => none := rfl
@[simp] theorem fAnd_a (a b : FnB) (ρ : Rho) : fAnd a b ρ = (a ρ).bind fun k => if k = true then b ρ else some false := rfl
@[simp] theorem fOr_a (a b : FnB) (ρ : Rho) : fOr a b ρ = (a ρ).bind fun k => if k = true then some true else b ρ := rfl
@[simp] theorem fNot_a (a : FnB) (ρ : Rho) : fNot a ρ = (a ρ).bind fun k => some (!k) := rfl
@[simp] theorem fOfB_a (a : FnB) (ρ : Rho) : fOfB a ρ = (a ρ).bind fun k => some (.bl k) := rfl
@[simp] theorem fAndV_a (a b : Fn) (ρ : Rho) : fAndV a b ρ = (fB a ρ).bind fun k => if k = true then b ρ else some (.bl false) := rfl
@[simp] theorem fOrV_a (a b : Fn) (ρ : Rho) : fOrV a b ρ = (fB a ρ).bind fun k => if k = true then some (.bl true) else b ρ := rfl
@[simp] theorem fCmp_a (g : Dt → Dt → Option Bool) (a b : Fn) (ρ : Rho) : fCmp g a b ρ = (a ρ).bind fun x => (b ρ).bind fun y => g x y := rfl
@[simp] theorem fChain_a (g g' : Dt → Dt → Option Bool) (a b c : Fn) (ρ : Rho) : fChain g g' a b c ρ = (a ρ).bind fun x => (b ρ).bind fun y => (g x y).bind fun k => if k = true then (c ρ).bind fun z => g' y z else some false := rfl
@[simp] theorem fFree_a (a : Fn) (ρ : Rho) : fFree a ρ = (a ρ).bind fun d => if d.free = true then some d else none := rfl
@[simp] theorem fLst_a (a : FnL) (ρ : Rho) : fLst a ρ = (a ρ).bind fun ds => some (.lst ds) := rfl
@[simp] theorem fTup_a (a : FnL) (ρ : Rho) : fTup a ρ = (a ρ).bind fun ds => if ds.length ≤ 1000 then some (.tup ds) else none := nd rfl
@[simp] theorem fLstL_a (a : FnL) (ρ : Rho) : fLstL a ρ = (a ρ).bind fun ds => if ds.length ≤ 1000 then some ds else none := nd rfl
@[simp] theorem fNoP_a (ρ : Rho) : fNoP ρ = some none := rfl
@[simp] theorem fPart_a (a : Fn) (ρ : Rho) : fPart a ρ = (a ρ).bind fun d => match d with | .int i => some (some i) | _ => none := rfl
@[simp] theorem fSl_a (a : Fn) (lo hi : FnO) (ρ : Rho) : fSl a lo hi ρ = (a ρ).bind fun d => (lo ρ).bind fun i => (hi ρ).bind fun j => gSl d i j := rfl
@[simp] theorem fIsi_a (t : String) (a : Fn) (ρ : Rho) : fIsi t a ρ = (a ρ).bind fun d => some (.bl (isiB d.ty t)) := rfl
@[simp] theorem fFn_a (n : Nat) (run : List Dt → Option Dt) (a : FnL) (ρ : Rho) : fFn n run a ρ = (a ρ).bind fun ds => if ds.length = n then run ds else none := rfl
@[simp] theorem fR1_a (a : Fn) (ρ : Rho) : fR1 a ρ = (a ρ).bind fun d => match d with | .int n => some ((0 : Int), n) | _ => none := rfl
@[simp] theorem fR2_a (a b : Fn) (ρ : Rho) : fR2 a b ρ = (a ρ).bind fun d => (b ρ).bind fun d' => match d, d' with | .int n, .int k => some (n, k) | _, _ => none := rfl
@[simp] theorem fLR_a (f : Rho → Option (Int × Int)) (ρ : Rho) : fLR f ρ = (f ρ).bind fun ij => if okRg ij = true then some (rngD ij.1 ij.2) else none := nd rfl
@[simp] theorem fTR_a (f : Rho → Option (Int × Int)) (ρ : Rho) : fTR f ρ = (f ρ).bind fun ij => if okRg ij = true then some (.tup (rngD ij.1 ij.2)) else none := nd rfl
@[simp] theorem fComp_a (fi : FnL) (gf : Dt → Rho → Option Rho) (ft : FnB) (fe : Fn) (vs : List Nat) (ρ : Rho) : fComp fi gf ft fe vs ρ = (fi ρ).bind fun ds => if noOw ρ vs = true ∧ ds.length ≤ sizeLine then compGo (wipeR ρ vs) gf ft fe ds else none := nd rfl
@[simp] theorem fYes_a (ρ : Rho) : fYes ρ = some true := rfl
@[simp] theorem hName_a (i : Nat) (d : Dt) (ρ : Rho) : hName i d ρ = some (setS ρ i (.im d)) := rfl
@[simp] theorem hTup_a (n : Nat) (g : List Dt → Rho → Option Rho) (ds : List Dt) (ρ : Rho) : hTup n g (.tup ds) ρ = if ds.length = n then g ds ρ else none := rfl
@[simp] theorem hCons_a (g : Dt → Rho → Option Rho) (gs : List Dt → Rho → Option Rho) (d : Dt) (r : List Dt) (ρ : Rho) : hCons g gs (d :: r) ρ = (g d ρ).bind fun ρ' => gs r ρ' := rfl
@[simp] theorem hNil_a (ρ : Rho) : hNil [] ρ = some ρ := rfl
/-! ### statements -/
@[simp] theorem sNil_a (ρ : Rho) : sNil ρ = some (.nx ρ) := rfl
@[simp] theorem sRet_a (f : Fn) (ρ : Rho) : sRet f ρ = (f ρ).bind fun d => some (.rt d) := rfl
@[simp] theorem sExpr_a (f : Fn) (ρ : Rho) : sExpr f ρ = (f ρ).bind fun _ => some (.nx ρ) := rfl
@[simp] theorem sSet_a (i : Nat) (f : Fn) (ρ : Rho) : sSet i f ρ = (f ρ).bind fun d => some (.nx (setS ρ i (.im d))) := rfl
@[simp] theorem sSetF_a (i : Nat) (f : FnL) (ρ : Rho) : sSetF i f ρ = (f ρ).bind fun ds => some (.nx (setS ρ i (.ow ds))) := rfl
@[simp] theorem sAsg_a (f : Fn) (gf : Dt → Rho → Option Rho) (ρ : Rho) : sAsg f gf ρ = (f ρ).bind fun d => (gf d ρ).bind fun ρ' => some (.nx ρ') := rfl
@[simp] theorem sIf_a (c : FnB) (F G : FnS) (ρ : Rho) : sIf c F G ρ = (c ρ).bind fun k => if k = true then F ρ else G ρ := rfl
@[simp] theorem sPar_a (i j : Nat) (fr : FnL) (ρ : Rho) : sPar i j fr ρ = (fr ρ).bind fun ds => match ds with | [d, d'] => some (.nx (setS (setS ρ i (.im d)) j (.im d'))) | _ => none := rfl
@[simp] theorem sMut_a (i : Nat) (g : List Dt → List Dt → Option (List Dt)) (fr : FnL) (ρ : Rho) : sMut i g fr ρ = (owned ρ i).bind fun xd => (fr ρ).bind fun vd => (g xd vd).bind fun yd => some (.nx (setS ρ i (.ow yd))) := rfl
@[simp] theorem sPut_a (i : Nat) (fk fe : Fn) (ρ : Rho) : sPut i fk fe ρ = (fe ρ).bind fun d => (owned ρ i).bind fun xd => (fk ρ).bind fun k => match k with
  | .int n => (L2.ixN xd.length n).bind fun j => some (.nx (setS ρ i (.ow (xd.set j d))))
  | _ => none := rfl
@[simp] theorem sAug_a (i : Nat) (g : Dt → Dt → Option Dt) (f : Fn) (ρ : Rho) : sAug i g f ρ = (fV i ρ).bind fun x => (f ρ).bind fun y => (g x y).bind fun z => some (.nx (setS ρ i (.im z))) := rfl
@[simp] theorem sFrz_a (is : List Nat) (F : FnS) (ρ : Rho) : sFrz is F ρ = F (frzs is ρ) := rfl
@[simp] theorem sClr_a (b : List Bool) (F : FnS) (ρ : Rho) : sClr b F ρ = F (clr b ρ) := rfl
@[simp] theorem sFor_a (fi : FnL) (gf : Dt → Rho → Option Rho) (mk : List Bool) (F : FnS) (ρ : Rho) : sFor fi gf mk F ρ = (fi ρ).bind fun ds => forGo gf mk F ds (clr mk ρ) := rfl
theorem sSeq_nx {F G : FnS} {ρ ρ' : Rho} (h : F ρ = some (.nx ρ')) : sSeq F G ρ = G ρ' := by unfold sSeq; rw [h]; rfl
theorem sSeq_rt {F G : FnS} {ρ : Rho} {d : Dt} (h : F ρ = some (.rt d)) : sSeq F G ρ = some (.rt d) := by unfold sSeq; rw [h]; rfl
/-- what follows a statement's end -/
def sThen (G : FnS) : Fl → Option Fl
  | .nx ρ' => G ρ'
  | .rt d => some (.rt d)
  | .bk ρ' => some (.bk ρ')
  | .ct ρ' => some (.ct ρ')
@[simp] theorem sThen_nx (G : FnS) (ρ : Rho) : sThen G (.nx ρ) = G ρ := rfl
@[simp] theorem sThen_rt (G : FnS) (d : Dt) : sThen G (.rt d) = some (.rt d) := rfl
@[simp] theorem sThen_bk (G : FnS) (ρ : Rho) : sThen G (.bk ρ) = some (.bk ρ) := rfl
@[simp] theorem sThen_ct (G : FnS) (ρ : Rho) : sThen G (.ct ρ) = some (.ct ρ) := rfl
@[simp] theorem sSeq_a (F G : FnS) (ρ : Rho) : sSeq F G ρ = (F ρ).bind (sThen G) := by
  unfold sSeq
  congr 1
theorem sThen_if (G : FnS) (c : Prop) [Decidable c] (a b : Fl) : sThen G (if c then a else b) = if c then sThen G a else sThen G b := by split <;> rfl
theorem bind_ite {α β : Type} (c : Prop) [Decidable c] (a b : Option α) (f : α → Option β) : (if c then a else b).bind f = if c then a.bind f else b.bind f := by split <;> rfl
/-- what a def hands back -/
def endOf : Fl → Option Dt
  | .rt d => some d
  | .nx _ => some .non
  | _ => none
@[simp] theorem endOf_rt (d : Dt) : endOf (.rt d) = some d := rfl
@[simp] theorem endOf_nx (ρ : Rho) : endOf (.nx ρ) = some .non := rfl
theorem runF_a (n : Nat) (F : FnS) (ds : List Dt) : runF n F ds = (F (ds.map Sl.im ++ List.replicate (n - ds.length) .un)).bind endOf := by
  unfold runF
  congr 1
theorem runF_of {n : Nat} {F : FnS} {ds : List Dt} {fl : Fl} (h : F (ds.map Sl.im ++ List.replicate (n - ds.length) .un) = some fl) : runF n F ds = endOf fl := by rw [runF_a, h]; rfl
/-! ### operations on data -/
@[simp] theorem gAdd_i (i j : Int) : gAdd (.int i) (.int j) = some (.int (i + j)) := rfl
@[simp] theorem gMinus_i (i j : Int) : gMinus (.int i) (.int j) = some (.int (i - j)) := rfl
@[simp] theorem gI_i (C : Int → Int → Bool) (f : Int → Int → Int) (i j : Int) : gI C f (.int i) (.int j) = if C i j = true then some (.int (f i j)) else none := nd rfl
@[simp] theorem gMul_i (i j : Int) : gMul (.int i) (.int j) = if cMul i j = true then some (.int (i * j)) else none := nd rfl
@[simp] theorem gNeg_i (i : Int) : gNeg (.int i) = some (.int (-i)) := rfl
@[simp] theorem gII_i (f : Int → Int → Bool) (i j : Int) : gII f (.int i) (.int j) = some (f i j) := rfl
@[simp] theorem bLt_a (i j : Int) : bLt i j = decide (i < j) := rfl
@[simp] theorem bLe_a (i j : Int) : bLe i j = decide (i ≤ j) := rfl
@[simp] theorem bGt_a (i j : Int) : bGt i j = decide (j < i) := rfl
@[simp] theorem bGe_a (i j : Int) : bGe i j = decide (j ≤ i) := rfl
@[simp] theorem gEq_i (i j : Int) : gEq (.int i) (.int j) = some (decide (i = j)) := by
  show some (PyData.eqv (Dt.py (.int i)) (Dt.py (.int j))) = _
  simp only [Dt.py, PyData.eqv]
  rw [Bool.beq_eq_decide_eq]
@[simp] theorem gNe_i (i j : Int) : gNe (.int i) (.int j) = some (!decide (i = j)) := by
  show some (!PyData.eqv (Dt.py (.int i)) (Dt.py (.int j))) = _
  simp only [Dt.py, PyData.eqv]
  rw [Bool.beq_eq_decide_eq]
@[simp] theorem gEq_b (i j : Bool) : gEq (.bl i) (.bl j) = some (i == j) := by
  show some (PyData.eqv (Dt.py (.bl i)) (Dt.py (.bl j))) = _
  simp only [Dt.py, PyData.eqv]
@[simp] theorem gNe_b (i j : Bool) : gNe (.bl i) (.bl j) = some (!(i == j)) := by
  show some (!PyData.eqv (Dt.py (.bl i)) (Dt.py (.bl j))) = _
  simp only [Dt.py, PyData.eqv]
@[simp] theorem gIsN_n : gIsN .non .non = some true := rfl
@[simp] theorem gIsN_i (i : Int) : gIsN (.int i) .non = some false := rfl
@[simp] theorem gIsN_t (l : List Dt) : gIsN (.tup l) .non = some false := rfl
@[simp] theorem gIsN_s (l : Str) : gIsN (.str l) .non = some false := rfl
@[simp] theorem gIsN_b (b : Bool) : gIsN (.bl b) .non = some false := rfl
@[simp] theorem gIsN_l (l : List Dt) : gIsN (.lst l) .non = some false := rfl
@[simp] theorem gNotN_n : gNotN .non .non = some false := rfl
@[simp] theorem gNotN_i (i : Int) : gNotN (.int i) .non = some true := rfl
@[simp] theorem gNotN_t (l : List Dt) : gNotN (.tup l) .non = some true := rfl
@[simp] theorem gNotN_s (l : Str) : gNotN (.str l) .non = some true := rfl
@[simp] theorem gNotN_b (b : Bool) : gNotN (.bl b) .non = some true := rfl
@[simp] theorem gNotN_l (l : List Dt) : gNotN (.lst l) .non = some true := rfl
@[simp] theorem gLen_l (l : List Dt) : gLen [.lst l] = some (.int l.length) := nd rfl
@[simp] theorem gLen_t (l : List Dt) : gLen [.tup l] = some (.int l.length) := nd rfl
@[simp] theorem gLen_s (l : List Int) : gLen [.scr l] = some (.int l.length) := nd rfl
@[simp] theorem gAbs_i (i : Int) : gAbs [.int i] = some (.int (if i < 0 then -i else i)) := rfl
@[simp] theorem gInt_i (i : Int) : gInt [.int i] = some (.int i) := rfl
@[simp] theorem gMax2_i (i j : Int) : gMax2 [.int i, .int j] = some (.int (if j > i then j else i)) := rfl
@[simp] theorem gMin2_i (i j : Int) : gMin2 [.int i, .int j] = some (.int (if j < i then j else i)) := rfl
@[simp] theorem gGcd_i (i j : Int) : gGcd [.int i, .int j] = some (.int ((Nat.gcd i.natAbs j.natAbs : Nat) : Int)) := rfl
@[simp] theorem gTuple_l (l : List Dt) : gTuple [.lst l] = some (.tup l) := rfl
@[simp] theorem gTuple_t (l : List Dt) : gTuple [.tup l] = some (.tup l) := rfl
@[simp] theorem gList_l (l : List Dt) : gList [.lst l] = some l := rfl
@[simp] theorem gList_t (l : List Dt) : gList [.tup l] = some l := rfl
@[simp] theorem gItems_l (l : List Dt) : gItems (.lst l) = some l := rfl
@[simp] theorem gItems_t (l : List Dt) : gItems (.tup l) = some l := rfl
@[simp] theorem gItems_s (z : Str) : gItems (.str z) = some (signs z) := rfl
theorem gRng1_i (j : Int) : gRng1 [.int j] = if okR j = true then some (rngD 0 j) else none := nd rfl
theorem gRng2_i (i j : Int) : gRng2 [.int i, .int j] = if okR i = true ∧ okR j = true then some (rngD i j) else none := nd rfl
@[simp] theorem gSum_l (l : List Int) : gSum [.lst (l.map Dt.int)] = some (.int l.sum) := by
  show ((ints? (l.map Dt.int)).bind fun ns => some (Dt.int ns.sum)) = _
  rw [ints?_map]; rfl
@[simp] theorem gAll_l (l : List Bool) : gAll [.lst (l.map Dt.bl)] = some (.bl (l.all id)) := by
  show ((bools? (l.map Dt.bl)).bind fun ns => some (Dt.bl (ns.all id))) = _
  rw [bools?_map]; rfl
@[simp] theorem gAny_l (l : List Bool) : gAny [.lst (l.map Dt.bl)] = some (.bl (l.any id)) := by
  show ((bools? (l.map Dt.bl)).bind fun ns => some (Dt.bl (ns.any id))) = _
  rw [bools?_map]; rfl
@[simp] theorem gSorted_l (l : List Int) : gSorted [.lst (l.map Dt.int)] = some ((sortI l).map Dt.int) := by
  show ((ints? (l.map Dt.int)).bind fun ns => some ((sortI ns).map Dt.int)) = _
  rw [ints?_map]; rfl
@[simp] theorem gAppend_a (xs : List Dt) (y : Dt) : gAppend xs [y] = if xs.length < sizeLine then some (xs ++ [y]) else none := nd rfl
@[simp] theorem gExtend_a (xs ys : List Dt) : gExtend xs [.lst ys] = if xs.length + ys.length ≤ sizeLine then some (xs ++ ys) else none := nd rfl
@[simp] theorem gInsert_a (xs : List Dt) (i : Int) (y : Dt) : gInsert xs [.int i, y] = if xs.length < sizeLine ∧ 0 ≤ i ∧ i < 2 ^ 63 then some (xs.take i.toNat ++ [y] ++ xs.drop i.toNat) else none := nd rfl
@[simp] theorem tru_b (b : Bool) : Dt.tru (.bl b) = some b := rfl
@[simp] theorem tru_n : Dt.tru .non = some false := rfl
@[simp] theorem tru_i (i : Int) : Dt.tru (.int i) = some (i != 0) := rfl
@[simp] theorem tru_t (l : List Dt) : Dt.tru (.tup l) = some (!l.isEmpty) := rfl
@[simp] theorem tru_l (l : List Dt) : Dt.tru (.lst l) = some (!l.isEmpty) := rfl
@[simp] theorem gSl_l (l : List Dt) (i j : Option Int) : gSl (.lst l) i j = some (.lst (cutL l i j)) := rfl
@[simp] theorem gSl_t (l : List Dt) (i j : Option Int) : gSl (.tup l) i j = some (.tup (cutL l i j)) := rfl
/-! x[i] -/
theorem atI_ok {α : Type} {xs : List α} {i : Int} (h0 : 0 ≤ i) (h : i.toNat < xs.length) : L2.atI xs i = some xs[i.toNat] := by
  unfold L2.atI L2.ixN
  rw [if_pos h0, if_pos (by omega)]
  simp [h]
theorem atI_neg {α : Type} {xs : List α} {i : Int} (h0 : i < 0) (h : -(xs.length : Int) ≤ i) : L2.atI xs i = some (xs[(i + xs.length).toNat]'(by omega)) := by
  unfold L2.atI L2.ixN
  rw [if_neg (by omega), if_pos h]
  show xs[(i + (xs.length : Int)).toNat]? = _
  rw [List.getElem?_eq_getElem]
@[simp] theorem gIx_l (l : List Dt) (i : Int) : gIx (.lst l) (.int i) = L2.atI l i := rfl
@[simp] theorem gIx_t (l : List Dt) (i : Int) : gIx (.tup l) (.int i) = L2.atI l i := rfl
theorem gIx_s (l : List Int) (i : Int) : gIx (.scr l) (.int i) = (L2.atI l i).map Dt.int := rfl
theorem atI_map_int {l : List Int} {i : Int} (h0 : 0 ≤ i) (h : i.toNat < l.length) : L2.atI (l.map Dt.int) i = some (.int (l.getD i.toNat 0)) := by
  rw [atI_ok h0 (by simpa using h)]
  simp [List.getD, h]
theorem atI_mapf {α : Type} (f : α → Dt) {l : List α} {i : Int} (h0 : 0 ≤ i) (h : i.toNat < l.length) : L2.atI (l.map f) i = some (f l[i.toNat]) := by
  rw [atI_ok h0 (by simpa using h)]
  simp
@[simp] theorem atI_c0 (d : Dt) (r : List Dt) : L2.atI (d :: r) 0 = some d := by rw [atI_ok (by omega) (by simp)]; rfl
@[simp] theorem atI_c1 (a d : Dt) (r : List Dt) : L2.atI (a :: d :: r) 1 = some d := by rw [atI_ok (by omega) (by simp)]; rfl
@[simp] theorem atI_c2 (a b d : Dt) (r : List Dt) : L2.atI (a :: b :: d :: r) 2 = some d := by rw [atI_ok (by omega) (by simp)]; rfl
@[simp] theorem atI_c3 (a b c d : Dt) (r : List Dt) : L2.atI (a :: b :: c :: d :: r) 3 = some d := by rw [atI_ok (by omega) (by simp)]; rfl
/-! ### loops -/
/-- one turn of a for -/
def turn (gf : Dt → Rho → Option Rho) (mk : List Bool) (F : FnS) (d : Dt) (ρ : Rho) : Option Fl := (gf d ρ).bind fun ρ1 => (F ρ1).bind fun fl => match fl with
  | .nx ρ2 => some (.nx (clr mk ρ2))
  | .ct ρ2 => some (.nx (clr mk ρ2))
  | .bk ρ2 => some (.bk (clr mk ρ2))
  | .rt d => some (.rt d)
theorem forGo_nil {gf : Dt → Rho → Option Rho} {mk : List Bool} {F : FnS} {ρ : Rho} : forGo gf mk F [] ρ = some (.nx ρ) := rfl
theorem forGo_cons {gf : Dt → Rho → Option Rho} {mk : List Bool} {F : FnS} {d : Dt} {ds : List Dt} {ρ : Rho} : forGo gf mk F (d :: ds) ρ = (turn gf mk F d ρ).bind fun fl => match fl with
    | .nx ρ' => forGo gf mk F ds ρ'
    | .bk ρ' => some (.nx ρ')
    | .rt d => some (.rt d)
    | .ct _ => none := by
  show ((gf d ρ).bind fun ρ1 => (F ρ1).bind fun fl => _) = _
  unfold turn
  cases gf d ρ with
  | none => rfl
  | some ρ1 =>
    simp only [Option.bind_some]
    cases F ρ1 with
    | none => rfl
    | some fl => cases fl <;> rfl
/-- a for that runs through -/
theorem for_fold {α β : Type} {gf : Dt → Rho → Option Rho} {mk : List Bool} {F : FnS} (enc : α → Dt) (S : β → Rho) (step : β → α → β) (I : β → List α → Prop) :
    ∀ (xs : List α) (s : β), I s xs → (∀ s x r, I s (x :: r) → turn gf mk F (enc x) (S s) = some (.nx (S (step s x))) ∧ I (step s x) r) → forGo gf mk F (xs.map enc) (S s) = some (.nx (S (xs.foldl step s)))
  | [], s, _, _ => rfl
  | x :: xs, s, hi, h => by
    obtain ⟨h1, h2⟩ := h s x xs hi
    rw [List.map_cons, forGo_cons, h1]
    exact for_fold enc S step I xs (step s x) h2 h
/-- a for by an invariant -/
theorem for_inv {gf : Dt → Rho → Option Rho} {mk : List Bool} {F : FnS} (I : List Dt → Rho → Prop) (Q : Fl → Prop) (hs : ∀ d ds ρ, I (d :: ds) ρ → ∃ fl, turn gf mk F d ρ = some fl ∧ (match fl with | .nx ρ' => I ds ρ' | .bk ρ' => Q (.nx ρ') | .rt d => Q (.rt d) | .ct _ => False)) (hd : ∀ ρ, I [] ρ → Q (.nx ρ)) :
    ∀ (xs : List Dt) (ρ : Rho), I xs ρ → ∃ fl, forGo gf mk F xs ρ = some fl ∧ Q fl
  | [], ρ, h => ⟨_, rfl, hd ρ h⟩
  | d :: ds, ρ, h => by
    obtain ⟨fl, e, q⟩ := hs d ds ρ h
    rw [forGo_cons, e]
    cases fl with
    | nx ρ' => exact for_inv I Q hs hd ds ρ' q
    | bk ρ' => exact ⟨_, rfl, q⟩
    | rt d' => exact ⟨_, rfl, q⟩
    | ct _ => exact q.elim
/-- a for that looks for the first item with p -/
theorem for_find {α : Type} {gf : Dt → Rho → Option Rho} {mk : List Bool} {F : FnS} (enc : α → Dt) (ρ : Rho) (p : α → Bool) (res : α → Dt) : ∀ (xs : List α), (∀ x ∈ xs, turn gf mk F (enc x) ρ = some (if p x = true then .rt (res x) else .nx ρ)) →
    forGo gf mk F (xs.map enc) ρ = some (match xs.find? p with | some x => .rt (res x) | none => .nx ρ)
  | [], _ => rfl
  | x :: xs, h => by
    rw [List.map_cons, forGo_cons, h x List.mem_cons_self]
    cases hp : p x with
    | true => simp [List.find?_cons, hp]
    | false =>
      simp only [Bool.false_eq_true, if_false, List.find?_cons, hp]
      exact for_find enc ρ p res xs fun y hy => h y (List.mem_cons_of_mem _ hy)
/-- a for whose turns each return or go on alike: .. by options -/
theorem for_findSome {α : Type} {gf : Dt → Rho → Option Rho} {mk : List Bool} {F : FnS} (enc : α → Dt) (ρ : Rho) (g : α → Option Dt) : ∀ (xs : List α), (∀ x ∈ xs, turn gf mk F (enc x) ρ = some (match g x with | some d => .rt d | none => .nx ρ)) →
    forGo gf mk F (xs.map enc) ρ = some (match xs.findSome? g with | some d => .rt d | none => .nx ρ)
  | [], _ => rfl
  | x :: xs, h => by
    rw [List.map_cons, forGo_cons, h x List.mem_cons_self]
    cases hp : g x with
    | some d => simp [List.findSome?_cons, hp]
    | none =>
      simp only [List.findSome?_cons, hp]
      exact for_findSome enc ρ g xs fun y hy => h y (List.mem_cons_of_mem _ hy)
/-- a comprehension -/
theorem comp_map {α : Type} {ρ : Rho} {gf : Dt → Rho → Option Rho} {ft : FnB} {fe : Fn} (enc : α → Dt) (p : α → Bool) (g : α → Dt) : ∀ (xs : List α), (∀ x ∈ xs, ∃ ρ', gf (enc x) ρ = some ρ' ∧ ft ρ' = some (p x) ∧ (p x = true → fe ρ' = some (g x))) →
    compGo ρ gf ft fe (xs.map enc) = some ((xs.filter p).map g)
  | [], _ => rfl
  | x :: xs, h => by
    obtain ⟨ρ', h1, h2, h3⟩ := h x List.mem_cons_self
    have ih := comp_map (ρ := ρ) (gf := gf) (ft := ft) (fe := fe) enc p g xs fun y hy => h y (List.mem_cons_of_mem _ hy)
    show ((gf (enc x) ρ).bind fun ρ' => (ft ρ').bind fun b => if b = true then (fe ρ').bind fun y => (compGo ρ gf ft fe (xs.map enc)).bind fun r => some (y :: r) else compGo ρ gf ft fe (xs.map enc)) = _
    rw [h1, Option.bind_some, h2, Option.bind_some]
    cases hp : p x with
    | true =>
      rw [if_pos rfl, h3 hp, Option.bind_some, ih, Option.bind_some, List.filter_cons_of_pos hp]
      rfl
    | false =>
      rw [if_neg Bool.false_ne_true, ih, List.filter_cons_of_neg (by rw [hp]; exact Bool.false_ne_true)]
theorem comp_all {α : Type} {ρ : Rho} {gf : Dt → Rho → Option Rho} {ft : FnB} {fe : Fn} (enc : α → Dt) (g : α → Dt) (xs : List α) (h : ∀ x ∈ xs, ∃ ρ', gf (enc x) ρ = some ρ' ∧ ft ρ' = some true ∧ fe ρ' = some (g x)) :
    compGo ρ gf ft fe (xs.map enc) = some (xs.map g) := by
  have := comp_map enc (fun _ => true) g xs fun x hx => by
    obtain ⟨ρ', h1, h2, h3⟩ := h x hx
    exact ⟨ρ', h1, h2, fun _ => h3⟩
  rw [this, List.filter_eq_self.mpr fun _ _ => rfl]
/-- a while by an invariant and a measure -/
theorem while_inv {c : FnB} {mk : List Bool} {F : FnS} (I : Rho → Prop) (μ : Rho → Nat) (Q : Fl → Prop) (hs : ∀ ρ, I ρ → ∃ r, whStep c mk F 0 ρ = some r ∧ (match r with | .inl ρ' => I ρ' ∧ μ ρ' < μ ρ | .inr fl => Q fl)) (ρ : Rho) (h : I ρ) :
    ∃ fl, itO (whStep c mk F) ρ = some fl ∧ Q fl := by
  have key : ∀ (n i : Nat) (ρ : Rho), I ρ → μ ρ < n → ∃ fl, itN (whStep c mk F) n i ρ = some fl ∧ Q fl := by
    intro n
    induction n with
    | zero => intro i ρ _ h; omega
    | succ n ih =>
      intro i ρ hi hm
      obtain ⟨r, e, q⟩ := hs ρ hi
      have e' : whStep c mk F i ρ = some r := e
      show ∃ fl, ((whStep c mk F i ρ).bind _) = some fl ∧ Q fl
      rw [e']
      cases r with
      | inl ρ' => exact ih (i + 1) ρ' q.1 (by omega)
      | inr fl => exact ⟨fl, rfl, q⟩
  obtain ⟨fl, e, q⟩ := key (μ ρ + 1) 0 ρ h (Nat.lt_succ_self _)
  exact ⟨fl, itO_of e, q⟩
theorem rngD_map (lo hi : Int) : rngD lo hi = ((List.range (hi - lo).toNat).map fun (i : Nat) => (lo + (i : Int))).map Dt.int := by
  unfold rngD
  rw [List.map_map]
  rfl
/-- the ints from lo up to hi -/
def rgI (lo hi : Int) : List Int := (List.range (hi - lo).toNat).map fun (i : Nat) => (lo + (i : Int))
theorem rngD_eq (lo hi : Int) : rngD lo hi = (rgI lo hi).map Dt.int := rngD_map lo hi
theorem mem_rgI {lo hi x : Int} : x ∈ rgI lo hi ↔ lo ≤ x ∧ x < hi := by
  unfold rgI
  rw [List.mem_map]
  constructor
  · rintro ⟨i, hi', rfl⟩
    rw [List.mem_range] at hi'
    omega
  · intro ⟨h1, h2⟩
    exact ⟨(x - lo).toNat, by rw [List.mem_range]; omega, by omega⟩
theorem rgI_length (lo hi : Int) : (rgI lo hi).length = (hi - lo).toNat := by unfold rgI; rw [List.length_map, List.length_range]
theorem okR_of {i : Int} (h1 : -1000000000 ≤ i) (h2 : i ≤ 1000000000) : okR i = true := by
  unfold okR
  exact cdc_t ⟨by omega, by omega⟩
theorem rng1_of {j : Int} (h1 : -1000000000 ≤ j) (h2 : j ≤ 1000000000) : gRng1 [.int j] = some ((rgI 0 j).map Dt.int) := by
  rw [gRng1_i, if_pos (okR_of h1 h2), rngD_eq]
theorem rng2_of {i j : Int} (h1 : -1000000000 ≤ j) (h2 : j ≤ 1000000000) (h3 : -1000000000 ≤ i) (h4 : i ≤ 1000000000) : gRng2 [.int i, .int j] = some ((rgI i j).map Dt.int) := by
  rw [gRng2_i, if_pos ⟨okR_of h3 h4, okR_of h1 h2⟩, rngD_eq]
theorem cMod_of {i j : Int} (h : j ≠ 0) : cMod i j = true := decide_eq_true h
theorem cDiv_of {i j : Int} (h : j ≠ 0) (h2 : -1000000000 ≤ j) (h3 : j ≤ 1000000000) : cDiv i j = true := by
  unfold cDiv
  exact decide_eq_true ⟨h, by omega⟩
theorem cMul_r {i j : Int} (h2 : -1000000000000000000 ≤ j) (h3 : j ≤ 1000000000000000000) : cMul i j = true := by
  unfold cMul
  have : cdc (-(2 ^ 64) < j ∧ j < 2 ^ 64) = true := cdc_t ⟨by omega, by omega⟩
  rw [this, Bool.or_true]
theorem cMul_l {i j : Int} (h2 : -1000000000000000000 ≤ i) (h3 : i ≤ 1000000000000000000) : cMul i j = true := by
  unfold cMul
  have : cdc (-(2 ^ 64) < i ∧ i < 2 ^ 64) = true := cdc_t ⟨by omega, by omega⟩
  rw [this, Bool.true_or]
theorem size_ge {n : Nat} (h : n ≤ 1000000) : n ≤ sizeLine := by rw [sizeLine_eq]; omega
theorem size_gt {n : Nat} (h : n ≤ 1000000) : n < sizeLine := by rw [sizeLine_eq]; omega
theorem fComp_of {fi : FnL} {gf : Dt → Rho → Option Rho} {ft : FnB} {fe : Fn} {vs : List Nat} {ρ : Rho} {ds r : List Dt} (h1 : fi ρ = some ds) (h2 : noOw ρ vs = true) (h3 : ds.length ≤ 1000000) (h4 : compGo (wipeR ρ vs) gf ft fe ds = some r) : fComp fi gf ft fe vs ρ = some r := by
  unfold fComp
  rw [h1, Option.bind_some, if_pos ⟨h2, size_ge h3⟩, h4]
end EL
end

section
set_option Elab.async false
set_option maxRecDepth 100000
set_option maxHeartbeats 4000000
/-! EL: slices taken backwards. -/
namespace EL
open PySem PySem.Spec PyProof.Rows L2 HT
/-- where xs[lo:hi:-1] begins, and how many it takes -/
def rvP (n : Nat) (lo hi : Option Int) : Int × Nat := ((Builtin.Slice.sliceAdjust lo hi (-1) (n : Int)).1, Builtin.Slice.slicePlaces (Builtin.Slice.sliceAdjust lo hi (-1) (n : Int)).1 (Builtin.Slice.sliceAdjust lo hi (-1) (n : Int)).2 (-1))
def revCut {α : Type} (xs : List α) (lo hi : Option Int) : List α := (List.range (rvP xs.length lo hi).2).filterMap fun (m : Nat) => xs[((rvP xs.length lo hi).1 + (m : Int) * (-1)).toNat]?
theorem rvP_le (n : Nat) (lo hi : Option Int) : (rvP n lo hi).2 ≤ n := by
  unfold rvP Builtin.Slice.slicePlaces
  have h1 : ¬ ((-1 : Int) > 0) := by omega
  simp only [h1, if_false]
  have ha : (Builtin.Slice.sliceAdjust lo hi (-1) (n : Int)).1 ≤ (n : Int) - 1 := by
    unfold Builtin.Slice.sliceAdjust
    cases lo with
    | none => simp
    | some v => simp; split <;> omega
  have hb : -1 ≤ (Builtin.Slice.sliceAdjust lo hi (-1) (n : Int)).2 := by
    unfold Builtin.Slice.sliceAdjust
    cases hi with
    | none => simp
    | some v => simp; split <;> omega
  generalize (Builtin.Slice.sliceAdjust lo hi (-1) (n : Int)).1 = a at ha
  generalize (Builtin.Slice.sliceAdjust lo hi (-1) (n : Int)).2 = b at hb
  split
  · rw [Int.neg_neg, Int.ediv_one]; omega
  · omega
theorem filterMap_le {α β : Type} (f : α → Option β) : ∀ xs : List α, (xs.filterMap f).length ≤ xs.length
  | [] => Nat.le_refl _
  | x :: xs => by
    rw [List.filterMap_cons]
    have := filterMap_le f xs
    cases f x <;> simp <;> omega
theorem revCut_length {α : Type} (xs : List α) (lo hi : Option Int) : (revCut xs lo hi).length ≤ xs.length := by
  unfold revCut
  refine Nat.le_trans (filterMap_le _ _) ?_
  rw [List.length_range]
  exact rvP_le _ _ _
theorem Vals.at? {vs : List V} {us : List Value} (r : Vals vs us) (i : Nat) : (vs[i]? = none ∧ us[i]? = none) ∨ ∃ v u, vs[i]? = some v ∧ us[i]? = some u ∧ RelV v u := by
  induction r generalizing i with
  | nil => exact .inl ⟨rfl, rfl⟩
  | @cons v u vs us h r ih =>
    cases i with
    | zero => exact .inr ⟨v, u, rfl, rfl, h⟩
    | succ i => simpa using ih i
theorem Vals.pick {vs : List V} {us : List Value} (r : Vals vs us) (f : Nat → Nat) : ∀ ms : List Nat, Vals (ms.filterMap fun m => vs[f m]?) (ms.filterMap fun m => us[f m]?)
  | [] => .nil
  | m :: ms => by
    rw [List.filterMap_cons, List.filterMap_cons]
    rcases Vals.at? r (f m) with ⟨h1, h2⟩ | ⟨v, u, h1, h2, h3⟩
    · rw [h1, h2]; exact Vals.pick r f ms
    · rw [h1, h2]; exact .cons h3 (Vals.pick r f ms)
theorem Vals.revCut {vs : List V} {us : List Value} (r : Vals vs us) (lo hi : Option Int) : Vals (revCut vs lo hi) (revCut us lo hi) := by
  unfold EL.revCut
  rw [r.length]
  exact Vals.pick r _ _
section
variable {K : PySem.W.Frag}
theorem RepA.at? {H : Hp} {W : Addr → Prop} {vs : List V} {ds : List Dt} (r : RepA K H W vs ds) (i : Nat) : (vs[i]? = none ∧ ds[i]? = none) ∨ ∃ v d, vs[i]? = some v ∧ ds[i]? = some d ∧ Rep K H W v d := by
  induction ds generalizing vs i with
  | nil => cases r; exact .inl ⟨rfl, rfl⟩
  | cons d ds ih =>
    cases r with
    | cons h r =>
      cases i with
      | zero => exact .inr ⟨_, d, rfl, rfl, h⟩
      | succ i => simpa using ih r i
theorem RepA.pick {H : Hp} {W : Addr → Prop} {vs : List V} {ds : List Dt} (r : RepA K H W vs ds) (f : Nat → Nat) : ∀ ms : List Nat, RepA K H W (ms.filterMap fun m => vs[f m]?) (ms.filterMap fun m => ds[f m]?)
  | [] => .nil
  | m :: ms => by
    rw [List.filterMap_cons, List.filterMap_cons]
    rcases RepA.at? r (f m) with ⟨h1, h2⟩ | ⟨v, u, h1, h2, h3⟩
    · rw [h1, h2]; exact RepA.pick r f ms
    · rw [h1, h2]; exact .cons h3 (RepA.pick r f ms)
theorem RepA.revCut {H : Hp} {W : Addr → Prop} {vs : List V} {ds : List Dt} (r : RepA K H W vs ds) (lo hi : Option Int) : RepA K H W (revCut vs lo hi) (revCut ds lo hi) := by
  unfold EL.revCut
  rw [r.length]
  exact RepA.pick r _ _
end
section
variable {prog : Program} {w : World} {A : Around} {E : Value → Shared → Prop} {s : Shared}
theorem sliceApplied_rev {sl : Addr} {vl vu vs : Value} {lo hi : Option Int} {n : Nat} {Q : Int × Int × Nat → Shared → Prop} (hs : s.heap.IsSliceOf sl vl vu vs) (pl : IsPart vl lo) (pu : IsPart vu hi) (ps : IsPart vs (some (-1)))
    (h : Q ((rvP n lo hi).1, -1, (rvP n lo hi).2) s) : wpAny (model prog w) A (Builtin.Slice.sliceApplied (.ref sl) (pure (n : Int))) Q E s := by
  obtain ⟨os, hos, hcs, hds⟩ := id hs
  unfold Builtin.Slice.sliceApplied Builtin.Slice.sliceFields
  refine wpAny_bind (wpAny_bind (wpAny_field hos hds (x := vl) rfl (wpAny_bind (wpAny_field hos hds (x := vu) rfl (wpAny_bind (wpAny_field hos hds (x := vs) rfl (wpAny_pure ?_)))))))
  refine wpAny_bind (slicePart_ ps ?_)
  show wpAny _ _ (if ((-1 : Int) == 0) = true then _ else _) _ _ s
  rw [if_neg (by decide)]
  refine wpAny_bind (slicePart_ pl (wpAny_bind (slicePart_ pu (wpAny_bind (wpAny_pure ?_)))))
  exact wpAny_pure h
theorem getItem_tuple_rev {t sl : Addr} {items : Array Value} {vl vu vs : Value} {lo hi : Option Int} {Q : Value → Shared → Prop} (ht : IsTup s.heap t items) (hs : s.heap.IsSliceOf sl vl vu vs) (pl : IsPart vl lo) (pu : IsPart vu hi) (ps : IsPart vs (some (-1)))
    (h : Q (.ref s.heap.objs.size) { s with heap := s.heap.push { cls := .type "tuple", data := .seq (revCut items.toList lo hi).toArray } })
    (hsz : items.size ≤ sizeLine) : wpAny (model prog w) A (getItem (.ref t) (.ref sl)) Q E s := by
  have htake : sizeOk (.seq (revCut items.toList lo hi).toArray) := by
    show (revCut items.toList lo hi).toArray.size ≤ sizeLine
    rw [List.size_toArray]
    have := revCut_length items.toList lo hi
    have e2 : items.toList.length = items.size := Array.length_toList
    show (revCut items.toList lo hi).length ≤ sizeLine
    omega
  obtain ⟨os, hos, hcs, hds⟩ := id hs
  have hTs : s.TypeIs (.ref sl) "slice" := ⟨os, hos, hcs⟩
  unfold getItem
  try with_reducible refine wpAny_holding ?_
  first | refine wpAny_bind (wpAny_pure ?_) | skip
  refine wpAny_bind (wpAny_sequenceKey ht.typeIs (by decide) ?_)
  refine wpAny_bind (wpAny_callSpecial?_slot (name := Str.ofString "__getitem__") ht.typeIs PyProof.Rows.slot_tuple_getitem
    (wpAny_call_entry PyProof.Rows.slot_tuple_getitem ht.typeIs entry_tuple_getitem ?_ (args_tuple_getitem _ _)))
  show wpAny _ _ (Builtin.Tuple.tupleItemsOf (.ref t) >>= _) _ _ s
  refine wpAny_bind (tupleItemsOf_ ht ?_)
  refine wpAny_bind (wpAny_typeOf hTs ?_)
  rw [if_pos (by decide)]
  refine wpAny_bind (sliceApplied_rev hs pl pu ps ?_)
  have hno : ¬ (((rvP items.size lo hi).1 == 0 && (-1 : Int) == 1 && (rvP items.size lo hi).2 == items.size) = true) := by
    intro q
    rw [Bool.and_eq_true, Bool.and_eq_true] at q
    exact absurd q.1.2 (by decide)
  show wpAny _ _ (if ((rvP items.size lo hi).1 == 0 && (-1 : Int) == 1 && (rvP items.size lo hi).2 == items.size) = true then _ else _) _ _ s
  rw [if_neg hno]
  have hpk : ((List.range (rvP items.size lo hi).2).filterMap fun (m : Nat) => items[((rvP items.size lo hi).1 + (m : Int) * (-1)).toNat]?).toArray = (revCut items.toList lo hi).toArray := by
    unfold revCut
    simp only [Array.length_toList, Array.getElem?_toList]
  rw [hpk]
  first
    | exact wpAny_bind (m := Builtin.Tuple.tupleExact _) (wpAny_newObj_type (wpAny_pure ⟨_, rfl, wpAny_pure h⟩) htake)
    | exact wpAny_bind (m := Builtin.Tuple.tupleExact _) (wpAny_newObj_type (wpAny_bind (wpAny_pure (wpAny_pure ⟨_, rfl, wpAny_pure h⟩))) htake)
    | exact wpAny_bind (wpAny_bind (m := Builtin.Tuple.tupleExact _) (wpAny_newObj_type (wpAny_pure (wpAny_pure ⟨_, rfl, wpAny_pure h⟩)) htake))
    | exact wpAny_bind (wpAny_bind (m := Builtin.Tuple.tupleExact _) (wpAny_newObj_type (wpAny_pure ⟨_, rfl, wpAny_pure h⟩) htake))
end
def rSr (K : PySem.W.Frag) : V → Option Int → Option Int → Hp → VK → Prop := fun x lo hi H Q =>
  (∃ a xs, x = .ref a ∧ SqT K H a xs ∧ ∀ p, H p = none → Q (.ref p) (upd H p (.tup (revCut xs lo hi)))) ∨
  (∃ a xs, x = .ref a ∧ SqL K H a xs ∧ lo = none ∧ hi = none ∧ ∀ p, H p = none → Q (.ref p) (upd H p (.lst xs.reverse)))
section
variable {X : Cx} {e : Expr} {te : TE} {lo hi : Option Expr} {tl th : TO} {pos p1 p2 p3 : Pos} {k : Nat}
theorem pe_slrev (he : PE X e te) (hl : PO X lo tl) (hu : PO X hi th) : PE X (.Subscript e (.Slice lo hi (some (.UnaryOp .USub (.Constant (.int 1) k p1) p2)) p3) pos) (tSl (rSr X.K) te tl th) := by
  refine ⟨fun pins s σ H Q I h => ?_⟩
  refine Subscript_ (thn (he.run pins s σ H _ I h) fun v s1 ⟨x, H1, I1, r1, q1⟩ => ?_)
  have hst : PO X (some (.UnaryOp .USub (.Constant (.int 1) k p1) p2)) (tPart (tUn (rU fun i => .int (-i)) (tC (.int 1)))) := po_some (pe_un un_neg pe_int)
  refine wpAny_Slice (thn (hl.run pins s1 σ H1 _ I1 q1) fun vl s2 ⟨l, H2, I2, pl, q2⟩ => thn (hu.run pins s2 σ H2 _ I2 q2) fun vu s3 ⟨u, H3, I3, pu, q3⟩ => ?_)
  refine thn (hst.run pins s3 σ H3 (fun o H4 => o = some (-1) ∧ H4 = H3) I3 ⟨1, rfl, -1, rfl, rfl, rfl⟩) fun vs s4 ⟨o, H4, I4, ps, eo, e4⟩ => ?_
  subst eo e4
  have I5 : Inv X pins σ H4 { s4 with heap := s4.heap.push { cls := .type "slice", data := .fields #[vl, vu, vs] } } := I4.kept (t' := s4.toks) fun b ob q => Heap.get?_push_of_some _ q
  show wpAny (model X.prog X.w) X.A (subscriptTail e (.Slice lo hi (some (.UnaryOp .USub (.Constant (.int 1) k p1) p2)) p3) v (.ref s4.heap.objs.size)) (EP X pins σ Q) X.xe { s4 with heap := s4.heap.push { cls := .type "slice", data := .fields #[vl, vu, vs] } }
  rcases q3 with ⟨a, xs, ex, hx, q⟩ | ⟨a, xs, ex, hx, e1, e2, q⟩
  · subst ex
    cases r1
    obtain ⟨its, r, ht, hz⟩ := I5.tuple hx
    have hlen := r.length
    refine tail_any (ops := [.ref a, .ref s4.heap.objs.size]) ht.typeIs (PyProof.Rows.slot_tuple_getitem.lookup) ?_ (by with_unfolding_all rfl)
    refine getItem_tuple_rev ht (Heap.IsSliceOf.new _ vl vu vs) pl pu ps ?_ (by rw [List.size_toArray]; omega)
    refine ⟨.ref _, _, I5.laid (t' := s4.toks) (o := .tup (revCut xs l u)) (fun b ob q => Heap.get?_push_of_some _ q) (Nat.le_refl _) ?_, rfl, q _ (I5.hok.fresh (Nat.le_refl _))⟩
    exact ⟨Nat.le_trans (revCut_length xs l u) hz, _, by have := Vals.revCut r l u; simpa using this, IsTup.new _ _⟩
  · subst ex e1 e2
    cases r1
    obtain ⟨its, r, ht, hz⟩ := I5.list hx
    have hlen := r.length
    refine tail_any (ops := [.ref a, .ref s4.heap.objs.size]) ht.isList.typeIs (PySem.slot_list_getitem.lookup) ?_ (by with_unfolding_all rfl)
    refine wpAny_getItem_list_slice ht.isList (Heap.IsSliceOf.new _ vl vu vs) pl pu ps (by decide) ?_ (by rw [List.size_toArray]; omega)
    rw [PySem.W.krv_pick]
    refine ⟨.ref _, _, I5.laid (t' := s4.toks) (o := .lst xs.reverse) (fun b ob q => Heap.get?_push_of_some _ q) (Nat.le_refl _) ?_, rfl, q _ (I5.hok.fresh (Nat.le_refl _))⟩
    exact ⟨by rw [List.length_reverse]; exact hz, _, 0, r.reverse, Heap.get?_push_size _ rfl⟩
end
def gSlr : Dt → Option Int → Option Int → Option Dt
  | .tup xs, lo, hi => some (.tup (revCut xs lo hi))
  | .lst xs, none, none => some (.lst xs.reverse)
  | _, _, _ => none
def fSlr (a : Fn) (lo hi : FnO) : Fn := fun ρ => (a ρ).bind fun d => (lo ρ).bind fun i => (hi ρ).bind fun j => gSlr d i j
theorem RepA.rev {K : PySem.W.Frag} {H : Hp} {W : Addr → Prop} {vs : List V} {ds : List Dt} (r : RepA K H W vs ds) : RepA K H W vs.reverse ds.reverse := by
  induction ds generalizing vs with
  | nil => cases r; exact .nil
  | cons d ds ih =>
    cases r with
    | cons h r =>
      rw [List.reverse_cons, List.reverse_cons]
      exact RepA.append (ih r) (.cons h .nil)
section
variable {T : List Addr} {K : PySem.W.Frag} {X : Cx} {m : Bool} {a : Expr} {ta : TE} {fa : Fn} {lo hi : Option Expr} {tl th : TO} {fl fh : FnO} {pos p1 p2 p3 : Pos} {k : Nat}
theorem de_slrev (ha : DE m T K X a ta fa) (hl : DO T K X lo tl fl) (hh : DO T K X hi th fh) (hk : X.K = K := by rfl) : DE m T K X (.Subscript a (.Slice lo hi (some (.UnaryOp .USub (.Constant (.int 1) k p1) p2)) p3) pos) (tSl (rSr K) ta tl th) (fSlr fa fl fh) := by
  subst hk
  exact ⟨pe_slrev ha.pe hl.po hh.po, fun W ρ σ H d Q g r e q => by
  obtain ⟨x, ea, e⟩ := obind e
  obtain ⟨i, el, e⟩ := obind e
  obtain ⟨j, eh, e⟩ := obind e
  refine ha.sd W ρ σ H x _ g r ea fun v H1 e1 g1 r1 => ?_
  refine hl.sd W ρ σ H1 i _ g1 (r.ext e1) el fun H2 e2 g2 => ?_
  refine hh.sd W ρ σ H2 j _ g2 (r.ext (e1.trans e2)) eh fun H3 e3 g3 => ?_
  have r3 := r1.ext (e2.trans e3)
  have e13 := (e1.trans e2).trans e3
  cases r3 with
  | @lst p vs ds h1 n1 ra =>
    cases i with
    | some i => cases e
    | none =>
      cases j with
      | some j => cases e
      | none =>
        cases e
        refine .inr ⟨p, vs, rfl, .of h1, rfl, rfl, fun l hl => ?_⟩
        exact q _ _ (e13.trans (Ext.new hl)) (g3.newL hl (by rw [List.length_reverse]; exact g3.1 p vs (.inl h1))) (.lst upd_same (fun z => by obtain ⟨zs, hz⟩ := (r.ext e13).wo z; rw [hl] at hz; cases hz) (ra.rev.ext (Ext.new hl)))
  | @tup p vs ds h1 ra =>
    cases e
    refine .inl ⟨p, vs, rfl, .of h1, fun l hl => ?_⟩
    exact q _ _ (e13.trans (Ext.new hl)) (g3.newT hl (Nat.le_trans (revCut_length vs i j) (g3.1 p vs (.inr h1)))) (.tup upd_same ((ra.revCut i j).ext (Ext.new hl)))
  | _ => cases e⟩
end
@[simp] theorem fSlr_a (a : Fn) (lo hi : FnO) (ρ : Rho) : fSlr a lo hi ρ = (a ρ).bind fun d => (lo ρ).bind fun i => (hi ρ).bind fun j => gSlr d i j := rfl
theorem revCut_all {α : Type} (xs : List α) : revCut xs none none = xs.reverse := by
  have hp : rvP xs.length none none = ((xs.length : Int) - 1, xs.length) := by
    unfold rvP Builtin.Slice.sliceAdjust Builtin.Slice.slicePlaces
    simp
    split <;> omega
  unfold revCut
  rw [hp]
  have key : ∀ n, n ≤ xs.length → ((List.range n).filterMap fun (m : Nat) => xs[(((xs.length : Int) - 1) + (m : Int) * (-1)).toNat]?) = (xs.drop (xs.length - n)).reverse := by
    intro n
    induction n with
    | zero => intro _; simp
    | succ n ih =>
      intro hn
      rw [List.range_succ, List.filterMap_append, ih (by omega)]
      have hi : (((xs.length : Int) - 1) + (n : Int) * (-1)).toNat = xs.length - (n + 1) := by omega
      have hlt : xs.length - (n + 1) < xs.length := by omega
      have hd : xs.drop (xs.length - (n + 1)) = xs[xs.length - (n + 1)] :: xs.drop (xs.length - n) := by
        rw [List.drop_eq_getElem_cons hlt, show xs.length - (n + 1) + 1 = xs.length - n by omega]
      rw [hd, List.reverse_cons]
      rw [List.filterMap_cons, hi, List.getElem?_eq_getElem hlt]
      rfl
  have := key xs.length (Nat.le_refl _)
  rw [Nat.sub_self, List.drop_zero] at this
  exact this
@[simp] theorem gSlr_t (xs : List Dt) : gSlr (.tup xs) none none = some (.tup xs.reverse) := by
  show some (Dt.tup (revCut xs none none)) = _
  rw [revCut_all]
@[simp] theorem gSlr_l (xs : List Dt) : gSlr (.lst xs) none none = some (.lst xs.reverse) := rfl
end EL
end

section
set_option Elab.async false
set_option maxRecDepth 100000
set_option maxHeartbeats 4000000
/-! EL: min and max of data. -/
namespace EL
open PySem PySem.Spec PySem.W PyProof.Rows L2 HT
section
variable {X : Cx}
/-- the best of alike data, lists and tuples -/
def rBest (K : PySem.W.Frag) (best : PyData → List PyData → PyData) : List V → Hp → VK → Prop := fun vs H Q => ∃ (a : Addr) (xs : List V) (d : PyData) (ds : List PyData), vs = [V.ref a] ∧ (SqL K H a xs ∨ SqT K H a xs) ∧ DpAll K H xs (d :: ds) ∧ AlikeAll (d :: ds) ∧ PyData.depthAll (d :: ds) ≤ 60 ∧
  ∀ (i : Nat) (v : V), xs[i]? = some v → (d :: ds)[i]? = some (best d ds) → Q v H
theorem reads_at {h h' : Heap} {us : List Value} {vs : List V} {xs : List PyData} {as bs : List Addr} {i : Nat} {u : Value} {e : PyData} (hk : ∀ b o, h.get? b = some o → h'.get? b = some o) (rv : Vals vs us) (rs : ReadsAll h us xs as) (hu : us[i]? = some u) (he : Reads h' u e bs) : ∃ v, vs[i]? = some v ∧ RelV v u ∧ xs[i]? = some e := by
  obtain ⟨cs, r1, h1, h2, h3⟩ := readsAll_at rs i u hu
  have e1 := (reads_det (fun b o q _ => hk b o q) r1 he).1
  rcases EL.Vals.at? rv i with ⟨_, h4⟩ | ⟨v, u', h4, h5, h6⟩
  · rw [hu] at h4; cases h4
  · rw [hu] at h5
    cases h5
    refine ⟨v, h4, h6, ?_⟩
    rw [e1, List.getD_eq_getElem?_getD, List.getElem?_eq_getElem h1]
    rfl
theorem cr_minD (hc : X.calm = true) (hu : X.A.units + 64 < cLine) : CallR X (.builtin "min") (rBest X.K minD) := by
  intro pins s σ H vs us Q I r h
  obtain ⟨a, xs, d, ds, rfl, hs, hd, ha, hdep, q⟩ := h
  rw [Vals.ref1 r]
  rcases hs with hs | hs
  · obtain ⟨its, rv, hl, _⟩ := I.list hs
    obtain ⟨as, rs⟩ := Dp.readsAll I (d :: ds) xs its hd rv
    refine min_list_data (I.ok.hd hc) hl.isList rs ha (by omega) fun i v h' tk bs hv hr hk => ?_
    obtain ⟨v', h4, h5, h6⟩ := reads_at hk rv rs (by simpa using hv) hr
    exact ⟨v', H, I.kept hk, h5, q i v' h4 h6⟩
  · obtain ⟨its, rv, hl, _⟩ := I.tuple hs
    obtain ⟨as, rs⟩ := Dp.readsAll I (d :: ds) xs its hd rv
    refine min_tuple_data (I.ok.hd hc) hl rs ha (by omega) fun i v h' tk bs hv hr hk => ?_
    obtain ⟨v', h4, h5, h6⟩ := reads_at hk rv rs (by simpa using hv) hr
    exact ⟨v', H, I.kept hk, h5, q i v' h4 h6⟩
theorem cr_maxD (hc : X.calm = true) (hu : X.A.units + 64 < cLine) : CallR X (.builtin "max") (rBest X.K maxD) := by
  intro pins s σ H vs us Q I r h
  obtain ⟨a, xs, d, ds, rfl, hs, hd, ha, hdep, q⟩ := h
  rw [Vals.ref1 r]
  rcases hs with hs | hs
  · obtain ⟨its, rv, hl, _⟩ := I.list hs
    obtain ⟨as, rs⟩ := Dp.readsAll I (d :: ds) xs its hd rv
    refine max_list_data (I.ok.hd hc) hl.isList rs ha (by omega) fun i v h' tk bs hv hr hk => ?_
    obtain ⟨v', h4, h5, h6⟩ := reads_at hk rv rs (by simpa using hv) hr
    exact ⟨v', H, I.kept hk, h5, q i v' h4 h6⟩
  · obtain ⟨its, rv, hl, _⟩ := I.tuple hs
    obtain ⟨as, rs⟩ := Dp.readsAll I (d :: ds) xs its hd rv
    refine max_tuple_data (I.ok.hd hc) hl rs ha (by omega) fun i v h' tk bs hv hr hk => ?_
    obtain ⟨v', h4, h5, h6⟩ := reads_at hk rv rs (by simpa using hv) hr
    exact ⟨v', H, I.kept hk, h5, q i v' h4 h6⟩
end
theorem dict_bad : SeqAt.shaped (.dict []) = false := by decide
mutual
theorem py_inj : ∀ d e : Dt, d.py = e.py → d.py.canLay0 = true → d = e
  | .non, e, h, _ => by cases e <;> simp [Dt.py] at h ⊢
  | .bl b, e, h, _ => by cases e <;> simp [Dt.py] at h ⊢; exact h
  | .int i, e, h, _ => by cases e <;> simp [Dt.py] at h ⊢; exact h
  | .str x, e, h, _ => by cases e <;> simp [Dt.py] at h ⊢; exact h
  | .tup xs, e, h, k => by
    cases e <;> simp [Dt.py] at h ⊢
    exact pyA_inj xs _ h (by simpa [Dt.py, PyData.canLay0] using k)
  | .lst xs, e, h, k => by
    cases e <;> simp [Dt.py] at h ⊢
    exact pyA_inj xs _ h (by simpa [Dt.py, PyData.canLay0] using k)
  | .scr ns, e, h, k => by simp [Dt.py, PyData.canLay0] at k
theorem pyA_inj : ∀ ds es : List Dt, Dt.pyA ds = Dt.pyA es → PyData.canLayAll0 (Dt.pyA ds) = true → ds = es
  | [], es, h, _ => by cases es <;> simp [Dt.pyA] at h ⊢
  | d :: ds, es, h, k => by
    cases es with
    | nil => simp [Dt.pyA] at h
    | cons e es =>
      simp only [Dt.pyA, List.cons.injEq] at h
      rw [Dt.pyA] at k
      have k' := Bool.and_eq_true_iff.mp (show (_ && _) = true from by simpa [PyData.canLayAll0] using k)
      rw [py_inj d e h.1 k'.1, pyA_inj ds es h.2 k'.2]
end
/-- the best, by a comparison f -/
def bestD (f : PyData → PyData → Bool) (x : Dt) (xs : List Dt) : Dt := xs.foldl (fun a y => if f y.py a.py then y else a) x
theorem bestD_py (f : PyData → PyData → Bool) : ∀ (xs : List Dt) (x : Dt), (bestD f x xs).py = (Dt.pyA xs).foldl (fun a y => if f y a then y else a) x.py
  | [], x => by simp [bestD, Dt.pyA]
  | y :: xs, x => by
    rw [Dt.pyA, List.foldl_cons]
    show (bestD f (if f y.py x.py then y else x) xs).py = _
    rw [bestD_py f xs]
    congr 1
    split <;> rfl
noncomputable def gBest (f : PyData → PyData → Bool) : List Dt → Option Dt
  | [.lst (x :: xs)] => if cdc (AlikeAll (Dt.pyA (x :: xs)) ∧ PyData.canLayAll0 (Dt.pyA (x :: xs)) = true ∧ PyData.depthAll (Dt.pyA (x :: xs)) ≤ 60) = true then some (bestD f x xs) else none
  | [.tup (x :: xs)] => if cdc (AlikeAll (Dt.pyA (x :: xs)) ∧ PyData.canLayAll0 (Dt.pyA (x :: xs)) = true ∧ PyData.depthAll (Dt.pyA (x :: xs)) ≤ 60) = true then some (bestD f x xs) else none
  | _ => none
section
variable {T : List Addr} {X : Cx} {K : PySem.W.Frag}
theorem pyA_at : ∀ (ds : List Dt) (i : Nat) (p : PyData), (Dt.pyA ds)[i]? = some p → ∃ d, ds[i]? = some d ∧ d.py = p
  | [], i, p, h => by simp [Dt.pyA] at h
  | d :: ds, 0, p, h => by rw [Dt.pyA] at h; exact ⟨d, rfl, by simpa using h⟩
  | d :: ds, i + 1, p, h => by rw [Dt.pyA] at h; simpa using pyA_at ds i p (by simpa using h)
theorem best_call (f : PyData → PyData → Bool) : CallD T K (rBest K fun x xs => xs.foldl (fun a y => if f y a then y else a) x) (gBest f) := fun W H vs ds c Q g wl r h q => by
  have go : ∀ (a : Addr) (zs : List V) (x : Dt) (xs : List Dt), (SqL K H a zs ∨ SqT K H a zs) → RepA K H W zs (x :: xs) → vs = [V.ref a] →
      (if cdc (AlikeAll (Dt.pyA (x :: xs)) ∧ PyData.canLayAll0 (Dt.pyA (x :: xs)) = true ∧ PyData.depthAll (Dt.pyA (x :: xs)) ≤ 60) = true then some (bestD f x xs) else none) = some c → rBest K (fun x xs => xs.foldl (fun a y => if f y a then y else a) x) vs H Q := by
    intro a zs x xs hs ra hv h
    by_cases hz : cdc (AlikeAll (Dt.pyA (x :: xs)) ∧ PyData.canLayAll0 (Dt.pyA (x :: xs)) = true ∧ PyData.depthAll (Dt.pyA (x :: xs)) ≤ 60) = true
    · rw [if_pos hz] at h
      cases h
      obtain ⟨h1, h2, h3⟩ := cdc_p hz
      have hdp := RepA.dp ra h2
      have e1 : Dt.pyA (x :: xs) = x.py :: Dt.pyA xs := by rw [Dt.pyA]
      refine ⟨a, zs, x.py, Dt.pyA xs, hv, hs, e1 ▸ hdp, e1 ▸ h1, e1 ▸ h3, fun i v hi hp => ?_⟩
      simp only [] at hp
      rw [← bestD_py, ← e1] at hp
      obtain ⟨d, hd, hdp⟩ := pyA_at (x :: xs) i _ hp
      rcases EL.RepA.at? ra i with ⟨h4, _⟩ | ⟨v', d', h4, h5, h6⟩
      · rw [hi] at h4; cases h4
      · rw [hi] at h4
        cases h4
        rw [hd] at h5
        cases h5
        have hlay : d.py.canLay0 = true := by
          have : ∀ (ds : List Dt) (i : Nat) (d : Dt), PyData.canLayAll0 (Dt.pyA ds) = true → ds[i]? = some d → d.py.canLay0 = true := by
            intro ds
            induction ds with
            | nil => intro i d _ h; simp at h
            | cons e ds ih =>
              intro i d hl h
              rw [Dt.pyA] at hl
              have k' := Bool.and_eq_true_iff.mp (show (_ && _) = true from by simpa [PyData.canLayAll0] using hl)
              cases i with
              | zero => simp at h; rw [← h]; exact k'.1
              | succ i => exact ih i d k'.2 (by simpa using h)
          exact this _ _ _ h2 hd
        rw [← py_inj d _ hdp hlay] at q
        exact q v H (Ext.refl H) g h6
    · rw [if_neg hz] at h; cases h
  match ds, h with
  | x0 :: _ :: _, h =>
    cases x0 with
    | lst l => cases l <;> cases h
    | tup l => cases l <;> cases h
    | _ => cases h
  | [d], h =>
    obtain ⟨v, rfl, r1⟩ := repA1 r
    cases r1 with
    | @lst p zs l h1 n1 ra =>
      cases l with
      | nil => cases h
      | cons x xs => exact go p zs x xs (.inl (.of h1)) ra rfl h
    | @tup p zs l h1 ra =>
      cases l with
      | nil => cases h
      | cons x xs => exact go p zs x xs (.inr (.of h1)) ra rfl h
    | _ => cases h
noncomputable abbrev gMinD : List Dt → Option Dt := gBest dataLt
noncomputable abbrev gMaxD : List Dt → Option Dt := gBest fun y a => dataLt a y
theorem kMinD (hk : X.K = K) (hc : X.calm = true) (hu : X.A.units + 64 < cLine) : CallR X (.builtin "min") (rBest K minD) ∧ CallD T K (rBest K minD) gMinD := by subst hk; exact ⟨cr_minD hc hu, best_call dataLt⟩
theorem kMaxD (hk : X.K = K) (hc : X.calm = true) (hu : X.A.units + 64 < cLine) : CallR X (.builtin "max") (rBest K maxD) ∧ CallD T K (rBest K maxD) gMaxD := by subst hk; exact ⟨cr_maxD hc hu, best_call fun y a => dataLt a y⟩
end
/-- min of ints -/
theorem alike_ints (x : Int) (xs : List Int) : AlikeAll (Dt.pyA ((x :: xs).map Dt.int)) := by
  rw [pyA_map]
  constructor
  · intro a ha b hb
    simp at ha hb
    rcases ha with rfl | ⟨_, _, rfl⟩ <;> rcases hb with rfl | ⟨_, _, rfl⟩ <;> simp [Dt.py, alike]
  · intro a ha
    simp at ha
    rcases ha with rfl | ⟨_, _, rfl⟩ <;> simp [Dt.py]
end EL
end

section
set_option Elab.async false
set_option maxRecDepth 100000
set_option maxHeartbeats 4000000
/-! EL: range with a step. -/
namespace EL
open PySem PySem.Spec PyProof.Rows L2
section
variable {T : List Addr} {X : Cx} {K : PySem.W.Frag} {k : Bool} {tg : Expr} {p pos : Pos} {a b c : Expr} {tr : TA} {fr : FnL}
def stD (lo st : Int) (n : Nat) : List Dt := (List.range n).map fun (i : Nat) => .int (lo + (i : Int) * st)
noncomputable def gRng3 : List Dt → Option (List Dt)
  | [.int i, .int j, .int st] => if cdc (RgC i j st (Builtin.Range.rangeSize i j st).toNat) = true then some (stD i st (Builtin.Range.rangeSize i j st).toNat) else none
  | _ => none
theorem jok_rngC {H1 : Hp} {O W : Addr → Prop} (lo st : Int) (n : Nat) : JOk O T K W (Itc lo st n) H1 (stD lo st n) := fun Hc kp g => by
  unfold stD
  refine ⟨fun i d hd => ?_, fun i hi' => ?_⟩
  · rw [List.getElem?_map] at hd
    obtain ⟨j, hj, rfl⟩ := Option.map_eq_some_iff.mp hd
    obtain ⟨hj1, hj2⟩ := List.getElem?_eq_some_iff.mp hj
    rw [List.getElem_range] at hj2
    subst hj2
    rw [List.length_range] at hj1
    refine ⟨hj1, fun x H' y => ?_⟩
    obtain ⟨rfl, rfl⟩ := y
    exact ⟨Ext.refl _, g, .int _⟩
  · show n ≤ i
    simpa using hi'
theorem di_range3 (ha : DA false T K X [a, b, c] tr fr) (hm : X.mg "range" = none) (hg : Gl X "range" := by rfl) (hs : starEach [a, b, c] X.env = (false, eval a X.env) :: starEach [b, c] X.env := by rfl) (hpl : (backTo pos (starEach [b, c] X.env)).any (·.1) = false := by rfl) :
    DI k T K X tg (.Call (.Name "range" p) [a, b, c] [] pos) (iRng3 tr) (fNL gRng3 fr) :=
  ⟨pi_range3 hg hm ha.pa hs hpl, fun W ρ σ H ds R g rp e' q => by
  obtain ⟨xs, ea, e'⟩ := obind e'
  refine ha.sd W ρ σ H xs _ g rp ea fun vs H1 e1 g1 r1 => ?_
  cases r1 with
  | nil => cases e'
  | @cons v vs d ds r2 r1 =>
    cases r2 with
    | int i =>
      cases r1 with
      | nil => cases e'
      | @cons v vs d ds r3 r1 =>
        cases r3 with
        | int j =>
          cases r1 with
          | nil => cases e'
          | @cons v vs d ds r4 r1 =>
            cases r4 with
            | int st =>
              cases r1 with
              | nil =>
                dsimp only [gRng3] at e'
                by_cases hz : cdc (RgC i j st (Builtin.Range.rangeSize i j st).toNat) = true
                · rw [if_pos hz] at e'
                  cases e'
                  exact ⟨i, j, st, _, rfl, cdc_p hz, q _ H1 e1 g1 (jok_rngC i st _)⟩
                · rw [if_neg hz] at e'; cases e'
              | cons _ _ => cases e'
            | _ => cases e'
        | _ => cases e'
    | _ => cases e'⟩
end
/-- the ints from lo on by st, n of them -/
def stI (lo st : Int) (n : Nat) : List Int := (List.range n).map fun (i : Nat) => lo + (i : Int) * st
theorem stD_eq (lo st : Int) (n : Nat) : stD lo st n = (stI lo st n).map Dt.int := by unfold stD stI; rw [List.map_map]; rfl
end EL
end

section
set_option Elab.async false
set_option maxRecDepth 100000
/-! functions of the slots, printed by gen.py -/
namespace LK
open PySem PySem.Spec PyProof.Rows L2 EL

/- def is_cut(x, y, amount, pair): slots 0:x 1:y 2:amount 3:pair -/
noncomputable def F_is_cut : FnS := (sSeq (sIf (fOr (fCmp gNe (fN gLen (fAc (fV 3) fA0)) (fC (.int 2))) (fCmp (gII bLt) (fN gMinD (fAc (fV 3) fA0)) (fC (.int 0)))) (sRet (fC (.bl false))) sNil)
  (sRet (fOfB (fCmp gEq (f2 gAdd (f2 gMul (f2 gIx (fV 3) (fC (.int 0))) (fV 0)) (f2 gMul (f2 gIx (fV 3) (fC (.int 1))) (fV 1))) (fV 2)))))
noncomputable def R_is_cut : List Dt → Option Dt := runF 4 F_is_cut

/- def told_cut(x, y, amount): slots 0:x 1:y 2:amount 3:p 4:left -/
noncomputable def F_told_cut : FnS := (sSeq (sFor (fNL gRng1 (fAc (fV 1) fA0)) (hName 3) [true, true, true, false, false]
   (sSeq (sSet 4 (f2 gMinus (fV 2) (f2 gMul (fV 3) (fV 0))))
  (sIf (fAnd (fCmp (gII bGe) (fV 4) (fC (.int 0))) (fCmp gEq (f2 (gI cMod Int.fmod) (fV 4) (fV 1)) (fC (.int 0)))) (sRet (fTup (fAc (fV 3) (fAc (f2 (gI cDiv Int.fdiv) (fV 4) (fV 1)) fA0)))) sNil)))
  (sRet (fC .non)))
noncomputable def R_told_cut : List Dt → Option Dt := runF 5 F_told_cut

/- def cut_mirror(x, y, amount): slots 0:x 1:y 2:amount -/
noncomputable def F_cut_mirror : FnS := (sRet (f2 gMinus (f2 gMinus (f2 gMinus (f2 (gI cDiv Int.fdiv) (f2 gMul (fV 0) (fV 1)) (fN gGcd (fAc (fV 0) (fAc (fV 1) fA0)))) (fV 0)) (fV 1)) (fV 2)))
noncomputable def R_cut_mirror : List Dt → Option Dt := runF 3 F_cut_mirror

/- def most_uncut(x, y): slots 0:x 1:y -/
noncomputable def F_most_uncut : FnS := (sRet (fFn 3 R_cut_mirror (fAc (fV 0) (fAc (fV 1) (fAc (fC (.int 0)) fA0)))))
noncomputable def R_most_uncut : List Dt → Option Dt := runF 2 F_most_uncut

/- def count_uncut(x, y): slots 0:x 1:y 2:g -/
noncomputable def F_count_uncut : FnS := (sSeq (sSet 2 (fN gGcd (fAc (fV 0) (fAc (fV 1) fA0))))
  (sRet (f2 (gI cDiv Int.fdiv) (f2 gMul (f2 gMinus (f2 (gI cDiv Int.fdiv) (fV 0) (fV 2)) (fC (.int 1))) (f2 gMinus (f2 (gI cDiv Int.fdiv) (fV 1) (fV 2)) (fC (.int 1)))) (fC (.int 2)))))
noncomputable def R_count_uncut : List Dt → Option Dt := runF 3 F_count_uncut

/- def told_portion(doughs, low, high): slots 0:doughs 1:low 2:high 3:w 4:dough -/
noncomputable def F_told_portion : FnS := (sRet (fN gMinD (fAc (fLst (fComp (fNL gRng2 (fAc (fV 1) (fAc (f2 gAdd (fV 2) (fC (.int 1))) fA0))) (hName 3) fYes (fTup (fAc (fN gSum (fAc (fLst (fComp (f1L gItems (fV 0)) (hName 4) fYes (f2 (gI cMod Int.fmod) (fV 4) (fV 3)) [4])) fA0)) (fAc (fV 3) fA0))) [3])) fA0)))
noncomputable def R_told_portion : List Dt → Option Dt := runF 5 F_told_portion

/- def _law_cell(script, k): slots 0:script 1:k -/
noncomputable def F_f_law_cell : FnS := (sSeq (sIf (fCmp (gII bLt) (fV 1) (fN gLen (fAc (fV 0) fA0))) (sRet (f2 gIx (fV 0) (fV 1))) sNil)
  (sRet (f2 gAdd (f2 gMul (fC (.int 5)) (fV 1)) (fC (.int 3)))))
noncomputable def R_f_law_cell : List Dt → Option Dt := runF 2 F_f_law_cell

/- def _law_draws(cell, count): slots 0:cell 1:count 2:rest 3:digits 4:seed 5:draws 6:k 7:mixed -/
noncomputable def F_f_law_draws : FnS := (sSeq (sSet 2 (fN gAbs (fAc (fN gInt (fAc (fV 0) fA0)) fA0)))
  (sSeq (sSet 3 (fOfB (fCmp (gII bGe) (fV 2) (f2 (gI cPow fun i j => i ^ j.toNat) (fC (.int 10)) (fC (.int 18))))))
  (sSeq (sSet 4 (fV 2))
  (sSeq (sSetF 5 (fLstL fA0))
  (sSeq (sFor (fNL gRng1 (fAc (fV 1) fA0)) (hName 6) [false, false, true, true, true, true, false, false]
   (sIf (fAnd (fTru (fV 3)) (fCmp (gII bGt) (fV 2) (fC (.int 0)))) (sSeq (sMut 5 gAppend (fAc (f2 (gI cMod Int.fmod) (fN gInt (fAc (fV 2) fA0)) (fC (.int 5040))) fA0))
  (sSet 2 (f2 (gI cDiv Int.fdiv) (fV 2) (fC (.int 5040))))) (sSeq (sSet 7 (f2 (gI cMod Int.fmod) (fN gInt (fAc (f2 gAdd (f2 gAdd (f2 gMul (fV 4) (fC (.int 48271))) (f2 gMul (f2 gAdd (fV 6) (fC (.int 1))) (fC (.int 69621)))) (fC (.int 11))) fA0)) (fC (.int 2147483647))))
  (sSeq (sSet 7 (f2 (gI cMod Int.fmod) (fN gInt (fAc (f2 gAdd (f2 gMul (fV 7) (fV 7)) (f2 gMul (fC (.int 40692)) (f2 gAdd (fV 6) (fC (.int 3))))) fA0)) (fC (.int 2147483399))))
  (sMut 5 gAppend (fAc (f2 (gI cMod Int.fmod) (fN gInt (fAc (f2 (gI cDiv Int.fdiv) (fV 7) (fC (.int 64))) fA0)) (fC (.int 5040))) fA0))))))
  (sFrz [5] (sRet (fV 5))))))))
noncomputable def R_f_law_draws : List Dt → Option Dt := runF 8 F_f_law_draws

/- def _law_is_integer(value): slots 0:value -/
noncomputable def F_f_law_is_integer : FnS := (sRet (fAndV (fIsi "int" (fV 0)) (fOfB (fNot (fB (fIsi "bool" (fV 0)))))))
noncomputable def R_f_law_is_integer : List Dt → Option Dt := runF 1 F_f_law_is_integer

/- def _law_is(value, due): slots 0:value 1:due 2:at -/
noncomputable def F_f_law_is (r : List Dt → Option Dt) : FnS := (sSeq (sIf (fCmp gIsN (fV 1) (fC .non)) (sRet (fOfB (fCmp gIsN (fV 0) (fC .non)))) sNil)
  (sSeq (sIf (fTru (fIsi "bool" (fV 1))) (sRet (fAndV (fIsi "bool" (fV 0)) (fOfB (fCmp gEq (fV 0) (fV 1))))) sNil)
  (sSeq (sIf (fTru (fIsi "int" (fV 1))) (sRet (fAndV (fFn 1 R_f_law_is_integer (fAc (fV 0) fA0)) (fOfB (fCmp gEq (fV 0) (fV 1))))) sNil)
  (sSeq (sIf (fTru (fIsi "str" (fV 1))) (sRet (fAndV (fIsi "str" (fV 0)) (fOfB (fCmp gEq (fV 0) (fV 1))))) sNil)
  (sSeq (sIf (fOr (fNot (fTru (fIsi "tuple" (fV 0)))) (fCmp gNe (fN gLen (fAc (fV 0) fA0)) (fN gLen (fAc (fV 1) fA0)))) (sRet (fC (.bl false))) sNil)
  (sRet (fN gAll (fAc (fLst (fComp (fNL gRng1 (fAc (fN gLen (fAc (fV 1) fA0)) fA0)) (hName 2) fYes (fFn 2 r (fAc (f2 gIx (fV 0) (fV 2)) (fAc (f2 gIx (fV 1) (fV 2)) fA0))) [2])) fA0))))))))
noncomputable def Rn_f_law_is : Nat → List Dt → Option Dt
  | 0 => fun _ => none
  | k + 1 => runF 3 (F_f_law_is (Rn_f_law_is k))
noncomputable def R_f_law_is : List Dt → Option Dt := Rn_f_law_is 6

/- def _law_bent(row, draws, most): slots 0:row 1:draws 2:most 3:way 4:at 5:odd -/
noncomputable def F_f_law_bent : FnS := (sSeq (sSet 3 (f2 (gI cMod Int.fmod) (fN gInt (fAc (f2 gIx (fV 1) (fC (.int 0))) fA0)) (fC (.int 6))))
  (sSeq (sSet 4 (f2 (gI cMod Int.fmod) (fN gInt (fAc (f2 gIx (fV 1) (fC (.int 1))) fA0)) (f2 gAdd (fN gLen (fAc (fV 0) fA0)) (fC (.int 1)))))
  (sSeq (sSet 5 (f2 gIx (fTup (fAc (f2 gMinus (f2 (gI cMod Int.fmod) (fN gInt (fAc (f2 gIx (fV 1) (fC (.int 2))) fA0)) (f2 gAdd (fV 2) (fC (.int 3)))) (fC (.int 1))) (fAc (f2 (gI cPow fun i j => i ^ j.toNat) (fC (.int 10)) (fC (.int 20))) (fAc (f2 gMinus (fC (.int 0)) (fC (.int 1))) fA0)))) (f2 (gI cDiv Int.fdiv) (f2 (gI cMod Int.fmod) (f2 (gI cDiv Int.fdiv) (fN gInt (fAc (f2 gIx (fV 1) (fC (.int 2))) fA0)) (fC (.int 60))) (fC (.int 14))) (fC (.int 6)))))
  (sSeq (sIf (fCmp gEq (fV 3) (fC (.int 0))) (sRet (f2 gAdd (fSl (fV 0) fNoP (fPart (fV 4))) (fSl (fV 0) (fPart (f2 gAdd (fV 4) (fC (.int 1)))) fNoP))) sNil)
  (sSeq (sIf (fCmp gEq (fV 3) (fC (.int 1))) (sRet (f2 gAdd (f2 gAdd (fSl (fV 0) fNoP (fPart (fV 4))) (fTup (fAc (fV 5) fA0))) (fSl (fV 0) (fPart (fV 4)) fNoP))) sNil)
  (sSeq (sIf (fCmp (gII bLt) (fV 3) (fC (.int 4))) (sRet (f2 gAdd (f2 gAdd (fSl (fV 0) fNoP (fPart (fV 4))) (fTup (fAc (fV 5) fA0))) (fSl (fV 0) (fPart (f2 gAdd (fV 4) (fC (.int 1)))) fNoP))) sNil)
  (sRet (fIf (fCmp gEq (fV 3) (fC (.int 4))) (fSlr (fV 0) fNoP fNoP) (f2 gAdd (fSl (fV 0) fNoP (fPart (fV 4))) (fSl (fV 0) (fPart (fN gMax2 (fAc (fC (.int 0)) (fAc (f2 gMinus (fV 4) (fC (.int 1))) fA0)))) fNoP))))))))))
noncomputable def R_f_law_bent : List Dt → Option Dt := runF 6 F_f_law_bent

/- def _law_cut(x, y, amount): slots 0:x 1:y 2:amount 3:p -/
noncomputable def F_f_law_cut : FnS := (sSeq (sFor (fNL gRng1 (fAc (f2 gAdd (f2 (gI cDiv Int.fdiv) (fN gMax2 (fAc (fC (.int 0)) (fAc (fV 2) fA0))) (fV 0)) (fC (.int 1))) fA0)) (hName 3) [true, true, true, false]
   (sIf (fAnd (fCmp (gII bGe) (fV 2) (fC (.int 0))) (fCmp gEq (f2 (gI cMod Int.fmod) (f2 gMinus (fV 2) (f2 gMul (fV 3) (fV 0))) (fV 1)) (fC (.int 0)))) (sRet (fTup (fAc (fV 3) (fAc (f2 (gI cDiv Int.fdiv) (f2 gMinus (fV 2) (f2 gMul (fV 3) (fV 0))) (fV 1)) fA0)))) sNil))
  (sRet (fC .non)))
noncomputable def R_f_law_cut : List Dt → Option Dt := runF 4 F_f_law_cut

/- def _law_divisor(x, y): slots 0:x 1:y 2:d -/
noncomputable def F_f_law_divisor : FnS := (sRet (fN gMaxL (fAc (fLst (fComp (fNL gRng2 (fAc (fC (.int 1)) (fAc (f2 gAdd (fN gMin2 (fAc (fV 0) (fAc (fV 1) fA0))) (fC (.int 1))) fA0))) (hName 2) (fAnd (fCmp gEq (f2 (gI cMod Int.fmod) (fV 0) (fV 2)) (fC (.int 0))) (fCmp gEq (f2 (gI cMod Int.fmod) (fV 1) (fV 2)) (fC (.int 0)))) (fV 2) [2])) fA0)))
noncomputable def R_f_law_divisor : List Dt → Option Dt := runF 3 F_f_law_divisor

/- def _law_amount(x, y, g, amount, draws): slots 0:x 1:y 2:g 3:amount 4:draws 5:due 6:mirror 7:base 8:turn 9:asked 10:fine -/
noncomputable def F_f_law_amount : FnS := (sSeq (sSet 5 (fFn 3 R_f_law_cut (fAc (fV 0) (fAc (fV 1) (fAc (fV 3) fA0)))))
  (sSeq (sSet 6 (f2 gMinus (f2 gMinus (f2 gMinus (f2 (gI cDiv Int.fdiv) (f2 gMul (fV 0) (fV 1)) (fV 2)) (fV 0)) (fV 1)) (fV 3)))
  (sSeq (sIf (fOr (fNot (fTru (fFn 2 R_f_law_is (fAc (fFn 3 R_told_cut (fAc (fV 0) (fAc (fV 1) (fAc (fV 3) fA0)))) (fAc (fV 5) fA0))))) (fNot (fTru (fFn 2 R_f_law_is (fAc (fFn 3 R_cut_mirror (fAc (fV 0) (fAc (fV 1) (fAc (fV 3) fA0)))) (fAc (fV 6) fA0)))))) (sRet (fC (.bl false))) sNil)
  (sSeq (sIf (fAnd (fCmp gNe (f2 (gI cMod Int.fmod) (fV 3) (fV 2)) (fC (.int 0))) (fCmp gNotN (fV 5) (fC .non))) (sRet (fC (.bl false))) sNil)
  (sSeq (sIf (fAnd (fCmp gEq (f2 (gI cMod Int.fmod) (fV 3) (fV 2)) (fC (.int 0))) (fCmp gNe (fOfB (fCmp gIsN (fV 5) (fC .non))) (fOfB (fCmp gNotN (fFn 3 R_f_law_cut (fAc (fV 0) (fAc (fV 1) (fAc (fV 6) fA0)))) (fC .non))))) (sRet (fC (.bl false))) sNil)
  (sSeq (sIf (fNot (fTru (fFn 2 R_f_law_is (fAc (fFn 3 R_told_cut (fAc (fV 0) (fAc (fV 1) (fAc (fV 6) fA0)))) (fAc (fFn 3 R_f_law_cut (fAc (fV 0) (fAc (fV 1) (fAc (fV 6) fA0)))) fA0))))) (sRet (fC (.bl false))) sNil)
  (sSeq (sSet 7 (fIf (fCmp gNotN (fV 5) (fC .non)) (fV 5) (fTup (fAc (fC (.int 0)) (fAc (f2 (gI cDiv Int.fdiv) (fV 3) (fV 1)) fA0)))))
  (sSeq (sFor (fNL gRng1 (fAc (fC (.int 5)) fA0)) (hName 8) [true, true, true, true, true, false, false, true, false, false, false]
   (sSeq (sSet 9 (fIf (fCmp gEq (fV 8) (fC (.int 0))) (fV 7) (fFn 3 R_f_law_bent (fAc (fV 7) (fAc (fSl (fV 4) (fPart (fV 8)) (fPart (f2 gAdd (fC (.int 3)) (fV 8)))) (fAc (fC (.int 9)) fA0))))))
  (sSeq (sIf (fCmp gEq (fV 8) (fC (.int 1))) (sSet 9 (fTup (fAc (f2 gAdd (f2 gIx (fV 7) (fC (.int 0))) (f2 (gI cDiv Int.fdiv) (fV 1) (fV 2))) (fAc (f2 gMinus (f2 gIx (fV 7) (fC (.int 1))) (f2 (gI cDiv Int.fdiv) (fV 0) (fV 2))) fA0)))) sNil)
  (sSeq (sSet 10 (fOfB (fCmp gEq (fN gLen (fAc (fV 9) fA0)) (fC (.int 2)))))
  (sSeq (sIf (fTru (fV 10)) (sSet 10 (fAndV (fOfB (fCmp (gII bGe) (fN gMinD (fAc (fV 9) fA0)) (fC (.int 0)))) (fOfB (fCmp gEq (f2 gAdd (f2 gMul (f2 gIx (fV 9) (fC (.int 0))) (fV 0)) (f2 gMul (f2 gIx (fV 9) (fC (.int 1))) (fV 1))) (fV 3))))) sNil)
  (sIf (fNot (fTru (fFn 2 R_f_law_is (fAc (fFn 4 R_is_cut (fAc (fV 0) (fAc (fV 1) (fAc (fV 3) (fAc (fV 9) fA0))))) (fAc (fV 10) fA0))))) (sRet (fC (.bl false))) sNil))))))
  (sRet (fC (.bl true)))))))))))
noncomputable def R_f_law_amount : List Dt → Option Dt := runF 11 F_f_law_amount

/- def law(script): slots 0:script 1:k 2:draws 3:share 4:x 5:y 6:g 7:most 8:amount 9:bare 10:at 11:more 12:amounts 13:doughs 14:low 15:high 16:dough 17:w 18:due -/
noncomputable def F_law : FnS := (sSeq (sFor (fNL gRng1 (fAc (fC (.int 2)) fA0)) (hName 1) [true, false, false, false, false, false, false, false, false, false, false, false, false, false, false, false, false, false, false]
   (sSeq (sSet 2 (fFn 2 R_f_law_draws (fAc (fFn 2 R_f_law_cell (fAc (fV 0) (fAc (fV 1) fA0))) (fAc (fC (.int 22)) fA0))))
  (sSeq (sSet 3 (fIf (fCmp gEq (fV 1) (fC (.int 0))) (fC (.int 1)) (f2 gAdd (fC (.int 2)) (f2 (gI cMod Int.fmod) (fN gInt (fAc (f2 gIx (fV 2) (fC (.int 0))) fA0)) (fC (.int 4))))))
  (sSeq (sSet 4 (f2 gMul (fV 3) (f2 gAdd (fC (.int 1)) (f2 (gI cMod Int.fmod) (fN gInt (fAc (f2 gIx (fV 2) (fC (.int 1))) fA0)) (f2 (gI cDiv Int.fdiv) (fC (.int 30)) (fV 3))))))
  (sSeq (sSet 5 (f2 gMul (fV 3) (f2 gAdd (fC (.int 1)) (f2 (gI cMod Int.fmod) (fN gInt (fAc (f2 gIx (fV 2) (fC (.int 2))) fA0)) (f2 (gI cDiv Int.fdiv) (fC (.int 30)) (fV 3))))))
  (sSeq (sSet 6 (fFn 2 R_f_law_divisor (fAc (fV 4) (fAc (fV 5) fA0))))
  (sSeq (sSet 7 (f2 gMinus (f2 gMinus (f2 (gI cDiv Int.fdiv) (f2 gMul (fV 4) (fV 5)) (fV 6)) (fV 4)) (fV 5)))
  (sSeq (sSet 9 (fLst (fComp (fNL gRng3 (fAc (fC (.int 0)) (fAc (f2 gAdd (fN gMax2 (fAc (fC (.int 0)) (fAc (fV 7) fA0))) (fC (.int 1))) (fAc (fV 6) fA0)))) (hName 8) (fCmp gIsN (fFn 3 R_f_law_cut (fAc (fV 4) (fAc (fV 5) (fAc (fV 8) fA0)))) (fC .non)) (fV 8) [8])))
  (sSeq (sIf (fOr (fNot (fTru (fFn 2 R_f_law_is (fAc (fFn 2 R_most_uncut (fAc (fV 4) (fAc (fV 5) fA0))) (fAc (fV 7) fA0))))) (fNot (fTru (fFn 2 R_f_law_is (fAc (fFn 2 R_count_uncut (fAc (fV 4) (fAc (fV 5) fA0))) (fAc (fN gLen (fAc (fV 9) fA0)) fA0)))))) (sRet (fC (.bl false))) sNil)
  (sSeq (sIf (fCmp gNotN (fFn 3 R_f_law_cut (fAc (fV 4) (fAc (fV 5) (fAc (fV 7) fA0)))) (fC .non)) (sRet (fC (.bl false))) sNil)
  (sSeq (sIf (fNot (fTru (fN gAll (fAc (fLst (fComp (fNL gRng1 (fAc (fV 4) fA0)) (hName 10) fYes (fOfB (fCmp gNotN (fFn 3 R_f_law_cut (fAc (fV 4) (fAc (fV 5) (fAc (f2 gAdd (fV 7) (f2 gMul (fV 6) (f2 gAdd (fC (.int 1)) (fV 10)))) fA0)))) (fC .non))) [10])) fA0)))) (sRet (fC (.bl false))) sNil)
  (sSeq (sSet 11 (fFn 2 R_f_law_draws (fAc (fFn 2 R_f_law_cell (fAc (fV 0) (fAc (f2 gAdd (fC (.int 2)) (fV 1)) fA0))) (fAc (fC (.int 14)) fA0))))
  (sSeq (sSet 12 (fLst (fLstL (fAc (fV 7) (fAc (f2 gAdd (fV 7) (fV 6)) (fAc (fC (.int 0)) (fAc (f2 gMinus (fC (.int 0)) (f2 (gI cMod Int.fmod) (fN gInt (fAc (f2 gIx (fV 11) (fC (.int 0))) fA0)) (fC (.int 2000)))) (fAc (f2 (gI cMod Int.fmod) (fN gInt (fAc (f2 gIx (fV 11) (fC (.int 1))) fA0)) (fC (.int 2001))) (fAc (f2 gMul (fV 6) (f2 (gI cMod Int.fmod) (fN gInt (fAc (f2 gIx (fV 11) (fC (.int 2))) fA0)) (fC (.int 60)))) fA0)))))))))
  (sSeq (sFor (f1L gItems (f2 gAdd (fV 12) (fLst (fLstL (fAc (f2 (gI cMod Int.fmod) (fN gInt (fAc (f2 gIx (fV 11) (fC (.int 3))) fA0)) (fC (.int 60))) (fAc (f2 gMul (f2 (gI cDiv Int.fdiv) (f2 (gI cDiv Int.fdiv) (fN gMax2 (fAc (fC (.int 0)) (fAc (fV 7) fA0))) (fC (.int 2))) (fV 6)) (fV 6)) (fAc (f2 gMul (f2 (gI cDiv Int.fdiv) (f2 (gI cDiv Int.fdiv) (fN gMax2 (fAc (fC (.int 0)) (fAc (fV 7) fA0))) (fC (.int 3))) (fV 6)) (fV 6)) fA0))))))) (hName 8) [true, true, true, true, true, true, true, false, false, false, false, true, false, false, false, false, false, false, false]
   (sIf (fNot (fTru (fFn 5 R_f_law_amount (fAc (fV 4) (fAc (fV 5) (fAc (fV 6) (fAc (fV 8) (fAc (fSl (fV 11) (fPart (fC (.int 4))) (fPart (fC (.int 12)))) fA0)))))))) (sRet (fC (.bl false))) sNil))
  (sSeq (sSet 13 (fN gTuple (fAc (fLst (fComp (fNL gRng1 (fAc (f2 (gI cMod Int.fmod) (fN gInt (fAc (f2 gIx (fV 2) (fC (.int 3))) fA0)) (fC (.int 7))) fA0)) (hName 10) fYes (f2 (gI cMod Int.fmod) (fN gInt (fAc (f2 gIx (fV 2) (f2 gAdd (fC (.int 4)) (fV 10))) fA0)) (fC (.int 201))) [10])) fA0)))
  (sSeq (sSet 14 (f2 gAdd (fC (.int 1)) (f2 (gI cMod Int.fmod) (fN gInt (fAc (f2 gIx (fV 2) (fC (.int 11))) fA0)) (fC (.int 40)))))
  (sSeq (sSet 15 (f2 gAdd (fV 14) (f2 (gI cMod Int.fmod) (fN gInt (fAc (f2 gIx (fV 2) (fC (.int 12))) fA0)) (f2 gMinus (fC (.int 41)) (fV 14)))))
  (sSeq (sIf (fCmp gEq (fV 1) (fC (.int 1))) (sSeq (sSet 13 (fN gTuple (fAc (fLst (fComp (f1L gItems (fV 13)) (hName 16) fYes (f2 gMul (fV 3) (f2 (gI cDiv Int.fdiv) (fV 16) (fV 3))) [16])) fA0)))
  (sSeq (sSet 14 (f2 gAdd (fC (.int 1)) (f2 (gI cMod Int.fmod) (fN gInt (fAc (f2 gIx (fV 2) (fC (.int 11))) fA0)) (fV 3))))
  (sSet 15 (fN gMax2 (fAc (fV 15) (fAc (fV 3) fA0)))))) sNil)
  (sSeq (sSet 18 (fN gMinD (fAc (fLst (fComp (fNL gRng2 (fAc (fV 14) (fAc (f2 gAdd (fV 15) (fC (.int 1))) fA0))) (hName 17) fYes (fTup (fAc (fN gSum (fAc (fLst (fComp (f1L gItems (fV 13)) (hName 16) fYes (f2 (gI cMod Int.fmod) (fV 16) (fV 17)) [16])) fA0)) (fAc (fV 17) fA0))) [17])) fA0)))
  (sIf (fNot (fTru (fFn 2 R_f_law_is (fAc (fFn 3 R_told_portion (fAc (fV 13) (fAc (fV 14) (fAc (fV 15) fA0)))) (fAc (fV 18) fA0))))) (sRet (fC (.bl false))) sNil))))))))))))))))))))
  (sRet (fC (.bl true))))
noncomputable def R_law : List Dt → Option Dt := runF 19 F_law

end LK
end

section
set_option Elab.async false
set_option maxRecDepth 100000
set_option maxHeartbeats 4000000
/-! the derivations, printed by gen.py -/
namespace LK
open PySem PySem.Spec PyProof.Rows L2 EL
def topS (i : Nat) : Stmt := PySem.Challenge.pw_breadward_k44_whole_portions_and_mirrors.main.body.getD i (.Pass ⟨0, 0, 0, 0⟩)
abbrev s_is_cut : Stmt := topS 2
theorem sc_is_cut : FnScope ["x", "y", "amount", "pair"] ["x", "y", "amount", "pair"] (defScope s_is_cut) := ⟨rfl, rfl, rfl, by decide +kernel, rfl, by decide +kernel, by decide +kernel⟩
abbrev s_told_cut : Stmt := topS 3
theorem sc_told_cut : FnScope ["x", "y", "amount", "p", "left"] ["x", "y", "amount"] (defScope s_told_cut) := ⟨rfl, rfl, rfl, by decide +kernel, rfl, by decide +kernel, by decide +kernel⟩
abbrev s_cut_mirror : Stmt := topS 4
theorem sc_cut_mirror : FnScope ["x", "y", "amount"] ["x", "y", "amount"] (defScope s_cut_mirror) := ⟨rfl, rfl, rfl, by decide +kernel, rfl, by decide +kernel, by decide +kernel⟩
abbrev s_most_uncut : Stmt := topS 5
theorem sc_most_uncut : FnScope ["x", "y"] ["x", "y"] (defScope s_most_uncut) := ⟨rfl, rfl, rfl, by decide +kernel, rfl, by decide +kernel, by decide +kernel⟩
abbrev s_count_uncut : Stmt := topS 6
theorem sc_count_uncut : FnScope ["x", "y", "g"] ["x", "y"] (defScope s_count_uncut) := ⟨rfl, rfl, rfl, by decide +kernel, rfl, by decide +kernel, by decide +kernel⟩
abbrev s_told_portion : Stmt := topS 7
theorem sc_told_portion : FnScope ["doughs", "low", "high", "w", "dough"] ["doughs", "low", "high"] (defScope s_told_portion) := ⟨rfl, rfl, rfl, by decide +kernel, rfl, by decide +kernel, by decide +kernel⟩
abbrev s_f_law_cell : Stmt := topS 9
theorem sc_f_law_cell : FnScope ["script", "k"] ["script", "k"] (defScope s_f_law_cell) := ⟨rfl, rfl, rfl, by decide +kernel, rfl, by decide +kernel, by decide +kernel⟩
abbrev s_f_law_draws : Stmt := topS 10
theorem sc_f_law_draws : FnScope ["cell", "count", "rest", "digits", "seed", "draws", "k", "mixed"] ["cell", "count"] (defScope s_f_law_draws) := ⟨rfl, rfl, rfl, by decide +kernel, rfl, by decide +kernel, by decide +kernel⟩
abbrev s_f_law_is_integer : Stmt := topS 11
theorem sc_f_law_is_integer : FnScope ["value"] ["value"] (defScope s_f_law_is_integer) := ⟨rfl, rfl, rfl, by decide +kernel, rfl, by decide +kernel, by decide +kernel⟩
abbrev s_f_law_is : Stmt := topS 12
theorem sc_f_law_is : FnScope ["value", "due", "at"] ["value", "due"] (defScope s_f_law_is) := ⟨rfl, rfl, rfl, by decide +kernel, rfl, by decide +kernel, by decide +kernel⟩
abbrev s_f_law_bent : Stmt := topS 13
theorem sc_f_law_bent : FnScope ["row", "draws", "most", "way", "at", "odd"] ["row", "draws", "most"] (defScope s_f_law_bent) := ⟨rfl, rfl, rfl, by decide +kernel, rfl, by decide +kernel, by decide +kernel⟩
abbrev s_f_law_cut : Stmt := topS 14
theorem sc_f_law_cut : FnScope ["x", "y", "amount", "p"] ["x", "y", "amount"] (defScope s_f_law_cut) := ⟨rfl, rfl, rfl, by decide +kernel, rfl, by decide +kernel, by decide +kernel⟩
abbrev s_f_law_divisor : Stmt := topS 15
theorem sc_f_law_divisor : FnScope ["x", "y", "d"] ["x", "y"] (defScope s_f_law_divisor) := ⟨rfl, rfl, rfl, by decide +kernel, rfl, by decide +kernel, by decide +kernel⟩
abbrev s_f_law_amount : Stmt := topS 16
theorem sc_f_law_amount : FnScope ["x", "y", "g", "amount", "draws", "due", "mirror", "base", "turn", "asked", "fine"] ["x", "y", "g", "amount", "draws"] (defScope s_f_law_amount) := ⟨rfl, rfl, rfl, by decide +kernel, rfl, by decide +kernel, by decide +kernel⟩
abbrev s_law : Stmt := topS 17
theorem sc_law : FnScope ["script", "k", "draws", "share", "x", "y", "g", "most", "amount", "bare", "at", "more", "amounts", "doughs", "low", "high", "dough", "w", "due"] ["script"] (defScope s_law) := ⟨rfl, rfl, rfl, by decide +kernel, rfl, by decide +kernel, by decide +kernel⟩
/-- what the top leaves -/
structure Top (K : PySem.W.Frag) (mg : Str → Option Value) where
  f_is_cut : Addr
  d_is_cut : FuncData
  F_is_cut : Fun K "is_cut" "is_cut" s_is_cut f_is_cut d_is_cut
  b_is_cut : Binds K d_is_cut ["x", "y", "amount", "pair"] []
  g_is_cut : mg "is_cut" = some (.ref f_is_cut)
  f_told_cut : Addr
  d_told_cut : FuncData
  F_told_cut : Fun K "told_cut" "told_cut" s_told_cut f_told_cut d_told_cut
  b_told_cut : Binds K d_told_cut ["x", "y", "amount"] []
  g_told_cut : mg "told_cut" = some (.ref f_told_cut)
  f_cut_mirror : Addr
  d_cut_mirror : FuncData
  F_cut_mirror : Fun K "cut_mirror" "cut_mirror" s_cut_mirror f_cut_mirror d_cut_mirror
  b_cut_mirror : Binds K d_cut_mirror ["x", "y", "amount"] []
  g_cut_mirror : mg "cut_mirror" = some (.ref f_cut_mirror)
  f_most_uncut : Addr
  d_most_uncut : FuncData
  F_most_uncut : Fun K "most_uncut" "most_uncut" s_most_uncut f_most_uncut d_most_uncut
  b_most_uncut : Binds K d_most_uncut ["x", "y"] []
  g_most_uncut : mg "most_uncut" = some (.ref f_most_uncut)
  f_count_uncut : Addr
  d_count_uncut : FuncData
  F_count_uncut : Fun K "count_uncut" "count_uncut" s_count_uncut f_count_uncut d_count_uncut
  b_count_uncut : Binds K d_count_uncut ["x", "y"] []
  g_count_uncut : mg "count_uncut" = some (.ref f_count_uncut)
  f_told_portion : Addr
  d_told_portion : FuncData
  F_told_portion : Fun K "told_portion" "told_portion" s_told_portion f_told_portion d_told_portion
  b_told_portion : Binds K d_told_portion ["doughs", "low", "high"] []
  g_told_portion : mg "told_portion" = some (.ref f_told_portion)
  f_f_law_cell : Addr
  d_f_law_cell : FuncData
  F_f_law_cell : Fun K "_law_cell" "_law_cell" s_f_law_cell f_f_law_cell d_f_law_cell
  b_f_law_cell : Binds K d_f_law_cell ["script", "k"] []
  g_f_law_cell : mg "_law_cell" = some (.ref f_f_law_cell)
  f_f_law_draws : Addr
  d_f_law_draws : FuncData
  F_f_law_draws : Fun K "_law_draws" "_law_draws" s_f_law_draws f_f_law_draws d_f_law_draws
  b_f_law_draws : Binds K d_f_law_draws ["cell", "count"] []
  g_f_law_draws : mg "_law_draws" = some (.ref f_f_law_draws)
  f_f_law_is_integer : Addr
  d_f_law_is_integer : FuncData
  F_f_law_is_integer : Fun K "_law_is_integer" "_law_is_integer" s_f_law_is_integer f_f_law_is_integer d_f_law_is_integer
  b_f_law_is_integer : Binds K d_f_law_is_integer ["value"] []
  g_f_law_is_integer : mg "_law_is_integer" = some (.ref f_f_law_is_integer)
  f_f_law_is : Addr
  d_f_law_is : FuncData
  F_f_law_is : Fun K "_law_is" "_law_is" s_f_law_is f_f_law_is d_f_law_is
  b_f_law_is : Binds K d_f_law_is ["value", "due"] []
  g_f_law_is : mg "_law_is" = some (.ref f_f_law_is)
  f_f_law_bent : Addr
  d_f_law_bent : FuncData
  F_f_law_bent : Fun K "_law_bent" "_law_bent" s_f_law_bent f_f_law_bent d_f_law_bent
  b_f_law_bent : Binds K d_f_law_bent ["row", "draws", "most"] []
  g_f_law_bent : mg "_law_bent" = some (.ref f_f_law_bent)
  f_f_law_cut : Addr
  d_f_law_cut : FuncData
  F_f_law_cut : Fun K "_law_cut" "_law_cut" s_f_law_cut f_f_law_cut d_f_law_cut
  b_f_law_cut : Binds K d_f_law_cut ["x", "y", "amount"] []
  g_f_law_cut : mg "_law_cut" = some (.ref f_f_law_cut)
  f_f_law_divisor : Addr
  d_f_law_divisor : FuncData
  F_f_law_divisor : Fun K "_law_divisor" "_law_divisor" s_f_law_divisor f_f_law_divisor d_f_law_divisor
  b_f_law_divisor : Binds K d_f_law_divisor ["x", "y"] []
  g_f_law_divisor : mg "_law_divisor" = some (.ref f_f_law_divisor)
  f_f_law_amount : Addr
  d_f_law_amount : FuncData
  F_f_law_amount : Fun K "_law_amount" "_law_amount" s_f_law_amount f_f_law_amount d_f_law_amount
  b_f_law_amount : Binds K d_f_law_amount ["x", "y", "g", "amount", "draws"] []
  g_f_law_amount : mg "_law_amount" = some (.ref f_f_law_amount)
  f_law : Addr
  d_law : FuncData
  F_law : Fun K "law" "law" s_law f_law d_law
  b_law : Binds K d_law ["script"] []
  g_law : mg "law" = some (.ref f_law)
  m_abs : mg "abs" = none
  m_all : mg "all" = none
  m_bool : mg "bool" = none
  m_int : mg "int" = none
  m_isinstance : mg "isinstance" = none
  m_len : mg "len" = none
  m_max : mg "max" = none
  m_min : mg "min" = none
  m_range : mg "range" = none
  m_str : mg "str" = none
  m_sum : mg "sum" = none
  m_tuple : mg "tuple" = none
  m_gcd : mg "gcd" = some (.builtin "math.gcd")
section
variable {P : Program} {w : World} {K : PySem.W.Frag} {mg : Str → Option Value} {base : Heap}
theorem ok_is_cut (Z : Top K mg) : FnOk P w K mg base CX0 1 Z.f_is_cut Z.d_is_cut ["x", "y", "amount", "pair"] (spOf [] K 4 R_is_cut) := by
  refine ok_def (T := []) Z.F_is_cut sc_is_cut (fun cdv A outer s H E hr => ?_)
  exact ⟨_, _, (dss_cons (ds_if (DW.dt (dw_or (dt_cmp (cNe rfl hr.units) (de_callB (kLen rfl) Z.m_len (by decide +kernel) (da_cons (de_var 3) da_nil)) de_int) (dw_or1 (dt_cmp cLt (de_callB (kMinD rfl rfl hr.units) Z.m_min (by decide +kernel) (da_cons (de_var 3) da_nil)) de_int)))) (dss_one (ds_ret de_bl)) dss_nil)
    (dss_one (ds_ret (de_cmp (cEq rfl hr.units) (de_op (oAdd rfl) (de_op oMul (de_ix (de_var 3) de_int) (de_var 0)) (de_op oMul (de_ix (de_var 3) de_int) (de_var 1))) (de_var 2)))))⟩
theorem ok_told_cut (Z : Top K mg) : FnOk P w K mg base CX0 1 Z.f_told_cut Z.d_told_cut ["x", "y", "amount"] (spOf [] K 3 R_told_cut) := by
  refine ok_def (T := []) Z.F_told_cut sc_told_cut (fun cdv A outer s H E hr => ?_)
  exact ⟨_, _, (dss_cons (ds_for [true, true, true, false, false] PassesOwn.never rfl (di_range1 (da_cons (de_var 1) da_nil) Z.m_range) (dg_name 3 sc_told_cut.nd)
   (dss_cons (ds_set (i := 4) sc_told_cut.nd (de_op oSub (de_var 2) (de_op oMul (de_var 3) (de_var 0))))
    (dss_one (ds_if (DW.dt (dw_and (dt_cmp cGe (de_var 4) de_int) (dw_and1 (dt_cmp (cEq rfl hr.units) (de_op oMod (de_var 4) (de_var 1)) de_int)))) (dss_one (ds_ret (de_tup (da_cons (de_var 3) (da_cons (de_op oDiv (de_var 4) (de_var 1)) da_nil))))) dss_nil))))
    (dss_one (ds_ret de_non)))⟩
theorem ok_cut_mirror (Z : Top K mg) : FnOk P w K mg base CX0 1 Z.f_cut_mirror Z.d_cut_mirror ["x", "y", "amount"] (spOf [] K 3 R_cut_mirror) := by
  refine ok_def (T := []) Z.F_cut_mirror sc_cut_mirror (fun cdv A outer s H E hr => ?_)
  exact ⟨_, _, (dss_one (ds_ret (de_op oSub (de_op oSub (de_op oSub (de_op oDiv (de_op oMul (de_var 0) (de_var 1)) (DE.flat (de_callM kGcd Z.m_gcd (da_cons (de_var 0) (da_cons (de_var 1) da_nil))) (fl_N fl_gcd))) (de_var 0)) (de_var 1)) (de_var 2))))⟩
theorem ok_most_uncut (Z : Top K mg) : FnOk P w K mg base CX0 2 Z.f_most_uncut Z.d_most_uncut ["x", "y"] (spOf [] K 2 R_most_uncut) := by
  have O_cut_mirror := ok_cut_mirror (P := P) (w := w) (base := base) Z
  refine ok_def (T := []) Z.F_most_uncut sc_most_uncut (fun cdv A outer s H E hr => ?_)
  exact ⟨_, _, (dss_one (ds_ret (de_call O_cut_mirror (hr.mono (by omega)) Z.g_cut_mirror Z.F_cut_mirror.kp Z.b_cut_mirror (da_cons (de_var 0) (da_cons (de_var 1) (da_cons de_int da_nil))))))⟩
theorem ok_count_uncut (Z : Top K mg) : FnOk P w K mg base CX0 1 Z.f_count_uncut Z.d_count_uncut ["x", "y"] (spOf [] K 2 R_count_uncut) := by
  refine ok_def (T := []) Z.F_count_uncut sc_count_uncut (fun cdv A outer s H E hr => ?_)
  exact ⟨_, _, (dss_cons (ds_set (i := 2) sc_count_uncut.nd (DE.flat (de_callM kGcd Z.m_gcd (da_cons (de_var 0) (da_cons (de_var 1) da_nil))) (fl_N fl_gcd)))
    (dss_one (ds_ret (de_op oDiv (de_op oMul (de_op oSub (de_op oDiv (de_var 0) (de_var 2)) de_int) (de_op oSub (de_op oDiv (de_var 1) (de_var 2)) de_int)) de_int))))⟩
theorem ok_told_portion (Z : Top K mg) : FnOk P w K mg base CX0 1 Z.f_told_portion Z.d_told_portion ["doughs", "low", "high"] (spOf [] K 3 R_told_portion) := by
  refine ok_def (T := []) Z.F_told_portion sc_told_portion (fun cdv A outer s H E hr => ?_)
  exact ⟨_, _, (dss_one (ds_ret (de_callB (kMinD rfl rfl hr.units) Z.m_min (by decide +kernel) (da_cons (DF.de (df_lc (own := [("w", 3)]) rfl sc_told_portion.nd (di_range2 (da_cons (de_var 1) (da_cons (de_op (oAdd rfl) (de_var 2) de_int) da_nil)) Z.m_range) (by kernel_rfl) (fun _ _ _ _ _ => (dg_name 3 sc_told_portion.nd)) (fun _ _ _ _ _ => dts_nil) (fun _ _ _ _ _ => (de_tup (da_cons (DE.flat (de_callB (kSum rfl rfl) Z.m_sum (by decide +kernel) (da_cons (DF.de (df_lc (own := [("dough", 4)]) rfl sc_told_portion.nd (di_seq (de_var 0)) (by kernel_rfl) (fun _ _ _ _ _ => (dg_name 4 sc_told_portion.nd)) (fun _ _ _ _ _ => dts_nil) (fun _ _ _ _ _ => (de_op oMod (de_var 4) (de_var 3))))) da_nil)) (fl_N fl_sum)) (da_cons (de_var 3) da_nil)))))) da_nil))))⟩
theorem ok_f_law_cell (Z : Top K mg) : FnOk P w K mg base CX0 1 Z.f_f_law_cell Z.d_f_law_cell ["script", "k"] (spOf [] K 2 R_f_law_cell) := by
  refine ok_def (T := []) Z.F_f_law_cell sc_f_law_cell (fun cdv A outer s H E hr => ?_)
  exact ⟨_, _, (dss_cons (ds_if (dt_cmp cLt (de_var 1) (de_callB (kLen rfl) Z.m_len (by decide +kernel) (da_cons (de_var 0) da_nil))) (dss_one (ds_ret (de_ix (de_var 0) (de_var 1)))) dss_nil)
    (dss_one (ds_ret (de_op (oAdd rfl) (de_op oMul de_int (de_var 1)) de_int))))⟩
theorem ok_f_law_draws (Z : Top K mg) : FnOk P w K mg base CX0 1 Z.f_f_law_draws Z.d_f_law_draws ["cell", "count"] (spOf [] K 2 R_f_law_draws) := by
  refine ok_def (T := []) Z.F_f_law_draws sc_f_law_draws (fun cdv A outer s H E hr => ?_)
  exact ⟨_, _, (dss_cons (ds_set (i := 2) sc_f_law_draws.nd (DE.flat (de_callB kAbs Z.m_abs (by decide +kernel) (da_cons (de_callT kInt Z.m_int (by decide +kernel) (da_cons (de_var 0) da_nil)) da_nil)) (fl_N fl_abs)))
    (dss_cons (ds_set (i := 3) sc_f_law_draws.nd (de_cmp cGe (de_var 2) (de_op oPow de_int de_int)))
    (dss_cons (ds_set (i := 4) sc_f_law_draws.nd (de_var 2))
    (dss_cons (ds_setF (i := 5) sc_f_law_draws.nd (df_lst da_nil))
    (dss_cons (ds_for [false, false, true, true, true, true, false, false] PassesOwn.never rfl (di_range1 (da_cons (de_var 1) da_nil) Z.m_range) (dg_name 6 sc_f_law_draws.nd)
   (dss_one (ds_if (DW.dt (dw_and (dt_tru (de_var 3)) (dw_and1 (dt_cmp cGt (de_var 2) de_int)))) (dss_cons (ds_meth (i := 5) PySem.F.plainAttrs_list PySem.F.slot_list_append PySem.F.type_list_append mt_append uAppend (da_cons (de_op oMod (DE.flat (de_callT kInt Z.m_int (by decide +kernel) (da_cons (de_var 2) da_nil)) (fl_N fl_int)) de_int) da_nil))
    (dss_one (ds_set (i := 2) sc_f_law_draws.nd (de_op oDiv (de_var 2) de_int)))) (dss_cons (ds_set (i := 7) sc_f_law_draws.nd (de_op oMod (DE.flat (de_callT kInt Z.m_int (by decide +kernel) (da_cons (de_op (oAdd rfl) (de_op (oAdd rfl) (de_op oMul (de_var 4) de_int) (de_op oMul (de_op (oAdd rfl) (de_var 6) de_int) de_int)) de_int) da_nil)) (fl_N fl_int)) de_int))
    (dss_cons (ds_set (i := 7) sc_f_law_draws.nd (de_op oMod (DE.flat (de_callT kInt Z.m_int (by decide +kernel) (da_cons (de_op (oAdd rfl) (de_op oMul (de_var 7) (de_var 7)) (de_op oMul de_int (de_op (oAdd rfl) (de_var 6) de_int))) da_nil)) (fl_N fl_int)) de_int))
    (dss_one (ds_meth (i := 5) PySem.F.plainAttrs_list PySem.F.slot_list_append PySem.F.type_list_append mt_append uAppend (da_cons (de_op oMod (DE.flat (de_callT kInt Z.m_int (by decide +kernel) (da_cons (de_op oDiv (de_var 7) de_int) da_nil)) (fl_N fl_int)) de_int) da_nil))))))))
    (dss_one (DS.frz [5] (ds_ret (de_var 5)))))))))⟩
theorem ok_f_law_is_integer (Z : Top K mg) : FnOk P w K mg base CX0 1 Z.f_f_law_is_integer Z.d_f_law_is_integer ["value"] (spOf [] K 1 R_f_law_is_integer) := by
  refine ok_def (T := []) Z.F_f_law_is_integer sc_f_law_is_integer (fun cdv A outer s H E hr => ?_)
  exact ⟨_, _, (dss_one (ds_ret (de_and (de_isi (tys := "int") (de_var 0) Z.m_isinstance Z.m_int) (de_one (de_not (de_isi (tys := "bool") (de_var 0) Z.m_isinstance Z.m_bool))))))⟩
theorem ok_f_law_is (Z : Top K mg) : FnOk P w K mg base CX0 7 Z.f_f_law_is Z.d_f_law_is ["value", "due"] (spOf [] K 2 R_f_law_is) := by
  have O_f_law_is_integer := ok_f_law_is_integer (P := P) (w := w) (base := base) Z
  have step : ∀ k r, FnOk P w K mg base CX0 (1 + k) Z.f_f_law_is Z.d_f_law_is ["value", "due"] (spOf [] K 2 r) → FnOk P w K mg base CX0 (1 + k + 1) Z.f_f_law_is Z.d_f_law_is ["value", "due"] (spOf [] K 2 (runF 3 (F_f_law_is r))) := fun k r G => by
    refine ok_def (T := []) Z.F_f_law_is sc_f_law_is (fun cdv A outer s H E hrG => ?_)
    have hr := hrG
    exact ⟨_, _, (dss_cons (ds_if (dt_cmp cIsN (de_var 1) de_non) (dss_one (ds_ret (de_cmp cIsN (de_var 0) de_non))) dss_nil)
    (dss_cons (ds_if (dt_tru (de_isi (tys := "bool") (de_var 1) Z.m_isinstance Z.m_bool)) (dss_one (ds_ret (de_and (de_isi (tys := "bool") (de_var 0) Z.m_isinstance Z.m_bool) (de_one (de_cmp (cEq rfl hr.units) (de_var 0) (de_var 1)))))) dss_nil)
    (dss_cons (ds_if (dt_tru (de_isi (tys := "int") (de_var 1) Z.m_isinstance Z.m_int)) (dss_one (ds_ret (de_and (de_call O_f_law_is_integer (hr.mono (by omega)) Z.g_f_law_is_integer Z.F_f_law_is_integer.kp Z.b_f_law_is_integer (da_cons (de_var 0) da_nil)) (de_one (de_cmp (cEq rfl hr.units) (de_var 0) (de_var 1)))))) dss_nil)
    (dss_cons (ds_if (dt_tru (de_isi (tys := "str") (de_var 1) Z.m_isinstance Z.m_str)) (dss_one (ds_ret (de_and (de_isi (tys := "str") (de_var 0) Z.m_isinstance Z.m_str) (de_one (de_cmp (cEq rfl hr.units) (de_var 0) (de_var 1)))))) dss_nil)
    (dss_cons (ds_if (DW.dt (dw_or (dt_not (dt_tru (de_isi (tys := "tuple") (de_var 0) Z.m_isinstance Z.m_tuple))) (dw_or1 (dt_cmp (cNe rfl hr.units) (de_callB (kLen rfl) Z.m_len (by decide +kernel) (da_cons (de_var 0) da_nil)) (de_callB (kLen rfl) Z.m_len (by decide +kernel) (da_cons (de_var 1) da_nil)))))) (dss_one (ds_ret de_bl)) dss_nil)
    (dss_one (ds_ret (DE.flat (de_callB (kAll rfl rfl) Z.m_all (by decide +kernel) (da_cons (DF.de (df_lc (own := [("at", 2)]) rfl sc_f_law_is.nd (di_range1 (da_cons (de_callB (kLen rfl) Z.m_len (by decide +kernel) (da_cons (de_var 1) da_nil)) da_nil) Z.m_range) (by kernel_rfl) (fun _ _ _ _ _ => (dg_name 2 sc_f_law_is.nd)) (fun _ _ _ _ _ => dts_nil) (fun _ _ _ _ _ => (de_call G hrG Z.g_f_law_is Z.F_f_law_is.kp Z.b_f_law_is (da_cons (de_ix (de_var 0) (de_var 2)) (da_cons (de_ix (de_var 1) (de_var 2)) da_nil)))))) da_nil)) (fl_N fl_all)))))))))⟩
  have all : ∀ k, FnOk P w K mg base CX0 (1 + k) Z.f_f_law_is Z.d_f_law_is ["value", "due"] (spOf [] K 2 (Rn_f_law_is k)) := fun k => by
    induction k with
    | zero => exact ok_none
    | succ k ih => exact step k _ ih
  exact all 6
theorem ok_f_law_bent (Z : Top K mg) : FnOk P w K mg base CX0 1 Z.f_f_law_bent Z.d_f_law_bent ["row", "draws", "most"] (spOf [] K 3 R_f_law_bent) := by
  refine ok_def (T := []) Z.F_f_law_bent sc_f_law_bent (fun cdv A outer s H E hr => ?_)
  exact ⟨_, _, (dss_cons (ds_set (i := 3) sc_f_law_bent.nd (de_op oMod (DE.flat (de_callT kInt Z.m_int (by decide +kernel) (da_cons (de_ix (de_var 1) de_int) da_nil)) (fl_N fl_int)) de_int))
    (dss_cons (ds_set (i := 4) sc_f_law_bent.nd (de_op oMod (DE.flat (de_callT kInt Z.m_int (by decide +kernel) (da_cons (de_ix (de_var 1) de_int) da_nil)) (fl_N fl_int)) (de_op (oAdd rfl) (DE.flat (de_callB (kLen rfl) Z.m_len (by decide +kernel) (da_cons (de_var 0) da_nil)) (fl_N fl_len)) de_int)))
    (dss_cons (ds_set (i := 5) sc_f_law_bent.nd (de_ix (de_tup (da_cons (de_op oSub (de_op oMod (DE.flat (de_callT kInt Z.m_int (by decide +kernel) (da_cons (de_ix (de_var 1) de_int) da_nil)) (fl_N fl_int)) (de_op (oAdd rfl) (de_var 2) de_int)) de_int) (da_cons (de_op oPow de_int de_int) (da_cons (de_op oSub de_int de_int) da_nil)))) (de_op oDiv (de_op oMod (de_op oDiv (DE.flat (de_callT kInt Z.m_int (by decide +kernel) (da_cons (de_ix (de_var 1) de_int) da_nil)) (fl_N fl_int)) de_int) de_int) de_int)))
    (dss_cons (ds_if (dt_cmp (cEq rfl hr.units) (de_var 3) de_int) (dss_one (ds_ret (de_op (oAdd rfl) (de_slice (de_var 0) do_none (do_some (de_var 4))) (de_slice (de_var 0) (do_some (de_op (oAdd rfl) (de_var 4) de_int)) do_none)))) dss_nil)
    (dss_cons (ds_if (dt_cmp (cEq rfl hr.units) (de_var 3) de_int) (dss_one (ds_ret (de_op (oAdd rfl) (de_op (oAdd rfl) (de_slice (de_var 0) do_none (do_some (de_var 4))) (de_tup (da_cons (de_var 5) da_nil))) (de_slice (de_var 0) (do_some (de_var 4)) do_none)))) dss_nil)
    (dss_cons (ds_if (dt_cmp cLt (de_var 3) de_int) (dss_one (ds_ret (de_op (oAdd rfl) (de_op (oAdd rfl) (de_slice (de_var 0) do_none (do_some (de_var 4))) (de_tup (da_cons (de_var 5) da_nil))) (de_slice (de_var 0) (do_some (de_op (oAdd rfl) (de_var 4) de_int)) do_none)))) dss_nil)
    (dss_one (ds_ret (de_ifExp (dt_cmp (cEq rfl hr.units) (de_var 3) de_int) (de_slrev (de_var 0) do_none do_none) (de_op (oAdd rfl) (de_slice (de_var 0) do_none (do_some (de_var 4))) (de_slice (de_var 0) (do_some (de_callB (kMax2 rfl) Z.m_max (by decide +kernel) (da_cons de_int (da_cons (de_op oSub (de_var 4) de_int) da_nil)))) do_none)))))))))))⟩
theorem ok_f_law_cut (Z : Top K mg) : FnOk P w K mg base CX0 1 Z.f_f_law_cut Z.d_f_law_cut ["x", "y", "amount"] (spOf [] K 3 R_f_law_cut) := by
  refine ok_def (T := []) Z.F_f_law_cut sc_f_law_cut (fun cdv A outer s H E hr => ?_)
  exact ⟨_, _, (dss_cons (ds_for [true, true, true, false] PassesOwn.never rfl (di_range1 (da_cons (de_op (oAdd rfl) (de_op oDiv (de_callB (kMax2 rfl) Z.m_max (by decide +kernel) (da_cons de_int (da_cons (de_var 2) da_nil))) (de_var 0)) de_int) da_nil) Z.m_range) (dg_name 3 sc_f_law_cut.nd)
   (dss_one (ds_if (DW.dt (dw_and (dt_cmp cGe (de_var 2) de_int) (dw_and1 (dt_cmp (cEq rfl hr.units) (de_op oMod (de_op oSub (de_var 2) (de_op oMul (de_var 3) (de_var 0))) (de_var 1)) de_int)))) (dss_one (ds_ret (de_tup (da_cons (de_var 3) (da_cons (de_op oDiv (de_op oSub (de_var 2) (de_op oMul (de_var 3) (de_var 0))) (de_var 1)) da_nil))))) dss_nil)))
    (dss_one (ds_ret de_non)))⟩
theorem ok_f_law_divisor (Z : Top K mg) : FnOk P w K mg base CX0 1 Z.f_f_law_divisor Z.d_f_law_divisor ["x", "y"] (spOf [] K 2 R_f_law_divisor) := by
  refine ok_def (T := []) Z.F_f_law_divisor sc_f_law_divisor (fun cdv A outer s H E hr => ?_)
  exact ⟨_, _, (dss_one (ds_ret (DE.flat (de_callB (kMaxL rfl rfl) Z.m_max (by decide +kernel) (da_cons (DF.de (df_lc (own := [("d", 2)]) rfl sc_f_law_divisor.nd (di_range2 (da_cons de_int (da_cons (de_op (oAdd rfl) (de_callB (kMin2 rfl) Z.m_min (by decide +kernel) (da_cons (de_var 0) (da_cons (de_var 1) da_nil))) de_int) da_nil)) Z.m_range) (by kernel_rfl) (fun _ _ _ _ _ => (dg_name 2 sc_f_law_divisor.nd)) (fun _ _ _ _ _ => (dts_one (DW.dt (dw_and (dt_cmp (cEq rfl hr.units) (de_op oMod (de_var 0) (de_var 2)) de_int) (dw_and1 (dt_cmp (cEq rfl hr.units) (de_op oMod (de_var 1) (de_var 2)) de_int)))))) (fun _ _ _ _ _ => (de_var 2)))) da_nil)) (fl_N fl_maxL))))⟩
theorem ok_f_law_amount (Z : Top K mg) : FnOk P w K mg base CX0 8 Z.f_f_law_amount Z.d_f_law_amount ["x", "y", "g", "amount", "draws"] (spOf [] K 5 R_f_law_amount) := by
  have O_f_law_cut := ok_f_law_cut (P := P) (w := w) (base := base) Z
  have O_f_law_is := ok_f_law_is (P := P) (w := w) (base := base) Z
  have O_told_cut := ok_told_cut (P := P) (w := w) (base := base) Z
  have O_f_law_bent := ok_f_law_bent (P := P) (w := w) (base := base) Z
  have O_cut_mirror := ok_cut_mirror (P := P) (w := w) (base := base) Z
  have O_is_cut := ok_is_cut (P := P) (w := w) (base := base) Z
  refine ok_def (T := []) Z.F_f_law_amount sc_f_law_amount (fun cdv A outer s H E hr => ?_)
  exact ⟨_, _, (dss_cons (ds_set (i := 5) sc_f_law_amount.nd (de_call O_f_law_cut (hr.mono (by omega)) Z.g_f_law_cut Z.F_f_law_cut.kp Z.b_f_law_cut (da_cons (de_var 0) (da_cons (de_var 1) (da_cons (de_var 3) da_nil)))))
    (dss_cons (ds_set (i := 6) sc_f_law_amount.nd (de_op oSub (de_op oSub (de_op oSub (de_op oDiv (de_op oMul (de_var 0) (de_var 1)) (de_var 2)) (de_var 0)) (de_var 1)) (de_var 3)))
    (dss_cons (ds_if (DW.dt (dw_or (dt_not (dt_tru (de_call O_f_law_is (hr.mono (by omega)) Z.g_f_law_is Z.F_f_law_is.kp Z.b_f_law_is (da_cons (de_call O_told_cut (hr.mono (by omega)) Z.g_told_cut Z.F_told_cut.kp Z.b_told_cut (da_cons (de_var 0) (da_cons (de_var 1) (da_cons (de_var 3) da_nil)))) (da_cons (de_var 5) da_nil))))) (dw_or1 (dt_not (dt_tru (de_call O_f_law_is (hr.mono (by omega)) Z.g_f_law_is Z.F_f_law_is.kp Z.b_f_law_is (da_cons (de_call O_cut_mirror (hr.mono (by omega)) Z.g_cut_mirror Z.F_cut_mirror.kp Z.b_cut_mirror (da_cons (de_var 0) (da_cons (de_var 1) (da_cons (de_var 3) da_nil)))) (da_cons (de_var 6) da_nil)))))))) (dss_one (ds_ret de_bl)) dss_nil)
    (dss_cons (ds_if (DW.dt (dw_and (dt_cmp (cNe rfl hr.units) (de_op oMod (de_var 3) (de_var 2)) de_int) (dw_and1 (dt_cmp cNotN (de_var 5) de_non)))) (dss_one (ds_ret de_bl)) dss_nil)
    (dss_cons (ds_if (DW.dt (dw_and (dt_cmp (cEq rfl hr.units) (de_op oMod (de_var 3) (de_var 2)) de_int) (dw_and1 (dt_cmp (cNe rfl hr.units) (de_cmp cIsN (de_var 5) de_non) (de_cmp cNotN (de_call O_f_law_cut (hr.mono (by omega)) Z.g_f_law_cut Z.F_f_law_cut.kp Z.b_f_law_cut (da_cons (de_var 0) (da_cons (de_var 1) (da_cons (de_var 6) da_nil)))) de_non))))) (dss_one (ds_ret de_bl)) dss_nil)
    (dss_cons (ds_if (dt_not (dt_tru (de_call O_f_law_is (hr.mono (by omega)) Z.g_f_law_is Z.F_f_law_is.kp Z.b_f_law_is (da_cons (de_call O_told_cut (hr.mono (by omega)) Z.g_told_cut Z.F_told_cut.kp Z.b_told_cut (da_cons (de_var 0) (da_cons (de_var 1) (da_cons (de_var 6) da_nil)))) (da_cons (de_call O_f_law_cut (hr.mono (by omega)) Z.g_f_law_cut Z.F_f_law_cut.kp Z.b_f_law_cut (da_cons (de_var 0) (da_cons (de_var 1) (da_cons (de_var 6) da_nil)))) da_nil))))) (dss_one (ds_ret de_bl)) dss_nil)
    (dss_cons (ds_set (i := 7) sc_f_law_amount.nd (de_ifExp (dt_cmp cNotN (de_var 5) de_non) (de_var 5) (de_tup (da_cons de_int (da_cons (de_op oDiv (de_var 3) (de_var 1)) da_nil)))))
    (dss_cons (ds_for [true, true, true, true, true, false, false, true, false, false, false] PassesOwn.never rfl (di_range1 (da_cons de_int da_nil) Z.m_range) (dg_name 8 sc_f_law_amount.nd)
   (dss_cons (ds_set (i := 9) sc_f_law_amount.nd (de_ifExp (dt_cmp (cEq rfl hr.units) (de_var 8) de_int) (de_var 7) (de_call O_f_law_bent (hr.mono (by omega)) Z.g_f_law_bent Z.F_f_law_bent.kp Z.b_f_law_bent (da_cons (de_var 7) (da_cons (de_slice (de_var 4) (do_some (de_var 8)) (do_some (de_op (oAdd rfl) de_int (de_var 8)))) (da_cons de_int da_nil))))))
    (dss_cons (ds_if (dt_cmp (cEq rfl hr.units) (de_var 8) de_int) (dss_one (ds_set (i := 9) sc_f_law_amount.nd (de_tup (da_cons (de_op (oAdd rfl) (de_ix (de_var 7) de_int) (de_op oDiv (de_var 1) (de_var 2))) (da_cons (de_op oSub (de_ix (de_var 7) de_int) (de_op oDiv (de_var 0) (de_var 2))) da_nil))))) dss_nil)
    (dss_cons (ds_set (i := 10) sc_f_law_amount.nd (de_cmp (cEq rfl hr.units) (de_callB (kLen rfl) Z.m_len (by decide +kernel) (da_cons (de_var 9) da_nil)) de_int))
    (dss_cons (ds_if (dt_tru (de_var 10)) (dss_one (ds_set (i := 10) sc_f_law_amount.nd (de_and (de_cmp cGe (de_callB (kMinD rfl rfl hr.units) Z.m_min (by decide +kernel) (da_cons (de_var 9) da_nil)) de_int) (de_one (de_cmp (cEq rfl hr.units) (de_op (oAdd rfl) (de_op oMul (de_ix (de_var 9) de_int) (de_var 0)) (de_op oMul (de_ix (de_var 9) de_int) (de_var 1))) (de_var 3)))))) dss_nil)
    (dss_one (ds_if (dt_not (dt_tru (de_call O_f_law_is (hr.mono (by omega)) Z.g_f_law_is Z.F_f_law_is.kp Z.b_f_law_is (da_cons (de_call O_is_cut (hr.mono (by omega)) Z.g_is_cut Z.F_is_cut.kp Z.b_is_cut (da_cons (de_var 0) (da_cons (de_var 1) (da_cons (de_var 3) (da_cons (de_var 9) da_nil))))) (da_cons (de_var 10) da_nil))))) (dss_one (ds_ret de_bl)) dss_nil)))))))
    (dss_one (ds_ret de_bl))))))))))⟩
theorem ok_law (Z : Top K mg) : FnOk P w K mg base CX0 9 Z.f_law Z.d_law ["script"] (spOf [] K 1 R_law) := by
  have O_f_law_draws := ok_f_law_draws (P := P) (w := w) (base := base) Z
  have O_f_law_divisor := ok_f_law_divisor (P := P) (w := w) (base := base) Z
  have O_f_law_cell := ok_f_law_cell (P := P) (w := w) (base := base) Z
  have O_f_law_cut := ok_f_law_cut (P := P) (w := w) (base := base) Z
  have O_f_law_is := ok_f_law_is (P := P) (w := w) (base := base) Z
  have O_f_law_amount := ok_f_law_amount (P := P) (w := w) (base := base) Z
  have O_told_portion := ok_told_portion (P := P) (w := w) (base := base) Z
  have O_most_uncut := ok_most_uncut (P := P) (w := w) (base := base) Z
  have O_count_uncut := ok_count_uncut (P := P) (w := w) (base := base) Z
  refine ok_def (T := []) Z.F_law sc_law (fun cdv A outer s H E hr => ?_)
  exact ⟨_, _, (dss_cons (ds_for [true, false, false, false, false, false, false, false, false, false, false, false, false, false, false, false, false, false, false] PassesOwn.never rfl (di_range1 (da_cons de_int da_nil) Z.m_range) (dg_name 1 sc_law.nd)
   (dss_cons (ds_set (i := 2) sc_law.nd (de_call O_f_law_draws (hr.mono (by omega)) Z.g_f_law_draws Z.F_f_law_draws.kp Z.b_f_law_draws (da_cons (de_call O_f_law_cell (hr.mono (by omega)) Z.g_f_law_cell Z.F_f_law_cell.kp Z.b_f_law_cell (da_cons (de_var 0) (da_cons (de_var 1) da_nil))) (da_cons de_int da_nil))))
    (dss_cons (ds_set (i := 3) sc_law.nd (de_ifExp (dt_cmp (cEq rfl hr.units) (de_var 1) de_int) de_int (de_op (oAdd rfl) de_int (de_op oMod (DE.flat (de_callT kInt Z.m_int (by decide +kernel) (da_cons (de_ix (de_var 2) de_int) da_nil)) (fl_N fl_int)) de_int))))
    (dss_cons (ds_set (i := 4) sc_law.nd (de_op oMul (de_var 3) (de_op (oAdd rfl) de_int (de_op oMod (DE.flat (de_callT kInt Z.m_int (by decide +kernel) (da_cons (de_ix (de_var 2) de_int) da_nil)) (fl_N fl_int)) (de_op oDiv de_int (de_var 3))))))
    (dss_cons (ds_set (i := 5) sc_law.nd (de_op oMul (de_var 3) (de_op (oAdd rfl) de_int (de_op oMod (DE.flat (de_callT kInt Z.m_int (by decide +kernel) (da_cons (de_ix (de_var 2) de_int) da_nil)) (fl_N fl_int)) (de_op oDiv de_int (de_var 3))))))
    (dss_cons (ds_set (i := 6) sc_law.nd (de_call O_f_law_divisor (hr.mono (by omega)) Z.g_f_law_divisor Z.F_f_law_divisor.kp Z.b_f_law_divisor (da_cons (de_var 4) (da_cons (de_var 5) da_nil))))
    (dss_cons (ds_set (i := 7) sc_law.nd (de_op oSub (de_op oSub (de_op oDiv (de_op oMul (de_var 4) (de_var 5)) (de_var 6)) (de_var 4)) (de_var 5)))
    (dss_cons (ds_setLcI (i := 9) (own := [("amount", 8)]) rfl sc_law.nd (di_range3 (da_cons de_int (da_cons (de_op (oAdd rfl) (de_callB (kMax2 rfl) Z.m_max (by decide +kernel) (da_cons de_int (da_cons (de_var 7) da_nil))) de_int) (da_cons (de_var 6) da_nil))) Z.m_range) (by kernel_rfl) (fun _ _ _ _ _ => (dg_name 8 sc_law.nd)) (fun _ _ _ _ _ => (dts_one (dt_cmp cIsN (de_call O_f_law_cut (hr.mono (by omega)) Z.g_f_law_cut Z.F_f_law_cut.kp Z.b_f_law_cut (da_cons (de_var 4) (da_cons (de_var 5) (da_cons (de_var 8) da_nil)))) de_non))) (fun _ _ _ _ _ => (de_var 8)))
    (dss_cons (ds_if (DW.dt (dw_or (dt_not (dt_tru (de_call O_f_law_is (hr.mono (by omega)) Z.g_f_law_is Z.F_f_law_is.kp Z.b_f_law_is (da_cons (de_call O_most_uncut (hr.mono (by omega)) Z.g_most_uncut Z.F_most_uncut.kp Z.b_most_uncut (da_cons (de_var 4) (da_cons (de_var 5) da_nil))) (da_cons (de_var 7) da_nil))))) (dw_or1 (dt_not (dt_tru (de_call O_f_law_is (hr.mono (by omega)) Z.g_f_law_is Z.F_f_law_is.kp Z.b_f_law_is (da_cons (de_call O_count_uncut (hr.mono (by omega)) Z.g_count_uncut Z.F_count_uncut.kp Z.b_count_uncut (da_cons (de_var 4) (da_cons (de_var 5) da_nil))) (da_cons (de_callB (kLen rfl) Z.m_len (by decide +kernel) (da_cons (de_var 9) da_nil)) da_nil)))))))) (dss_one (ds_ret de_bl)) dss_nil)
    (dss_cons (ds_if (dt_cmp cNotN (de_call O_f_law_cut (hr.mono (by omega)) Z.g_f_law_cut Z.F_f_law_cut.kp Z.b_f_law_cut (da_cons (de_var 4) (da_cons (de_var 5) (da_cons (de_var 7) da_nil)))) de_non) (dss_one (ds_ret de_bl)) dss_nil)
    (dss_cons (ds_if (dt_not (dt_tru (de_callB (kAll rfl rfl) Z.m_all (by decide +kernel) (da_cons (DF.de (df_lc (own := [("at", 10)]) rfl sc_law.nd (di_range1 (da_cons (de_var 4) da_nil) Z.m_range) (by kernel_rfl) (fun _ _ _ _ _ => (dg_name 10 sc_law.nd)) (fun _ _ _ _ _ => dts_nil) (fun _ _ _ _ _ => (de_cmp cNotN (de_call O_f_law_cut (hr.mono (by omega)) Z.g_f_law_cut Z.F_f_law_cut.kp Z.b_f_law_cut (da_cons (de_var 4) (da_cons (de_var 5) (da_cons (de_op (oAdd rfl) (de_var 7) (de_op oMul (de_var 6) (de_op (oAdd rfl) de_int (de_var 10)))) da_nil)))) de_non)))) da_nil)))) (dss_one (ds_ret de_bl)) dss_nil)
    (dss_cons (ds_set (i := 11) sc_law.nd (de_call O_f_law_draws (hr.mono (by omega)) Z.g_f_law_draws Z.F_f_law_draws.kp Z.b_f_law_draws (da_cons (de_call O_f_law_cell (hr.mono (by omega)) Z.g_f_law_cell Z.F_f_law_cell.kp Z.b_f_law_cell (da_cons (de_var 0) (da_cons (de_op (oAdd rfl) de_int (de_var 1)) da_nil))) (da_cons de_int da_nil))))
    (dss_cons (ds_set (i := 12) sc_law.nd (DF.de (df_lst (da_cons (de_var 7) (da_cons (de_op (oAdd rfl) (de_var 7) (de_var 6)) (da_cons de_int (da_cons (de_op oSub de_int (de_op oMod (DE.flat (de_callT kInt Z.m_int (by decide +kernel) (da_cons (de_ix (de_var 11) de_int) da_nil)) (fl_N fl_int)) de_int)) (da_cons (de_op oMod (DE.flat (de_callT kInt Z.m_int (by decide +kernel) (da_cons (de_ix (de_var 11) de_int) da_nil)) (fl_N fl_int)) de_int) (da_cons (de_op oMul (de_var 6) (de_op oMod (DE.flat (de_callT kInt Z.m_int (by decide +kernel) (da_cons (de_ix (de_var 11) de_int) da_nil)) (fl_N fl_int)) de_int)) da_nil)))))))))
    (dss_cons (ds_for [true, true, true, true, true, true, true, false, false, false, false, true, false, false, false, false, false, false, false] PassesOwn.never rfl (di_seq (de_op (oAdd rfl) (de_var 12) (DF.de (df_lst (da_cons (de_op oMod (DE.flat (de_callT kInt Z.m_int (by decide +kernel) (da_cons (de_ix (de_var 11) de_int) da_nil)) (fl_N fl_int)) de_int) (da_cons (de_op oMul (de_op oDiv (de_op oDiv (DE.flat (de_callB (kMax2 rfl) Z.m_max (by decide +kernel) (da_cons de_int (da_cons (de_var 7) da_nil))) (fl_N fl_max2)) de_int) (de_var 6)) (de_var 6)) (da_cons (de_op oMul (de_op oDiv (de_op oDiv (DE.flat (de_callB (kMax2 rfl) Z.m_max (by decide +kernel) (da_cons de_int (da_cons (de_var 7) da_nil))) (fl_N fl_max2)) de_int) (de_var 6)) (de_var 6)) da_nil))))))) (dg_name 8 sc_law.nd)
   (dss_one (ds_if (dt_not (dt_tru (de_call O_f_law_amount (hr.mono (by omega)) Z.g_f_law_amount Z.F_f_law_amount.kp Z.b_f_law_amount (da_cons (de_var 4) (da_cons (de_var 5) (da_cons (de_var 6) (da_cons (de_var 8) (da_cons (de_slice (de_var 11) (do_some de_int) (do_some de_int)) da_nil)))))))) (dss_one (ds_ret de_bl)) dss_nil)))
    (dss_cons (ds_set (i := 13) sc_law.nd (de_callT (kTuple rfl) Z.m_tuple (by decide +kernel) (da_cons (DF.de (df_lc (own := [("at", 10)]) rfl sc_law.nd (di_range1 (da_cons (de_op oMod (de_callT kInt Z.m_int (by decide +kernel) (da_cons (de_ix (de_var 2) de_int) da_nil)) de_int) da_nil) Z.m_range) (by kernel_rfl) (fun _ _ _ _ _ => (dg_name 10 sc_law.nd)) (fun _ _ _ _ _ => dts_nil) (fun _ _ _ _ _ => (de_op oMod (DE.flat (de_callT kInt Z.m_int (by decide +kernel) (da_cons (de_ix (de_var 2) (de_op (oAdd rfl) de_int (de_var 10))) da_nil)) (fl_N fl_int)) de_int)))) da_nil)))
    (dss_cons (ds_set (i := 14) sc_law.nd (de_op (oAdd rfl) de_int (de_op oMod (DE.flat (de_callT kInt Z.m_int (by decide +kernel) (da_cons (de_ix (de_var 2) de_int) da_nil)) (fl_N fl_int)) de_int)))
    (dss_cons (ds_set (i := 15) sc_law.nd (de_op (oAdd rfl) (de_var 14) (de_op oMod (DE.flat (de_callT kInt Z.m_int (by decide +kernel) (da_cons (de_ix (de_var 2) de_int) da_nil)) (fl_N fl_int)) (de_op oSub de_int (de_var 14)))))
    (dss_cons (ds_if (dt_cmp (cEq rfl hr.units) (de_var 1) de_int) (dss_cons (ds_set (i := 13) sc_law.nd (de_callT (kTuple rfl) Z.m_tuple (by decide +kernel) (da_cons (DF.de (df_lc (own := [("dough", 16)]) rfl sc_law.nd (di_seq (de_var 13)) (by kernel_rfl) (fun _ _ _ _ _ => (dg_name 16 sc_law.nd)) (fun _ _ _ _ _ => dts_nil) (fun _ _ _ _ _ => (de_op oMul (de_var 3) (de_op oDiv (de_var 16) (de_var 3)))))) da_nil)))
    (dss_cons (ds_set (i := 14) sc_law.nd (de_op (oAdd rfl) de_int (de_op oMod (DE.flat (de_callT kInt Z.m_int (by decide +kernel) (da_cons (de_ix (de_var 2) de_int) da_nil)) (fl_N fl_int)) (de_var 3))))
    (dss_one (ds_set (i := 15) sc_law.nd (DE.flat (de_callB (kMax2 rfl) Z.m_max (by decide +kernel) (da_cons (de_var 15) (da_cons (de_var 3) da_nil))) (fl_N fl_max2)))))) dss_nil)
    (dss_cons (ds_set (i := 18) sc_law.nd (de_callB (kMinD rfl rfl hr.units) Z.m_min (by decide +kernel) (da_cons (DF.de (df_lc (own := [("w", 17)]) rfl sc_law.nd (di_range2 (da_cons (de_var 14) (da_cons (de_op (oAdd rfl) (de_var 15) de_int) da_nil)) Z.m_range) (by kernel_rfl) (fun _ _ _ _ _ => (dg_name 17 sc_law.nd)) (fun _ _ _ _ _ => dts_nil) (fun _ _ _ _ _ => (de_tup (da_cons (DE.flat (de_callB (kSum rfl rfl) Z.m_sum (by decide +kernel) (da_cons (DF.de (df_lc (own := [("dough", 16)]) rfl sc_law.nd (di_seq (de_var 13)) (by kernel_rfl) (fun _ _ _ _ _ => (dg_name 16 sc_law.nd)) (fun _ _ _ _ _ => dts_nil) (fun _ _ _ _ _ => (de_op oMod (de_var 16) (de_var 17))))) da_nil)) (fl_N fl_sum)) (da_cons (de_var 17) da_nil)))))) da_nil)))
    (dss_one (ds_if (dt_not (dt_tru (de_call O_f_law_is (hr.mono (by omega)) Z.g_f_law_is Z.F_f_law_is.kp Z.b_f_law_is (da_cons (de_call O_told_portion (hr.mono (by omega)) Z.g_told_portion Z.F_told_portion.kp Z.b_told_portion (da_cons (de_var 13) (da_cons (de_var 14) (da_cons (de_var 15) da_nil)))) (da_cons (de_var 18) da_nil))))) (dss_one (ds_ret de_bl)) dss_nil)))))))))))))))))))))
    (dss_one (ds_ret de_bl)))⟩
end
section
variable {P : Program} {w : World}
theorem law_end {K : PySem.W.Frag} {h : Heap} {mg : Str → Option Value} {fa : Addr} (X : K.In h) (G : h.Ns mainGlobals mg) (hfa : mg "law" = some (.ref fa))
    {f0 : Addr} {od0 an0 : Option Addr} {sl0 : Array (Option Value)} {oc0 kV0 dc0 pm0 cd0 ct0 : Value}
    {f1 : Addr} {od1 an1 : Option Addr} {sl1 : Array (Option Value)} {oc1 kV1 dc1 pm1 cd1 ct1 : Value}
    {f2 : Addr} {od2 an2 : Option Addr} {sl2 : Array (Option Value)} {oc2 kV2 dc2 pm2 cd2 ct2 : Value}
    {f3 : Addr} {od3 an3 : Option Addr} {sl3 : Array (Option Value)} {oc3 kV3 dc3 pm3 cd3 ct3 : Value}
    {f4 : Addr} {od4 an4 : Option Addr} {sl4 : Array (Option Value)} {oc4 kV4 dc4 pm4 cd4 ct4 : Value}
    {f5 : Addr} {od5 an5 : Option Addr} {sl5 : Array (Option Value)} {oc5 kV5 dc5 pm5 cd5 ct5 : Value}
    {f6 : Addr} {od6 an6 : Option Addr} {sl6 : Array (Option Value)} {oc6 kV6 dc6 pm6 cd6 ct6 : Value}
    {f7 : Addr} {od7 an7 : Option Addr} {sl7 : Array (Option Value)} {oc7 kV7 dc7 pm7 cd7 ct7 : Value}
    {f8 : Addr} {od8 an8 : Option Addr} {sl8 : Array (Option Value)} {oc8 kV8 dc8 pm8 cd8 ct8 : Value}
    {f9 : Addr} {od9 an9 : Option Addr} {sl9 : Array (Option Value)} {oc9 kV9 dc9 pm9 cd9 ct9 : Value}
    {f10 : Addr} {od10 an10 : Option Addr} {sl10 : Array (Option Value)} {oc10 kV10 dc10 pm10 cd10 ct10 : Value}
    {f11 : Addr} {od11 an11 : Option Addr} {sl11 : Array (Option Value)} {oc11 kV11 dc11 pm11 cd11 ct11 : Value}
    {f12 : Addr} {od12 an12 : Option Addr} {sl12 : Array (Option Value)} {oc12 kV12 dc12 pm12 cd12 ct12 : Value}
    {f13 : Addr} {od13 an13 : Option Addr} {sl13 : Array (Option Value)} {oc13 kV13 dc13 pm13 cd13 ct13 : Value}
    {f14 : Addr} {od14 an14 : Option Addr} {sl14 : Array (Option Value)} {oc14 kV14 dc14 pm14 cd14 ct14 : Value}
    (a0 : PySem.W.nsIn K mainGlobals "is_cut" = some (some (.ref f0))) (l0 : K.lookup f0 = some ⟨oc0, od0, .func (PySem.W.fnOf "is_cut" "is_cut" (defArgs s_is_cut) (defBody s_is_cut) (defScope s_is_cut) .none kV0 dc0 pm0 an0 cd0 ct0), sl0⟩) (c0 : PySem.W.codeIn K cd0 "is_cut" = true) (k0 : PySem.W.keepIn K (.ref f0) = true)
    (a1 : PySem.W.nsIn K mainGlobals "told_cut" = some (some (.ref f1))) (l1 : K.lookup f1 = some ⟨oc1, od1, .func (PySem.W.fnOf "told_cut" "told_cut" (defArgs s_told_cut) (defBody s_told_cut) (defScope s_told_cut) .none kV1 dc1 pm1 an1 cd1 ct1), sl1⟩) (c1 : PySem.W.codeIn K cd1 "told_cut" = true) (k1 : PySem.W.keepIn K (.ref f1) = true)
    (a2 : PySem.W.nsIn K mainGlobals "cut_mirror" = some (some (.ref f2))) (l2 : K.lookup f2 = some ⟨oc2, od2, .func (PySem.W.fnOf "cut_mirror" "cut_mirror" (defArgs s_cut_mirror) (defBody s_cut_mirror) (defScope s_cut_mirror) .none kV2 dc2 pm2 an2 cd2 ct2), sl2⟩) (c2 : PySem.W.codeIn K cd2 "cut_mirror" = true) (k2 : PySem.W.keepIn K (.ref f2) = true)
    (a3 : PySem.W.nsIn K mainGlobals "most_uncut" = some (some (.ref f3))) (l3 : K.lookup f3 = some ⟨oc3, od3, .func (PySem.W.fnOf "most_uncut" "most_uncut" (defArgs s_most_uncut) (defBody s_most_uncut) (defScope s_most_uncut) .none kV3 dc3 pm3 an3 cd3 ct3), sl3⟩) (c3 : PySem.W.codeIn K cd3 "most_uncut" = true) (k3 : PySem.W.keepIn K (.ref f3) = true)
    (a4 : PySem.W.nsIn K mainGlobals "count_uncut" = some (some (.ref f4))) (l4 : K.lookup f4 = some ⟨oc4, od4, .func (PySem.W.fnOf "count_uncut" "count_uncut" (defArgs s_count_uncut) (defBody s_count_uncut) (defScope s_count_uncut) .none kV4 dc4 pm4 an4 cd4 ct4), sl4⟩) (c4 : PySem.W.codeIn K cd4 "count_uncut" = true) (k4 : PySem.W.keepIn K (.ref f4) = true)
    (a5 : PySem.W.nsIn K mainGlobals "told_portion" = some (some (.ref f5))) (l5 : K.lookup f5 = some ⟨oc5, od5, .func (PySem.W.fnOf "told_portion" "told_portion" (defArgs s_told_portion) (defBody s_told_portion) (defScope s_told_portion) .none kV5 dc5 pm5 an5 cd5 ct5), sl5⟩) (c5 : PySem.W.codeIn K cd5 "told_portion" = true) (k5 : PySem.W.keepIn K (.ref f5) = true)
    (a6 : PySem.W.nsIn K mainGlobals "_law_cell" = some (some (.ref f6))) (l6 : K.lookup f6 = some ⟨oc6, od6, .func (PySem.W.fnOf "_law_cell" "_law_cell" (defArgs s_f_law_cell) (defBody s_f_law_cell) (defScope s_f_law_cell) .none kV6 dc6 pm6 an6 cd6 ct6), sl6⟩) (c6 : PySem.W.codeIn K cd6 "_law_cell" = true) (k6 : PySem.W.keepIn K (.ref f6) = true)
    (a7 : PySem.W.nsIn K mainGlobals "_law_draws" = some (some (.ref f7))) (l7 : K.lookup f7 = some ⟨oc7, od7, .func (PySem.W.fnOf "_law_draws" "_law_draws" (defArgs s_f_law_draws) (defBody s_f_law_draws) (defScope s_f_law_draws) .none kV7 dc7 pm7 an7 cd7 ct7), sl7⟩) (c7 : PySem.W.codeIn K cd7 "_law_draws" = true) (k7 : PySem.W.keepIn K (.ref f7) = true)
    (a8 : PySem.W.nsIn K mainGlobals "_law_is_integer" = some (some (.ref f8))) (l8 : K.lookup f8 = some ⟨oc8, od8, .func (PySem.W.fnOf "_law_is_integer" "_law_is_integer" (defArgs s_f_law_is_integer) (defBody s_f_law_is_integer) (defScope s_f_law_is_integer) .none kV8 dc8 pm8 an8 cd8 ct8), sl8⟩) (c8 : PySem.W.codeIn K cd8 "_law_is_integer" = true) (k8 : PySem.W.keepIn K (.ref f8) = true)
    (a9 : PySem.W.nsIn K mainGlobals "_law_is" = some (some (.ref f9))) (l9 : K.lookup f9 = some ⟨oc9, od9, .func (PySem.W.fnOf "_law_is" "_law_is" (defArgs s_f_law_is) (defBody s_f_law_is) (defScope s_f_law_is) .none kV9 dc9 pm9 an9 cd9 ct9), sl9⟩) (c9 : PySem.W.codeIn K cd9 "_law_is" = true) (k9 : PySem.W.keepIn K (.ref f9) = true)
    (a10 : PySem.W.nsIn K mainGlobals "_law_bent" = some (some (.ref f10))) (l10 : K.lookup f10 = some ⟨oc10, od10, .func (PySem.W.fnOf "_law_bent" "_law_bent" (defArgs s_f_law_bent) (defBody s_f_law_bent) (defScope s_f_law_bent) .none kV10 dc10 pm10 an10 cd10 ct10), sl10⟩) (c10 : PySem.W.codeIn K cd10 "_law_bent" = true) (k10 : PySem.W.keepIn K (.ref f10) = true)
    (a11 : PySem.W.nsIn K mainGlobals "_law_cut" = some (some (.ref f11))) (l11 : K.lookup f11 = some ⟨oc11, od11, .func (PySem.W.fnOf "_law_cut" "_law_cut" (defArgs s_f_law_cut) (defBody s_f_law_cut) (defScope s_f_law_cut) .none kV11 dc11 pm11 an11 cd11 ct11), sl11⟩) (c11 : PySem.W.codeIn K cd11 "_law_cut" = true) (k11 : PySem.W.keepIn K (.ref f11) = true)
    (a12 : PySem.W.nsIn K mainGlobals "_law_divisor" = some (some (.ref f12))) (l12 : K.lookup f12 = some ⟨oc12, od12, .func (PySem.W.fnOf "_law_divisor" "_law_divisor" (defArgs s_f_law_divisor) (defBody s_f_law_divisor) (defScope s_f_law_divisor) .none kV12 dc12 pm12 an12 cd12 ct12), sl12⟩) (c12 : PySem.W.codeIn K cd12 "_law_divisor" = true) (k12 : PySem.W.keepIn K (.ref f12) = true)
    (a13 : PySem.W.nsIn K mainGlobals "_law_amount" = some (some (.ref f13))) (l13 : K.lookup f13 = some ⟨oc13, od13, .func (PySem.W.fnOf "_law_amount" "_law_amount" (defArgs s_f_law_amount) (defBody s_f_law_amount) (defScope s_f_law_amount) .none kV13 dc13 pm13 an13 cd13 ct13), sl13⟩) (c13 : PySem.W.codeIn K cd13 "_law_amount" = true) (k13 : PySem.W.keepIn K (.ref f13) = true)
    (a14 : PySem.W.nsIn K mainGlobals "law" = some (some (.ref f14))) (l14 : K.lookup f14 = some ⟨oc14, od14, .func (PySem.W.fnOf "law" "law" (defArgs s_law) (defBody s_law) (defScope s_law) .none kV14 dc14 pm14 an14 cd14 ct14), sl14⟩) (c14 : PySem.W.codeIn K cd14 "law" = true) (k14 : PySem.W.keepIn K (.ref f14) = true)
    (z0 : PySem.W.nsIn K mainGlobals "abs" = some none)
    (z1 : PySem.W.nsIn K mainGlobals "all" = some none)
    (z2 : PySem.W.nsIn K mainGlobals "bool" = some none)
    (z3 : PySem.W.nsIn K mainGlobals "int" = some none)
    (z4 : PySem.W.nsIn K mainGlobals "isinstance" = some none)
    (z5 : PySem.W.nsIn K mainGlobals "len" = some none)
    (z6 : PySem.W.nsIn K mainGlobals "max" = some none)
    (z7 : PySem.W.nsIn K mainGlobals "min" = some none)
    (z8 : PySem.W.nsIn K mainGlobals "range" = some none)
    (z9 : PySem.W.nsIn K mainGlobals "str" = some none)
    (z10 : PySem.W.nsIn K mainGlobals "sum" = some none)
    (z11 : PySem.W.nsIn K mainGlobals "tuple" = some none)
    (y0 : PySem.W.nsIn K mainGlobals "gcd" = some (some (.builtin "math.gcd")))
    : ∃ fd : FuncData, (∀ (s : Shared) (v : Value), BindsTo s fd ⟨[v], []⟩ [("script", v)]) ∧ ∀ base : Heap, K.In base → base.Ns mainGlobals mg → FnOk P w K mg base CX0 9 fa fd ["script"] (spOf [] K 1 R_law) := by
  have F0 := fun_mk (st := s_is_cut) l0 c0 k0
  have F1 := fun_mk (st := s_told_cut) l1 c1 k1
  have F2 := fun_mk (st := s_cut_mirror) l2 c2 k2
  have F3 := fun_mk (st := s_most_uncut) l3 c3 k3
  have F4 := fun_mk (st := s_count_uncut) l4 c4 k4
  have F5 := fun_mk (st := s_told_portion) l5 c5 k5
  have F6 := fun_mk (st := s_f_law_cell) l6 c6 k6
  have F7 := fun_mk (st := s_f_law_draws) l7 c7 k7
  have F8 := fun_mk (st := s_f_law_is_integer) l8 c8 k8
  have F9 := fun_mk (st := s_f_law_is) l9 c9 k9
  have F10 := fun_mk (st := s_f_law_bent) l10 c10 k10
  have F11 := fun_mk (st := s_f_law_cut) l11 c11 k11
  have F12 := fun_mk (st := s_f_law_divisor) l12 c12 k12
  have F13 := fun_mk (st := s_f_law_amount) l13 c13 k13
  have F14 := fun_mk (st := s_law) l14 c14 k14
  let Z : Top K mg := {
    f_is_cut := f0, d_is_cut := _, F_is_cut := F0, b_is_cut := F0.binds (ps := ["x", "y", "amount", "pair"]) fun _ _ _ _ _ _ us hl => match us, hl with | [_, _, _, _], _ => rfl, g_is_cut := PySem.W.mg_of X G a0,
    f_told_cut := f1, d_told_cut := _, F_told_cut := F1, b_told_cut := F1.binds (ps := ["x", "y", "amount"]) fun _ _ _ _ _ _ us hl => match us, hl with | [_, _, _], _ => rfl, g_told_cut := PySem.W.mg_of X G a1,
    f_cut_mirror := f2, d_cut_mirror := _, F_cut_mirror := F2, b_cut_mirror := F2.binds (ps := ["x", "y", "amount"]) fun _ _ _ _ _ _ us hl => match us, hl with | [_, _, _], _ => rfl, g_cut_mirror := PySem.W.mg_of X G a2,
    f_most_uncut := f3, d_most_uncut := _, F_most_uncut := F3, b_most_uncut := F3.binds (ps := ["x", "y"]) fun _ _ _ _ _ _ us hl => match us, hl with | [_, _], _ => rfl, g_most_uncut := PySem.W.mg_of X G a3,
    f_count_uncut := f4, d_count_uncut := _, F_count_uncut := F4, b_count_uncut := F4.binds (ps := ["x", "y"]) fun _ _ _ _ _ _ us hl => match us, hl with | [_, _], _ => rfl, g_count_uncut := PySem.W.mg_of X G a4,
    f_told_portion := f5, d_told_portion := _, F_told_portion := F5, b_told_portion := F5.binds (ps := ["doughs", "low", "high"]) fun _ _ _ _ _ _ us hl => match us, hl with | [_, _, _], _ => rfl, g_told_portion := PySem.W.mg_of X G a5,
    f_f_law_cell := f6, d_f_law_cell := _, F_f_law_cell := F6, b_f_law_cell := F6.binds (ps := ["script", "k"]) fun _ _ _ _ _ _ us hl => match us, hl with | [_, _], _ => rfl, g_f_law_cell := PySem.W.mg_of X G a6,
    f_f_law_draws := f7, d_f_law_draws := _, F_f_law_draws := F7, b_f_law_draws := F7.binds (ps := ["cell", "count"]) fun _ _ _ _ _ _ us hl => match us, hl with | [_, _], _ => rfl, g_f_law_draws := PySem.W.mg_of X G a7,
    f_f_law_is_integer := f8, d_f_law_is_integer := _, F_f_law_is_integer := F8, b_f_law_is_integer := F8.binds (ps := ["value"]) fun _ _ _ _ _ _ us hl => match us, hl with | [_], _ => rfl, g_f_law_is_integer := PySem.W.mg_of X G a8,
    f_f_law_is := f9, d_f_law_is := _, F_f_law_is := F9, b_f_law_is := F9.binds (ps := ["value", "due"]) fun _ _ _ _ _ _ us hl => match us, hl with | [_, _], _ => rfl, g_f_law_is := PySem.W.mg_of X G a9,
    f_f_law_bent := f10, d_f_law_bent := _, F_f_law_bent := F10, b_f_law_bent := F10.binds (ps := ["row", "draws", "most"]) fun _ _ _ _ _ _ us hl => match us, hl with | [_, _, _], _ => rfl, g_f_law_bent := PySem.W.mg_of X G a10,
    f_f_law_cut := f11, d_f_law_cut := _, F_f_law_cut := F11, b_f_law_cut := F11.binds (ps := ["x", "y", "amount"]) fun _ _ _ _ _ _ us hl => match us, hl with | [_, _, _], _ => rfl, g_f_law_cut := PySem.W.mg_of X G a11,
    f_f_law_divisor := f12, d_f_law_divisor := _, F_f_law_divisor := F12, b_f_law_divisor := F12.binds (ps := ["x", "y"]) fun _ _ _ _ _ _ us hl => match us, hl with | [_, _], _ => rfl, g_f_law_divisor := PySem.W.mg_of X G a12,
    f_f_law_amount := f13, d_f_law_amount := _, F_f_law_amount := F13, b_f_law_amount := F13.binds (ps := ["x", "y", "g", "amount", "draws"]) fun _ _ _ _ _ _ us hl => match us, hl with | [_, _, _, _, _], _ => rfl, g_f_law_amount := PySem.W.mg_of X G a13,
    f_law := f14, d_law := _, F_law := F14, b_law := F14.binds (ps := ["script"]) fun _ _ _ _ _ _ us hl => match us, hl with | [_], _ => rfl, g_law := PySem.W.mg_of X G a14,
    m_abs := PySem.W.mg_none_of X G z0,
    m_all := PySem.W.mg_none_of X G z1,
    m_bool := PySem.W.mg_none_of X G z2,
    m_int := PySem.W.mg_none_of X G z3,
    m_isinstance := PySem.W.mg_none_of X G z4,
    m_len := PySem.W.mg_none_of X G z5,
    m_max := PySem.W.mg_none_of X G z6,
    m_min := PySem.W.mg_none_of X G z7,
    m_range := PySem.W.mg_none_of X G z8,
    m_str := PySem.W.mg_none_of X G z9,
    m_sum := PySem.W.mg_none_of X G z10,
    m_tuple := PySem.W.mg_none_of X G z11,
    m_gcd := PySem.W.mg_of X G y0 }
  have e := hfa.symm.trans Z.g_law
  cases e
  exact ⟨Z.d_law, fun s v => .of_eq rfl, fun base _ _ => ok_law Z⟩
end
end LK
end

section
set_option Elab.async false
set_option maxRecDepth 100000
namespace LK
open PySem EL
theorem bez (m n : Nat) : ∃ u v : Int, ((Nat.gcd m n : Nat) : Int) = u * m + v * n := by
  induction m, n using Nat.gcd.induction with
  | H0 n => exact ⟨0, 1, by simp⟩
  | H1 m n hm ih =>
    obtain ⟨u, v, e⟩ := ih
    rw [Nat.gcd_rec]
    refine ⟨v - u * ((n / m : Nat) : Int), u, ?_⟩
    rw [e]
    have h : ((n % m : Nat) : Int) = (n : Int) - m * ((n / m : Nat) : Int) := by
      have := Nat.mod_add_div n m
      have h2 : ((n % m : Nat) : Int) + (m : Int) * ((n / m : Nat) : Int) = (n : Int) := by
        rw [← Int.natCast_mul, ← Int.natCast_add, this]
      omega
    rw [h, Int.mul_sub, Int.sub_mul, Int.mul_assoc, Int.mul_comm (m : Int) ((n / m : Nat) : Int)]
    omega
/-- two weights: their divisor g, x = g a, y = g b -/
structure XY (x y g : Int) : Prop where
  x0 : 0 < x
  y0 : 0 < y
  x30 : x ≤ 30
  y30 : y ≤ 30
  eg : g = ((Nat.gcd x.natAbs y.natAbs : Nat) : Int)
def P (x y a p : Int) : Prop := 0 ≤ p ∧ 0 ≤ a - p * x ∧ (a - p * x) % y = 0
instance (x y a p : Int) : Decidable (P x y a p) := inferInstanceAs (Decidable (_ ∧ _ ∧ _))
/-- a cut: p of x and q of y -/
def Cut (x y a : Int) : Prop := ∃ p, P x y a p
section
variable {x y g : Int}
theorem XY.parts (h : XY x y g) : ∃ a b : Int, 0 < g ∧ 0 < a ∧ 0 < b ∧ x = g * a ∧ y = g * b ∧ g ≤ 30 ∧ ∃ u v : Int, 1 = u * a + v * b := by
  have hg : 0 < g := by
    rw [h.eg]
    have := Nat.gcd_pos_of_pos_left (n := y.natAbs) (m := x.natAbs) (by have := h.x0; omega)
    omega
  have ex : ((x.natAbs : Nat) : Int) = x := by have := h.x0; omega
  have ey : ((y.natAbs : Nat) : Int) = y := by have := h.y0; omega
  have dx : g ∣ x := by rw [h.eg]; conv => rhs; rw [← ex]
                        exact Int.natCast_dvd_natCast.mpr (Nat.gcd_dvd_left _ _)
  have dy : g ∣ y := by rw [h.eg]; conv => rhs; rw [← ey]
                        exact Int.natCast_dvd_natCast.mpr (Nat.gcd_dvd_right _ _)
  obtain ⟨a, ea⟩ := dx
  obtain ⟨b, eb⟩ := dy
  have ha : 0 < a := by
    have h0 := h.x0
    rw [ea] at h0
    exact Int.pos_of_mul_pos_right h0 hg |> fun h => h
  have hb : 0 < b := by
    have h0 := h.y0
    rw [eb] at h0
    exact Int.pos_of_mul_pos_right h0 hg |> fun h => h
  refine ⟨a, b, hg, ha, hb, ea, eb, ?_, ?_⟩
  · exact Int.le_trans (Int.le_of_dvd h.x0 ⟨a, ea⟩) h.x30
  · obtain ⟨u, v, e⟩ := bez x.natAbs y.natAbs
    rw [ex, ey, ← h.eg] at e
    refine ⟨u, v, ?_⟩
    have : g * (u * a + v * b) = g * 1 := by
      rw [Int.mul_add, Int.mul_one, Int.mul_left_comm, Int.mul_left_comm g v, ← ea, ← eb]
      exact e.symm
    exact (Int.eq_of_mul_eq_mul_left (by omega) this).symm
/-- every a that g divides is p x + q y with 0 <= p < b -/
theorem norm (h : XY x y g) {n : Int} (hn : g ∣ n) : ∃ p q : Int, 0 ≤ p ∧ p < y / g ∧ n = p * x + q * y ∧ (Cut x y n ↔ 0 ≤ q) := by
  obtain ⟨a, b, g0, a0, b0, ex, ey, _, u, v, e⟩ := h.parts
  obtain ⟨k, ek⟩ := hn
  have hyg : y / g = b := by rw [ey]; exact Int.mul_ediv_cancel_left _ (by omega)
  have hp0 := Int.emod_nonneg (u * k) (show b ≠ 0 by omega)
  have hp1 := Int.emod_lt_of_pos (u * k) b0
  have hdm := Int.mul_ediv_add_emod (u * k) b
  generalize (u * k) % b = p at hp0 hp1 hdm
  generalize (u * k) / b = j at hdm
  have hk : k = (p + b * j) * a + v * k * b := by
    have h1 : k * 1 = k * (u * a + v * b) := by rw [← e]
    rw [Int.mul_one, Int.mul_add] at h1
    rw [show p + b * j = u * k by omega]
    rw [Int.mul_right_comm u k a, Int.mul_right_comm v k b]
    rw [h1]
    have e1 : u * a * (k * (u * a) + k * (v * b)) = k * (u * a) := by
      rw [← Int.mul_add, ← e, Int.mul_one, Int.mul_comm]
    have e2 : v * b * (k * (u * a) + k * (v * b)) = k * (v * b) := by
      rw [← Int.mul_add, ← e, Int.mul_one, Int.mul_comm]
    rw [e1, e2]
  have en : n = p * x + (j * a + v * k) * y := by
    rw [ek, ex, ey]
    conv => lhs; rw [hk]
    simp only [Int.mul_add, Int.add_mul, Int.mul_assoc, Int.mul_comm, Int.mul_left_comm]
    omega
  refine ⟨p, j * a + v * k, hp0, by rw [hyg]; exact hp1, en, ?_⟩
  generalize j * a + v * k = q at en
  constructor
  · rintro ⟨p', h1, h2, h3⟩
    obtain ⟨q', eq'⟩ := Int.dvd_of_emod_eq_zero h3
    have hq' : 0 ≤ q' := by
      rw [eq'] at h2
      exact Int.nonneg_of_mul_nonneg_right h2 h.y0 |> fun h => h
    have e1 : (p' - p) * a = (q - q') * b := by
      have : g * ((p' - p) * a) = g * ((q - q') * b) := by
        have h5 : (p' - p) * x = (q - q') * y := by rw [Int.sub_mul, Int.sub_mul, Int.mul_comm q' y]; omega
        rw [ex, ey] at h5
        rw [Int.mul_left_comm g, Int.mul_left_comm g]
        exact h5
      exact Int.eq_of_mul_eq_mul_left (by omega) this
    have e2 : p' - p = b * (u * (q - q') + v * (p' - p)) := by
      have h1 : (p' - p) * 1 = (p' - p) * (u * a + v * b) := by rw [← e]
      rw [Int.mul_one, Int.mul_add, Int.mul_left_comm, e1] at h1
      refine h1.trans ?_
      generalize p' - p = z
      generalize q - q' = z'
      simp only [Int.mul_add, Int.mul_comm, Int.mul_left_comm]
    generalize u * (q - q') + v * (p' - p) = w at e2
    have hw : 0 ≤ w := by
      by_cases hw : 0 ≤ w
      · exact hw
      · exfalso
        have : b * w ≤ b * (-1) := Int.mul_le_mul_of_nonneg_left (by omega) (by omega)
        omega
    have h6 : 0 ≤ p' - p := by rw [e2]; exact Int.mul_nonneg (by omega) hw
    have h7 : 0 ≤ (q - q') * b := by rw [← e1]; exact Int.mul_nonneg h6 (by omega)
    have h8 : 0 ≤ q - q' := by
      by_cases h8 : 0 ≤ q - q'
      · exact h8
      · exfalso
        have : (q - q') * b ≤ (-1) * b := Int.mul_le_mul_of_nonneg_right (by omega) (by omega)
        omega
    omega
  · intro hq
    refine ⟨p, hp0, ?_, ?_⟩
    · rw [en]
      have := Int.mul_nonneg hq (Int.le_of_lt h.y0)
      omega
    · rw [en, show p * x + q * y - p * x = q * y by omega]
      exact Int.mul_emod_left _ _
theorem cut_g (h : XY x y g) {n : Int} (hc : Cut x y n) : g ∣ n := by
  obtain ⟨a, b, g0, a0, b0, ex, ey, _, u, v, e⟩ := h.parts
  obtain ⟨p, h1, h2, h3⟩ := hc
  obtain ⟨q, eq⟩ := Int.dvd_of_emod_eq_zero h3
  refine ⟨p * a + b * q, ?_⟩
  have : n = p * x + y * q := by omega
  rw [this, ex, ey]
  simp only [Int.mul_add, Int.mul_assoc, Int.mul_left_comm]
theorem mirror (h : XY x y g) {n : Int} (hn : g ∣ n) : Cut x y (x * y / g - x - y - n) ↔ ¬ Cut x y n := by
  obtain ⟨a, b, g0, a0, b0, ex, ey, _, u, v, e⟩ := h.parts
  have hyg : y / g = b := by rw [ey]; exact Int.mul_ediv_cancel_left _ (by omega)
  have hxy : x * y / g = b * x := by
    rw [ey, show x * (g * b) = g * (b * x) by simp only [Int.mul_comm, Int.mul_left_comm]]
    exact Int.mul_ediv_cancel_left _ (by omega)
  obtain ⟨p, q, h1, h2, h3, h4⟩ := norm h hn
  have hm : g ∣ x * y / g - x - y - n := by
    obtain ⟨k, ek⟩ := hn
    refine ⟨b * a - a - b - k, ?_⟩
    rw [hxy, ek]
    conv => lhs; rw [ex, ey]
    simp only [Int.mul_sub, Int.mul_left_comm]
  obtain ⟨p', q', k1, k2, k3, k4⟩ := norm h hm
  rw [h4, k4]
  have hsum : (p + p' + 1) * x + (q + q' + 1) * y = b * x := by
    rw [hxy] at k3
    simp only [Int.add_mul, Int.one_mul]
    omega
  rw [hyg] at h2 k2
  have e1 : (b - (p + p' + 1)) * a = (q + q' + 1) * b := by
    have : g * ((b - (p + p' + 1)) * a) = g * ((q + q' + 1) * b) := by
      rw [Int.mul_left_comm g, Int.mul_left_comm g, ← ex, ← ey, Int.sub_mul]
      omega
    exact Int.eq_of_mul_eq_mul_left (by omega) this
  have e2 : b - (p + p' + 1) = b * (u * (q + q' + 1) + v * (b - (p + p' + 1))) := by
    have h1 : (b - (p + p' + 1)) * 1 = (b - (p + p' + 1)) * (u * a + v * b) := by rw [← e]
    rw [Int.mul_one, Int.mul_add, Int.mul_left_comm, e1] at h1
    refine h1.trans ?_
    generalize b - (p + p' + 1) = z
    simp only [Int.mul_add, Int.mul_comm, Int.mul_left_comm]
  generalize hw : u * (q + q' + 1) + v * (b - (p + p' + 1)) = w at e2
  have w0 : w = 0 := by
    rcases Int.lt_trichotomy w 0 with hw | hw | hw
    · have : b * w ≤ b * (-1) := Int.mul_le_mul_of_nonneg_left (by omega) (by omega)
      omega
    · exact hw
    · have : b * 1 ≤ b * w := Int.mul_le_mul_of_nonneg_left (by omega) (by omega)
      omega
  rw [w0, Int.mul_zero] at e2
  rw [e2, Int.zero_mul] at e1
  have : q + q' + 1 = 0 := by
    rcases Int.mul_eq_zero.mp e1.symm with h | h
    · exact h
    · omega
  omega
theorem cut_zero (h : XY x y g) : Cut x y 0 := ⟨0, by omega, by omega, by simp⟩
theorem cut_neg (h : XY x y g) {n : Int} (hn : n < 0) : ¬ Cut x y n := by
  rintro ⟨p, h1, h2, h3⟩
  have := Int.mul_nonneg h1 (Int.le_of_lt h.x0)
  omega
/-- the least p is below y, and at most n / x -/
theorem cut_least (h : XY x y g) {n p : Int} (hp : P x y n p) (hm : ∀ q, 0 ≤ q → q < p → ¬ P x y n q) : p < y ∧ 0 ≤ n ∧ p < n / x + 1 := by
  obtain ⟨h1, h2, h3⟩ := hp
  have hpx := Int.mul_nonneg h1 (Int.le_of_lt h.x0)
  refine ⟨?_, by omega, ?_⟩
  · by_cases hy : p < y
    · exact hy
    · exfalso
      refine hm (p - y) (by omega) (by have := h.y0; omega) ⟨by omega, ?_, ?_⟩
      · have := Int.mul_nonneg (Int.le_of_lt h.y0) (Int.le_of_lt h.x0)
        rw [Int.sub_mul]; omega
      · rw [Int.sub_mul, show n - (p * x - y * x) = n - p * x + y * x by omega, Int.add_mul_emod_self_left]
        exact h3
  · have : p * x ≤ n := by omega
    have := (Int.le_ediv_iff_mul_le h.x0).mpr this
    omega
end
/-! first finds -/
theorem find_some (f : Int → Bool) {n p : Int} (h0 : 0 ≤ p) (h1 : p < n) (hp : f p = true) (hm : ∀ q, 0 ≤ q → q < p → f q = false) : (rgI 0 n).find? f = some p := by
  unfold rgI
  rw [List.find?_map]
  have : (List.range (n - 0).toNat).find? (f ∘ fun (i : Nat) => (0 : Int) + (i : Int)) = some p.toNat := by
    rw [List.find?_range_eq_some]
    refine ⟨?_, by rw [List.mem_range]; omega, fun j hj => ?_⟩
    · show f (0 + (p.toNat : Int)) = true
      rw [show (0 : Int) + (p.toNat : Int) = p by omega]; exact hp
    · show (!f (0 + (j : Int))) = true
      rw [hm _ (by omega) (by omega)]; rfl
  rw [this]
  show some ((0 : Int) + (p.toNat : Int)) = some p
  congr 1
  omega
theorem find_none (f : Int → Bool) {n : Int} (hm : ∀ q, 0 ≤ q → q < n → f q = false) : (rgI 0 n).find? f = none := by
  rw [List.find?_eq_none]
  intro q hq
  rw [mem_rgI] at hq
  rw [hm q hq.1 hq.2]
  exact Bool.false_ne_true
/-- the least cut -/
noncomputable def cutP (x y n : Int) : Option Int := (rgI 0 y).find? fun p => decide (P x y n p)
theorem exists_least {f : Int → Prop} [DecidablePred f] {p : Int} (h0 : 0 ≤ p) (hp : f p) : ∃ q, 0 ≤ q ∧ f q ∧ ∀ r, 0 ≤ r → r < q → ¬ f r := by
  have : ∀ (k : Nat) (p : Int), p.toNat ≤ k → 0 ≤ p → f p → ∃ q, 0 ≤ q ∧ f q ∧ ∀ r, 0 ≤ r → r < q → ¬ f r := by
    intro k
    induction k with
    | zero => intro p hk h0 hp; exact ⟨p, h0, hp, fun r _ _ => by omega⟩
    | succ k ih =>
      intro p hk h0 hp
      by_cases hr : ∃ r, 0 ≤ r ∧ r < p ∧ f r
      · obtain ⟨r, r0, r1, r2⟩ := hr
        exact ih r (by omega) r0 r2
      · exact ⟨p, h0, hp, fun r r0 r1 hf => hr ⟨r, r0, r1, hf⟩⟩
  exact this p.toNat p (Nat.le_refl _) h0 hp
theorem cutP_cases {x y g : Int} (h : XY x y g) (n : Int) : (¬ Cut x y n ∧ cutP x y n = none) ∨ ∃ p, Cut x y n ∧ cutP x y n = some p ∧ P x y n p ∧ (∀ q, 0 ≤ q → q < p → ¬ P x y n q) ∧ p < y ∧ 0 ≤ n ∧ p < n / x + 1 := by
  by_cases hc : Cut x y n
  · obtain ⟨p0, hp0⟩ := hc
    obtain ⟨p, h0, h1, h2⟩ := exists_least (f := P x y n) hp0.1 hp0
    obtain ⟨h3, h4, h5⟩ := cut_least h h1 h2
    exact .inr ⟨p, ⟨p, h1⟩, find_some _ h0 h3 (decide_eq_true h1) fun q q0 q1 => decide_eq_false (h2 q q0 q1), h1, h2, h3, h4, h5⟩
  · exact .inl ⟨hc, find_none _ fun q q0 q1 => decide_eq_false fun hq => hc ⟨q, hq⟩⟩
theorem cutP_iff {x y g : Int} (h : XY x y g) (n : Int) : (cutP x y n).isSome = true ↔ Cut x y n := by
  rcases cutP_cases h n with ⟨h1, h2⟩ | ⟨p, h1, h2, _⟩
  · rw [h2]; simp [h1]
  · rw [h2]; simp [h1]
/-! how many are uncut -/
theorem count_half (C : Nat) (f : Nat → Bool) (h : ∀ i, i < C → f (C - 1 - i) = !f i) : 2 * ((List.range C).filter f).length = C := by
  have e1 : ((List.range C).filter f).length = ((List.range C).filter fun i => !f i).length := by
    have h2 : ((List.range C).reverse.filter f).length = ((List.range C).filter f).length := by rw [List.filter_reverse, List.length_reverse]
    rw [← h2]
    have h3 : (List.range C).reverse = (List.range C).map fun i => C - 1 - i := by
      rw [List.range_eq_range', List.reverse_range']
      rw [List.range_eq_range']
      refine List.map_congr_left fun i hi => by omega
    rw [h3, List.filter_map, List.length_map]
    congr 1
    refine List.filter_congr fun i hi => ?_
    exact h i (List.mem_range.mp hi)
  have e2 : ((List.range C).filter f).length + ((List.range C).filter fun i => !f i).length = C := by
    have key : ∀ xs : List Nat, (xs.filter f).length + (xs.filter fun i => !f i).length = xs.length := by
      intro xs
      induction xs with
      | nil => rfl
      | cons x xs ih => cases hx : f x <;> simp [hx] <;> omega
    have := key (List.range C)
    rwa [List.length_range] at this
  omega
end LK
end

section
set_option Elab.async false
set_option maxRecDepth 100000
namespace LK
open PySem EL

theorem cell_ok (ns : List Int) (k : Int) (h0 : 0 ≤ k) (h1 : k ≤ 1000) : ∃ c : Int, R_f_law_cell [.scr ns, .int k] = some (.int c) := by
  unfold R_f_law_cell
  rw [runF_a]
  unfold F_f_law_cell
  by_cases h : k < ns.length
  · refine ⟨ns.getD k.toNat 0, ?_⟩
    have e : L2.atI ns k = some (ns.getD k.toNat 0) := by
      rw [atI_ok h0 (by omega)]
      simp [List.getD, show k.toNat < ns.length by omega]
    simp [h, gIx_s, e]
  · refine ⟨5 * k + 3, ?_⟩
    simp [h, cMul_l]

theorem draws_ok (c n : Int) (h0 : 0 ≤ n) (h1 : n ≤ 1000) : ∃ ds : List Int, R_f_law_draws [.int c, .int n] = some (.lst (ds.map .int)) ∧ ds.length = n.toNat ∧ ∀ x ∈ ds, 0 ≤ x ∧ x < 5040 := by
  have body : ∀ (rest seed : Int) (dg : Bool) (ks : List Int), 0 ≤ rest → ks.length ≤ 1000 → ∃ fl, forGo (hName 6) [false, false, true, true, true, true, false, false]
      (sIf (fAnd (fTru (fV 3)) (fCmp (gII bGt) (fV 2) (fC (.int 0)))) (sSeq (sMut 5 gAppend (fAc (f2 (gI cMod Int.fmod) (fN gInt (fAc (fV 2) fA0)) (fC (.int 5040))) fA0))
  (sSet 2 (f2 (gI cDiv Int.fdiv) (fV 2) (fC (.int 5040))))) (sSeq (sSet 7 (f2 (gI cMod Int.fmod) (fN gInt (fAc (f2 gAdd (f2 gAdd (f2 gMul (fV 4) (fC (.int 48271))) (f2 gMul (f2 gAdd (fV 6) (fC (.int 1))) (fC (.int 69621)))) (fC (.int 11))) fA0)) (fC (.int 2147483647))))
  (sSeq (sSet 7 (f2 (gI cMod Int.fmod) (fN gInt (fAc (f2 gAdd (f2 gMul (fV 7) (fV 7)) (f2 gMul (fC (.int 40692)) (f2 gAdd (fV 6) (fC (.int 3))))) fA0)) (fC (.int 2147483399))))
  (sMut 5 gAppend (fAc (f2 (gI cMod Int.fmod) (fN gInt (fAc (f2 (gI cDiv Int.fdiv) (fV 7) (fC (.int 64))) fA0)) (fC (.int 5040))) fA0)))))
      (ks.map Dt.int) [.un, .un, .im (.int rest), .im (.bl dg), .im (.int seed), .ow [], .un, .un] = some fl ∧
      ∃ (r : Int) (ds : List Int), fl = .nx [.un, .un, .im (.int r), .im (.bl dg), .im (.int seed), .ow (ds.map .int), .un, .un] ∧ ds.length = ks.length ∧ ∀ x ∈ ds, 0 ≤ x ∧ x < 5040 := by
    intro rest seed dg ks hr hk
    refine for_inv (fun rem ρ => ∃ (r : Int) (ds js : List Int), rem = js.map Dt.int ∧ ρ = [.un, .un, .im (.int r), .im (.bl dg), .im (.int seed), .ow (ds.map .int), .un, .un] ∧ 0 ≤ r ∧ ds.length + js.length = ks.length ∧ ∀ x ∈ ds, 0 ≤ x ∧ x < 5040)
      _ (fun d rem ρ h => ?_) (fun ρ h => ?_) _ _ ⟨rest, [], ks, rfl, rfl, hr, by simp, by simp⟩
    · obtain ⟨r, ds, js, e1, rfl, h2, h3, h4⟩ := h
      cases js with
      | nil => simp at e1
      | cons j js =>
        simp only [List.map_cons, List.cons.injEq] at e1
        obtain ⟨rfl, rfl⟩ := e1
        have hlen : ds.length < sizeLine := size_gt (by simp at h3; omega)
        have m1 : ∀ x : Int, 0 ≤ x.fmod 5040 ∧ x.fmod 5040 < 5040 := fun x => ⟨Int.fmod_nonneg_of_pos x (by omega), Int.fmod_lt_of_pos x (by omega)⟩
        by_cases hc : dg = true ∧ 0 < r
        · obtain ⟨rfl, hr0⟩ := hc
          refine ⟨.nx [.un, .un, .im (.int (r.fdiv 5040)), .im (.bl true), .im (.int seed), .ow ((ds ++ [r.fmod 5040]).map .int), .un, .un], ?_, r.fdiv 5040, ds ++ [r.fmod 5040], js, rfl, rfl, ?_, ?_, ?_⟩
          · simp [turn, hr0, cMod_of, cDiv_of, hlen]
          · rw [Int.fdiv_eq_ediv_of_nonneg _ (by omega)]; omega
          · simp at h3 ⊢; omega
          · intro x hx
            rcases List.mem_append.mp hx with hx | hx
            · exact h4 x hx
            · rw [List.mem_singleton.mp hx]; exact m1 r
        · have hc' : (dg && decide (0 < r)) = false := by
            cases dg <;> simp_all
          generalize hm1 : (seed * 48271 + (j + 1) * 69621 + 11).fmod 2147483647 = a1
          have ha1 : 0 ≤ a1 ∧ a1 < 2147483647 := by rw [← hm1]; exact ⟨Int.fmod_nonneg_of_pos _ (by omega), Int.fmod_lt_of_pos _ (by omega)⟩
          generalize hm2 : (a1 * a1 + 40692 * (j + 3)).fmod 2147483399 = a2
          refine ⟨.nx [.un, .un, .im (.int r), .im (.bl dg), .im (.int seed), .ow ((ds ++ [(a2.fdiv 64).fmod 5040]).map .int), .un, .un], ?_, r, ds ++ [(a2.fdiv 64).fmod 5040], js, rfl, rfl, h2, ?_, ?_⟩
          · have h5 : (if dg = true then some (decide (0 < r)) else some false) = some false := by
              cases dg <;> simp_all
            simp [turn, h5, cMod_of, cDiv_of, hlen, cMul_r, cMul_l, hm1, hm2, cMul_l (show -1000000000000000000 ≤ a1 by omega) (show a1 ≤ 1000000000000000000 by omega)]
          · simp at h3 ⊢; omega
          · intro x hx
            rcases List.mem_append.mp hx with hx | hx
            · exact h4 x hx
            · rw [List.mem_singleton.mp hx]; exact m1 _
    · obtain ⟨r, ds, js, e1, rfl, h2, h3, h4⟩ := h
      have : js = [] := by simpa using e1.symm
      subst this
      exact ⟨r, ds, rfl, by simpa using h3, h4⟩
  unfold R_f_law_draws
  rw [runF_a]
  unfold F_f_law_draws
  have hp : cPow 10 18 = true := by decide
  have hge : 0 ≤ (if c < 0 then -c else c) := by split <;> omega
  obtain ⟨fl, e1, r, ds, rfl, h5, h6⟩ := body (if c < 0 then -c else c) (if c < 0 then -c else c) (decide (10 ^ 18 ≤ (if c < 0 then -c else c))) (rgI 0 n) hge (by rw [rgI_length]; omega)
  refine ⟨ds, ?_, by rw [h5, rgI_length]; omega, h6⟩
  simp [hp, rng1_of (show -1000000000 ≤ n by omega) (show n ≤ 1000000000 by omega)]
  simp at e1
  rw [e1]
  simp [frz]
theorem isinteger_i (i : Int) : R_f_law_is_integer [.int i] = some (.bl true) := by
  unfold R_f_law_is_integer
  rw [runF_a]
  unfold F_f_law_is_integer
  have h1 : isiB (Dt.int i).ty "int" = true := by simp only [Dt.ty]; decide
  have h2 : isiB (Dt.int i).ty "bool" = false := by simp only [Dt.ty]; decide
  simp [h1, h2]
theorem is_non (k : Nat) : Rn_f_law_is (k + 1) [.non, .non] = some (.bl true) := by
  show runF 3 (F_f_law_is _) _ = _
  rw [runF_a]
  unfold F_f_law_is
  simp
theorem is_int (k : Nat) (i : Int) : Rn_f_law_is (k + 1) [.int i, .int i] = some (.bl true) := by
  show runF 3 (F_f_law_is _) _ = _
  rw [runF_a]
  unfold F_f_law_is
  have h1 : isiB (Dt.int i).ty "int" = true := by simp only [Dt.ty]; decide
  have h2 : isiB (Dt.int i).ty "bool" = false := by simp only [Dt.ty]; decide
  simp [h1, h2, isinteger_i]
theorem is_bl (k : Nat) (i : Bool) : Rn_f_law_is (k + 1) [.bl i, .bl i] = some (.bl true) := by
  show runF 3 (F_f_law_is _) _ = _
  rw [runF_a]
  unfold F_f_law_is
  have h2 : isiB (Dt.bl i).ty "bool" = true := by simp only [Dt.ty]; decide
  simp [h2]
theorem is_tup (k : Nat) (ds : List Dt) (hn : ds.length ≤ 1000) (h : ∀ d ∈ ds, Rn_f_law_is k [d, d] = some (.bl true)) : Rn_f_law_is (k + 1) [.tup ds, .tup ds] = some (.bl true) := by
  show runF 3 (F_f_law_is _) _ = _
  rw [runF_a]
  unfold F_f_law_is
  have h1 : isiB (Dt.tup ds).ty "bool" = false := by simp only [Dt.ty]; decide
  have h2 : isiB (Dt.tup ds).ty "int" = false := by simp only [Dt.ty]; decide
  have h3 : isiB (Dt.tup ds).ty "str" = false := by simp only [Dt.ty]; decide
  have h4 : isiB (Dt.tup ds).ty "tuple" = true := by simp only [Dt.ty]; decide
  have h5 : compGo [.im (.tup ds), .im (.tup ds), .un] (hName 2) fYes (fFn 2 (Rn_f_law_is k) (fAc (f2 gIx (fV 0) (fV 2)) (fAc (f2 gIx (fV 1) (fV 2)) fA0))) ((rgI 0 ds.length).map Dt.int) = some ((rgI 0 ds.length).map fun _ => Dt.bl true) := by
    refine comp_all Dt.int (fun _ => Dt.bl true) _ fun x hx => ⟨_, rfl, rfl, ?_⟩
    rw [mem_rgI] at hx
    simp
    rw [atI_ok hx.1 (by omega)]
    simp
    exact h _ (List.getElem_mem _)
  have h6 : (rgI 0 ds.length).map (fun _ => Dt.bl true) = ((rgI 0 ds.length).map (fun _ => true)).map Dt.bl := by rw [List.map_map]; rfl
  rw [sSeq_nx (ρ' := [.im (.tup ds), .im (.tup ds), .un]) (by simp)]
  rw [sSeq_nx (ρ' := [.im (.tup ds), .im (.tup ds), .un]) (by simp [h1])]
  rw [sSeq_nx (ρ' := [.im (.tup ds), .im (.tup ds), .un]) (by simp [h2])]
  rw [sSeq_nx (ρ' := [.im (.tup ds), .im (.tup ds), .un]) (by simp [h3])]
  rw [sSeq_nx (ρ' := [.im (.tup ds), .im (.tup ds), .un]) (by simp [h4])]
  have h9 : ∀ g : FnL, g [.im (.tup ds), .im (.tup ds), .un] = some ((rgI 0 ds.length).map fun _ => Dt.bl true) → (sRet (fN gAll (fAc (fLst g) fA0)) [.im (.tup ds), .im (.tup ds), .un]).bind endOf = some (.bl true) := by
    intro g hg
    simp only [sRet_a, fN_a, fAc_a, fLst_a, fA0_a, hg, Option.bind_some, h6, gAll_l]
    simp
  refine h9 _ ?_
  refine fComp_of (ds := (rgI 0 ds.length).map Dt.int) ?_ rfl (by rw [List.length_map, rgI_length]; omega) h5
  simp [rng1_of (show (-1000000000 : Int) ≤ ds.length by omega) (show (ds.length : Int) ≤ 1000000000 by omega)]
end LK
end

section
set_option Elab.async false
set_option maxRecDepth 100000
namespace LK
open PySem EL
theorem fmp (a : Int) {b : Int} (h : 0 < b) : Int.fmod a b = a % b := Int.fmod_eq_emod_of_nonneg _ (by omega)
theorem fdp (a : Int) {b : Int} (h : 0 < b) : Int.fdiv a b = a / b := Int.fdiv_eq_ediv_of_nonneg _ (by omega)
/-- the cut as told -/
noncomputable def cutD (x y n : Int) : Dt := match cutP x y n with | some p => .tup [.int p, .int ((n - p * x) / y)] | none => .non
theorem told_ok {x y g : Int} (h : XY x y g) (n : Int) : R_told_cut [.int x, .int y, .int n] = some (cutD x y n) := by
  unfold R_told_cut
  rw [runF_a]
  unfold F_told_cut
  have hf := for_find (gf := (hName 3)) (mk := [true, true, true, false, false]) (F := (sSeq (sSet 4 (f2 gMinus (fV 2) (f2 gMul (fV 3) (fV 0))))
  (sIf (fAnd (fCmp (gII bGe) (fV 4) (fC (.int 0))) (fCmp gEq (f2 (gI cMod Int.fmod) (fV 4) (fV 1)) (fC (.int 0)))) (sRet (fTup (fAc (fV 3) (fAc (f2 (gI cDiv Int.fdiv) (fV 4) (fV 1)) fA0)))) sNil))) Dt.int [.im (.int x), .im (.int y), .im (.int n), .un, .un] (fun p => decide (P x y n p)) (fun p => .tup [.int p, .int ((n - p * x) / y)]) (rgI 0 y) (fun p hp => by
    rw [mem_rgI] at hp
    have hx := h.x0; have hy := h.y0; have hx3 := h.x30; have hy3 := h.y30
    have m1 : cMul p x = true := cMul_r (by omega) (by omega)
    have m2 : cMod (n - p * x) y = true := cMod_of (by omega)
    have m3 : cDiv (n - p * x) y = true := cDiv_of (by omega) (by omega) (by omega)
    by_cases hP : P x y n p
    · obtain ⟨h1, h2, h3⟩ := id hP
      have h2' : p * x ≤ n := by omega
      simp [turn, m1, m2, m3, hP, h2', h2, h3, fmp _ hy, fdp _ hy]
    · have h4 : ¬ (0 ≤ n - p * x ∧ (n - p * x) % y = 0) := fun h => hP ⟨hp.1, h.1, h.2⟩
      by_cases h2 : 0 ≤ n - p * x
      · have h3 : ¬ (n - p * x) % y = 0 := fun h3 => h4 ⟨h2, h3⟩
        have h2' : p * x ≤ n := by omega
        simp [turn, m1, m2, hP, h2', h2, h3, fmp _ hy]
      · have h2' : ¬ p * x ≤ n := by omega
        simp [turn, m1, hP, h2', h2])
  have hr : (fNL gRng1 (fAc (fV 1) fA0)) [.im (.int x), .im (.int y), .im (.int n), .un, .un] = some ((rgI 0 y).map Dt.int) := by
    simp [rng1_of (show (-1000000000 : Int) ≤ y by have := h.y0; omega) (show y ≤ 1000000000 by have := h.y30; omega)]
  show Option.bind (sSeq _ _ [.im (.int x), .im (.int y), .im (.int n), .un, .un]) endOf = _
  rw [sSeq_a, sFor_a, hr, Option.bind_some]
  simp only [clr_t, clr_f, clr_n]
  rw [hf]
  unfold cutD cutP
  cases (rgI 0 y).find? fun p => decide (P x y n p) <;> simp
theorem lcut_ok {x y g : Int} (h : XY x y g) (n : Int) (hn : n ≤ 1000000) : R_f_law_cut [.int x, .int y, .int n] = some (cutD x y n) := by
  unfold R_f_law_cut
  rw [runF_a]
  unfold F_f_law_cut
  have hx := h.x0; have hy := h.y0; have hx3 := h.x30; have hy3 := h.y30
  generalize hN : (if n > 0 then n else 0) / x + 1 = N
  have hN0 : 0 ≤ (if n > 0 then n else 0) := by split <;> omega
  have hN1 : (if n > 0 then n else 0) ≤ 1000000 := by split <;> omega
  have hN2 : (if n > 0 then n else 0) / x ≤ (if n > 0 then n else 0) := Int.ediv_le_self _ hN0
  have hN3 : 0 ≤ (if n > 0 then n else 0) / x := Int.ediv_nonneg hN0 (by omega)
  have hf := for_find (gf := (hName 3)) (mk := [true, true, true, false]) (F := (sIf (fAnd (fCmp (gII bGe) (fV 2) (fC (.int 0))) (fCmp gEq (f2 (gI cMod Int.fmod) (f2 gMinus (fV 2) (f2 gMul (fV 3) (fV 0))) (fV 1)) (fC (.int 0)))) (sRet (fTup (fAc (fV 3) (fAc (f2 (gI cDiv Int.fdiv) (f2 gMinus (fV 2) (f2 gMul (fV 3) (fV 0))) (fV 1)) fA0)))) sNil)) Dt.int [.im (.int x), .im (.int y), .im (.int n), .un] (fun p => decide (P x y n p)) (fun p => .tup [.int p, .int ((n - p * x) / y)]) (rgI 0 N) (fun p hp => by
    rw [mem_rgI] at hp
    have m1 : cMul p x = true := cMul_r (by omega) (by omega)
    have m2 : cMod (n - p * x) y = true := cMod_of (by omega)
    have m3 : cDiv (n - p * x) y = true := cDiv_of (by omega) (by omega) (by omega)
    by_cases hn0 : 0 ≤ n
    · have hpx : p * x ≤ n := by
        have h5 : p ≤ n / x := by
          by_cases hz : n > 0
          · rw [if_pos hz] at hN; omega
          · have hz0 : n = 0 := by omega
            subst hz0
            simp at hN
            simp
            omega
        exact (Int.le_ediv_iff_mul_le hx).mp h5
      have h2 : 0 ≤ n - p * x := by omega
      by_cases h3 : (n - p * x) % y = 0
      · have hP : P x y n p := ⟨hp.1, h2, h3⟩
        simp [turn, m1, m2, m3, hP, hn0, h3, fmp _ hy, fdp _ hy]
      · have hP : ¬ P x y n p := fun hP => h3 hP.2.2
        simp [turn, m1, m2, m3, hP, hn0, h3, fmp _ hy, fdp _ hy]
    · have hP : ¬ P x y n p := fun hP => by
        have := Int.mul_nonneg hP.1 (Int.le_of_lt hx)
        have := hP.2.1
        omega
      simp [turn, hP, hn0])
  have hr : (fNL gRng1 (fAc (f2 gAdd (f2 (gI cDiv Int.fdiv) (fN gMax2 (fAc (fC (.int 0)) (fAc (fV 2) fA0))) (fV 0)) (fC (.int 1))) fA0)) [.im (.int x), .im (.int y), .im (.int n), .un] = some ((rgI 0 N).map Dt.int) := by
    have hd : cDiv (if n > 0 then n else 0) x = true := cDiv_of (by omega) (by omega) (by omega)
    have hgm : gMax2 [.int 0, .int n] = some (.int (if n > 0 then n else 0)) := rfl
    simp only [fNL_a, fAc_a, f2_a, fN_a, fC_a, fV_a, getS_z, getS_s, fA0_a, Option.bind_some, hgm, gI_i, hd, if_true, gAdd_i, fdp _ hx, hN]
    rw [rng1_of (by omega) (by omega)]
  show Option.bind (sSeq _ _ [.im (.int x), .im (.int y), .im (.int n), .un]) endOf = _
  rw [sSeq_a, sFor_a, hr, Option.bind_some]
  simp only [clr_t, clr_f, clr_n]
  rw [hf]
  unfold cutD
  have hsame : (rgI 0 N).find? (fun p => decide (P x y n p)) = cutP x y n := by
    rcases cutP_cases h n with ⟨h1, h2⟩ | ⟨p, h1, h2, h3, h4, h5, h6, h7⟩
    · rw [h2]
      exact find_none _ fun q _ _ => decide_eq_false fun hq => h1 ⟨q, hq⟩
    · rw [h2]
      refine find_some _ h3.1 ?_ (decide_eq_true h3) fun q q0 q1 => decide_eq_false (h4 q q0 q1)
      rw [← hN]
      by_cases hz : n > 0
      · rw [if_pos hz]; exact h7
      · have hz0 : n = 0 := by omega
        subst hz0
        simpa using h7
  rw [hsame]
  cases cutP x y n <;> simp
theorem div_ok {x y g : Int} (h : XY x y g) : R_f_law_divisor [.int x, .int y] = some (.int g) := by
  have hx := h.x0; have hy := h.y0; have hx3 := h.x30; have hy3 := h.y30
  obtain ⟨a, b, g0, a0, b0, ex, ey, _, u, v, e⟩ := h.parts
  unfold R_f_law_divisor
  rw [runF_a]
  unfold F_f_law_divisor
  generalize hm : (if y < x then y else x) = m
  have hm2 : m ≤ 30 ∧ m ≤ x ∧ m ≤ y ∧ 0 < m := by rw [← hm]; split <;> omega
  have hc : ∀ (fi : FnL) (ft : FnB) (fe : Fn), True := fun _ _ _ => trivial
  have hcomp : fComp (fNL gRng2 (fAc (fC (.int 1)) (fAc (f2 gAdd (fN gMin2 (fAc (fV 0) (fAc (fV 1) fA0))) (fC (.int 1))) fA0))) (hName 2) (fAnd (fCmp gEq (f2 (gI cMod Int.fmod) (fV 0) (fV 2)) (fC (.int 0))) (fCmp gEq (f2 (gI cMod Int.fmod) (fV 1) (fV 2)) (fC (.int 0)))) (fV 2) [2] [.im (.int x), .im (.int y), .un]
      = some (((rgI 1 (m + 1)).filter fun d => decide (x % d = 0 ∧ y % d = 0)).map Dt.int) := by
    refine fComp_of (ds := (rgI 1 (m + 1)).map Dt.int) ?_ rfl (by rw [List.length_map, rgI_length]; omega) ?_
    · have hgm : gMin2 [.int x, .int y] = some (.int m) := by rw [← hm]; rfl
      simp only [fNL_a, fAc_a, f2_a, fN_a, fC_a, fV_a, getS_z, getS_s, fA0_a, Option.bind_some, hgm, gAdd_i]
      rw [rng2_of (by omega) (by omega) (by omega) (by omega)]
    · refine comp_map Dt.int _ _ _ fun d hd => ⟨_, rfl, ?_, fun _ => rfl⟩
      rw [mem_rgI] at hd
      have m1 : cMod x d = true := cMod_of (by omega)
      have m2 : cMod y d = true := cMod_of (by omega)
      by_cases h1 : x % d = 0 <;> simp [m1, m2, fmp _ (show 0 < d by omega), h1]
  have hmax : gMaxL [.lst (((rgI 1 (m + 1)).filter fun d => decide (x % d = 0 ∧ y % d = 0)).map Dt.int)] = some (.int g) := by
    show ((ints? _).bind fun ns => (maxL ns).bind fun k => some (Dt.int k)) = _
    rw [ints?_map, Option.bind_some]
    have hmem : g ∈ (rgI 1 (m + 1)).filter fun d => decide (x % d = 0 ∧ y % d = 0) := by
      rw [List.mem_filter, mem_rgI]
      have gx : g ≤ x := Int.le_of_dvd hx ⟨a, ex⟩
      have gy : g ≤ y := Int.le_of_dvd hy ⟨b, ey⟩
      have gm : g ≤ m := by rw [← hm]; split <;> omega
      exact ⟨⟨by omega, by omega⟩, decide_eq_true ⟨Int.emod_eq_zero_of_dvd ⟨a, ex⟩, Int.emod_eq_zero_of_dvd ⟨b, ey⟩⟩⟩
    have hle : ∀ d, d ∈ ((rgI 1 (m + 1)).filter fun d => decide (x % d = 0 ∧ y % d = 0)) → d ≤ g := by
      intro d hd
      rw [List.mem_filter] at hd
      obtain ⟨d1, d2⟩ := of_decide_eq_true hd.2
      obtain ⟨s, es⟩ := Int.dvd_of_emod_eq_zero d1
      obtain ⟨t, et⟩ := Int.dvd_of_emod_eq_zero d2
      refine Int.le_of_dvd g0 ⟨u * s + v * t, ?_⟩
      have : g * 1 = g * (u * a + v * b) := by rw [← e]
      rw [Int.mul_one, Int.mul_add, Int.mul_left_comm, Int.mul_left_comm g v, ← ex, ← ey, es, et] at this
      rw [this]
      simp only [Int.mul_add, Int.mul_comm, Int.mul_left_comm]
    cases hk : maxL ((rgI 1 (m + 1)).filter fun d => decide (x % d = 0 ∧ y % d = 0)) with
    | none =>
      generalize (rgI 1 (m + 1)).filter (fun d => decide (x % d = 0 ∧ y % d = 0)) = L at hk hmem
      cases L with
      | nil => cases hmem
      | cons _ _ => cases hk
    | some k =>
      rw [maxL_is hk hmem hle]; rfl
  show Option.bind (sRet _ [.im (.int x), .im (.int y), .un]) endOf = _
  rw [sRet_a, fN_a, fAc_a, fLst_a, hcomp]
  simp only [Option.bind_some, fA0_a, hmax, endOf_rt]
theorem mirror_ok {x y g : Int} (h : XY x y g) (n : Int) : R_cut_mirror [.int x, .int y, .int n] = some (.int (x * y / g - x - y - n)) := by
  have hx := h.x0; have hy := h.y0; have hx3 := h.x30; have hy3 := h.y30
  obtain ⟨a, b, g0, a0, b0, ex, ey, g3, u, v, e⟩ := h.parts
  unfold R_cut_mirror
  rw [runF_a]
  unfold F_cut_mirror
  have m1 : cMul x y = true := cMul_r (by omega) (by omega)
  have m2 : cDiv (x * y) g = true := cDiv_of (by omega) (by omega) (by omega)
  have hg := h.eg
  show Option.bind (sRet _ [.im (.int x), .im (.int y), .im (.int n)]) endOf = _
  simp [m1, ← hg, m2, fdp _ g0]
theorem most_ok {x y g : Int} (h : XY x y g) : R_most_uncut [.int x, .int y] = some (.int (x * y / g - x - y)) := by
  unfold R_most_uncut
  rw [runF_a]
  unfold F_most_uncut
  show Option.bind (sRet _ [.im (.int x), .im (.int y)]) endOf = _
  simp [mirror_ok h]
theorem count_ok {x y g : Int} (h : XY x y g) : R_count_uncut [.int x, .int y] = some (.int ((x / g - 1) * (y / g - 1) / 2)) := by
  have hx := h.x0; have hy := h.y0; have hx3 := h.x30; have hy3 := h.y30
  obtain ⟨a, b, g0, a0, b0, ex, ey, g3, u, v, e⟩ := h.parts
  unfold R_count_uncut
  rw [runF_a]
  unfold F_count_uncut
  have hyg : y / g = b := by rw [ey]; exact Int.mul_ediv_cancel_left _ (by omega)
  have hxg : x / g = a := by rw [ex]; exact Int.mul_ediv_cancel_left _ (by omega)
  have hb30 : b ≤ 30 := Int.le_trans (Int.le_of_dvd hy ⟨g, by rw [Int.mul_comm]; exact ey⟩) hy3
  have m1 : cMul (a - 1) (b - 1) = true := cMul_r (by omega) (by omega)
  have m2 : cDiv x g = true := cDiv_of (by omega) (by omega) (by omega)
  have m3 : cDiv y g = true := cDiv_of (by omega) (by omega) (by omega)
  have m4 : cDiv ((a - 1) * (b - 1)) 2 = true := cDiv_of (by omega) (by omega) (by omega)
  have hg := h.eg
  show Option.bind (sSeq _ _ [.im (.int x), .im (.int y), .un]) endOf = _
  simp [← hg, m2, m3, fdp _ g0, hxg, hyg, m1, m4, fdp _ (show (0 : Int) < 2 by omega)]
end LK
end

section
set_option Elab.async false
set_option maxRecDepth 100000
namespace LK
open PySem EL
open PySem.W (AlikeAll dataLt alike alikeAll)
theorem nm (a b : Nat) : Int.fmod (a : Int) (b : Int) = ((a % b : Nat) : Int) := by
  rw [Int.fmod_eq_emod_of_nonneg _ (Int.natCast_nonneg b)]; exact (Int.natCast_emod a b).symm
theorem nq (a b : Nat) : Int.fdiv (a : Int) (b : Int) = ((a / b : Nat) : Int) := by
  rw [Int.fdiv_eq_ediv_of_nonneg _ (Int.natCast_nonneg b)]; exact (Int.natCast_ediv a b).symm
/-- a list of draws -/
abbrev dl (dn : List Nat) : List Dt := dn.map fun (d : Nat) => .int d
theorem dl_at {dn : List Nat} (i : Int) (h0 : 0 ≤ i) (h : i < dn.length) : L2.atI (dl dn) i = some (.int (dn.getD i.toNat 0 : Nat)) := by
  unfold dl
  rw [atI_mapf _ h0 (by omega)]
  simp [List.getD, show i.toNat < dn.length by omega]
theorem gAdd_tt {xs ys : List Dt} (h1 : xs.length ≤ 4000) (h2 : ys.length ≤ 4000) : gAdd (.tup xs) (.tup ys) = some (.tup (xs ++ ys)) := by
  show (if xs.length + ys.length ≤ sizeLine then some (Dt.tup (xs ++ ys)) else none) = _
  rw [if_pos (size_ge (by omega))]
theorem gAdd_ll {xs ys : List Dt} (h1 : xs.length ≤ 4000) (h2 : ys.length ≤ 4000) : gAdd (.lst xs) (.lst ys) = some (.lst (xs ++ ys)) := by
  show (if xs.length + ys.length ≤ sizeLine then some (Dt.lst (xs ++ ys)) else none) = _
  rw [if_pos (size_ge (by omega))]
theorem mem_cutL {α : Type} {xs : List α} {lo hi : Option Int} {x : α} (h : x ∈ cutL xs lo hi) : x ∈ xs := by
  unfold cutL at h
  exact List.mem_of_mem_drop (List.mem_of_mem_take h)
theorem pickodd (a : Int) (x : Nat) : ∃ o : Int, L2.atI [.int a, .int (100000000000000000000), .int (-1)] ((x % 14 / 6 : Nat) : Int) = some (Dt.int o) := by
  have h : x % 14 / 6 = 0 ∨ x % 14 / 6 = 1 ∨ x % 14 / 6 = 2 := by omega
  rcases h with h | h | h <;> rw [h]
  · exact ⟨_, rfl⟩
  · exact ⟨_, rfl⟩
  · exact ⟨_, rfl⟩
theorem bent_ok (row : List Dt) (hrow : row.length ≤ 1000) (dn : List Nat) (hd : dn.length = 3) (most : Nat) (hm : most ≤ 1000000) :
    ∃ l' : List Dt, R_f_law_bent [.tup row, .lst (dl dn), .int most] = some (.tup l') ∧ (∀ d ∈ l', d ∈ row ∨ ∃ i, d = .int i) ∧ l'.length ≤ 2 * row.length + 1 := by
  unfold R_f_law_bent
  rw [runF_a]
  unfold F_f_law_bent
  have a0 := dl_at (dn := dn) 0 (by omega) (by omega)
  have a1 := dl_at (dn := dn) 1 (by omega) (by omega)
  have a2 := dl_at (dn := dn) 2 (by omega) (by omega)
  generalize dn.getD (0 : Int).toNat 0 = x0 at a0
  generalize dn.getD (1 : Int).toNat 0 = x1 at a1
  generalize dn.getD (2 : Int).toNat 0 = x2 at a2
  have m0 : cMod x0 6 = true := cMod_of (by omega)
  have m1 : cMod x1 ((row.length : Int) + 1) = true := cMod_of (by omega)
  have m2 : cMod x2 ((most : Int) + 3) = true := cMod_of (by omega)
  have m3 : cDiv x2 60 = true := cDiv_of (by omega) (by omega) (by omega)
  have m4 : cMod ((x2 / 60 : Nat) : Int) 14 = true := cMod_of (by omega)
  have m5 : cDiv ((x2 / 60 % 14 : Nat) : Int) 6 = true := cDiv_of (by omega) (by omega) (by omega)
  have f0 : Int.fmod (x0 : Int) 6 = ((x0 % 6 : Nat) : Int) := nm x0 6
  have f1 : Int.fmod (x1 : Int) ((row.length : Int) + 1) = ((x1 % (row.length + 1) : Nat) : Int) := nm x1 (row.length + 1)
  have f3 : Int.fdiv (x2 : Int) 60 = ((x2 / 60 : Nat) : Int) := nq x2 60
  have f4 : Int.fmod ((x2 / 60 : Nat) : Int) 14 = ((x2 / 60 % 14 : Nat) : Int) := nm _ 14
  have f5 : Int.fdiv ((x2 / 60 % 14 : Nat) : Int) 6 = ((x2 / 60 % 14 / 6 : Nat) : Int) := nq _ 6
  obtain ⟨o, eo⟩ := pickodd (Int.fmod x2 ((most : Int) + 3) - 1) (x2 / 60)
  have hp : cPow 10 20 = true := by decide
  generalize hw : x0 % 6 = w at f0
  generalize ha : x1 % (row.length + 1) = at' at f1
  show ∃ l', Option.bind (sSeq _ _ [.im (.tup row), .im (.lst (dl dn)), .im (.int most), .un, .un, .un]) endOf = _ ∧ _
  rw [sSeq_nx (ρ' := [.im (.tup row), .im (.lst (dl dn)), .im (.int most), .im (.int w), .un, .un]) (by simp [a0, m0, f0, -Int.natCast_emod])]
  rw [sSeq_nx (ρ' := [.im (.tup row), .im (.lst (dl dn)), .im (.int most), .im (.int w), .im (.int at'), .un]) (by simp [a1, m1, f1, -Int.natCast_emod])]
  rw [sSeq_nx (ρ' := [.im (.tup row), .im (.lst (dl dn)), .im (.int most), .im (.int w), .im (.int at'), .im (.int o)]) (by simp [a2, m2, m3, m4, m5, f3, f4, f5, hp, eo, -atI_c0, -atI_c1, -atI_c2, -Int.natCast_emod, -Int.natCast_ediv])]
  have hc : ∀ i j, (cutL row i j).length ≤ 1000 := fun i j => Nat.le_trans (cutL_length row i j) hrow
  have hc2 : ∀ i j, (cutL row i j).length ≤ row.length := fun i j => cutL_length row i j
  have ad1 : ∀ i j i' j', gAdd (.tup (cutL row i j)) (.tup (cutL row i' j')) = some (.tup (cutL row i j ++ cutL row i' j')) := fun i j i' j' => gAdd_tt (by have := hc i j; omega) (by have := hc i' j'; omega)
  have ad2 : ∀ i j (d : Dt), gAdd (.tup (cutL row i j)) (.tup [d]) = some (.tup (cutL row i j ++ [d])) := fun i j d => gAdd_tt (by have := hc i j; omega) (by simp)
  have ad3 : ∀ i j (d : Dt) i' j', gAdd (.tup (cutL row i j ++ [d])) (.tup (cutL row i' j')) = some (.tup (cutL row i j ++ [d] ++ cutL row i' j')) := fun i j d i' j' => gAdd_tt (by have := hc i j; simp; omega) (by have := hc i' j'; omega)
  have mm1 : ∀ i j i' j', ∀ d ∈ cutL row i j ++ cutL row i' j', d ∈ row ∨ ∃ i, d = Dt.int i := fun i j i' j' d hd => by
    rcases List.mem_append.mp hd with h | h <;> exact .inl (mem_cutL h)
  have mm2 : ∀ i j i' j', ∀ d ∈ cutL row i j ++ [.int o] ++ cutL row i' j', d ∈ row ∨ ∃ i, d = Dt.int i := fun i j i' j' d hd => by
    rcases List.mem_append.mp hd with h | h
    · rcases List.mem_append.mp h with h | h
      · exact .inl (mem_cutL h)
      · exact .inr ⟨o, List.mem_singleton.mp h⟩
    · exact .inl (mem_cutL h)
  by_cases h0 : w = 0
  · refine ⟨_, ?_, mm1 none (some (at' : Int)) (some ((at' : Int) + 1)) none, ?_⟩
    · subst h0
      simp [ad1]
    · have := hc2 none (some (at' : Int)); have := hc2 (some ((at' : Int) + 1)) none
      rw [List.length_append]; omega
  · by_cases h1 : w = 1
    · refine ⟨_, ?_, mm2 none (some (at' : Int)) (some (at' : Int)) none, ?_⟩
      · subst h1
        simp [ad2, ad3]
      · have := hc2 none (some (at' : Int)); have := hc2 (some (at' : Int)) none
        simp only [List.length_append, List.length_singleton]; omega
    · have h0' : ¬ (w : Int) = 0 := by omega
      have h1' : ¬ (w : Int) = 1 := by omega
      by_cases h2 : w < 4
      · have h2' : (w : Int) < 4 := by omega
        refine ⟨_, ?_, mm2 none (some (at' : Int)) (some ((at' : Int) + 1)) none, ?_⟩
        · simp [h0, h1, h1', h2', ad2, ad3]
        · have := hc2 none (some (at' : Int)); have := hc2 (some ((at' : Int) + 1)) none
          simp only [List.length_append, List.length_singleton]; omega
      · have h2' : ¬ (w : Int) < 4 := by omega
        by_cases h3 : w = 4
        · refine ⟨row.reverse, ?_, fun d hd => .inl (List.mem_reverse.mp hd), by rw [List.length_reverse]; omega⟩
          subst h3
          simp
        · have h3' : ¬ (w : Int) = 4 := by omega
          refine ⟨_, ?_, mm1 none (some (at' : Int)) (some (if (at' : Int) - 1 > 0 then (at' : Int) - 1 else 0)) none, ?_⟩
          · have hg : gMax2 [.int 0, .int ((at' : Int) - 1)] = some (.int (if (at' : Int) - 1 > 0 then (at' : Int) - 1 else 0)) := rfl
            simp [-gMax2_i, h0, h1, h1', h2', h3', hg, ad1]
          · have := hc2 none (some (at' : Int)); have := hc2 (some (if (at' : Int) - 1 > 0 then (at' : Int) - 1 else 0)) none
            rw [List.length_append]; omega
/-! min of ints and of pairs -/
theorem depth_ints : ∀ l : List Int, PyData.depthAll (Dt.pyA (l.map Dt.int)) ≤ 1
  | [] => by simp [Dt.pyA, PyData.depthAll]
  | x :: l => by
    have := depth_ints l
    simp only [List.map_cons, Dt.pyA, Dt.py, PyData.depthAll, PyData.depth]
    omega
theorem lay_ints : ∀ l : List Int, PyData.canLayAll0 (Dt.pyA (l.map Dt.int)) = true
  | [] => by simp [Dt.pyA, PyData.canLayAll0]
  | x :: l => by
    have := lay_ints l
    simp only [List.map_cons, Dt.pyA, Dt.py, PyData.canLayAll0, PyData.canLay0, this, Bool.and_self]
theorem pyA_ints (l : List Int) : Dt.pyA (l.map Dt.int) = l.map PyData.int := by
  rw [pyA_map, List.map_map]
  refine List.map_congr_left fun x _ => by simp [Dt.py]
theorem minT_ints (x : Int) (l : List Int) : gMinD [.tup ((x :: l).map Dt.int)] = some (.int (l.foldl min x)) := by
  have hc : cdc (AlikeAll (Dt.pyA ((x :: l).map Dt.int)) ∧ PyData.canLayAll0 (Dt.pyA ((x :: l).map Dt.int)) = true ∧ PyData.depthAll (Dt.pyA ((x :: l).map Dt.int)) ≤ 60) = true :=
    cdc_t ⟨alike_ints x l, lay_ints (x :: l), Nat.le_trans (depth_ints (x :: l)) (by omega)⟩
  show (if cdc (AlikeAll (Dt.pyA (.int x :: l.map Dt.int)) ∧ PyData.canLayAll0 (Dt.pyA (.int x :: l.map Dt.int)) = true ∧ PyData.depthAll (Dt.pyA (.int x :: l.map Dt.int)) ≤ 60) = true then some (bestD dataLt (.int x) (l.map Dt.int)) else none) = _
  rw [List.map_cons] at hc
  rw [if_pos hc]
  congr 1
  have h := bestD_py dataLt (l.map Dt.int) (.int x)
  rw [pyA_ints] at h
  have h2 := W.minD_ints x l
  unfold W.minD at h2
  have h3 : (Dt.int x).py = PyData.int x := by simp [Dt.py]
  rw [h3, h2] at h
  have h4 : (Dt.int (l.foldl min x)).py = PyData.int (l.foldl min x) := by simp [Dt.py]
  rw [← h4] at h
  exact (py_inj _ _ h.symm (by simp [Dt.py, PyData.canLay0])).symm
def en2 (q : Int × Int) : Dt := .tup [.int q.1, .int q.2]
theorem best_mem (f : PyData → PyData → Bool) : ∀ (xs : List Dt) (x : Dt), bestD f x xs ∈ x :: xs
  | [], x => by simp [bestD]
  | y :: xs, x => by
    have := best_mem f xs (if f y.py x.py then y else x)
    show bestD f (if f y.py x.py then y else x) xs ∈ _
    rcases List.mem_cons.mp this with h | h
    · rw [h]
      split
      · exact List.mem_cons_of_mem _ List.mem_cons_self
      · exact List.mem_cons_self
    · exact List.mem_cons_of_mem _ (List.mem_cons_of_mem _ h)
theorem minL_pairs (q : Int × Int) (l : List (Int × Int)) : ∃ b, gMinD [.lst ((q :: l).map en2)] = some (en2 b) := by
  have e1 : ∀ q : Int × Int, (en2 q).py = .tuple [.int q.1, .int q.2] := fun q => by simp [en2, Dt.py, Dt.pyA]
  have hal : AlikeAll (Dt.pyA ((q :: l).map en2)) := by
    rw [pyA_map]
    constructor
    · intro a ha b hb
      obtain ⟨a', ha1, rfl⟩ := List.mem_map.mp ha
      obtain ⟨a'', _, rfl⟩ := List.mem_map.mp ha1
      obtain ⟨b', hb1, rfl⟩ := List.mem_map.mp hb
      obtain ⟨b'', _, rfl⟩ := List.mem_map.mp hb1
      rw [e1, e1]
      simp [alike, alikeAll]
    · intro a ha
      obtain ⟨a', ha1, rfl⟩ := List.mem_map.mp ha
      obtain ⟨a'', _, rfl⟩ := List.mem_map.mp ha1
      rw [e1]
      simp
  have hdep : ∀ l : List (Int × Int), PyData.depthAll (Dt.pyA (l.map en2)) ≤ 5 := by
    intro l
    induction l with
    | nil => simp [Dt.pyA, PyData.depthAll]
    | cons x l ih =>
      simp only [List.map_cons, Dt.pyA, e1, PyData.depthAll, PyData.depth]
      omega
  have hlay : ∀ l : List (Int × Int), PyData.canLayAll0 (Dt.pyA (l.map en2)) = true := by
    intro l
    induction l with
    | nil => simp [Dt.pyA, PyData.canLayAll0]
    | cons x l ih =>
      simp [Dt.pyA, e1, PyData.canLayAll0, PyData.canLay0, ih]
  have hc : cdc (AlikeAll (Dt.pyA ((q :: l).map en2)) ∧ PyData.canLayAll0 (Dt.pyA ((q :: l).map en2)) = true ∧ PyData.depthAll (Dt.pyA ((q :: l).map en2)) ≤ 60) = true :=
    cdc_t ⟨hal, hlay _, Nat.le_trans (hdep _) (by omega)⟩
  have hb := best_mem dataLt (l.map en2) (en2 q)
  rw [← List.map_cons] at hb
  obtain ⟨b, _, eb⟩ := List.mem_map.mp hb
  refine ⟨b, ?_⟩
  show (if cdc (AlikeAll (Dt.pyA (en2 q :: l.map en2)) ∧ PyData.canLayAll0 (Dt.pyA (en2 q :: l.map en2)) = true ∧ PyData.depthAll (Dt.pyA (en2 q :: l.map en2)) ≤ 60) = true then some (bestD dataLt (en2 q) (l.map en2)) else none) = _
  rw [List.map_cons] at hc
  rw [if_pos hc, eb]
theorem is_int' (i : Int) : R_f_law_is [.int i, .int i] = some (.bl true) := is_int 5 i
theorem is_non' : R_f_law_is [.non, .non] = some (.bl true) := is_non 5
theorem is_bl' (b : Bool) : R_f_law_is [.bl b, .bl b] = some (.bl true) := is_bl 5 b
theorem is_en2 (q : Int × Int) : R_f_law_is [en2 q, en2 q] = some (.bl true) := is_tup 5 _ (by simp) (by
  intro d hd
  rcases List.mem_cons.mp hd with rfl | hd
  · exact is_int 4 _
  · rw [List.mem_singleton.mp hd]; exact is_int 4 _)
end LK
end

section
set_option Elab.async false
set_option maxRecDepth 100000
namespace LK
open PySem EL
theorem turn_nx {gf : Dt → Rho → Option Rho} {mk : List Bool} {F : FnS} {d : Dt} {ρ ρ1 ρ2 : Rho} (h1 : gf d ρ = some ρ1) (h2 : F ρ1 = some (.nx ρ2)) : turn gf mk F d ρ = some (.nx (clr mk ρ2)) := by
  unfold turn
  rw [h1, Option.bind_some, h2]
  rfl
def fineB (x y n : Int) : List Int → Bool
  | [a, b] => decide (0 ≤ min a b) && decide (a * x + b * y = n)
  | _ => false
theorem min2 (a b : Int) : gMinD [.tup [.int a, .int b]] = some (.int (min a b)) := minT_ints a [b]
theorem is_cut_ok {x y g : Int} (h : XY x y g) (n : Int) (l : List Int) : R_is_cut [.int x, .int y, .int n, .tup (l.map Dt.int)] = some (.bl (fineB x y n l)) := by
  have hx := h.x0; have hy := h.y0; have hx3 := h.x30; have hy3 := h.y30
  unfold R_is_cut
  rw [runF_a]
  unfold F_is_cut
  have m1 : ∀ a, cMul a x = true := fun a => cMul_r (by omega) (by omega)
  have m2 : ∀ a, cMul a y = true := fun a => cMul_r (by omega) (by omega)
  match l with
  | [] => simp [fineB]
  | [a] => simp [fineB]
  | [a, b] =>
    by_cases hm : 0 ≤ min a b
    · have hm' : ¬ min a b < 0 := by omega
      by_cases hs : a * x + b * y = n
      · simp [fineB, min2, m1, m2, hm', hm, hs, -Int.le_min, -Int.min_def]
      · simp [fineB, min2, m1, m2, hm', hm, hs, -Int.le_min]
    · have hm' : min a b < 0 := by omega
      simp [fineB, min2, m1, m2, hm', hm, -Int.le_min]
  | a :: b :: c :: r =>
    have h2 : ¬ ((r.length : Int) + 1 + 1 + 1 = 2) := by omega
    simp [fineB, h2]
theorem cutD_is (x y n : Int) : R_f_law_is [cutD x y n, cutD x y n] = some (.bl true) := by
  unfold cutD
  cases cutP x y n with
  | none => exact is_non'
  | some p => exact is_en2 (p, (n - p * x) / y)
theorem cutD_not (x y n : Int) : gNotN (cutD x y n) .non = some (cutP x y n).isSome := by
  unfold cutD
  cases cutP x y n <;> simp
theorem cutD_isn (x y n : Int) : gIsN (cutD x y n) .non = some (!(cutP x y n).isSome) := by
  unfold cutD
  cases cutP x y n <;> simp
theorem cut_dl (dn : List Nat) (a b : Nat) (h : a ≤ b) (hb : b ≤ dn.length) : cutL (dl dn) (some (a : Int)) (some (b : Int)) = dl ((dn.drop a).take (b - a)) := by
  unfold cutL dl
  rw [List.length_map, HT.sIx_nat, HT.sIx_nat, Nat.min_eq_left hb, Nat.min_eq_left (by omega), List.map_take, List.map_drop]
theorem turns (x y g : Int) (h : XY x y g) (n : Int) (hn : -100000 ≤ n) (hn2 : n ≤ 100000) (dn : List Nat) (hd : dn.length = 8) (b : Int × Int) (t : Int) (ht0 : 0 ≤ t) (ht : t < 5) :
    turn (hName 8) [true, true, true, true, true, false, false, true, false, false, false] (sSeq (sSet 9 (fIf (fCmp gEq (fV 8) (fC (.int 0))) (fV 7) (fFn 3 R_f_law_bent (fAc (fV 7) (fAc (fSl (fV 4) (fPart (fV 8)) (fPart (f2 gAdd (fC (.int 3)) (fV 8)))) (fAc (fC (.int 9)) fA0))))))
  (sSeq (sIf (fCmp gEq (fV 8) (fC (.int 1))) (sSet 9 (fTup (fAc (f2 gAdd (f2 gIx (fV 7) (fC (.int 0))) (f2 (gI cDiv Int.fdiv) (fV 1) (fV 2))) (fAc (f2 gMinus (f2 gIx (fV 7) (fC (.int 1))) (f2 (gI cDiv Int.fdiv) (fV 0) (fV 2))) fA0)))) sNil)
  (sSeq (sSet 10 (fOfB (fCmp gEq (fN gLen (fAc (fV 9) fA0)) (fC (.int 2)))))
  (sSeq (sIf (fTru (fV 10)) (sSet 10 (fAndV (fOfB (fCmp (gII bGe) (fN gMinD (fAc (fV 9) fA0)) (fC (.int 0)))) (fOfB (fCmp gEq (f2 gAdd (f2 gMul (f2 gIx (fV 9) (fC (.int 0))) (fV 0)) (f2 gMul (f2 gIx (fV 9) (fC (.int 1))) (fV 1))) (fV 3))))) sNil)
  (sIf (fNot (fTru (fFn 2 R_f_law_is (fAc (fFn 4 R_is_cut (fAc (fV 0) (fAc (fV 1) (fAc (fV 3) (fAc (fV 9) fA0))))) (fAc (fV 10) fA0))))) (sRet (fC (.bl false))) sNil))))) (.int t) [.im (.int x), .im (.int y), .im (.int g), .im (.int n), .im (.lst (dl dn)), .un, .un, .im (en2 b), .un, .un, .un] = some (.nx [.im (.int x), .im (.int y), .im (.int g), .im (.int n), .im (.lst (dl dn)), .un, .un, .im (en2 b), .un, .un, .un]) := by
  have hx := h.x0; have hy := h.y0; have hx3 := h.x30; have hy3 := h.y30
  obtain ⟨a', b', g0, a0, b0, ex, ey, g3, u, v, e⟩ := h.parts
  -- what is asked
  have s1 : ∃ l : List Int, (sSet 9 (fIf (fCmp gEq (fV 8) (fC (.int 0))) (fV 7) (fFn 3 R_f_law_bent (fAc (fV 7) (fAc (fSl (fV 4) (fPart (fV 8)) (fPart (f2 gAdd (fC (.int 3)) (fV 8)))) (fAc (fC (.int 9)) fA0)))))) [.im (.int x), .im (.int y), .im (.int g), .im (.int n), .im (.lst (dl dn)), .un, .un, .im (en2 b), .im (.int t), .un, .un] = some (.nx [.im (.int x), .im (.int y), .im (.int g), .im (.int n), .im (.lst (dl dn)), .un, .un, .im (en2 b), .im (.int t), .im (.tup (l.map Dt.int)), .un]) := by
    by_cases hz : t = 0
    · subst hz
      exact ⟨[b.1, b.2], by simp [en2]⟩
    · obtain ⟨k, rfl⟩ : ∃ k : Nat, t = k := ⟨t.toNat, by omega⟩
      have hk : k + 3 ≤ 8 := by omega
      obtain ⟨l', e1, e2, e3⟩ := bent_ok [.int b.1, .int b.2] (by simp) ((dn.drop k).take (3 + k - k)) (by rw [List.length_take, List.length_drop, hd]; omega) 9 (by omega)
      have hl : ∃ l : List Int, l' = l.map Dt.int := by
        have : ∀ l' : List Dt, (∀ d ∈ l', d ∈ [Dt.int b.1, Dt.int b.2] ∨ ∃ i, d = .int i) → ∃ l : List Int, l' = l.map Dt.int := by
          intro l'
          induction l' with
          | nil => intro _; exact ⟨[], rfl⟩
          | cons d l' ih =>
            intro hh
            obtain ⟨l, el⟩ := ih fun d hd => hh d (List.mem_cons_of_mem _ hd)
            have : ∃ i, d = Dt.int i := by
              rcases hh d List.mem_cons_self with h | h
              · rcases List.mem_cons.mp h with h | h
                · exact ⟨_, h⟩
                · exact ⟨_, List.mem_singleton.mp h⟩
              · exact h
            obtain ⟨i, rfl⟩ := this
            exact ⟨i :: l, by rw [el]; rfl⟩
        exact this l' e2
      obtain ⟨l, rfl⟩ := hl
      have hc := cut_dl dn k (3 + k) (by omega) (by omega)
      rw [Int.natCast_add] at hc
      have hc' : cutL (dl dn) (some (k : Int)) (some (3 + (k : Int))) = dl ((dn.drop k).take (3 + k - k)) := hc
      have e1' : R_f_law_bent [en2 b, .lst (dl ((dn.drop k).take (3 + k - k))), .int 9] = some (.tup (l.map Dt.int)) := e1
      have hk0 : ¬ k = 0 := by omega
      refine ⟨l, ?_⟩
      simp only [sSet_a, fIf_a, fCmp_a, fV_a, getS_z, getS_s, fC_a, Option.bind_some, gEq_i, decide_eq_false hz, Bool.false_eq_true, if_false, fFn_a, fAc_a, fSl_a, fPart_a, f2_a, gAdd_i, gSl_l, hc', fA0_a, List.length_cons, List.length_nil, if_true, e1', setS_s, setS_z]
  obtain ⟨l, s1⟩ := s1
  have s2 : ∃ l2 : List Int, (sIf (fCmp gEq (fV 8) (fC (.int 1))) (sSet 9 (fTup (fAc (f2 gAdd (f2 gIx (fV 7) (fC (.int 0))) (f2 (gI cDiv Int.fdiv) (fV 1) (fV 2))) (fAc (f2 gMinus (f2 gIx (fV 7) (fC (.int 1))) (f2 (gI cDiv Int.fdiv) (fV 0) (fV 2))) fA0)))) sNil) [.im (.int x), .im (.int y), .im (.int g), .im (.int n), .im (.lst (dl dn)), .un, .un, .im (en2 b), .im (.int t), .im (.tup (l.map Dt.int)), .un] = some (.nx [.im (.int x), .im (.int y), .im (.int g), .im (.int n), .im (.lst (dl dn)), .un, .un, .im (en2 b), .im (.int t), .im (.tup (l2.map Dt.int)), .un]) := by
    by_cases hz : t = 1
    · subst hz
      have m1 : cDiv y g = true := cDiv_of (by omega) (by omega) (by omega)
      have m2 : cDiv x g = true := cDiv_of (by omega) (by omega) (by omega)
      exact ⟨[b.1 + y / g, b.2 - x / g], by simp [en2, m1, m2, fdp _ g0]⟩
    · exact ⟨l, by simp [hz]⟩
  obtain ⟨l2, s2⟩ := s2
  have m1 : ∀ a, cMul a x = true := fun a => cMul_r (by omega) (by omega)
  have m2 : ∀ a, cMul a y = true := fun a => cMul_r (by omega) (by omega)
  have s3 : ((sSeq (sSet 9 (fIf (fCmp gEq (fV 8) (fC (.int 0))) (fV 7) (fFn 3 R_f_law_bent (fAc (fV 7) (fAc (fSl (fV 4) (fPart (fV 8)) (fPart (f2 gAdd (fC (.int 3)) (fV 8)))) (fAc (fC (.int 9)) fA0))))))
  (sSeq (sIf (fCmp gEq (fV 8) (fC (.int 1))) (sSet 9 (fTup (fAc (f2 gAdd (f2 gIx (fV 7) (fC (.int 0))) (f2 (gI cDiv Int.fdiv) (fV 1) (fV 2))) (fAc (f2 gMinus (f2 gIx (fV 7) (fC (.int 1))) (f2 (gI cDiv Int.fdiv) (fV 0) (fV 2))) fA0)))) sNil)
  (sSeq (sSet 10 (fOfB (fCmp gEq (fN gLen (fAc (fV 9) fA0)) (fC (.int 2)))))
  (sSeq (sIf (fTru (fV 10)) (sSet 10 (fAndV (fOfB (fCmp (gII bGe) (fN gMinD (fAc (fV 9) fA0)) (fC (.int 0)))) (fOfB (fCmp gEq (f2 gAdd (f2 gMul (f2 gIx (fV 9) (fC (.int 0))) (fV 0)) (f2 gMul (f2 gIx (fV 9) (fC (.int 1))) (fV 1))) (fV 3))))) sNil)
  (sIf (fNot (fTru (fFn 2 R_f_law_is (fAc (fFn 4 R_is_cut (fAc (fV 0) (fAc (fV 1) (fAc (fV 3) (fAc (fV 9) fA0))))) (fAc (fV 10) fA0))))) (sRet (fC (.bl false))) sNil))))) : FnS) [.im (.int x), .im (.int y), .im (.int g), .im (.int n), .im (.lst (dl dn)), .un, .un, .im (en2 b), .im (.int t), .un, .un] = some (.nx [.im (.int x), .im (.int y), .im (.int g), .im (.int n), .im (.lst (dl dn)), .un, .un, .im (en2 b), .im (.int t), .im (.tup (l2.map Dt.int)), .im (.bl (fineB x y n l2))]) := by
    rw [sSeq_nx s1, sSeq_nx s2]
    rw [sSeq_nx (ρ' := [.im (.int x), .im (.int y), .im (.int g), .im (.int n), .im (.lst (dl dn)), .un, .un, .im (en2 b), .im (.int t), .im (.tup (l2.map Dt.int)), .im (.bl (decide ((l2.length : Int) = 2)))]) (by simp)]
    rw [sSeq_nx (ρ' := [.im (.int x), .im (.int y), .im (.int g), .im (.int n), .im (.lst (dl dn)), .un, .un, .im (en2 b), .im (.int t), .im (.tup (l2.map Dt.int)), .im (.bl (fineB x y n l2))]) (by
      match l2 with
      | [] => simp [fineB]
      | [a] => simp [fineB]
      | [a, c] =>
        by_cases hm : 0 ≤ min a c
        · by_cases hs : a * x + c * y = n
          · simp [fineB, min2, m1, m2, hm, hs]
          · simp [fineB, min2, m1, m2, hm, hs]
        · simp [fineB, min2, m1, m2, hm]
      | a :: c :: d :: r =>
        have h2 : ¬ ((r.length : Int) + 1 + 1 + 1 = 2) := by omega
        simp [fineB, h2])]
    simp [is_cut_ok h, is_bl']
  rw [turn_nx (hName_a 8 _ _) s3]
  rfl
theorem amount_ok {x y g : Int} (h : XY x y g) (n : Int) (hn : -100000 ≤ n) (hn2 : n ≤ 100000) (dn : List Nat) (hd : dn.length = 8) : R_f_law_amount [.int x, .int y, .int g, .int n, .lst (dl dn)] = some (.bl true) := by
  have hx := h.x0; have hy := h.y0; have hx3 := h.x30; have hy3 := h.y30
  obtain ⟨a', b', g0, a0, b0, ex, ey, g3, u, v, e⟩ := h.parts
  have hxy : x * y ≤ 30 * 30 := Int.mul_le_mul hx3 hy3 (by omega) (by omega)
  have hL : x * y / g ≤ x * y := Int.ediv_le_self _ (Int.mul_nonneg (by omega) (by omega))
  have hL0 : 0 ≤ x * y / g := Int.ediv_nonneg (Int.mul_nonneg (by omega) (by omega)) (by omega)
  unfold R_f_law_amount
  rw [runF_a]
  unfold F_f_law_amount
  have m1 : cMul x y = true := cMul_r (by omega) (by omega)
  have m2 : cDiv (x * y) g = true := cDiv_of (by omega) (by omega) (by omega)
  have m3 : cMod n g = true := cMod_of (by omega)
  have m4 : cDiv n y = true := cDiv_of (by omega) (by omega) (by omega)
  have e1 := lcut_ok h n (by omega)
  have e2 := told_ok h n
  have e3 := mirror_ok h n
  generalize hM : x * y / g - x - y - n = M at e3
  have e4 := lcut_ok h M (by omega)
  have e5 := told_ok h M
  have fg := fmp n g0
  show Option.bind (sSeq _ _ [.im (.int x), .im (.int y), .im (.int g), .im (.int n), .im (.lst (dl dn)), .un, .un, .un, .un, .un, .un]) endOf = _
  rw [sSeq_nx (ρ' := [.im (.int x), .im (.int y), .im (.int g), .im (.int n), .im (.lst (dl dn)), .im (cutD x y n), .un, .un, .un, .un, .un]) (by simp [e1])]
  rw [sSeq_nx (ρ' := [.im (.int x), .im (.int y), .im (.int g), .im (.int n), .im (.lst (dl dn)), .im (cutD x y n), .im (.int M), .un, .un, .un, .un]) (by simp [m1, m2, fdp _ g0, hM])]
  generalize hρ : ([.im (.int x), .im (.int y), .im (.int g), .im (.int n), .im (.lst (dl dn)), .im (cutD x y n), .im (.int M), .un, .un, .un, .un] : Rho) = ρ
  rw [sSeq_nx (ρ' := ρ) (by rw [← hρ]; simp [e2, e3, cutD_is, is_int'])]
  have hs := cutP_iff h n
  have hsM := cutP_iff h M
  rw [sSeq_nx (ρ' := ρ) (by
    rw [← hρ]
    by_cases hg : n % g = 0
    · simp [m3, fg, hg]
    · have : (cutP x y n).isSome = false := by
        cases hq : (cutP x y n).isSome with
        | false => rfl
        | true => exact absurd (Int.emod_eq_zero_of_dvd (cut_g h (hs.mp hq))) hg
      simp [m3, fg, hg, cutD_not, this])]
  rw [sSeq_nx (ρ' := ρ) (by
    rw [← hρ]
    by_cases hg : n % g = 0
    · have hmir := mirror h (Int.dvd_of_emod_eq_zero hg)
      rw [hM, ← hs, ← hsM] at hmir
      have : (cutP x y M).isSome = !(cutP x y n).isSome := by
        cases h1 : (cutP x y M).isSome <;> cases h2 : (cutP x y n).isSome <;> simp_all
      simp [m3, fg, hg, cutD_not, cutD_isn, e4, this]
    · simp [m3, fg, hg])]
  rw [sSeq_nx (ρ' := ρ) (by rw [← hρ]; simp [e4, e5, cutD_is])]
  have hb : ∃ b : Int × Int, (sSet 7 (fIf (fCmp gNotN (fV 5) (fC .non)) (fV 5) (fTup (fAc (fC (.int 0)) (fAc (f2 (gI cDiv Int.fdiv) (fV 3) (fV 1)) fA0))))) ρ = some (.nx [.im (.int x), .im (.int y), .im (.int g), .im (.int n), .im (.lst (dl dn)), .im (cutD x y n), .im (.int M), .im (en2 b), .un, .un, .un]) := by
    rw [← hρ]
    cases hq : cutP x y n with
    | none =>
      have hq2 : (cutP x y n).isSome = false := by rw [hq]; rfl
      exact ⟨(0, n / y), by simp [cutD_not, hq2, m4, fdp _ hy, en2]⟩
    | some p =>
      have hq2 : (cutP x y n).isSome = true := by rw [hq]; rfl
      have hcd : cutD x y n = en2 (p, (n - p * x) / y) := by unfold cutD; rw [hq]; rfl
      have hnn : gNotN (en2 (p, (n - p * x) / y)) .non = some true := rfl
      exact ⟨(p, (n - p * x) / y), by simp [hnn, hcd]⟩
  obtain ⟨b, hb⟩ := hb
  rw [sSeq_nx hb]
  have hf := for_fold (gf := (hName 8)) (mk := [true, true, true, true, true, false, false, true, false, false, false]) (F := (sSeq (sSet 9 (fIf (fCmp gEq (fV 8) (fC (.int 0))) (fV 7) (fFn 3 R_f_law_bent (fAc (fV 7) (fAc (fSl (fV 4) (fPart (fV 8)) (fPart (f2 gAdd (fC (.int 3)) (fV 8)))) (fAc (fC (.int 9)) fA0))))))
  (sSeq (sIf (fCmp gEq (fV 8) (fC (.int 1))) (sSet 9 (fTup (fAc (f2 gAdd (f2 gIx (fV 7) (fC (.int 0))) (f2 (gI cDiv Int.fdiv) (fV 1) (fV 2))) (fAc (f2 gMinus (f2 gIx (fV 7) (fC (.int 1))) (f2 (gI cDiv Int.fdiv) (fV 0) (fV 2))) fA0)))) sNil)
  (sSeq (sSet 10 (fOfB (fCmp gEq (fN gLen (fAc (fV 9) fA0)) (fC (.int 2)))))
  (sSeq (sIf (fTru (fV 10)) (sSet 10 (fAndV (fOfB (fCmp (gII bGe) (fN gMinD (fAc (fV 9) fA0)) (fC (.int 0)))) (fOfB (fCmp gEq (f2 gAdd (f2 gMul (f2 gIx (fV 9) (fC (.int 0))) (fV 0)) (f2 gMul (f2 gIx (fV 9) (fC (.int 1))) (fV 1))) (fV 3))))) sNil)
  (sIf (fNot (fTru (fFn 2 R_f_law_is (fAc (fFn 4 R_is_cut (fAc (fV 0) (fAc (fV 1) (fAc (fV 3) (fAc (fV 9) fA0))))) (fAc (fV 10) fA0))))) (sRet (fC (.bl false))) sNil)))))) Dt.int (fun _ : Unit => [.im (.int x), .im (.int y), .im (.int g), .im (.int n), .im (.lst (dl dn)), .un, .un, .im (en2 b), .un, .un, .un]) (fun _ _ => ()) (fun _ xs => ∀ j ∈ xs, 0 ≤ j ∧ j < 5) (rgI 0 5) () (fun j hj => by rw [mem_rgI] at hj; omega) (fun _ t r hh => by
    have ht := hh t List.mem_cons_self
    exact ⟨turns x y g h n hn hn2 dn hd b t ht.1 ht.2, fun j hj => hh j (List.mem_cons_of_mem _ hj)⟩)
  have hr : (fNL gRng1 (fAc (fC (.int 5)) fA0)) [.im (.int x), .im (.int y), .im (.int g), .im (.int n), .im (.lst (dl dn)), .im (cutD x y n), .im (.int M), .im (en2 b), .un, .un, .un] = some ((rgI 0 5).map Dt.int) := by
    simp [rng1_of (j := 5) (by omega) (by omega)]
  rw [sSeq_a, sFor_a, hr, Option.bind_some]
  simp only [clr_t, clr_f, clr_n]
  rw [hf]
  simp
end LK
end

section
set_option Elab.async false
set_option maxRecDepth 100000
namespace LK
open PySem EL
theorem rng3_of {i j st : Int} (h1 : -1000000000 ≤ i) (h2 : i ≤ 1000000000) (h3 : -1000000000 ≤ j) (h4 : j ≤ 1000000000) (h5 : 1 ≤ st) (h6 : st ≤ 1000000000) (hij : i < j) : gRng3 [.int i, .int j, .int st] = some ((stI i st ((j - i - 1) / st + 1).toNat).map Dt.int) := by
  have hs : Builtin.Range.rangeSize i j st = (j - i - 1) / st + 1 := by
    unfold Builtin.Range.rangeSize
    rw [if_pos (by omega), if_pos hij]
  have hd0 : 0 ≤ (j - i - 1) / st := Int.ediv_nonneg (by omega) (by omega)
  have hd1 : (j - i - 1) / st ≤ j - i - 1 := Int.ediv_le_self _ (by omega)
  have hr : L2.RgC i j st (Builtin.Range.rangeSize i j st).toNat := by
    refine ⟨by omega, by omega, ?_, by rw [hs]; omega⟩
    unfold Builtin.Range.small
    rw [hs]
    generalize (j - i - 1) / st = z at hd0 hd1
    simp only [Builtin.Range.rangeFitsLong, Bool.and_eq_true, Bool.or_eq_true, decide_eq_true_eq, beq_iff_eq, show st > 0 by omega, if_true]
    omega
  show (if cdc _ = true then some _ else none) = _
  rw [if_pos (cdc_t hr), stD_eq, hs]
def pv (ds : List Int) (low high : Int) : List (Int × Int) := (rgI low (high + 1)).map fun w => ((ds.map fun d => Int.fmod d w).sum, w)
theorem pv_min (ds : List Int) (low high : Int) (h : low ≤ high) : ∃ b, gMinD [.lst ((pv ds low high).map en2)] = some (en2 b) := by
  have hl : (pv ds low high).length ≠ 0 := by unfold pv; rw [List.length_map, rgI_length]; omega
  cases hq : pv ds low high with
  | nil => rw [hq] at hl; exact absurd rfl hl
  | cons q l => exact minL_pairs q l
theorem portion_ok (ds : List Int) (hds : ds.length ≤ 1000) (low high : Int) (h1 : 1 ≤ low) (h2 : high ≤ 1000) (h3 : low ≤ high) {v : Dt} (hv : gMinD [.lst ((pv ds low high).map en2)] = some v) : R_told_portion [.tup (ds.map Dt.int), .int low, .int high] = some v := by
  unfold R_told_portion
  rw [runF_a]
  unfold F_told_portion
  have hc : fComp (fNL gRng2 (fAc (fV 1) (fAc (f2 gAdd (fV 2) (fC (.int 1))) fA0))) (hName 3) fYes (fTup (fAc (fN gSum (fAc (fLst (fComp (f1L gItems (fV 0)) (hName 4) fYes (f2 (gI cMod Int.fmod) (fV 4) (fV 3)) [4])) fA0)) (fAc (fV 3) fA0))) [3] [.im (.tup (ds.map Dt.int)), .im (.int low), .im (.int high), .un, .un] = some ((pv ds low high).map en2) := by
    refine fComp_of (ds := (rgI low (high + 1)).map Dt.int) ?_ rfl (by rw [List.length_map, rgI_length]; omega) ?_
    · simp only [fNL_a, fAc_a, f2_a, fC_a, fV_a, getS_z, getS_s, fA0_a, Option.bind_some, gAdd_i]
      rw [rng2_of (by omega) (by omega) (by omega) (by omega)]
    · unfold pv
      rw [List.map_map]
      refine comp_all Dt.int _ _ fun w hw => ⟨_, rfl, rfl, ?_⟩
      rw [mem_rgI] at hw
      have hi : fComp (f1L gItems (fV 0)) (hName 4) fYes (f2 (gI cMod Int.fmod) (fV 4) (fV 3)) [4] [.im (.tup (ds.map Dt.int)), .im (.int low), .im (.int high), .im (.int w), .un] = some ((ds.map fun d => Int.fmod d w).map Dt.int) := by
        refine fComp_of (ds := ds.map Dt.int) (by simp) rfl (by rw [List.length_map]; omega) ?_
        rw [List.map_map]
        refine comp_all Dt.int _ _ fun d hd => ⟨_, rfl, rfl, ?_⟩
        have m1 : cMod d w = true := cMod_of (by omega)
        simp [m1]
      show (fTup _ [.im (.tup (ds.map Dt.int)), .im (.int low), .im (.int high), .im (.int w), .un]) = _
      simp only [fTup_a, fAc_a, fN_a, fLst_a, hi, Option.bind_some, fA0_a, gSum_l, fV_a, getS_z, getS_s]
      simp [en2]
  show Option.bind (sRet _ [.im (.tup (ds.map Dt.int)), .im (.int low), .im (.int high), .un, .un]) endOf = _
  rw [sRet_a, fN_a, fAc_a, fLst_a, hc]
  simp only [Option.bind_some, fA0_a, hv, endOf_rt]
theorem bare_len {x y g : Int} (h : XY x y g) : ((((EL.stI 0 g (((if x * y / g - x - y > 0 then x * y / g - x - y else 0) + 1 - 0 - 1) / g + 1).toNat).filter fun n => !(cutP x y n).isSome).length : Nat) : Int) = (x / g - 1) * (y / g - 1) / 2 := by
  have hx := h.x0; have hy := h.y0; have hx3 := h.x30; have hy3 := h.y30
  obtain ⟨a, b, g0, a0, b0, ex, ey, g3, u, v, e⟩ := h.parts
  have hyg : y / g = b := by rw [ey]; exact Int.mul_ediv_cancel_left _ (by omega)
  have hxg : x / g = a := by rw [ex]; exact Int.mul_ediv_cancel_left _ (by omega)
  have hC0 : 0 ≤ (a - 1) * (b - 1) := Int.mul_nonneg (by omega) (by omega)
  have hM : x * y / g - x - y = g * ((a - 1) * (b - 1) - 1) := by
    have hxy : x * y / g = b * x := by
      conv => lhs; rw [ey, show x * (g * b) = g * (b * x) by simp only [Int.mul_comm, Int.mul_left_comm]]
      exact Int.mul_ediv_cancel_left _ (by omega)
    rw [hxy]
    conv => lhs; rw [ex, ey]
    simp only [Int.mul_sub, Int.sub_mul, Int.mul_one, Int.one_mul]
    rw [Int.mul_left_comm b g a, Int.mul_comm b a]
    omega
  rw [hxg, hyg]
  have hmir := fun n hn => mirror h (n := n) hn
  rw [hM] at hmir ⊢
  generalize hC : (a - 1) * (b - 1) = C at hC0 hmir ⊢
  by_cases hc : C = 0
  · subst hc
    have : ¬ g * (0 - 1) > 0 := by omega
    rw [if_neg this]
    have hz : (((0 : Int) + 1 - 0 - 1) / g + 1).toNat = 1 := by simp
    rw [hz]
    have hz2 : (cutP x y 0).isSome = true := (cutP_iff h 0).mpr (cut_zero h)
    have hst : EL.stI 0 g 1 = [0] := by simp [EL.stI, List.range_succ]
    rw [hst]
    have hz3 : ¬ cutP x y 0 = none := fun h => by rw [h] at hz2; cases hz2
    simp [List.filter_cons, hz3]
  · have hnn : 0 ≤ g * (C - 1) := Int.mul_nonneg (by omega) (by omega)
    have hval : (if g * (C - 1) > 0 then g * (C - 1) else 0) = g * (C - 1) := by split <;> omega
    rw [hval]
    have hz : ((g * (C - 1) + 1 - 0 - 1) / g + 1).toNat = C.toNat := by
      rw [show g * (C - 1) + 1 - 0 - 1 = g * (C - 1) by omega, Int.mul_ediv_cancel_left _ (by omega)]
      omega
    rw [hz]
    have hh := count_half C.toNat (fun (i : Nat) => !(cutP x y ((i : Int) * g)).isSome) (fun i hi => by
      have hd : g ∣ (i : Int) * g := ⟨i, by rw [Int.mul_comm]⟩
      have hm := hmir _ hd
      have hr : g * (C - 1) - (i : Int) * g = ((C.toNat - 1 - i : Nat) : Int) * g := by
        have : ((C.toNat - 1 - i : Nat) : Int) = C - 1 - i := by omega
        rw [this, Int.sub_mul, Int.mul_comm g]
      rw [hr, ← cutP_iff h, ← cutP_iff h] at hm
      cases h1 : (cutP x y (((C.toNat - 1 - i : Nat) : Int) * g)).isSome <;> cases h2 : (cutP x y ((i : Int) * g)).isSome <;> simp_all)
    have hl : ((EL.stI 0 g C.toNat).filter fun n => !(cutP x y n).isSome).length = ((List.range C.toNat).filter fun (i : Nat) => !(cutP x y ((i : Int) * g)).isSome).length := by
      unfold EL.stI
      rw [List.filter_map, List.length_map]
      congr 1
      refine List.filter_congr fun i _ => ?_
      simp
    rw [hl]
    omega
end LK
end

section
set_option Elab.async false
set_option maxRecDepth 100000
namespace LK
open PySem EL
/-- the draws of a cell -/
theorem draws_dl (ns : List Int) (k n : Int) (h0 : 0 ≤ k) (h1 : k ≤ 1000) (n0 : 0 ≤ n) (n1 : n ≤ 1000) : ∃ (c : Int) (dn : List Nat), R_f_law_cell [.scr ns, .int k] = some (.int c) ∧ R_f_law_draws [.int c, .int n] = some (.lst (dl dn)) ∧ dn.length = n.toNat := by
  obtain ⟨c, hc⟩ := cell_ok ns k h0 h1
  obtain ⟨ds, e1, e2, e3⟩ := draws_ok c n n0 n1
  have e4 : ds.map Dt.int = dl (ds.map Int.toNat) := by
    unfold dl
    rw [List.map_map]
    refine List.map_congr_left fun x hx => ?_
    show Dt.int x = Dt.int (x.toNat : Int)
    rw [Int.toNat_of_nonneg (e3 x hx).1]
  rw [e4] at e1
  exact ⟨c, ds.map Int.toNat, hc, e1, by rw [List.length_map, e2]⟩
theorem xy_of (x y : Nat) (h0 : 0 < x) (h1 : x ≤ 30) (h2 : 0 < y) (h3 : y ≤ 30) : XY x y ((Nat.gcd x y : Nat) : Int) := ⟨by omega, by omega, by omega, by omega, by simp⟩
theorem share_le (s d : Nat) (h0 : 1 ≤ s) (h1 : s ≤ 5) : 0 < s * (1 + d % (30 / s)) ∧ s * (1 + d % (30 / s)) ≤ 30 ∧ 0 < 30 / s := by
  have hm : 0 < 30 / s := Nat.div_pos (by omega) (by omega)
  have hd := Nat.mod_lt d hm
  have h2 : s * (1 + d % (30 / s)) ≤ s * (30 / s) := Nat.mul_le_mul_left _ (by omega)
  have h3 : s * (30 / s) ≤ 30 := Nat.mul_div_le 30 s
  exact ⟨Nat.mul_pos (by omega) (by omega), by omega, hm⟩
/-- the first half of a turn: the weights -/
theorem turn_a (ns : List Int) (k : Int) (hk0 : 0 ≤ k) (hk : k < 2) : ∃ (dn : List Nat) (s : Nat) (x y g : Int), dn.length = 22 ∧ 1 ≤ s ∧ s ≤ 5 ∧ XY x y g ∧ ∀ G : FnS, (sSeq (sSet 2 (fFn 2 R_f_law_draws (fAc (fFn 2 R_f_law_cell (fAc (fV 0) (fAc (fV 1) fA0))) (fAc (fC (.int 22)) fA0))))
  (sSeq (sSet 3 (fIf (fCmp gEq (fV 1) (fC (.int 0))) (fC (.int 1)) (f2 gAdd (fC (.int 2)) (f2 (gI cMod Int.fmod) (fN gInt (fAc (f2 gIx (fV 2) (fC (.int 0))) fA0)) (fC (.int 4))))))
  (sSeq (sSet 4 (f2 gMul (fV 3) (f2 gAdd (fC (.int 1)) (f2 (gI cMod Int.fmod) (fN gInt (fAc (f2 gIx (fV 2) (fC (.int 1))) fA0)) (f2 (gI cDiv Int.fdiv) (fC (.int 30)) (fV 3))))))
  (sSeq (sSet 5 (f2 gMul (fV 3) (f2 gAdd (fC (.int 1)) (f2 (gI cMod Int.fmod) (fN gInt (fAc (f2 gIx (fV 2) (fC (.int 2))) fA0)) (f2 (gI cDiv Int.fdiv) (fC (.int 30)) (fV 3))))))
  (sSeq (sSet 6 (fFn 2 R_f_law_divisor (fAc (fV 4) (fAc (fV 5) fA0))))
  (sSeq (sSet 7 (f2 gMinus (f2 gMinus (f2 (gI cDiv Int.fdiv) (f2 gMul (fV 4) (fV 5)) (fV 6)) (fV 4)) (fV 5))) G)))))) [.im (.scr ns), .im (.int k), .un, .un, .un, .un, .un, .un, .un, .un, .un, .un, .un, .un, .un, .un, .un, .un, .un] = G [.im (.scr ns), .im (.int k), .im (.lst (dl dn)), .im (.int (s : Nat)), .im (.int x), .im (.int y), .im (.int g), .im (.int (x * y / g - x - y)), .un, .un, .un, .un, .un, .un, .un, .un, .un, .un, .un] := by
  obtain ⟨c, dn, e1, e2, e3⟩ := draws_dl ns k 22 hk0 (by omega) (by omega) (by omega)
  have e3' : dn.length = 22 := e3
  have a0 := dl_at (dn := dn) 0 (by omega) (by omega)
  have a1 := dl_at (dn := dn) 1 (by omega) (by omega)
  have a2 := dl_at (dn := dn) 2 (by omega) (by omega)
  generalize dn.getD (0 : Int).toNat 0 = x0 at a0
  generalize dn.getD (1 : Int).toNat 0 = x1 at a1
  generalize dn.getD (2 : Int).toNat 0 = x2 at a2
  have m0 : cMod x0 4 = true := cMod_of (by omega)
  have f0 : Int.fmod (x0 : Int) 4 = ((x0 % 4 : Nat) : Int) := nm x0 4
  have hs : ∃ s : Nat, 1 ≤ s ∧ s ≤ 5 ∧ (if k = 0 then (1 : Int) else 2 + ((x0 % 4 : Nat) : Int)) = s := by
    by_cases hz : k = 0
    · exact ⟨1, by omega, by omega, by rw [if_pos hz]; rfl⟩
    · exact ⟨2 + x0 % 4, by omega, by omega, by rw [if_neg hz]; omega⟩
  obtain ⟨s, s1, s5, es⟩ := hs
  obtain ⟨p1, q1, r1⟩ := share_le s x1 s1 s5
  obtain ⟨p2, q2, _⟩ := share_le s x2 s1 s5
  have hXY := xy_of _ _ p1 q1 p2 q2
  have d1 : cDiv 30 s = true := cDiv_of (by omega) (by omega) (by omega)
  have d2 : Int.fdiv 30 (s : Int) = ((30 / s : Nat) : Int) := nq 30 s
  have d3 : ∀ x : Nat, cMod x (30 / s : Nat) = true := fun x => cMod_of (by omega)
  have d4 : ∀ x : Int, cMul s x = true := fun x => cMul_l (by omega) (by omega)
  have d5 : ∀ x : Nat, (s : Int) * (1 + ((x % (30 / s) : Nat) : Int)) = ((s * (1 + x % (30 / s)) : Nat) : Int) := fun x => by rw [Int.natCast_mul, Int.natCast_add]; rfl
  have hdiv := div_ok hXY
  generalize hx : s * (1 + x1 % (30 / s)) = x at *
  generalize hy : s * (1 + x2 % (30 / s)) = y at *
  generalize hg : ((Nat.gcd x y : Nat) : Int) = g at *
  have m1 : cMul x y = true := cMul_r (by omega) (by omega)
  obtain ⟨a', b', g0, a0', b0, ex, ey, g3, u, v, e⟩ := hXY.parts
  have m2 : cDiv ((x : Int) * y) g = true := cDiv_of (by omega) (by omega) (by omega)
  refine ⟨dn, s, x, y, g, e3', s1, s5, hXY, fun G => ?_⟩
  rw [sSeq_nx (ρ' := [.im (.scr ns), .im (.int k), .im (.lst (dl dn)), .un, .un, .un, .un, .un, .un, .un, .un, .un, .un, .un, .un, .un, .un, .un, .un]) (by simp [e1, e2])]
  rw [sSeq_nx (ρ' := [.im (.scr ns), .im (.int k), .im (.lst (dl dn)), .im (.int (s : Nat)), .un, .un, .un, .un, .un, .un, .un, .un, .un, .un, .un, .un, .un, .un, .un]) (by
    by_cases hz : k = 0
    · rw [if_pos hz] at es
      simp [hz, ← es]
    · rw [if_neg hz] at es
      simp only [sSet_a, fIf_a, fCmp_a, fV_a, getS_z, getS_s, fC_a, Option.bind_some, gEq_i, decide_eq_false hz, Bool.false_eq_true, if_false, f2_a, fN_a, fAc_a, gIx_l, a0, fA0_a, gInt_i, gI_i, m0, if_true, f0, gAdd_i, es, setS_s, setS_z])]
  rw [sSeq_nx (ρ' := [.im (.scr ns), .im (.int k), .im (.lst (dl dn)), .im (.int (s : Nat)), .im (.int (x : Nat)), .un, .un, .un, .un, .un, .un, .un, .un, .un, .un, .un, .un, .un, .un]) (by simp [a1, d1, d2, d3, d4, d5, hx, nm, -Int.natCast_emod, -Int.natCast_ediv, -Int.natCast_mul, -Int.natCast_add])]
  rw [sSeq_nx (ρ' := [.im (.scr ns), .im (.int k), .im (.lst (dl dn)), .im (.int (s : Nat)), .im (.int (x : Nat)), .im (.int (y : Nat)), .un, .un, .un, .un, .un, .un, .un, .un, .un, .un, .un, .un, .un]) (by simp [a2, d1, d2, d3, d4, d5, hy, nm, -Int.natCast_emod, -Int.natCast_ediv, -Int.natCast_mul, -Int.natCast_add])]
  rw [sSeq_nx (ρ' := [.im (.scr ns), .im (.int k), .im (.lst (dl dn)), .im (.int (s : Nat)), .im (.int (x : Nat)), .im (.int (y : Nat)), .im (.int g), .un, .un, .un, .un, .un, .un, .un, .un, .un, .un, .un, .un]) (by simp [hdiv])]
  rw [sSeq_nx (ρ' := [.im (.scr ns), .im (.int k), .im (.lst (dl dn)), .im (.int (s : Nat)), .im (.int (x : Nat)), .im (.int (y : Nat)), .im (.int g), .im (.int ((x : Int) * y / g - x - y)), .un, .un, .un, .un, .un, .un, .un, .un, .un, .un, .un]) (by simp [m1, m2, fdp _ g0])]
end LK
end

section
set_option Elab.async false
set_option maxRecDepth 100000
namespace LK
open PySem EL
theorem turn_b (ns : List Int) (k : Int) (dn : List Nat) (s : Nat) (x y g : Int) (h : XY x y g) : ∃ bs : List Int, ∀ G : FnS, (sSeq (sSet 9 (fLst (fComp (fNL gRng3 (fAc (fC (.int 0)) (fAc (f2 gAdd (fN gMax2 (fAc (fC (.int 0)) (fAc (fV 7) fA0))) (fC (.int 1))) (fAc (fV 6) fA0)))) (hName 8) (fCmp gIsN (fFn 3 R_f_law_cut (fAc (fV 4) (fAc (fV 5) (fAc (fV 8) fA0)))) (fC .non)) (fV 8) [8]))) (sSeq (sIf (fOr (fNot (fTru (fFn 2 R_f_law_is (fAc (fFn 2 R_most_uncut (fAc (fV 4) (fAc (fV 5) fA0))) (fAc (fV 7) fA0))))) (fNot (fTru (fFn 2 R_f_law_is (fAc (fFn 2 R_count_uncut (fAc (fV 4) (fAc (fV 5) fA0))) (fAc (fN gLen (fAc (fV 9) fA0)) fA0)))))) (sRet (fC (.bl false))) sNil) (sSeq (sIf (fCmp gNotN (fFn 3 R_f_law_cut (fAc (fV 4) (fAc (fV 5) (fAc (fV 7) fA0)))) (fC .non)) (sRet (fC (.bl false))) sNil) (sSeq (sIf (fNot (fTru (fN gAll (fAc (fLst (fComp (fNL gRng1 (fAc (fV 4) fA0)) (hName 10) fYes (fOfB (fCmp gNotN (fFn 3 R_f_law_cut (fAc (fV 4) (fAc (fV 5) (fAc (f2 gAdd (fV 7) (f2 gMul (fV 6) (f2 gAdd (fC (.int 1)) (fV 10)))) fA0)))) (fC .non))) [10])) fA0)))) (sRet (fC (.bl false))) sNil) G)))) [.im (.scr ns), .im (.int k), .im (.lst (dl dn)), .im (.int (s : Nat)), .im (.int x), .im (.int y), .im (.int g), .im (.int (x * y / g - x - y)), .un, .un, .un, .un, .un, .un, .un, .un, .un, .un, .un] = G [.im (.scr ns), .im (.int k), .im (.lst (dl dn)), .im (.int (s : Nat)), .im (.int x), .im (.int y), .im (.int g), .im (.int (x * y / g - x - y)), .un, .im (.lst (bs.map Dt.int)), .un, .un, .un, .un, .un, .un, .un, .un, .un] := by
  have hx := h.x0; have hy := h.y0; have hx3 := h.x30; have hy3 := h.y30
  obtain ⟨a', b', g0, a0, b0, ex, ey, g3, u, v, e⟩ := h.parts
  have hxy : x * y ≤ 30 * 30 := Int.mul_le_mul hx3 hy3 (by omega) (by omega)
  have hL : x * y / g ≤ x * y := Int.ediv_le_self _ (Int.mul_nonneg (by omega) (by omega))
  have hL0 : 0 ≤ x * y / g := Int.ediv_nonneg (Int.mul_nonneg (by omega) (by omega)) (by omega)
  have hbl := bare_len h
  have hmo := most_ok h
  have hco := count_ok h
  have hmi := fun n hn => mirror h (n := n) hn
  generalize hM : x * y / g - x - y = M at *
  have hK : gMax2 [.int 0, .int M] = some (.int (if M > 0 then M else 0)) := rfl
  generalize hKK : (if M > 0 then M else 0) = KK at hK hbl
  have hKK0 : 0 ≤ KK ∧ KK ≤ 1000 := by rw [← hKK]; split <;> omega
  generalize hN : ((KK + 1 - 0 - 1) / g + 1).toNat = N at hbl
  have hNle : N ≤ 2000 := by
    have : (KK + 1 - 0 - 1) / g ≤ KK + 1 - 0 - 1 := Int.ediv_le_self _ (by omega)
    omega
  refine ⟨(EL.stI 0 g N).filter fun n => !(cutP x y n).isSome, fun G => ?_⟩
  have hcomp : (fComp (fNL gRng3 (fAc (fC (.int 0)) (fAc (f2 gAdd (fN gMax2 (fAc (fC (.int 0)) (fAc (fV 7) fA0))) (fC (.int 1))) (fAc (fV 6) fA0)))) (hName 8) (fCmp gIsN (fFn 3 R_f_law_cut (fAc (fV 4) (fAc (fV 5) (fAc (fV 8) fA0)))) (fC .non)) (fV 8) [8]) [.im (.scr ns), .im (.int k), .im (.lst (dl dn)), .im (.int (s : Nat)), .im (.int x), .im (.int y), .im (.int g), .im (.int M), .un, .un, .un, .un, .un, .un, .un, .un, .un, .un, .un] = some (((EL.stI 0 g N).filter fun n => !(cutP x y n).isSome).map Dt.int) := by
    refine fComp_of (ds := (EL.stI 0 g N).map Dt.int) ?_ rfl (by rw [List.length_map]; unfold EL.stI; rw [List.length_map, List.length_range]; omega) ?_
    · simp only [fNL_a, fAc_a, f2_a, fN_a, fC_a, fV_a, getS_z, getS_s, fA0_a, Option.bind_some, hK, gAdd_i]
      rw [rng3_of (by omega) (by omega) (by omega) (by omega) (by omega) (by omega) (by omega), hN]
    · refine comp_map Dt.int _ _ _ fun d hd => ⟨_, rfl, ?_, fun _ => rfl⟩
      have hd2 : d ≤ 1000000 := by
        unfold EL.stI at hd
        obtain ⟨i, hi, rfl⟩ := List.mem_map.mp hd
        rw [List.mem_range] at hi
        have : (i : Int) * g ≤ 2000 * 30 := Int.mul_le_mul (by omega) g3 (by omega) (by omega)
        omega
      simp [lcut_ok h d hd2, cutD_isn]
  rw [sSeq_nx (ρ' := [.im (.scr ns), .im (.int k), .im (.lst (dl dn)), .im (.int (s : Nat)), .im (.int x), .im (.int y), .im (.int g), .im (.int M), .un, .im (.lst (((EL.stI 0 g N).filter fun n => !(cutP x y n).isSome).map Dt.int)), .un, .un, .un, .un, .un, .un, .un, .un, .un]) (by
    rw [sSet_a, fLst_a, hcomp]
    simp only [Option.bind_some, setS_s, setS_z])]
  generalize hbs : ((EL.stI 0 g N).filter fun n => !(cutP x y n).isSome) = bs at *
  rw [sSeq_nx (ρ' := [.im (.scr ns), .im (.int k), .im (.lst (dl dn)), .im (.int (s : Nat)), .im (.int x), .im (.int y), .im (.int g), .im (.int M), .un, .im (.lst (bs.map Dt.int)), .un, .un, .un, .un, .un, .un, .un, .un, .un]) (by
    simp only [sIf_a, fOr_a, fNot_a, fTru_a, fFn_a, fAc_a, fV_a, getS_z, getS_s, fA0_a, Option.bind_some, List.length_cons, List.length_nil, if_true, hmo, is_int', tru_b, Bool.not_true, Bool.false_eq_true, if_false, hco, fN_a, gLen_l, List.length_map, hbl, sNil_a])]
  have hcM : cutP x y M = none := by
    have h1 := (hmi 0 ⟨0, by simp⟩)
    rw [Int.sub_zero] at h1
    cases hq : cutP x y M with
    | none => rfl
    | some p => exact absurd (cut_zero h) (h1.mp ((cutP_iff h M).mp (by rw [hq]; rfl)))
  have hcM' : cutD x y M = .non := by unfold cutD; rw [hcM]
  rw [sSeq_nx (ρ' := [.im (.scr ns), .im (.int k), .im (.lst (dl dn)), .im (.int (s : Nat)), .im (.int x), .im (.int y), .im (.int g), .im (.int M), .un, .im (.lst (bs.map Dt.int)), .un, .un, .un, .un, .un, .un, .un, .un, .un]) (by simp [lcut_ok h M (by omega), hcM'])]
  have hall : (fComp (fNL gRng1 (fAc (fV 4) fA0)) (hName 10) fYes (fOfB (fCmp gNotN (fFn 3 R_f_law_cut (fAc (fV 4) (fAc (fV 5) (fAc (f2 gAdd (fV 7) (f2 gMul (fV 6) (f2 gAdd (fC (.int 1)) (fV 10)))) fA0)))) (fC .non))) [10]) [.im (.scr ns), .im (.int k), .im (.lst (dl dn)), .im (.int (s : Nat)), .im (.int x), .im (.int y), .im (.int g), .im (.int M), .un, .im (.lst (bs.map Dt.int)), .un, .un, .un, .un, .un, .un, .un, .un, .un] = some (((rgI 0 x).map fun _ => true).map Dt.bl) := by
    refine fComp_of (ds := (rgI 0 x).map Dt.int) ?_ rfl (by rw [List.length_map, rgI_length]; omega) ?_
    · simp [rng1_of (show (-1000000000 : Int) ≤ x by omega) (show x ≤ 1000000000 by omega)]
    · rw [List.map_map]
      refine comp_all Dt.int _ _ fun d hd => ⟨_, rfl, rfl, ?_⟩
      rw [mem_rgI] at hd
      have m1 : cMul g (1 + d) = true := cMul_l (by omega) (by omega)
      have hg1 : g * (1 + d) ≤ 30 * 31 := Int.mul_le_mul g3 (by omega) (by omega) (by omega)
      have hg2 : 0 < g * (1 + d) := Int.mul_pos g0 (by omega)
      have hmm := hmi (-(g * (1 + d))) ⟨-(1 + d), by rw [Int.mul_neg]⟩
      rw [Int.sub_neg] at hmm
      have hct := (cutP_iff h (M + g * (1 + d))).mpr (hmm.mpr (cut_neg h (by omega)))
      simp only [fOfB_a, fCmp_a, fFn_a, fAc_a, fV_a, getS_z, getS_s, fA0_a, Option.bind_some, f2_a, fC_a, gAdd_i, gMul_i, m1, if_true, List.length_cons, List.length_nil, lcut_ok h (M + g * (1 + d)) (by omega), cutD_not, hct, wipeR_c, wipeR_n, setS_s, setS_z]
      rfl
  rw [sSeq_nx (ρ' := [.im (.scr ns), .im (.int k), .im (.lst (dl dn)), .im (.int (s : Nat)), .im (.int x), .im (.int y), .im (.int g), .im (.int M), .un, .im (.lst (bs.map Dt.int)), .un, .un, .un, .un, .un, .un, .un, .un, .un]) (by
    rw [sIf_a, fNot_a, fTru_a, fN_a, fAc_a, fLst_a, hall]
    simp only [Option.bind_some, fA0_a, gAll_l]
    simp)]
end LK
end

section
set_option Elab.async false
set_option maxRecDepth 100000
namespace LK
open PySem EL
theorem turn_c (ns : List Int) (k : Int) (hk0 : 0 ≤ k) (hk : k < 2) (dn : List Nat) (s : Nat) (x y g : Int) (h : XY x y g) (bs : List Int) : ∃ mn : List Nat, ∀ G : FnS, (sSeq (sSet 11 (fFn 2 R_f_law_draws (fAc (fFn 2 R_f_law_cell (fAc (fV 0) (fAc (f2 gAdd (fC (.int 2)) (fV 1)) fA0))) (fAc (fC (.int 14)) fA0)))) (sSeq (sSet 12 (fLst (fLstL (fAc (fV 7) (fAc (f2 gAdd (fV 7) (fV 6)) (fAc (fC (.int 0)) (fAc (f2 gMinus (fC (.int 0)) (f2 (gI cMod Int.fmod) (fN gInt (fAc (f2 gIx (fV 11) (fC (.int 0))) fA0)) (fC (.int 2000)))) (fAc (f2 (gI cMod Int.fmod) (fN gInt (fAc (f2 gIx (fV 11) (fC (.int 1))) fA0)) (fC (.int 2001))) (fAc (f2 gMul (fV 6) (f2 (gI cMod Int.fmod) (fN gInt (fAc (f2 gIx (fV 11) (fC (.int 2))) fA0)) (fC (.int 60)))) fA0))))))))) (sSeq (sFor (f1L gItems (f2 gAdd (fV 12) (fLst (fLstL (fAc (f2 (gI cMod Int.fmod) (fN gInt (fAc (f2 gIx (fV 11) (fC (.int 3))) fA0)) (fC (.int 60))) (fAc (f2 gMul (f2 (gI cDiv Int.fdiv) (f2 (gI cDiv Int.fdiv) (fN gMax2 (fAc (fC (.int 0)) (fAc (fV 7) fA0))) (fC (.int 2))) (fV 6)) (fV 6)) (fAc (f2 gMul (f2 (gI cDiv Int.fdiv) (f2 (gI cDiv Int.fdiv) (fN gMax2 (fAc (fC (.int 0)) (fAc (fV 7) fA0))) (fC (.int 3))) (fV 6)) (fV 6)) fA0))))))) (hName 8) [true, true, true, true, true, true, true, false, false, false, false, true, false, false, false, false, false, false, false]
   (sIf (fNot (fTru (fFn 5 R_f_law_amount (fAc (fV 4) (fAc (fV 5) (fAc (fV 6) (fAc (fV 8) (fAc (fSl (fV 11) (fPart (fC (.int 4))) (fPart (fC (.int 12)))) fA0)))))))) (sRet (fC (.bl false))) sNil)) G))) [.im (.scr ns), .im (.int k), .im (.lst (dl dn)), .im (.int (s : Nat)), .im (.int x), .im (.int y), .im (.int g), .im (.int (x * y / g - x - y)), .un, .im (.lst (bs.map Dt.int)), .un, .un, .un, .un, .un, .un, .un, .un, .un] = G [.im (.scr ns), .im (.int k), .im (.lst (dl dn)), .im (.int (s : Nat)), .im (.int x), .im (.int y), .im (.int g), .un, .un, .un, .un, .im (.lst (dl mn)), .un, .un, .un, .un, .un, .un, .un] := by
  have hx := h.x0; have hy := h.y0; have hx3 := h.x30; have hy3 := h.y30
  obtain ⟨a', b', g0, a0, b0, ex, ey, g3, u, v, e⟩ := h.parts
  have hxy : x * y ≤ 30 * 30 := Int.mul_le_mul hx3 hy3 (by omega) (by omega)
  have hL : x * y / g ≤ x * y := Int.ediv_le_self _ (Int.mul_nonneg (by omega) (by omega))
  have hL0 : 0 ≤ x * y / g := Int.ediv_nonneg (Int.mul_nonneg (by omega) (by omega)) (by omega)
  generalize hM : x * y / g - x - y = M at *
  obtain ⟨c, mn, e1, e2, e3⟩ := draws_dl ns (2 + k) 14 (by omega) (by omega) (by omega) (by omega)
  have e3' : mn.length = 14 := e3
  have q0 := dl_at (dn := mn) 0 (by omega) (by omega)
  have q1 := dl_at (dn := mn) 1 (by omega) (by omega)
  have q2 := dl_at (dn := mn) 2 (by omega) (by omega)
  have q3 := dl_at (dn := mn) 3 (by omega) (by omega)
  generalize mn.getD (0 : Int).toNat 0 = x0 at q0
  generalize mn.getD (1 : Int).toNat 0 = x1 at q1
  generalize mn.getD (2 : Int).toNat 0 = x2 at q2
  generalize mn.getD (3 : Int).toNat 0 = x3 at q3
  have m0 : cMod x0 2000 = true := cMod_of (by omega)
  have m1 : cMod x1 2001 = true := cMod_of (by omega)
  have m2 : cMod x2 60 = true := cMod_of (by omega)
  have m3 : cMod x3 60 = true := cMod_of (by omega)
  have f0 : Int.fmod (x0 : Int) 2000 = ((x0 % 2000 : Nat) : Int) := nm x0 2000
  have f1 : Int.fmod (x1 : Int) 2001 = ((x1 % 2001 : Nat) : Int) := nm x1 2001
  have f2' : Int.fmod (x2 : Int) 60 = ((x2 % 60 : Nat) : Int) := nm x2 60
  have f3 : Int.fmod (x3 : Int) 60 = ((x3 % 60 : Nat) : Int) := nm x3 60
  have m4 : ∀ z, cMul g z = true := fun z => cMul_l (by omega) (by omega)
  have m5 : ∀ z, cMul z g = true := fun z => cMul_r (by omega) (by omega)
  have hK : gMax2 [.int 0, .int M] = some (.int (if M > 0 then M else 0)) := rfl
  generalize hKK : (if M > 0 then M else 0) = KK at hK
  have hKK0 : 0 ≤ KK ∧ KK ≤ 1000 := by rw [← hKK]; split <;> omega
  have d2 : ∀ z, cDiv z 2 = true := fun z => cDiv_of (by omega) (by omega) (by omega)
  have d3 : ∀ z, cDiv z 3 = true := fun z => cDiv_of (by omega) (by omega) (by omega)
  have d4 : ∀ z, cDiv z g = true := fun z => cDiv_of (by omega) (by omega) (by omega)
  generalize hz0 : x0 % 2000 = z0 at f0
  generalize hz1 : x1 % 2001 = z1 at f1
  generalize hz2 : x2 % 60 = z2 at f2'
  generalize hz3 : x3 % 60 = z3 at f3
  have hgz : 0 ≤ g * (z2 : Int) ∧ g * (z2 : Int) ≤ 30 * 60 := ⟨Int.mul_nonneg (by omega) (by omega), Int.mul_le_mul g3 (by omega) (by omega) (by omega)⟩
  have hh2 : ∀ w, 0 ≤ w → w ≤ 1000 → 0 ≤ w / g * g ∧ w / g * g ≤ 1000 := fun w w0 w1 => ⟨Int.mul_nonneg (Int.ediv_nonneg w0 (by omega)) (by omega), Int.le_trans (Int.ediv_mul_le w (by omega)) w1⟩
  have hw2 := hh2 (KK / 2) (by omega) (by omega)
  have hw3 := hh2 (KK / 3) (by omega) (by omega)
  generalize hW2 : KK / 2 / g * g = W2 at hw2
  generalize hW3 : KK / 3 / g * g = W3 at hw3
  have hsl : cutL (dl mn) (some (4 : Int)) (some (12 : Int)) = dl ((mn.drop 4).take 8) := cut_dl mn 4 12 (by omega) (by omega)
  have hsl8 : ((mn.drop 4).take 8).length = 8 := by rw [List.length_take, List.length_drop, e3']; rfl
  have hF := for_fold (gf := (hName 8)) (mk := [true, true, true, true, true, true, true, false, false, false, false, true, false, false, false, false, false, false, false]) (F := (sIf (fNot (fTru (fFn 5 R_f_law_amount (fAc (fV 4) (fAc (fV 5) (fAc (fV 6) (fAc (fV 8) (fAc (fSl (fV 11) (fPart (fC (.int 4))) (fPart (fC (.int 12)))) fA0)))))))) (sRet (fC (.bl false))) sNil)) Dt.int (fun _ : Unit => [.im (.scr ns), .im (.int k), .im (.lst (dl dn)), .im (.int (s : Nat)), .im (.int x), .im (.int y), .im (.int g), .un, .un, .un, .un, .im (.lst (dl mn)), .un, .un, .un, .un, .un, .un, .un]) (fun _ _ => ()) (fun _ xs => ∀ j ∈ xs, -100000 ≤ j ∧ j ≤ 100000) ([M, M + g, 0, 0 - (z0 : Int), (z1 : Int), g * (z2 : Int)] ++ [(z3 : Int), W2, W3]) () (fun j hj => by
    simp only [List.cons_append, List.nil_append, List.mem_cons, List.not_mem_nil, or_false] at hj
    rcases hj with rfl | rfl | rfl | rfl | rfl | rfl | rfl | rfl | rfl <;> omega) (fun _ t r hh => by
    have ht := hh t List.mem_cons_self
    refine ⟨?_, fun j hj => hh j (List.mem_cons_of_mem _ hj)⟩
    rw [turn_nx (ρ2 := [.im (.scr ns), .im (.int k), .im (.lst (dl dn)), .im (.int (s : Nat)), .im (.int x), .im (.int y), .im (.int g), .un, .im (.int t), .un, .un, .im (.lst (dl mn)), .un, .un, .un, .un, .un, .un, .un]) (hName_a 8 _ _) (by simp [-List.map_take, -List.map_drop, hsl, amount_ok h t ht.1 ht.2 _ hsl8])]
    rfl)
  have hI : (f1L gItems (f2 gAdd (fV 12) (fLst (fLstL (fAc (f2 (gI cMod Int.fmod) (fN gInt (fAc (f2 gIx (fV 11) (fC (.int 3))) fA0)) (fC (.int 60))) (fAc (f2 gMul (f2 (gI cDiv Int.fdiv) (f2 (gI cDiv Int.fdiv) (fN gMax2 (fAc (fC (.int 0)) (fAc (fV 7) fA0))) (fC (.int 2))) (fV 6)) (fV 6)) (fAc (f2 gMul (f2 (gI cDiv Int.fdiv) (f2 (gI cDiv Int.fdiv) (fN gMax2 (fAc (fC (.int 0)) (fAc (fV 7) fA0))) (fC (.int 3))) (fV 6)) (fV 6)) fA0))))))) [.im (.scr ns), .im (.int k), .im (.lst (dl dn)), .im (.int (s : Nat)), .im (.int x), .im (.int y), .im (.int g), .im (.int M), .un, .im (.lst (bs.map Dt.int)), .un, .im (.lst (dl mn)), .im (.lst ([M, M + g, 0, 0 - (z0 : Int), (z1 : Int), g * (z2 : Int)].map Dt.int)), .un, .un, .un, .un, .un, .un] = some (([M, M + g, 0, 0 - (z0 : Int), (z1 : Int), g * (z2 : Int)] ++ [(z3 : Int), W2, W3]).map Dt.int) := by
    have hl : (fLst (fLstL (fAc (f2 (gI cMod Int.fmod) (fN gInt (fAc (f2 gIx (fV 11) (fC (.int 3))) fA0)) (fC (.int 60))) (fAc (f2 gMul (f2 (gI cDiv Int.fdiv) (f2 (gI cDiv Int.fdiv) (fN gMax2 (fAc (fC (.int 0)) (fAc (fV 7) fA0))) (fC (.int 2))) (fV 6)) (fV 6)) (fAc (f2 gMul (f2 (gI cDiv Int.fdiv) (f2 (gI cDiv Int.fdiv) (fN gMax2 (fAc (fC (.int 0)) (fAc (fV 7) fA0))) (fC (.int 3))) (fV 6)) (fV 6)) fA0))))) [.im (.scr ns), .im (.int k), .im (.lst (dl dn)), .im (.int (s : Nat)), .im (.int x), .im (.int y), .im (.int g), .im (.int M), .un, .im (.lst (bs.map Dt.int)), .un, .im (.lst (dl mn)), .im (.lst ([M, M + g, 0, 0 - (z0 : Int), (z1 : Int), g * (z2 : Int)].map Dt.int)), .un, .un, .un, .un, .un, .un] = some (.lst ([(z3 : Int), W2, W3].map Dt.int)) := by
      simp [-gMax2_i, hK, q3, m3, f3, d2, d3, d4, m5, fdp _ (show (0 : Int) < 2 by omega), fdp _ (show (0 : Int) < 3 by omega), fdp _ g0, hW2, hW3]
    rw [f1L_a, f2_a, hl]
    simp only [fV_a, getS_s, getS_z, Option.bind_some]
    rw [gAdd_ll (by simp) (by simp)]
    simp
  refine ⟨mn, fun G => ?_⟩
  have hB : (sSeq (sSet 11 (fFn 2 R_f_law_draws (fAc (fFn 2 R_f_law_cell (fAc (fV 0) (fAc (f2 gAdd (fC (.int 2)) (fV 1)) fA0))) (fAc (fC (.int 14)) fA0)))) (sSeq (sSet 12 (fLst (fLstL (fAc (fV 7) (fAc (f2 gAdd (fV 7) (fV 6)) (fAc (fC (.int 0)) (fAc (f2 gMinus (fC (.int 0)) (f2 (gI cMod Int.fmod) (fN gInt (fAc (f2 gIx (fV 11) (fC (.int 0))) fA0)) (fC (.int 2000)))) (fAc (f2 (gI cMod Int.fmod) (fN gInt (fAc (f2 gIx (fV 11) (fC (.int 1))) fA0)) (fC (.int 2001))) (fAc (f2 gMul (fV 6) (f2 (gI cMod Int.fmod) (fN gInt (fAc (f2 gIx (fV 11) (fC (.int 2))) fA0)) (fC (.int 60)))) fA0))))))))) (sSeq (sFor (f1L gItems (f2 gAdd (fV 12) (fLst (fLstL (fAc (f2 (gI cMod Int.fmod) (fN gInt (fAc (f2 gIx (fV 11) (fC (.int 3))) fA0)) (fC (.int 60))) (fAc (f2 gMul (f2 (gI cDiv Int.fdiv) (f2 (gI cDiv Int.fdiv) (fN gMax2 (fAc (fC (.int 0)) (fAc (fV 7) fA0))) (fC (.int 2))) (fV 6)) (fV 6)) (fAc (f2 gMul (f2 (gI cDiv Int.fdiv) (f2 (gI cDiv Int.fdiv) (fN gMax2 (fAc (fC (.int 0)) (fAc (fV 7) fA0))) (fC (.int 3))) (fV 6)) (fV 6)) fA0))))))) (hName 8) [true, true, true, true, true, true, true, false, false, false, false, true, false, false, false, false, false, false, false]
   (sIf (fNot (fTru (fFn 5 R_f_law_amount (fAc (fV 4) (fAc (fV 5) (fAc (fV 6) (fAc (fV 8) (fAc (fSl (fV 11) (fPart (fC (.int 4))) (fPart (fC (.int 12)))) fA0)))))))) (sRet (fC (.bl false))) sNil)) G))) [.im (.scr ns), .im (.int k), .im (.lst (dl dn)), .im (.int (s : Nat)), .im (.int x), .im (.int y), .im (.int g), .im (.int M), .un, .im (.lst (bs.map Dt.int)), .un, .un, .un, .un, .un, .un, .un, .un, .un] = (sSeq (sFor (f1L gItems (f2 gAdd (fV 12) (fLst (fLstL (fAc (f2 (gI cMod Int.fmod) (fN gInt (fAc (f2 gIx (fV 11) (fC (.int 3))) fA0)) (fC (.int 60))) (fAc (f2 gMul (f2 (gI cDiv Int.fdiv) (f2 (gI cDiv Int.fdiv) (fN gMax2 (fAc (fC (.int 0)) (fAc (fV 7) fA0))) (fC (.int 2))) (fV 6)) (fV 6)) (fAc (f2 gMul (f2 (gI cDiv Int.fdiv) (f2 (gI cDiv Int.fdiv) (fN gMax2 (fAc (fC (.int 0)) (fAc (fV 7) fA0))) (fC (.int 3))) (fV 6)) (fV 6)) fA0))))))) (hName 8) [true, true, true, true, true, true, true, false, false, false, false, true, false, false, false, false, false, false, false]
   (sIf (fNot (fTru (fFn 5 R_f_law_amount (fAc (fV 4) (fAc (fV 5) (fAc (fV 6) (fAc (fV 8) (fAc (fSl (fV 11) (fPart (fC (.int 4))) (fPart (fC (.int 12)))) fA0)))))))) (sRet (fC (.bl false))) sNil)) G) [.im (.scr ns), .im (.int k), .im (.lst (dl dn)), .im (.int (s : Nat)), .im (.int x), .im (.int y), .im (.int g), .im (.int M), .un, .im (.lst (bs.map Dt.int)), .un, .im (.lst (dl mn)), .im (.lst ([M, M + g, 0, 0 - (z0 : Int), (z1 : Int), g * (z2 : Int)].map Dt.int)), .un, .un, .un, .un, .un, .un] := by
    rw [sSeq_nx (ρ' := [.im (.scr ns), .im (.int k), .im (.lst (dl dn)), .im (.int (s : Nat)), .im (.int x), .im (.int y), .im (.int g), .im (.int M), .un, .im (.lst (bs.map Dt.int)), .un, .im (.lst (dl mn)), .un, .un, .un, .un, .un, .un, .un]) (by simp [e1, e2])]
    rw [sSeq_nx (ρ' := [.im (.scr ns), .im (.int k), .im (.lst (dl dn)), .im (.int (s : Nat)), .im (.int x), .im (.int y), .im (.int g), .im (.int M), .un, .im (.lst (bs.map Dt.int)), .un, .im (.lst (dl mn)), .im (.lst ([M, M + g, 0, 0 - (z0 : Int), (z1 : Int), g * (z2 : Int)].map Dt.int)), .un, .un, .un, .un, .un, .un]) (by simp [q0, q1, q2, m0, m1, m2, f0, f1, f2', m4])]
  rw [hB, sSeq_nx (ρ' := [.im (.scr ns), .im (.int k), .im (.lst (dl dn)), .im (.int (s : Nat)), .im (.int x), .im (.int y), .im (.int g), .un, .un, .un, .un, .im (.lst (dl mn)), .un, .un, .un, .un, .un, .un, .un]) (by
    rw [sFor_a, hI, Option.bind_some]
    simp only [clr_t, clr_f, clr_n]
    exact hF)]
end LK
end

section
set_option Elab.async false
set_option maxRecDepth 100000
namespace LK
open PySem EL
theorem turn_d (ns : List Int) (k : Int) (hk0 : 0 ≤ k) (hk : k < 2) (dn mn : List Nat) (hd : dn.length = 22) (s : Nat) (s1 : 1 ≤ s) (s5 : s ≤ 5) (x y g : Int) : ∃ ρ, (sSeq (sSet 13 (fN gTuple (fAc (fLst (fComp (fNL gRng1 (fAc (f2 (gI cMod Int.fmod) (fN gInt (fAc (f2 gIx (fV 2) (fC (.int 3))) fA0)) (fC (.int 7))) fA0)) (hName 10) fYes (f2 (gI cMod Int.fmod) (fN gInt (fAc (f2 gIx (fV 2) (f2 gAdd (fC (.int 4)) (fV 10))) fA0)) (fC (.int 201))) [10])) fA0))) (sSeq (sSet 14 (f2 gAdd (fC (.int 1)) (f2 (gI cMod Int.fmod) (fN gInt (fAc (f2 gIx (fV 2) (fC (.int 11))) fA0)) (fC (.int 40))))) (sSeq (sSet 15 (f2 gAdd (fV 14) (f2 (gI cMod Int.fmod) (fN gInt (fAc (f2 gIx (fV 2) (fC (.int 12))) fA0)) (f2 gMinus (fC (.int 41)) (fV 14))))) (sSeq (sIf (fCmp gEq (fV 1) (fC (.int 1))) (sSeq (sSet 13 (fN gTuple (fAc (fLst (fComp (f1L gItems (fV 13)) (hName 16) fYes (f2 gMul (fV 3) (f2 (gI cDiv Int.fdiv) (fV 16) (fV 3))) [16])) fA0)))
  (sSeq (sSet 14 (f2 gAdd (fC (.int 1)) (f2 (gI cMod Int.fmod) (fN gInt (fAc (f2 gIx (fV 2) (fC (.int 11))) fA0)) (fV 3))))
  (sSet 15 (fN gMax2 (fAc (fV 15) (fAc (fV 3) fA0)))))) sNil) (sSeq (sSet 18 (fN gMinD (fAc (fLst (fComp (fNL gRng2 (fAc (fV 14) (fAc (f2 gAdd (fV 15) (fC (.int 1))) fA0))) (hName 17) fYes (fTup (fAc (fN gSum (fAc (fLst (fComp (f1L gItems (fV 13)) (hName 16) fYes (f2 (gI cMod Int.fmod) (fV 16) (fV 17)) [16])) fA0)) (fAc (fV 17) fA0))) [17])) fA0))) (sIf (fNot (fTru (fFn 2 R_f_law_is (fAc (fFn 3 R_told_portion (fAc (fV 13) (fAc (fV 14) (fAc (fV 15) fA0)))) (fAc (fV 18) fA0))))) (sRet (fC (.bl false))) sNil)))))) [.im (.scr ns), .im (.int k), .im (.lst (dl dn)), .im (.int (s : Nat)), .im (.int x), .im (.int y), .im (.int g), .un, .un, .un, .un, .im (.lst (dl mn)), .un, .un, .un, .un, .un, .un, .un] = some (.nx ρ) ∧ clr [true, false, false, false, false, false, false, false, false, false, false, false, false, false, false, false, false, false, false] ρ = [.im (.scr ns), .un, .un, .un, .un, .un, .un, .un, .un, .un, .un, .un, .un, .un, .un, .un, .un, .un, .un] := by
  have a3 := dl_at (dn := dn) 3 (by omega) (by omega)
  have a11 := dl_at (dn := dn) 11 (by omega) (by omega)
  have a12 := dl_at (dn := dn) 12 (by omega) (by omega)
  generalize dn.getD (3 : Int).toNat 0 = x3 at a3
  generalize dn.getD (11 : Int).toNat 0 = x11 at a11
  generalize dn.getD (12 : Int).toNat 0 = x12 at a12
  have m3 : cMod x3 7 = true := cMod_of (by omega)
  have f3 : Int.fmod (x3 : Int) 7 = ((x3 % 7 : Nat) : Int) := nm x3 7
  have m11 : cMod x11 40 = true := cMod_of (by omega)
  have f11 : Int.fmod (x11 : Int) 40 = ((x11 % 40 : Nat) : Int) := nm x11 40
  generalize hz3 : x3 % 7 = z3 at f3
  generalize hz11 : x11 % 40 = z11 at f11
  have hlo : 0 < 41 - (1 + (z11 : Int)) := by omega
  have m12 : cMod x12 (41 - (1 + (z11 : Int))) = true := cMod_of (by omega)
  have f12 := fmp (x12 : Int) hlo
  have r0 := Int.emod_nonneg (x12 : Int) (show 41 - (1 + (z11 : Int)) ≠ 0 by omega)
  have r1 := Int.emod_lt_of_pos (x12 : Int) hlo
  generalize (x12 : Int) % (41 - (1 + (z11 : Int))) = w at f12 r0 r1
  -- the doughs
  have h13 : ∃ ds : List Int, ds.length ≤ 6 ∧ (sSet 13 (fN gTuple (fAc (fLst (fComp (fNL gRng1 (fAc (f2 (gI cMod Int.fmod) (fN gInt (fAc (f2 gIx (fV 2) (fC (.int 3))) fA0)) (fC (.int 7))) fA0)) (hName 10) fYes (f2 (gI cMod Int.fmod) (fN gInt (fAc (f2 gIx (fV 2) (f2 gAdd (fC (.int 4)) (fV 10))) fA0)) (fC (.int 201))) [10])) fA0))) [.im (.scr ns), .im (.int k), .im (.lst (dl dn)), .im (.int (s : Nat)), .im (.int x), .im (.int y), .im (.int g), .un, .un, .un, .un, .im (.lst (dl mn)), .un, .un, .un, .un, .un, .un, .un] = some (.nx [.im (.scr ns), .im (.int k), .im (.lst (dl dn)), .im (.int (s : Nat)), .im (.int x), .im (.int y), .im (.int g), .un, .un, .un, .un, .im (.lst (dl mn)), .un, .im (.tup (ds.map Dt.int)), .un, .un, .un, .un, .un]) := by
    have hc : (fComp (fNL gRng1 (fAc (f2 (gI cMod Int.fmod) (fN gInt (fAc (f2 gIx (fV 2) (fC (.int 3))) fA0)) (fC (.int 7))) fA0)) (hName 10) fYes (f2 (gI cMod Int.fmod) (fN gInt (fAc (f2 gIx (fV 2) (f2 gAdd (fC (.int 4)) (fV 10))) fA0)) (fC (.int 201))) [10]) [.im (.scr ns), .im (.int k), .im (.lst (dl dn)), .im (.int (s : Nat)), .im (.int x), .im (.int y), .im (.int g), .un, .un, .un, .un, .im (.lst (dl mn)), .un, .un, .un, .un, .un, .un, .un] = some (((rgI 0 (z3 : Int)).map fun i => Int.fmod ((dn.getD (4 + i).toNat 0 : Nat) : Int) 201).map Dt.int) := by
      refine fComp_of (ds := (rgI 0 (z3 : Int)).map Dt.int) ?_ rfl (by rw [List.length_map, rgI_length]; omega) ?_
      · simp [a3, m3, f3, -Int.natCast_emod, rng1_of (show (-1000000000 : Int) ≤ (z3 : Int) by omega) (show (z3 : Int) ≤ 1000000000 by omega)]
      · rw [List.map_map]
        refine comp_all Dt.int _ _ fun i hi => ⟨_, rfl, rfl, ?_⟩
        rw [mem_rgI] at hi
        have ai := dl_at (dn := dn) (4 + i) (by omega) (by omega)
        have mi : cMod ((dn.getD (4 + i).toNat 0 : Nat) : Int) 201 = true := cMod_of (by omega)
        show _ = some (Dt.int (Int.fmod ((dn.getD (4 + i).toNat 0 : Nat) : Int) 201))
        generalize dn.getD (4 + i).toNat 0 = xi at ai mi ⊢
        simp [ai, mi]
    refine ⟨(rgI 0 (z3 : Int)).map fun i => Int.fmod ((dn.getD (4 + i).toNat 0 : Nat) : Int) 201, by rw [List.length_map, rgI_length]; omega, ?_⟩
    rw [sSet_a, fN_a, fAc_a, fLst_a, hc]
    simp only [Option.bind_some, fA0_a, gTuple_l, setS_s, setS_z]
  obtain ⟨ds0, hds0, e13⟩ := h13
  rw [sSeq_nx e13]
  rw [sSeq_nx (ρ' := [.im (.scr ns), .im (.int k), .im (.lst (dl dn)), .im (.int (s : Nat)), .im (.int x), .im (.int y), .im (.int g), .un, .un, .un, .un, .im (.lst (dl mn)), .un, .im (.tup (ds0.map Dt.int)), .im (.int (1 + (z11 : Int))), .un, .un, .un, .un]) (by simp [a11, m11, f11])]
  rw [sSeq_nx (ρ' := [.im (.scr ns), .im (.int k), .im (.lst (dl dn)), .im (.int (s : Nat)), .im (.int x), .im (.int y), .im (.int g), .un, .un, .un, .un, .im (.lst (dl mn)), .un, .im (.tup (ds0.map Dt.int)), .im (.int (1 + (z11 : Int))), .im (.int (1 + (z11 : Int) + w)), .un, .un, .un]) (by simp [a12, m12, f12])]
  have h16 : ∃ (ds : List Int) (lo hi : Int), ds.length ≤ 6 ∧ 1 ≤ lo ∧ lo ≤ hi ∧ hi ≤ 1000 ∧ (sIf (fCmp gEq (fV 1) (fC (.int 1))) (sSeq (sSet 13 (fN gTuple (fAc (fLst (fComp (f1L gItems (fV 13)) (hName 16) fYes (f2 gMul (fV 3) (f2 (gI cDiv Int.fdiv) (fV 16) (fV 3))) [16])) fA0)))
  (sSeq (sSet 14 (f2 gAdd (fC (.int 1)) (f2 (gI cMod Int.fmod) (fN gInt (fAc (f2 gIx (fV 2) (fC (.int 11))) fA0)) (fV 3))))
  (sSet 15 (fN gMax2 (fAc (fV 15) (fAc (fV 3) fA0)))))) sNil) [.im (.scr ns), .im (.int k), .im (.lst (dl dn)), .im (.int (s : Nat)), .im (.int x), .im (.int y), .im (.int g), .un, .un, .un, .un, .im (.lst (dl mn)), .un, .im (.tup (ds0.map Dt.int)), .im (.int (1 + (z11 : Int))), .im (.int (1 + (z11 : Int) + w)), .un, .un, .un] = some (.nx [.im (.scr ns), .im (.int k), .im (.lst (dl dn)), .im (.int (s : Nat)), .im (.int x), .im (.int y), .im (.int g), .un, .un, .un, .un, .im (.lst (dl mn)), .un, .im (.tup (ds.map Dt.int)), .im (.int (lo : Int)), .im (.int (hi : Int)), .un, .un, .un]) := by
    by_cases hk1 : k = 1
    · subst hk1
      have ms : cMod x11 s = true := cMod_of (by omega)
      have fs := nm x11 s
      have hz := Nat.mod_lt x11 (show 0 < s by omega)
      generalize x11 % s = zs at fs hz
      have hc : (fComp (f1L gItems (fV 13)) (hName 16) fYes (f2 gMul (fV 3) (f2 (gI cDiv Int.fdiv) (fV 16) (fV 3))) [16]) [.im (.scr ns), .im (.int 1), .im (.lst (dl dn)), .im (.int (s : Nat)), .im (.int x), .im (.int y), .im (.int g), .un, .un, .un, .un, .im (.lst (dl mn)), .un, .im (.tup (ds0.map Dt.int)), .im (.int (1 + (z11 : Int))), .im (.int (1 + (z11 : Int) + w)), .un, .un, .un] = some ((ds0.map fun d => (s : Int) * Int.fdiv d s).map Dt.int) := by
        refine fComp_of (ds := ds0.map Dt.int) (by simp) rfl (by rw [List.length_map]; omega) ?_
        rw [List.map_map]
        refine comp_all Dt.int _ _ fun d hd => ⟨_, rfl, rfl, ?_⟩
        have md : cDiv d s = true := cDiv_of (by omega) (by omega) (by omega)
        have mm : ∀ z, cMul s z = true := fun z => cMul_l (by omega) (by omega)
        simp [md, mm]
      have hgm : gMax2 [.int (1 + (z11 : Int) + w), .int (s : Nat)] = some (.int (if (s : Int) > 1 + (z11 : Int) + w then (s : Int) else 1 + (z11 : Int) + w)) := rfl
      refine ⟨ds0.map fun d => (s : Int) * Int.fdiv d s, 1 + (zs : Int), if (s : Int) > 1 + (z11 : Int) + w then (s : Int) else 1 + (z11 : Int) + w, by rw [List.length_map]; exact hds0, by omega, by split <;> omega, by split <;> omega, ?_⟩
      simp only [sIf_a, fCmp_a, fV_a, getS_s, getS_z, fC_a, Option.bind_some, gEq_i, decide_true, if_true]
      rw [sSeq_nx (ρ' := [.im (.scr ns), .im (.int 1), .im (.lst (dl dn)), .im (.int (s : Nat)), .im (.int x), .im (.int y), .im (.int g), .un, .un, .un, .un, .im (.lst (dl mn)), .un, .im (.tup ((ds0.map fun d => (s : Int) * Int.fdiv d s).map Dt.int)), .im (.int (1 + (z11 : Int))), .im (.int (1 + (z11 : Int) + w)), .un, .un, .un]) (by
        rw [sSet_a, fN_a, fAc_a, fLst_a, hc]
        simp only [Option.bind_some, fA0_a, gTuple_l, setS_s, setS_z])]
      rw [sSeq_nx (ρ' := [.im (.scr ns), .im (.int 1), .im (.lst (dl dn)), .im (.int (s : Nat)), .im (.int x), .im (.int y), .im (.int g), .un, .un, .un, .un, .im (.lst (dl mn)), .un, .im (.tup ((ds0.map fun d => (s : Int) * Int.fdiv d s).map Dt.int)), .im (.int (1 + (zs : Int))), .im (.int (1 + (z11 : Int) + w)), .un, .un, .un]) (by simp [a11, ms, fs])]
      simp [-gMax2_i, hgm]
    · exact ⟨ds0, 1 + (z11 : Int), 1 + (z11 : Int) + w, hds0, by omega, by omega, by omega, by simp [hk1]⟩
  obtain ⟨ds, lo, hi, hds, l1, l2, l3, e16⟩ := h16
  rw [sSeq_nx e16]
  obtain ⟨b, hb⟩ := pv_min ds lo hi l2
  have hp := portion_ok ds (by omega) lo hi l1 l3 l2 hb
  have hc : (fComp (fNL gRng2 (fAc (fV 14) (fAc (f2 gAdd (fV 15) (fC (.int 1))) fA0))) (hName 17) fYes (fTup (fAc (fN gSum (fAc (fLst (fComp (f1L gItems (fV 13)) (hName 16) fYes (f2 (gI cMod Int.fmod) (fV 16) (fV 17)) [16])) fA0)) (fAc (fV 17) fA0))) [17]) [.im (.scr ns), .im (.int k), .im (.lst (dl dn)), .im (.int (s : Nat)), .im (.int x), .im (.int y), .im (.int g), .un, .un, .un, .un, .im (.lst (dl mn)), .un, .im (.tup (ds.map Dt.int)), .im (.int (lo : Int)), .im (.int (hi : Int)), .un, .un, .un] = some ((pv ds lo hi).map en2) := by
    refine fComp_of (ds := (rgI lo (hi + 1)).map Dt.int) ?_ rfl (by rw [List.length_map, rgI_length]; omega) ?_
    · simp only [fNL_a, fAc_a, f2_a, fC_a, fV_a, getS_z, getS_s, fA0_a, Option.bind_some, gAdd_i]
      rw [rng2_of (by omega) (by omega) (by omega) (by omega)]
    · unfold pv
      rw [List.map_map]
      refine comp_all Dt.int _ _ fun u hu => ⟨_, rfl, rfl, ?_⟩
      rw [mem_rgI] at hu
      have hin : (fComp (f1L gItems (fV 13)) (hName 16) fYes (f2 (gI cMod Int.fmod) (fV 16) (fV 17)) [16]) [.im (.scr ns), .im (.int k), .im (.lst (dl dn)), .im (.int (s : Nat)), .im (.int x), .im (.int y), .im (.int g), .un, .un, .un, .un, .im (.lst (dl mn)), .un, .im (.tup (ds.map Dt.int)), .im (.int (lo : Int)), .im (.int (hi : Int)), .un, .im (.int u), .un] = some ((ds.map fun d => Int.fmod d u).map Dt.int) := by
        refine fComp_of (ds := ds.map Dt.int) (by simp) rfl (by rw [List.length_map]; omega) ?_
        rw [List.map_map]
        refine comp_all Dt.int _ _ fun d hd => ⟨_, rfl, rfl, ?_⟩
        have mu : cMod d u = true := cMod_of (by omega)
        simp [mu]
      show (fTup _ [.im (.scr ns), .im (.int k), .im (.lst (dl dn)), .im (.int (s : Nat)), .im (.int x), .im (.int y), .im (.int g), .un, .un, .un, .un, .im (.lst (dl mn)), .un, .im (.tup (ds.map Dt.int)), .im (.int (lo : Int)), .im (.int (hi : Int)), .un, .im (.int u), .un]) = _
      simp only [fTup_a, fAc_a, fN_a, fLst_a, hin, Option.bind_some, fA0_a, gSum_l, fV_a, getS_z, getS_s]
      simp [en2]
  rw [sSeq_nx (ρ' := [.im (.scr ns), .im (.int k), .im (.lst (dl dn)), .im (.int (s : Nat)), .im (.int x), .im (.int y), .im (.int g), .un, .un, .un, .un, .im (.lst (dl mn)), .un, .im (.tup (ds.map Dt.int)), .im (.int (lo : Int)), .im (.int (hi : Int)), .un, .un, .im (en2 b)]) (by
    rw [sSet_a, fN_a, fAc_a, fLst_a, hc]
    simp only [Option.bind_some, fA0_a, hb, setS_s, setS_z])]
  refine ⟨[.im (.scr ns), .im (.int k), .im (.lst (dl dn)), .im (.int (s : Nat)), .im (.int x), .im (.int y), .im (.int g), .un, .un, .un, .un, .im (.lst (dl mn)), .un, .im (.tup (ds.map Dt.int)), .im (.int (lo : Int)), .im (.int (hi : Int)), .un, .un, .im (en2 b)], ?_, rfl⟩
  simp only [sIf_a, fNot_a, fTru_a, fFn_a, fAc_a, fV_a, getS_s, getS_z, fA0_a, Option.bind_some, List.length_cons, List.length_nil, if_true, hp, is_en2, tru_b, Bool.not_true, Bool.false_eq_true, if_false, sNil_a]
theorem law_true (ns : List Int) (hl : ns.length ≤ 63) : R_law [.scr ns] = some (.bl true) := by
  unfold R_law
  rw [runF_a]
  unfold F_law
  have loop := for_fold (gf := (hName 1)) (mk := [true, false, false, false, false, false, false, false, false, false, false, false, false, false, false, false, false, false, false]) (F := (sSeq (sSet 2 (fFn 2 R_f_law_draws (fAc (fFn 2 R_f_law_cell (fAc (fV 0) (fAc (fV 1) fA0))) (fAc (fC (.int 22)) fA0))))
  (sSeq (sSet 3 (fIf (fCmp gEq (fV 1) (fC (.int 0))) (fC (.int 1)) (f2 gAdd (fC (.int 2)) (f2 (gI cMod Int.fmod) (fN gInt (fAc (f2 gIx (fV 2) (fC (.int 0))) fA0)) (fC (.int 4))))))
  (sSeq (sSet 4 (f2 gMul (fV 3) (f2 gAdd (fC (.int 1)) (f2 (gI cMod Int.fmod) (fN gInt (fAc (f2 gIx (fV 2) (fC (.int 1))) fA0)) (f2 (gI cDiv Int.fdiv) (fC (.int 30)) (fV 3))))))
  (sSeq (sSet 5 (f2 gMul (fV 3) (f2 gAdd (fC (.int 1)) (f2 (gI cMod Int.fmod) (fN gInt (fAc (f2 gIx (fV 2) (fC (.int 2))) fA0)) (f2 (gI cDiv Int.fdiv) (fC (.int 30)) (fV 3))))))
  (sSeq (sSet 6 (fFn 2 R_f_law_divisor (fAc (fV 4) (fAc (fV 5) fA0))))
  (sSeq (sSet 7 (f2 gMinus (f2 gMinus (f2 (gI cDiv Int.fdiv) (f2 gMul (fV 4) (fV 5)) (fV 6)) (fV 4)) (fV 5)))
  (sSeq (sSet 9 (fLst (fComp (fNL gRng3 (fAc (fC (.int 0)) (fAc (f2 gAdd (fN gMax2 (fAc (fC (.int 0)) (fAc (fV 7) fA0))) (fC (.int 1))) (fAc (fV 6) fA0)))) (hName 8) (fCmp gIsN (fFn 3 R_f_law_cut (fAc (fV 4) (fAc (fV 5) (fAc (fV 8) fA0)))) (fC .non)) (fV 8) [8])))
  (sSeq (sIf (fOr (fNot (fTru (fFn 2 R_f_law_is (fAc (fFn 2 R_most_uncut (fAc (fV 4) (fAc (fV 5) fA0))) (fAc (fV 7) fA0))))) (fNot (fTru (fFn 2 R_f_law_is (fAc (fFn 2 R_count_uncut (fAc (fV 4) (fAc (fV 5) fA0))) (fAc (fN gLen (fAc (fV 9) fA0)) fA0)))))) (sRet (fC (.bl false))) sNil)
  (sSeq (sIf (fCmp gNotN (fFn 3 R_f_law_cut (fAc (fV 4) (fAc (fV 5) (fAc (fV 7) fA0)))) (fC .non)) (sRet (fC (.bl false))) sNil)
  (sSeq (sIf (fNot (fTru (fN gAll (fAc (fLst (fComp (fNL gRng1 (fAc (fV 4) fA0)) (hName 10) fYes (fOfB (fCmp gNotN (fFn 3 R_f_law_cut (fAc (fV 4) (fAc (fV 5) (fAc (f2 gAdd (fV 7) (f2 gMul (fV 6) (f2 gAdd (fC (.int 1)) (fV 10)))) fA0)))) (fC .non))) [10])) fA0)))) (sRet (fC (.bl false))) sNil)
  (sSeq (sSet 11 (fFn 2 R_f_law_draws (fAc (fFn 2 R_f_law_cell (fAc (fV 0) (fAc (f2 gAdd (fC (.int 2)) (fV 1)) fA0))) (fAc (fC (.int 14)) fA0))))
  (sSeq (sSet 12 (fLst (fLstL (fAc (fV 7) (fAc (f2 gAdd (fV 7) (fV 6)) (fAc (fC (.int 0)) (fAc (f2 gMinus (fC (.int 0)) (f2 (gI cMod Int.fmod) (fN gInt (fAc (f2 gIx (fV 11) (fC (.int 0))) fA0)) (fC (.int 2000)))) (fAc (f2 (gI cMod Int.fmod) (fN gInt (fAc (f2 gIx (fV 11) (fC (.int 1))) fA0)) (fC (.int 2001))) (fAc (f2 gMul (fV 6) (f2 (gI cMod Int.fmod) (fN gInt (fAc (f2 gIx (fV 11) (fC (.int 2))) fA0)) (fC (.int 60)))) fA0)))))))))
  (sSeq (sFor (f1L gItems (f2 gAdd (fV 12) (fLst (fLstL (fAc (f2 (gI cMod Int.fmod) (fN gInt (fAc (f2 gIx (fV 11) (fC (.int 3))) fA0)) (fC (.int 60))) (fAc (f2 gMul (f2 (gI cDiv Int.fdiv) (f2 (gI cDiv Int.fdiv) (fN gMax2 (fAc (fC (.int 0)) (fAc (fV 7) fA0))) (fC (.int 2))) (fV 6)) (fV 6)) (fAc (f2 gMul (f2 (gI cDiv Int.fdiv) (f2 (gI cDiv Int.fdiv) (fN gMax2 (fAc (fC (.int 0)) (fAc (fV 7) fA0))) (fC (.int 3))) (fV 6)) (fV 6)) fA0))))))) (hName 8) [true, true, true, true, true, true, true, false, false, false, false, true, false, false, false, false, false, false, false]
   (sIf (fNot (fTru (fFn 5 R_f_law_amount (fAc (fV 4) (fAc (fV 5) (fAc (fV 6) (fAc (fV 8) (fAc (fSl (fV 11) (fPart (fC (.int 4))) (fPart (fC (.int 12)))) fA0)))))))) (sRet (fC (.bl false))) sNil))
  (sSeq (sSet 13 (fN gTuple (fAc (fLst (fComp (fNL gRng1 (fAc (f2 (gI cMod Int.fmod) (fN gInt (fAc (f2 gIx (fV 2) (fC (.int 3))) fA0)) (fC (.int 7))) fA0)) (hName 10) fYes (f2 (gI cMod Int.fmod) (fN gInt (fAc (f2 gIx (fV 2) (f2 gAdd (fC (.int 4)) (fV 10))) fA0)) (fC (.int 201))) [10])) fA0)))
  (sSeq (sSet 14 (f2 gAdd (fC (.int 1)) (f2 (gI cMod Int.fmod) (fN gInt (fAc (f2 gIx (fV 2) (fC (.int 11))) fA0)) (fC (.int 40)))))
  (sSeq (sSet 15 (f2 gAdd (fV 14) (f2 (gI cMod Int.fmod) (fN gInt (fAc (f2 gIx (fV 2) (fC (.int 12))) fA0)) (f2 gMinus (fC (.int 41)) (fV 14)))))
  (sSeq (sIf (fCmp gEq (fV 1) (fC (.int 1))) (sSeq (sSet 13 (fN gTuple (fAc (fLst (fComp (f1L gItems (fV 13)) (hName 16) fYes (f2 gMul (fV 3) (f2 (gI cDiv Int.fdiv) (fV 16) (fV 3))) [16])) fA0)))
  (sSeq (sSet 14 (f2 gAdd (fC (.int 1)) (f2 (gI cMod Int.fmod) (fN gInt (fAc (f2 gIx (fV 2) (fC (.int 11))) fA0)) (fV 3))))
  (sSet 15 (fN gMax2 (fAc (fV 15) (fAc (fV 3) fA0)))))) sNil)
  (sSeq (sSet 18 (fN gMinD (fAc (fLst (fComp (fNL gRng2 (fAc (fV 14) (fAc (f2 gAdd (fV 15) (fC (.int 1))) fA0))) (hName 17) fYes (fTup (fAc (fN gSum (fAc (fLst (fComp (f1L gItems (fV 13)) (hName 16) fYes (f2 (gI cMod Int.fmod) (fV 16) (fV 17)) [16])) fA0)) (fAc (fV 17) fA0))) [17])) fA0)))
  (sIf (fNot (fTru (fFn 2 R_f_law_is (fAc (fFn 3 R_told_portion (fAc (fV 13) (fAc (fV 14) (fAc (fV 15) fA0)))) (fAc (fV 18) fA0))))) (sRet (fC (.bl false))) sNil)))))))))))))))))))) Dt.int (fun _ : Unit => [.im (.scr ns), .un, .un, .un, .un, .un, .un, .un, .un, .un, .un, .un, .un, .un, .un, .un, .un, .un, .un]) (fun _ _ => ()) (fun _ xs => ∀ k ∈ xs, 0 ≤ k ∧ k < 2) (rgI 0 2) () (fun j hj => by rw [mem_rgI] at hj; omega) (by
    intro _ k r h
    have hk := h k List.mem_cons_self
    refine ⟨?_, fun j hj => h j (List.mem_cons_of_mem _ hj)⟩
    obtain ⟨dn, s, x, y, g, hd, s1, s5, hXY, eA⟩ := turn_a ns k hk.1 hk.2
    obtain ⟨bs, eB⟩ := turn_b ns k dn s x y g hXY
    obtain ⟨mn, eC⟩ := turn_c ns k hk.1 hk.2 dn s x y g hXY bs
    obtain ⟨ρ, eD, eE⟩ := turn_d ns k hk.1 hk.2 dn mn hd s s1 s5 x y g
    rw [turn_nx (ρ2 := ρ) (hName_a 1 _ _) (by
      simp only [setS_s, setS_z]
      rw [eA, eB, eC, eD]), eE])
  have hr : (fNL gRng1 (fAc (fC (.int 2)) fA0)) [.im (.scr ns), .un, .un, .un, .un, .un, .un, .un, .un, .un, .un, .un, .un, .un, .un, .un, .un, .un, .un] = some ((rgI 0 2).map Dt.int) := by
    simp [rng1_of (j := 2) (by omega) (by omega)]
  show Option.bind (sSeq _ _ [.im (.scr ns), .un, .un, .un, .un, .un, .un, .un, .un, .un, .un, .un, .un, .un, .un, .un, .un, .un, .un]) endOf = _
  rw [sSeq_nx (ρ' := [.im (.scr ns), .un, .un, .un, .un, .un, .un, .un, .un, .un, .un, .un, .un, .un, .un, .un, .un, .un, .un]) (by
    rw [sFor_a, hr, Option.bind_some]
    exact loop)]
  rfl
end LK
end

section
set_option Elab.async false
set_option maxRecDepth 100000
open PySem PySem.W PyProof.Rows
set_option maxHeartbeats 0 in
theorem PySem.Challenge.cw_breadward_k44_whole_portions_and_mirrors_holds : PySem.Challenge.rw_breadward_k44_whole_portions_and_mirrors.Holds := by
  w_on; o_law; k_head; (case hw => w_witness2)
  k_fill
  refine L2.walk_of (l := PySem.Challenge.rw_breadward_k44_whole_portions_and_mirrors) (n := 63) (k := 9) (x := "script") (CX := fun _ => L2.CX0) (sp := fun w => EL.spOf [] _ 1 LK.R_law) rfl (by decide) rfl ⟨rfl, by decide, by decide⟩ (fun w h Y => PySem.W.kIn_of Y) ?F (fun _ _ a ns hl hO hS => EL.sp_end hO hS (LK.law_true ns hl)) (fun _ _ _ _ _ h => h)
  case F =>
    intro w mg fa h KX G hmg
    refine' LK.law_end KX G hmg ?a0 ?l0 ?c0 ?k0 ?a1 ?l1 ?c1 ?k1 ?a2 ?l2 ?c2 ?k2 ?a3 ?l3 ?c3 ?k3 ?a4 ?l4 ?c4 ?k4 ?a5 ?l5 ?c5 ?k5 ?a6 ?l6 ?c6 ?k6 ?a7 ?l7 ?c7 ?k7 ?a8 ?l8 ?c8 ?k8 ?a9 ?l9 ?c9 ?k9 ?a10 ?l10 ?c10 ?k10 ?a11 ?l11 ?c11 ?k11 ?a12 ?l12 ?c12 ?k12 ?a13 ?l13 ?c13 ?k13 ?a14 ?l14 ?c14 ?k14 ?z0 ?z1 ?z2 ?z3 ?z4 ?z5 ?z6 ?z7 ?z8 ?z9 ?z10 ?z11 ?y0
    (case a0 => k_is)
    (case l0 => k_is)
    (case c0 => k_is)
    (case k0 => k_is)
    (case a1 => k_is)
    (case l1 => k_is)
    (case c1 => k_is)
    (case k1 => k_is)
    (case a2 => k_is)
    (case l2 => k_is)
    (case c2 => k_is)
    (case k2 => k_is)
    (case a3 => k_is)
    (case l3 => k_is)
    (case c3 => k_is)
    (case k3 => k_is)
    (case a4 => k_is)
    (case l4 => k_is)
    (case c4 => k_is)
    (case k4 => k_is)
    (case a5 => k_is)
    (case l5 => k_is)
    (case c5 => k_is)
    (case k5 => k_is)
    (case a6 => k_is)
    (case l6 => k_is)
    (case c6 => k_is)
    (case k6 => k_is)
    (case a7 => k_is)
    (case l7 => k_is)
    (case c7 => k_is)
    (case k7 => k_is)
    (case a8 => k_is)
    (case l8 => k_is)
    (case c8 => k_is)
    (case k8 => k_is)
    (case a9 => k_is)
    (case l9 => k_is)
    (case c9 => k_is)
    (case k9 => k_is)
    (case a10 => k_is)
    (case l10 => k_is)
    (case c10 => k_is)
    (case k10 => k_is)
    (case a11 => k_is)
    (case l11 => k_is)
    (case c11 => k_is)
    (case k11 => k_is)
    (case a12 => k_is)
    (case l12 => k_is)
    (case c12 => k_is)
    (case k12 => k_is)
    (case a13 => k_is)
    (case l13 => k_is)
    (case c13 => k_is)
    (case k13 => k_is)
    (case a14 => k_is)
    (case l14 => k_is)
    (case c14 => k_is)
    (case k14 => k_is)
    (case z0 => k_is)
    (case z1 => k_is)
    (case z2 => k_is)
    (case z3 => k_is)
    (case z4 => k_is)
    (case z5 => k_is)
    (case z6 => k_is)
    (case z7 => k_is)
    (case z8 => k_is)
    (case z9 => k_is)
    (case z10 => k_is)
    (case z11 => k_is)
    (case y0 => k_is)
end
