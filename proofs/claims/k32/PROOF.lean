import PyProof.Rows.All
import HandS.ForMost
import HandS.AnyAll
import HandS.TupAny
import HandS.IsInst
import HandS.Deep
import HandS.TupMul
import HandS.TupLe
import KE.LtData
import KE.DataCmp
import HandS.SortInts
import HandS.Conv
import HandS.Zip
import HandS.Rev
import HandS.RevRange
import HandS.Comp
import HandS.More
import HandS.Gcd
import HandS.Style
import KE.DataMinMax
import PyProof.Rows.RowBridgeK
import PyProof.TupleOfSeq
import PySem.Challenge.RW_breadward_k32_whole_sequences_or_a_late
set_option linter.all false
section
set_option Elab.async false
set_option maxRecDepth 100000
/-! EL base: data, what stands for data in an abstract heap, slots. -/
namespace EL
open PySem PySem.Spec PyProof.Rows L2

/-- plain data -/
inductive Dt where
  | non | bl (b : Bool) | int (i : Int) | str (s : Str) | tup (xs : List Dt) | lst (xs : List Dt) | scr (ns : List Int)
  deriving Inhabited

abbrev NoW : Addr → Prop := fun _ => False

/-- the script: locked, or of the written part -/
def Scr (K : PySem.W.Frag) (H : Hp) (a : Addr) (ns : List Int) : Prop :=
  (∃ o, H a = some (.frz o (.lst (ns.map V.int)))) ∨
  ∃ (o : Obj) (its : Array Value) (n : Nat), K.lookup a = some o ∧ o.cls = .type "list" ∧ o.dict = none ∧ o.data = .seq its n ∧ its.size ≤ sizeLine ∧ Vals (ns.map V.int) its.toList
theorem Scr.sq {K : PySem.W.Frag} {H : Hp} {a : Addr} {ns : List Int} (h : Scr K H a ns) : SqL K H a (ns.map V.int) := by
  rcases h with ⟨o, h⟩ | h
  · exact .inl (.inr ⟨o, h⟩)
  · exact .inr h

mutual
/-- v stands for d; the lists that it goes through are none of W -/
inductive Rep (K : PySem.W.Frag) (H : Hp) (W : Addr → Prop) : V → Dt → Prop
  | non : Rep K H W .non .non
  | bl (b : Bool) : Rep K H W (.bl b) (.bl b)
  | int (i : Int) : Rep K H W (.int i) (.int i)
  | str (x : Str) : Rep K H W (.str x) (.str x)
  | tup {a : Addr} {xs : List V} {ds : List Dt} : H a = some (.tup xs) → RepA K H W xs ds → Rep K H W (.ref a) (.tup ds)
  | lst {a : Addr} {xs : List V} {ds : List Dt} : H a = some (.lst xs) → ¬ W a → RepA K H W xs ds → Rep K H W (.ref a) (.lst ds)
  | scr {a : Addr} {ns : List Int} : Scr K H a ns → Rep K H W (.ref a) (.scr ns)
inductive RepA (K : PySem.W.Frag) (H : Hp) (W : Addr → Prop) : List V → List Dt → Prop
  | nil : RepA K H W [] []
  | cons {v : V} {d : Dt} {vs : List V} {ds : List Dt} : Rep K H W v d → RepA K H W vs ds → RepA K H W (v :: vs) (d :: ds)
end

def nt : HO → Bool
  | .tbl _ => false
  | _ => true
/-- all that stood stands (tables of code objects may grow) -/
structure Ext (H H' : Hp) : Prop where
  keep : ∀ b o, H b = some o → nt o = true → H' b = some o
  there : ∀ b, H' b = none → H b = none
theorem Ext.refl (H : Hp) : Ext H H := ⟨fun _ _ h _ => h, fun _ h => h⟩
theorem Ext.trans {H H1 H2 : Hp} (a : Ext H H1) (b : Ext H1 H2) : Ext H H2 := ⟨fun c o h n => b.keep c o (a.keep c o h n) n, fun c h => a.there c (b.there c h)⟩
theorem Ext.new {H : Hp} {p : Addr} {o : HO} (h : H p = none) : Ext H (upd H p o) := ⟨fun b u e _ => by
  rw [upd_ne (ne_of_none e h)]; exact e, fun b e => by
  by_cases hb : b = p
  · rw [hb]; exact h
  · rw [upd_ne hb] at e; exact e⟩

/-- lists outside W, tuples and what is locked stand as they stood -/
structure KeepW (W : Addr → Prop) (H H' : Hp) : Prop where
  tup : ∀ b xs, H b = some (.tup xs) → H' b = some (.tup xs)
  frz : ∀ b o u, H b = some (.frz o u) → H' b = some (.frz o u)
  lst : ∀ b xs, H b = some (.lst xs) → ¬ W b → H' b = some (.lst xs)
theorem Ext.kw {W : Addr → Prop} {H H' : Hp} (e : Ext H H') : KeepW W H H' := ⟨fun b xs h => e.keep b _ h rfl, fun b o u h => e.keep b _ h rfl, fun b xs h _ => e.keep b _ h rfl⟩
/-- a list of W is changed -/
theorem KeepW.set {W : Addr → Prop} {H : Hp} {p : Addr} {o : HO} {vs : List V} (h : H p = some (.lst vs)) (w : W p) : KeepW W H (upd H p o) :=
  ⟨fun b xs e => by rw [upd_ne (ne_of e h (fun z => by cases z))]; exact e, fun b o u e => by rw [upd_ne (ne_of e h (fun z => by cases z))]; exact e,
   fun b xs e n => by rw [upd_ne (fun z => n (by rw [z]; exact w))]; exact e⟩

section
variable {K : PySem.W.Frag} {H H' : Hp} {W W' : Addr → Prop}
theorem Scr.keep {a : Addr} {ns : List Int} (k : KeepW W H H') (h : Scr K H a ns) : Scr K H' a ns := by
  rcases h with ⟨o, h⟩ | h
  · exact .inl ⟨o, k.frz _ _ _ h⟩
  · exact .inr h
mutual
theorem Rep.keep (k : KeepW W H H') (hw : ∀ a xs, H a = some (.lst xs) → W' a → W a) : ∀ {v : V} {d : Dt}, Rep K H W v d → Rep K H' W' v d
  | _, _, .non => .non
  | _, _, .bl b => .bl b
  | _, _, .int i => .int i
  | _, _, .str x => .str x
  | _, _, .tup h r => .tup (k.tup _ _ h) (RepA.keep k hw r)
  | _, _, .lst h n r => .lst (k.lst _ _ h n) (fun z => n (hw _ _ h z)) (RepA.keep k hw r)
  | _, _, .scr h => .scr (h.keep k)
theorem RepA.keep (k : KeepW W H H') (hw : ∀ a xs, H a = some (.lst xs) → W' a → W a) : ∀ {vs : List V} {ds : List Dt}, RepA K H W vs ds → RepA K H' W' vs ds
  | _, _, .nil => .nil
  | _, _, .cons h r => .cons (Rep.keep k hw h) (RepA.keep k hw r)
end
theorem Rep.ext {v : V} {d : Dt} (h : Rep K H W v d) (e : Ext H H') : Rep K H' W v d := h.keep e.kw fun _ _ _ z => z
theorem RepA.ext {vs : List V} {ds : List Dt} (h : RepA K H W vs ds) (e : Ext H H') : RepA K H' W vs ds := h.keep e.kw fun _ _ _ z => z
theorem Rep.sub {v : V} {d : Dt} (h : Rep K H W v d) (hw : ∀ a xs, H a = some (.lst xs) → W' a → W a) : Rep K H W' v d := h.keep (Ext.refl H).kw hw
theorem RepA.sub {vs : List V} {ds : List Dt} (h : RepA K H W vs ds) (hw : ∀ a xs, H a = some (.lst xs) → W' a → W a) : RepA K H W' vs ds := h.keep (Ext.refl H).kw hw
theorem Rep.loose {v : V} {d : Dt} (h : Rep K H W v d) : Rep K H NoW v d := h.sub fun _ _ _ z => z.elim
theorem RepA.loose {vs : List V} {ds : List Dt} (h : RepA K H W vs ds) : RepA K H NoW vs ds := h.sub fun _ _ _ z => z.elim
theorem RepA.newp {p : Addr} {o : HO} {vs : List V} {ds : List Dt} (h : RepA K H W vs ds) (hp : H p = none) : RepA K (upd H p o) (fun a => W a ∨ a = p) vs ds := h.keep (Ext.new hp).kw fun a xs e z => by
  rcases z with z | z
  · exact z
  · rw [z, hp] at e; cases e
theorem RepA.length : ∀ {vs : List V} {ds : List Dt}, RepA K H W vs ds → vs.length = ds.length
  | _, _, .nil => rfl
  | _, _, .cons _ r => by rw [List.length_cons, List.length_cons, RepA.length r]
theorem RepA.get : ∀ {vs : List V} {ds : List Dt} {i : Nat} {d : Dt}, RepA K H W vs ds → ds[i]? = some d → ∃ v, vs[i]? = some v ∧ Rep K H W v d
  | _, _, _, _, .nil, e => by simp at e
  | _, _, 0, _, .cons h _, e => by simp at e; subst e; exact ⟨_, rfl, h⟩
  | _, _, i + 1, d, .cons _ r, e => by
    obtain ⟨v, h1, h2⟩ := RepA.get (i := i) (d := d) r (by simpa using e)
    exact ⟨v, by simpa using h1, h2⟩
theorem RepA.append : ∀ {vs ws : List V} {ds es : List Dt}, RepA K H W vs ds → RepA K H W ws es → RepA K H W (vs ++ ws) (ds ++ es)
  | _, _, _, _, .nil, s => s
  | _, _, _, _, .cons h r, s => .cons h (RepA.append r s)
theorem RepA.take : ∀ {vs : List V} {ds : List Dt} (n : Nat), RepA K H W vs ds → RepA K H W (vs.take n) (ds.take n)
  | _, _, 0, _ => .nil
  | _, _, _ + 1, .nil => .nil
  | _, _, n + 1, .cons h r => .cons h (RepA.take n r)
theorem RepA.drop : ∀ {vs : List V} {ds : List Dt} (n : Nat), RepA K H W vs ds → RepA K H W (vs.drop n) (ds.drop n)
  | _, _, 0, r => r
  | _, _, _ + 1, .nil => .nil
  | _, _, n + 1, .cons _ r => RepA.drop n r
theorem RepA.set {v : V} {d : Dt} (h : Rep K H W v d) : ∀ {vs : List V} {ds : List Dt} (i : Nat), RepA K H W vs ds → RepA K H W (vs.set i v) (ds.set i d)
  | _, _, _, .nil => .nil
  | _, _, 0, .cons _ r => .cons h r
  | _, _, i + 1, .cons q r => .cons q (RepA.set h i r)
theorem RepA.reverse {vs : List V} {ds : List Dt} (h : RepA K H W vs ds) : RepA K H W vs.reverse ds.reverse := by
  induction vs generalizing ds with
  | nil => cases h; exact .nil
  | cons v vs ih =>
    cases h with
    | cons h r =>
      rw [List.reverse_cons, List.reverse_cons]
      exact (ih r).append (.cons h .nil)
theorem RepA.one {v : V} {d : Dt} (h : Rep K H W v d) : RepA K H W [v] [d] := .cons h .nil
theorem RepA.ints : ∀ {vs : List V} {ns : List Int}, RepA K H W vs (ns.map Dt.int) → vs = ns.map V.int
  | _, [], h => by cases h; rfl
  | _, n :: ns, h => by
    cases h with
    | cons h r => cases h; rw [RepA.ints r]; rfl
theorem repA_ints : ∀ (ns : List Int), RepA K H W (ns.map V.int) (ns.map Dt.int)
  | [] => .nil
  | n :: ns => .cons (.int n) (repA_ints ns)
end

/-! data in which no list stands -/
mutual
def Dt.free : Dt → Bool
  | .tup xs => Dt.freeA xs
  | .lst _ => false
  | _ => true
def Dt.freeA : List Dt → Bool
  | [] => true
  | x :: xs => x.free && Dt.freeA xs
end
section
variable {K : PySem.W.Frag} {H : Hp} {W W' : Addr → Prop}
mutual
theorem Rep.free : ∀ {d : Dt} {v : V}, Rep K H W v d → d.free = true → Rep K H W' v d
  | _, _, .non, _ => .non
  | _, _, .bl b, _ => .bl b
  | _, _, .int i, _ => .int i
  | _, _, .str x, _ => .str x
  | _, _, .tup h r, e => .tup h (RepA.free r (by simpa [Dt.free] using e))
  | _, _, .lst h n r, e => by simp [Dt.free] at e
  | _, _, .scr h, _ => .scr h
theorem RepA.free : ∀ {ds : List Dt} {vs : List V}, RepA K H W vs ds → Dt.freeA ds = true → RepA K H W' vs ds
  | _, _, .nil, _ => .nil
  | _, _, .cons h r, e => by
    have e' := Bool.and_eq_true_iff.mp (show (_ && _) = true from by simpa [Dt.freeA] using e)
    exact .cons (Rep.free h e'.1) (RepA.free r e'.2)
end
end

/-- what holds of every heap here: no list or tuple is too long, the tables at T are there -/
def Gd (T : List Addr) (H : Hp) : Prop := (∀ a xs, H a = some (.lst xs) ∨ H a = some (.tup xs) → xs.length ≤ sizeLine) ∧ ∀ P ∈ T, GxR.TabG H P
section
variable {T : List Addr} {H : Hp} {p : Addr}
theorem Gd.put {o : HO} (g : Gd T H) (hp : ∀ ps, H p ≠ some (.tbl ps)) (ho : ∀ xs, o = .lst xs ∨ o = .tup xs → xs.length ≤ sizeLine) : Gd T (upd H p o) := by
  refine ⟨fun a xs h => ?_, fun P hP => ?_⟩
  · by_cases e : a = p
    · subst e
      rw [upd_same] at h
      refine ho xs ?_
      rcases h with h | h
      · exact .inl (Option.some.inj h)
      · exact .inr (Option.some.inj h)
    · rw [upd_ne e] at h
      exact g.1 a xs h
  · obtain ⟨ps, e, t⟩ := g.2 P hP
    refine ⟨ps, ?_, t⟩
    rw [upd_ne (fun z => by rw [z] at e; exact hp ps e)]
    exact e
theorem Gd.newL {xs : List V} (g : Gd T H) (hp : H p = none) (hx : xs.length ≤ sizeLine) : Gd T (upd H p (.lst xs)) := g.put (fun ps e => by rw [hp] at e; cases e) fun ys h => by
  rcases h with h | h
  · cases h; exact hx
  · cases h
theorem Gd.newT {xs : List V} (g : Gd T H) (hp : H p = none) (hx : xs.length ≤ sizeLine) : Gd T (upd H p (.tup xs)) := g.put (fun ps e => by rw [hp] at e; cases e) fun ys h => by
  rcases h with h | h
  · cases h
  · cases h; exact hx
theorem Gd.setL {xs ys : List V} (g : Gd T H) (hp : H p = some (.lst ys)) (hx : xs.length ≤ sizeLine) : Gd T (upd H p (.lst xs)) := g.put (fun ps e => by rw [hp] at e; cases e) fun ys h => by
  rcases h with h | h
  · cases h; exact hx
  · cases h
end

/-! ### slots -/
inductive Sl where
  | un | im (d : Dt) | ow (ds : List Dt)
  deriving Inhabited
abbrev Rho := List Sl
def getS : Rho → Nat → Sl
  | [], _ => .un
  | s :: _, 0 => s
  | _ :: r, n + 1 => getS r n
def setS : Rho → Nat → Sl → Rho
  | [], _, _ => []
  | _ :: r, 0, x => x :: r
  | s :: r, n + 1, x => s :: setS r n x
theorem setS_length : ∀ (ρ : Rho) (i : Nat) (x : Sl), (setS ρ i x).length = ρ.length
  | [], _, _ => rfl
  | _ :: _, 0, _ => rfl
  | _ :: r, n + 1, x => by show (setS r n x).length + 1 = r.length + 1; rw [setS_length r n x]
theorem getS_set_same : ∀ {ρ : Rho} {i : Nat} {x : Sl}, i < ρ.length → getS (setS ρ i x) i = x
  | [], _, _, h => by simp at h
  | _ :: _, 0, _, _ => rfl
  | _ :: r, n + 1, x, h => getS_set_same (ρ := r) (i := n) (by simpa using h)
theorem getS_set_ne : ∀ {ρ : Rho} {i j : Nat} {x : Sl}, j ≠ i → getS (setS ρ i x) j = getS ρ j
  | [], _, _, _, _ => rfl
  | _ :: _, 0, 0, _, h => absurd rfl h
  | _ :: _, 0, _ + 1, _, _ => rfl
  | _ :: _, _ + 1, 0, _, _ => rfl
  | _ :: r, n + 1, j + 1, x, h => getS_set_ne (ρ := r) (i := n) (j := j) (by omega)
theorem getS_out : ∀ {ρ : Rho} {i : Nat}, ρ.length ≤ i → getS ρ i = .un
  | [], _, _ => rfl
  | _ :: _, 0, h => by simp at h
  | _ :: r, n + 1, h => getS_out (ρ := r) (by simpa using h)
theorem getS_lt {ρ : Rho} {i : Nat} (h : getS ρ i ≠ .un) : i < ρ.length := by
  rcases Nat.lt_or_ge i ρ.length with q | q
  · exact q
  · exact absurd (getS_out q) h

/-- W and the owned lists -/
def Wd (W : Addr → Prop) (ρ : Rho) (σ : L2.St) : Addr → Prop := fun a => W a ∨ ∃ i ds, getS ρ i = .ow ds ∧ σ[i]? = some (some (.ref a))
/-- the slots stand for ρ -/
structure Rp (K : PySem.W.Frag) (H : Hp) (W : Addr → Prop) (ρ : Rho) (σ : L2.St) : Prop where
  len : ρ.length = σ.length
  im : ∀ i d, getS ρ i = .im d → ∃ v, σ[i]? = some (some v) ∧ Rep K H (Wd W ρ σ) v d
  ow : ∀ i ds, getS ρ i = .ow ds → ∃ a vs, σ[i]? = some (some (.ref a)) ∧ H a = some (.lst vs) ∧ ¬ W a ∧ RepA K H (Wd W ρ σ) vs ds
  inj : ∀ i j di dj a, getS ρ i = .ow di → getS ρ j = .ow dj → σ[i]? = some (some (.ref a)) → σ[j]? = some (some (.ref a)) → i = j
  wl : ∀ a, W a → ∃ xs, H a = some (.lst xs)
section
variable {K : PySem.W.Frag} {H H' : Hp} {W : Addr → Prop} {ρ : Rho} {σ : L2.St}
theorem Rp.ext (r : Rp K H W ρ σ) (e : Ext H H') : Rp K H' W ρ σ where
  len := r.len
  im := fun i d h => by obtain ⟨v, h1, h2⟩ := r.im i d h; exact ⟨v, h1, h2.ext e⟩
  ow := fun i ds h => by obtain ⟨a, vs, h1, h2, h3, h4⟩ := r.ow i ds h; exact ⟨a, vs, h1, e.keep _ _ h2 rfl, h3, h4.ext e⟩
  inj := r.inj
  wl := fun a h => by obtain ⟨xs, q⟩ := r.wl a h; exact ⟨xs, e.keep _ _ q rfl⟩
theorem Rp.wd (r : Rp K H W ρ σ) {a : Addr} (h : Wd W ρ σ a) : ∃ xs, H a = some (.lst xs) := by
  rcases h with h | ⟨i, ds, h1, h2⟩
  · exact r.wl a h
  · obtain ⟨b, vs, h3, h4, _⟩ := r.ow i ds h1
    rw [h2] at h3
    cases h3
    exact ⟨vs, h4⟩
/-- the set W with a new list D -/
theorem Rp.addW (r : Rp K H W ρ σ) {D : Addr} {zs : List V} (hD : H D = none) : Rp K (upd H D (.lst zs)) (fun a => W a ∨ a = D) ρ σ := by
  have e : Ext H (upd H D (.lst zs)) := Ext.new hD
  have sub : ∀ a xs, H a = some (.lst xs) → Wd (fun a => W a ∨ a = D) ρ σ a → Wd W ρ σ a := fun a xs h z => by
    rcases z with (z | z) | z
    · exact .inl z
    · rw [z, hD] at h; cases h
    · exact .inr z
  refine ⟨r.len, fun i d h => ?_, fun i ds h => ?_, r.inj, fun a h => ?_⟩
  · obtain ⟨v, h1, h2⟩ := r.im i d h
    exact ⟨v, h1, h2.keep e.kw sub⟩
  · obtain ⟨a, vs, h1, h2, h3, h4⟩ := r.ow i ds h
    refine ⟨a, vs, h1, e.keep _ _ h2 rfl, fun z => ?_, h4.keep e.kw sub⟩
    rcases z with z | z
    · exact h3 z
    · rw [z, hD] at h2; cases h2
  · rcases h with h | h
    · obtain ⟨xs, q⟩ := r.wl a h
      exact ⟨xs, e.keep _ _ q rfl⟩
    · exact ⟨zs, by rw [h, upd_same]⟩
end
/-- m: frozen for good (none of W, none of the owned ones); else borrowed -/
def wOf (m : Bool) (W : Addr → Prop) (ρ : Rho) (σ : L2.St) : Addr → Prop := fun a => m = true ∧ Wd W ρ σ a
theorem Rp.wo {K : PySem.W.Frag} {H : Hp} {W : Addr → Prop} {ρ : Rho} {σ : L2.St} (r : Rp K H W ρ σ) {m : Bool} {a : Addr} (h : wOf m W ρ σ a) : ∃ xs, H a = some (.lst xs) := r.wd h.2
theorem Rep.wo {K : PySem.W.Frag} {H : Hp} {W : Addr → Prop} {ρ : Rho} {σ : L2.St} {m : Bool} {v : V} {d : Dt} (h : Rep K H (Wd W ρ σ) v d) : Rep K H (wOf m W ρ σ) v d := h.sub fun _ _ _ z => z.2
theorem RepA.wo {K : PySem.W.Frag} {H : Hp} {W : Addr → Prop} {ρ : Rho} {σ : L2.St} {m : Bool} {v : List V} {d : List Dt} (h : RepA K H (Wd W ρ σ) v d) : RepA K H (wOf m W ρ σ) v d := h.sub fun _ _ _ z => z.2
theorem Rep.wt {K : PySem.W.Frag} {H : Hp} {W : Addr → Prop} {ρ : Rho} {σ : L2.St} {v : V} {d : Dt} (h : Rep K H (wOf true W ρ σ) v d) : Rep K H (Wd W ρ σ) v d := h.sub fun _ _ _ z => ⟨rfl, z⟩
theorem RepA.wt {K : PySem.W.Frag} {H : Hp} {W : Addr → Prop} {ρ : Rho} {σ : L2.St} {v : List V} {d : List Dt} (h : RepA K H (wOf true W ρ σ) v d) : RepA K H (Wd W ρ σ) v d := h.sub fun _ _ _ z => ⟨rfl, z⟩
end EL
end

section
set_option Elab.async false
set_option maxRecDepth 100000
/-! EL expressions: a reading and the function of the slots that it gives. -/
namespace EL
open PySem PySem.Spec PyProof.Rows L2

abbrev Fn := Rho → Option Dt
abbrev FnL := Rho → Option (List Dt)
abbrev FnB := Rho → Option Bool

/-- what is wanted of a value: it stands for d -/
def Sd (m : Bool) (T : List Addr) (K : PySem.W.Frag) (t : TE) (f : Fn) : Prop :=
  ∀ (W : Addr → Prop) (ρ : Rho) (σ : L2.St) (H : Hp) (d : Dt) (Q : VK), Gd T H → Rp K H W ρ σ → f ρ = some d →
    (∀ v H', Ext H H' → Gd T H' → Rep K H' (wOf m W ρ σ) v d → Q v H') → t σ H Q
/-- a new list -/
def SdF (T : List Addr) (K : PySem.W.Frag) (t : TE) (f : FnL) : Prop :=
  ∀ (W : Addr → Prop) (ρ : Rho) (σ : L2.St) (H : Hp) (ds : List Dt) (Q : VK), Gd T H → Rp K H W ρ σ → f ρ = some ds →
    (∀ p vs H', Ext H H' → Gd T H' → H p = none → H' p = some (.lst vs) → RepA K H' (fun a => Wd W ρ σ a ∨ a = p) vs ds → Q (.ref p) H') → t σ H Q
def SdA (m : Bool) (T : List Addr) (K : PySem.W.Frag) (t : TA) (f : FnL) : Prop :=
  ∀ (W : Addr → Prop) (ρ : Rho) (σ : L2.St) (H : Hp) (ds : List Dt) (Q : List V → Hp → Prop), Gd T H → Rp K H W ρ σ → f ρ = some ds →
    (∀ vs H', Ext H H' → Gd T H' → RepA K H' (wOf m W ρ σ) vs ds → Q vs H') → t σ H Q
def SdT (T : List Addr) (K : PySem.W.Frag) (t : TT) (f : FnB) : Prop :=
  ∀ (W : Addr → Prop) (ρ : Rho) (σ : L2.St) (H : Hp) (b : Bool) (Q : Bool → Hp → Prop), Gd T H → Rp K H W ρ σ → f ρ = some b →
    (∀ H', Ext H H' → Gd T H' → Q b H') → t σ H Q

structure DE (m : Bool) (T : List Addr) (K : PySem.W.Frag) (X : Cx) (e : Expr) (t : TE) (f : Fn) : Prop where
  pe : PE X e t
  sd : Sd m T K t f
structure DF (T : List Addr) (K : PySem.W.Frag) (X : Cx) (e : Expr) (t : TE) (f : FnL) : Prop where
  pe : PE X e t
  sd : SdF T K t f
structure DA (m : Bool) (T : List Addr) (K : PySem.W.Frag) (X : Cx) (es : List Expr) (t : TA) (f : FnL) : Prop where
  pa : PA X es t
  sd : SdA m T K t f
structure DT (T : List Addr) (K : PySem.W.Frag) (X : Cx) (e : Expr) (t : TT) (f : FnB) : Prop where
  pt : PT X e t
  sd : SdT T K t f
structure DW (T : List Addr) (K : PySem.W.Frag) (X : Cx) (e : Expr) (t : TT) (f : FnB) : Prop where
  pw : PW X e t
  sd : SdT T K t f

/-! ### functions of the slots -/
def fC (d : Dt) : Fn := fun _ => some d
def fV (i : Nat) : Fn := fun ρ => match getS ρ i with | .im d => some d | _ => none
def fVb (i : Nat) : Fn := fun ρ => match getS ρ i with | .im d => some d | .ow ds => some (.lst ds) | .un => none
def f1 (g : Dt → Option Dt) (a : Fn) : Fn := fun ρ => (a ρ).bind g
def f2 (g : Dt → Dt → Option Dt) (a b : Fn) : Fn := fun ρ => (a ρ).bind fun x => (b ρ).bind fun y => g x y
def fA0 : FnL := fun _ => some []
def fAc (a : Fn) (r : FnL) : FnL := fun ρ => (a ρ).bind fun x => (r ρ).bind fun xs => some (x :: xs)
def fN (g : List Dt → Option Dt) (a : FnL) : Fn := fun ρ => (a ρ).bind g
def fIf (c : FnB) (a b : Fn) : Fn := fun ρ => (c ρ).bind fun k => if k = true then a ρ else b ρ
def fIfL (c : FnB) (a b : FnL) : FnL := fun ρ => (c ρ).bind fun k => if k = true then a ρ else b ρ
def fB (a : Fn) : FnB := fun ρ => (a ρ).bind fun d => match d with | .bl b => some b | _ => none
def Dt.tru : Dt → Option Bool
  | .non => some false
  | .bl b => some b
  | .int i => some (i != 0)
  | .str x => if x.length ≤ sizeLine then some (x.length != 0) else none
  | .tup xs => some (!xs.isEmpty)
  | .lst xs => some (!xs.isEmpty)
  | .scr _ => none
def fTru (a : Fn) : FnB := fun ρ => (a ρ).bind Dt.tru
def fAnd (a b : FnB) : FnB := fun ρ => (a ρ).bind fun k => if k = true then b ρ else some false
def fOr (a b : FnB) : FnB := fun ρ => (a ρ).bind fun k => if k = true then some true else b ρ
def fNot (a : FnB) : FnB := fun ρ => (a ρ).bind fun k => some (!k)
def fOfB (a : FnB) : Fn := fun ρ => (a ρ).bind fun k => some (.bl k)

section
variable {m : Bool} {T : List Addr} {X : Cx} {K : PySem.W.Frag} {a b c e : Expr} {es : List Expr} {ta tb tc t : TE} {tr : TA} {fa fb : Fn} {fr : FnL} {pos : Pos}

theorem sd_const {v : V} {d : Dt} (h : ∀ (H : Hp) (W : Addr → Prop), Rep K H W v d) : Sd m T K (tC v) (fC d) := fun W ρ σ H d' Q g r e q => by
  cases e
  exact q v H (Ext.refl H) g (h H _)
theorem de_int {i : Int} {j : Nat} : DE m T K X (.Constant (.int i) j pos) (tC (.int i)) (fC (.int i)) := ⟨pe_int, sd_const fun _ _ => .int i⟩
theorem de_bl {i : Bool} {j : Nat} : DE m T K X (.Constant (.bool i) j pos) (tC (.bl i)) (fC (.bl i)) := ⟨pe_bl, sd_const fun _ _ => .bl i⟩
theorem de_non {j : Nat} : DE m T K X (.Constant .none j pos) (tC .non) (fC .non) := ⟨pe_non, sd_const fun _ _ => .non⟩
theorem de_str {x : Str} {j : Nat} : DE m T K X (.Constant (.str x) j pos) (tC (.str x)) (fC (.str x)) := ⟨pe_str, sd_const fun _ _ => .str x⟩

theorem sd_var {i : Nat} : Sd m T K (tVar i) (fV i) := fun W ρ σ H d Q g r e q => by
  unfold fV at e
  cases h : getS ρ i with
  | un => rw [h] at e; cases e
  | ow ds => rw [h] at e; cases e
  | im d' =>
    rw [h] at e
    cases e
    obtain ⟨v, h1, h2⟩ := r.im i d h
    exact ⟨v, h1, q v H (Ext.refl H) g h2.wo⟩
theorem de_var (i : Nat) {x : Str} {pos : Pos} (hN : X.N[i]? = some x := by rfl) (hv : Vis X.env.scope x := by first | exact Or.inl rfl | exact Or.inr (Or.inl rfl) | exact Or.inr (Or.inr rfl)) (hd : (x == ("__debug__" : Str)) = false := by decide)
    (hcd : (x == ("__classdict__" : Str)) = false := by decide) : DE m T K X (.Name x pos) (tVar i) (fV i) := ⟨pe_var hN hv hd hcd, sd_var⟩
theorem sd_varb {i : Nat} : Sd false T K (tVar i) (fVb i) := fun W ρ σ H d Q g r e q => by
  unfold fVb at e
  cases h : getS ρ i with
  | un => rw [h] at e; cases e
  | ow ds =>
    rw [h] at e
    cases e
    obtain ⟨p, vs, h1, h2, h3, h4⟩ := r.ow i ds h
    exact ⟨_, h1, q _ H (Ext.refl H) g (.lst h2 (fun z => Bool.noConfusion z.1) h4.wo)⟩
  | im d' =>
    rw [h] at e
    cases e
    obtain ⟨v, h1, h2⟩ := r.im i d h
    exact ⟨v, h1, q v H (Ext.refl H) g h2.wo⟩
theorem dp_var (i : Nat) {x : Str} {pos : Pos} (hN : X.N[i]? = some x := by rfl) (hv : Vis X.env.scope x := by first | exact Or.inl rfl | exact Or.inr (Or.inl rfl) | exact Or.inr (Or.inr rfl)) (hd : (x == ("__debug__" : Str)) = false := by decide)
    (hcd : (x == ("__classdict__" : Str)) = false := by decide) : DE false T K X (.Name x pos) (tVar i) (fVb i) := ⟨pe_var hN hv hd hcd, sd_varb⟩

/-- a frozen value may be taken as a borrowed one -/
theorem DE.loose {f : Fn} (h : DE true T K X e t f) : DE false T K X e t f := ⟨h.pe, fun W ρ σ H d Q g r e q => h.sd W ρ σ H d Q g r e fun v H' e1 g1 r1 => q v H' e1 g1 (r1.sub fun _ _ _ z => Bool.noConfusion z.1)⟩
def fFree (a : Fn) : Fn := fun ρ => (a ρ).bind fun d => if d.free = true then some d else none
/-- a borrowed value without lists is frozen -/
theorem DE.free {f : Fn} (h : DE false T K X e t f) : DE m T K X e t (fFree f) := ⟨h.pe, fun W ρ σ H d Q g r e q => by
  unfold fFree at e
  cases hf : f ρ with
  | none => rw [hf] at e; cases e
  | some d' =>
    rw [hf] at e
    have e2 : (if d'.free = true then some d' else none) = some d := e
    by_cases hz : d'.free = true
    · rw [if_pos hz] at e2
      cases e2
      exact h.sd W ρ σ H d Q g r hf fun v H' e1 g1 r1 => q v H' e1 g1 (r1.free hz)
    · rw [if_neg hz] at e2
      cases e2⟩
def fLst (a : FnL) : Fn := fun ρ => (a ρ).bind fun ds => some (.lst ds)
/-- a new list as a value -/
theorem DF.de {f : FnL} (h : DF T K X e t f) : DE m T K X e t (fLst f) := ⟨h.pe, fun W ρ σ H d Q g r e q => by
  unfold fLst at e
  cases hf : f ρ with
  | none => rw [hf] at e; cases e
  | some ds =>
    rw [hf] at e
    cases e
    refine h.sd W ρ σ H ds Q g r hf fun p vs H' e1 g1 hp hp' ra => q _ H' e1 g1 (.lst hp' (fun z => ?_) (ra.sub fun _ _ _ z => .inl z.2))
    obtain ⟨xs, hx⟩ := r.wd z.2
    rw [hp] at hx
    cases hx⟩

/-! ### operators -/
def OpD (T : List Addr) (K : PySem.W.Frag) (r : R2) (g : Dt → Dt → Option Dt) : Prop :=
  ∀ (W : Addr → Prop) (H : Hp) (x y : V) (d e c : Dt) (Q : VK), Gd T H → (∀ a, W a → ∃ xs, H a = some (.lst xs)) → Rep K H W x d → Rep K H W y e → g d e = some c →
    (∀ v H', Ext H H' → Gd T H' → Rep K H' W v c → Q v H') → r x y H Q
theorem sd_op {r : R2} {g : Dt → Dt → Option Dt} (h : OpD T K r g) (ha : Sd m T K ta fa) (hb : Sd m T K tb fb) : Sd m T K (tOp r ta tb) (f2 g fa fb) := fun W ρ σ H d Q gd rp e q => by
  unfold f2 at e
  cases ea : fa ρ with
  | none => rw [ea] at e; cases e
  | some x =>
    rw [ea] at e
    cases eb : fb ρ with
    | none => rw [eb] at e; cases e
    | some y =>
      rw [eb] at e
      refine ha W ρ σ H x _ gd rp ea fun v H1 e1 g1 r1 => ?_
      refine hb W ρ σ H1 y _ g1 (rp.ext e1) eb fun u H2 e2 g2 r2 => ?_
      exact h (wOf m W ρ σ) H2 v u x y d Q g2 (fun p z => (rp.ext (e1.trans e2)).wo z) (r1.ext e2) r2 e fun w' H3 e3 g3 r3 => q w' H3 ((e1.trans e2).trans e3) g3 r3
theorem de_op {op : Operator} {r : R2} {g : Dt → Dt → Option Dt} (ho : OpR X (binaryOp op) r ∧ OpD T K r g) (ha : DE m T K X a ta fa) (hb : DE m T K X b tb fb) : DE m T K X (.BinOp a op b pos) (tOp r ta tb) (f2 g fa fb) :=
  ⟨pe_op ho.1 ha.pe hb.pe, sd_op ho.2 ha.sd hb.sd⟩
theorem obind {α β : Type} {o : Option α} {f : α → Option β} {c : β} (h : o.bind f = some c) : ∃ x, o = some x ∧ f x = some c := Option.bind_eq_some_iff.mp h
/-- a comparison: its value holds no list, whatever is compared -/
def CmpD (T : List Addr) (K : PySem.W.Frag) (r : R2) (g : Dt → Dt → Option Bool) : Prop :=
  ∀ (H : Hp) (x y : V) (d e : Dt) (k : Bool) (Q : VK), Gd T H → Rep K H NoW x d → Rep K H NoW y e → g d e = some k → (∀ H', Ext H H' → Gd T H' → Q (.bl k) H') → r x y H Q
def fCmp (g : Dt → Dt → Option Bool) (a b : Fn) : FnB := fun ρ => (a ρ).bind fun x => (b ρ).bind fun y => g x y
theorem sd_cmp0 {r : R2} {g : Dt → Dt → Option Bool} (h : CmpD T K r g) (ha : Sd false T K ta fa) (hb : Sd false T K tb fb) {W : Addr → Prop} {ρ : Rho} {σ : L2.St} {H : Hp} {k : Bool} {Q : VK} (gd : Gd T H) (rp : Rp K H W ρ σ) (e : fCmp g fa fb ρ = some k)
    (q : ∀ H', Ext H H' → Gd T H' → Q (.bl k) H') : tOp r ta tb σ H Q := by
  obtain ⟨x, ea, e⟩ := obind e
  obtain ⟨y, eb, e⟩ := obind e
  refine ha W ρ σ H x _ gd rp ea fun v H1 e1 g1 r1 => ?_
  refine hb W ρ σ H1 y _ g1 (rp.ext e1) eb fun u H2 e2 g2 r2 => ?_
  exact h H2 v u x y k _ g2 (r1.loose.ext e2) r2.loose e fun H3 e3 g3 => q H3 ((e1.trans e2).trans e3) g3
theorem dt_cmp {op : CmpOp} {r : R2} {g : Dt → Dt → Option Bool} (h : OpR X (compareOp op) r ∧ CmpD T K r g) (ha : DE false T K X a ta fa) (hb : DE false T K X b tb fb) (hm : behindInMarks op b = false := by first | exact nomark _ | rfl) :
    DT T K X (.Compare a [op] [b] pos) (tTest (tOp r ta tb)) (fCmp g fa fb) :=
  ⟨pt_cmpR h.1 ha.pe hb.pe hm, fun _ _ _ _ k _ gd rp e q => sd_cmp0 h.2 ha.sd hb.sd gd rp e fun H' e1 g1 => ⟨k, rfl, q H' e1 g1⟩⟩
theorem de_cmp {op : CmpOp} {r : R2} {g : Dt → Dt → Option Bool} (h : OpR X (compareOp op) r ∧ CmpD T K r g) (ha : DE false T K X a ta fa) (hb : DE false T K X b tb fb) (hm : behindInMarks op b = false := by first | exact nomark _ | rfl) :
    DE m T K X (.Compare a [op] [b] pos) (tOp r ta tb) (fOfB (fCmp g fa fb)) :=
  ⟨pe_cmpR h.1 ha.pe hb.pe hm, fun _ _ _ _ d _ gd rp e q => by
    obtain ⟨k, ek, e2⟩ := obind e
    cases e2
    exact sd_cmp0 h.2 ha.sd hb.sd gd rp ek fun H' e1 g1 => q _ H' e1 g1 (.bl k)⟩
/-- a < b < c -/
def fChain (g g' : Dt → Dt → Option Bool) (a b c : Fn) : FnB := fun ρ => (a ρ).bind fun x => (b ρ).bind fun y => (g x y).bind fun k => if k = true then (c ρ).bind fun z => g' y z else some false
theorem sd_chain {fc : Fn} {r r' : R2} {g g' : Dt → Dt → Option Bool} (h : CmpD T K r g) (h' : CmpD T K r' g') (ha : Sd false T K ta fa) (hb : Sd false T K tb fb) (hc : Sd false T K tc fc) {W : Addr → Prop} {ρ : Rho} {σ : L2.St} {H : Hp} {k : Bool} {Q : VK} (gd : Gd T H) (rp : Rp K H W ρ σ)
    (e : fChain g g' fa fb fc ρ = some k) (q : ∀ H', Ext H H' → Gd T H' → Q (.bl k) H') : tChain r r' ta tb tc σ H Q := by
  obtain ⟨x, ea, e⟩ := obind e
  obtain ⟨y, eb, e⟩ := obind e
  obtain ⟨k1, e1', e⟩ := obind e
  refine ha W ρ σ H x _ gd rp ea fun v H1 e1 g1 r1 => ?_
  refine hb W ρ σ H1 y _ g1 (rp.ext e1) eb fun u H2 e2 g2 r2 => ?_
  refine h H2 v u x y k1 _ g2 (r1.loose.ext e2) r2.loose e1' fun H3 e3 g3 => ⟨k1, rfl, ?_⟩
  cases k1 with
  | false =>
    rw [if_neg Bool.false_ne_true] at e ⊢
    cases e
    exact q H3 ((e1.trans e2).trans e3) g3
  | true =>
    rw [if_pos rfl] at e ⊢
    obtain ⟨z, ec, e⟩ := obind e
    refine hc W ρ σ H3 z _ g3 (rp.ext ((e1.trans e2).trans e3)) ec fun w' H4 e4 g4 r4 => ?_
    exact h' H4 u w' y z k _ g4 (r2.loose.ext (e3.trans e4)) r4.loose e fun H5 e5 g5 => q H5 ((((e1.trans e2).trans e3).trans e4).trans e5) g5
theorem dt_chain {fc : Fn} {op op' : CmpOp} {r r' : R2} {g g' : Dt → Dt → Option Bool} (h : OpR X (compareOp op) r ∧ CmpD T K r g) (h' : OpR X (compareOp op') r' ∧ CmpD T K r' g') (ha : DE false T K X a ta fa) (hb : DE false T K X b tb fb) (hc : DE false T K X c tc fc)
    (hm : lastMarks [op, op'] [b, c] = false := by with_unfolding_all rfl) : DT T K X (.Compare a [op, op'] [b, c] pos) (tTest (tChain r r' ta tb tc)) (fChain g g' fa fb fc) :=
  ⟨pt_chain h.1 h'.1 ha.pe hb.pe hc.pe hm, fun _ _ _ _ k _ gd rp e q => sd_chain h.2 h'.2 ha.sd hb.sd hc.sd gd rp e fun H' e1 g1 => ⟨k, rfl, q H' e1 g1⟩⟩
theorem de_chain {fc : Fn} {op op' : CmpOp} {r r' : R2} {g g' : Dt → Dt → Option Bool} (h : OpR X (compareOp op) r ∧ CmpD T K r g) (h' : OpR X (compareOp op') r' ∧ CmpD T K r' g') (ha : DE false T K X a ta fa) (hb : DE false T K X b tb fb) (hc : DE false T K X c tc fc)
    (hm : lastMarks [op, op'] [b, c] = false := by with_unfolding_all rfl) : DE m T K X (.Compare a [op, op'] [b, c] pos) (tChain r r' ta tb tc) (fOfB (fChain g g' fa fb fc)) :=
  ⟨pe_chain h.1 h'.1 ha.pe hb.pe hc.pe hm, fun _ _ _ _ d _ gd rp e q => by
    obtain ⟨k, ek, e2⟩ := obind e
    cases e2
    exact sd_chain h.2 h'.2 ha.sd hb.sd hc.sd gd rp ek fun H' e1 g1 => q _ H' e1 g1 (.bl k)⟩

/-! ### tests -/
/-- a value by its truth -/
theorem dt_tru (ha : DE false T K X a ta fa) (he : ∀ whole, isTrue a X.env whole = (do let v ← whole; standAt a.pos; holding [v] (truthy v)) := by intro _; rfl) (hk : X.K = K := by rfl) :
    DT T K X a (fun σ H Q => ta σ H fun x H' => ∃ k, TruV K x H' k ∧ Q k H') (fTru fa) := by
  subst hk
  exact ⟨pt_truth ha.pe he, fun W ρ σ H k Q gd rp e q => by
    obtain ⟨d, ea, e⟩ := obind e
    refine ha.sd W ρ σ H d _ gd rp ea fun v H1 e1 g1 r1 => ⟨k, ?_, q H1 e1 g1⟩
    cases r1 with
    | non => cases e; rfl
    | bl b => cases e; rfl
    | int i => cases e; rfl
    | str x =>
      dsimp only [Dt.tru] at e
      by_cases hx : x.length ≤ sizeLine
      · rw [if_pos hx] at e
        cases e
        exact ⟨hx, by cases x.length <;> rfl⟩
      · rw [if_neg hx] at e
        cases e
    | tup h r =>
      cases e
      refine .inr (.inl ⟨_, .of h, ?_⟩)
      cases r <;> rfl
    | lst h n r =>
      cases e
      refine .inl ⟨_, .of h, ?_⟩
      cases r <;> rfl
    | scr h => cases e⟩
section
variable {tA uA : TT} {ga gb : FnB} {rest : List Expr}
theorem dw_and1 (ha : DT T K X a tA ga) : DW T K X (.BoolOp .And [a] pos) tA ga := ⟨pw_and1 ha.pt, ha.sd⟩
theorem dw_or1 (ha : DT T K X a tA ga) : DW T K X (.BoolOp .Or [a] pos) tA ga := ⟨pw_or1 ha.pt, ha.sd⟩
theorem sd_and {t u : TT} (ha : SdT T K t ga) (hb : SdT T K u gb) : SdT T K (L2.tAnd t u) (fAnd ga gb) := fun W ρ σ H k Q gd rp e q => by
  obtain ⟨k1, ea, e⟩ := obind e
  refine ha W ρ σ H k1 _ gd rp ea fun H1 e1 g1 => ?_
  cases k1 with
  | true =>
    rw [if_pos rfl] at e ⊢
    exact hb W ρ σ H1 k Q g1 (rp.ext e1) e fun H2 e2 g2 => q H2 (e1.trans e2) g2
  | false =>
    rw [if_neg Bool.false_ne_true] at e ⊢
    cases e
    exact q H1 e1 g1
theorem sd_or {t u : TT} (ha : SdT T K t ga) (hb : SdT T K u gb) : SdT T K (L2.tOr t u) (fOr ga gb) := fun W ρ σ H k Q gd rp e q => by
  obtain ⟨k1, ea, e⟩ := obind e
  refine ha W ρ σ H k1 _ gd rp ea fun H1 e1 g1 => ?_
  cases k1 with
  | true =>
    rw [if_pos rfl] at e ⊢
    cases e
    exact q H1 e1 g1
  | false =>
    rw [if_neg Bool.false_ne_true] at e ⊢
    exact hb W ρ σ H1 k Q g1 (rp.ext e1) e fun H2 e2 g2 => q H2 (e1.trans e2) g2
theorem dw_and (ha : DT T K X a tA ga) (hb : DW T K X (.BoolOp .And (b :: rest) pos) uA gb) : DW T K X (.BoolOp .And (a :: b :: rest) pos) (L2.tAnd tA uA) (fAnd ga gb) := ⟨pw_and ha.pt hb.pw, sd_and ha.sd hb.sd⟩
theorem dw_or (ha : DT T K X a tA ga) (hb : DW T K X (.BoolOp .Or (b :: rest) pos) uA gb) : DW T K X (.BoolOp .Or (a :: b :: rest) pos) (L2.tOr tA uA) (fOr ga gb) := ⟨pw_or ha.pt hb.pw, sd_or ha.sd hb.sd⟩
theorem DW.dt (h : DW T K X e tA ga) : DT T K X e tA ga := ⟨h.pw.pt, h.sd⟩
theorem dt_not (ha : DT T K X a tA ga) : DT T K X (.UnaryOp .Not a pos) (L2.tNot tA) (fNot ga) := ⟨pt_not ha.pt, fun W ρ σ H k Q gd rp e q => by
  obtain ⟨k1, ea, e⟩ := obind e
  cases e
  exact ha.sd W ρ σ H k1 _ gd rp ea fun H1 e1 g1 => q H1 e1 g1⟩
/-! and, or, not as values -/
theorem de_not (ha : DE false T K X a ta fa) : DE m T K X (.UnaryOp .Not a pos) (tNotV ta) (fOfB (fNot (fB fa))) := ⟨pe_not ha.pe, fun W ρ σ H d Q gd rp e q => by
  obtain ⟨k1, ek, e2⟩ := obind e
  obtain ⟨k2, ek2, e3⟩ := obind ek
  obtain ⟨x, ea, ek3⟩ := obind ek2
  cases e2
  cases e3
  refine ha.sd W ρ σ H x _ gd rp ea fun v H1 e1 g1 r1 => ?_
  cases r1 with
  | bl b => cases ek3; exact ⟨_, rfl, q _ H1 e1 g1 (.bl _)⟩
  | _ => cases ek3⟩
theorem de_one {op : BoolOp} {f : Fn} (h : DE m T K X a t f) : DE m T K X (.BoolOp op [a] pos) t f := ⟨pe_one h.pe, h.sd⟩
def fAndV (a b : Fn) : Fn := fun ρ => (fB a ρ).bind fun k => if k = true then b ρ else some (.bl false)
def fOrV (a b : Fn) : Fn := fun ρ => (fB a ρ).bind fun k => if k = true then some (.bl true) else b ρ
theorem de_and (ha : DE m T K X a ta fa) (hb : DE m T K X (.BoolOp .And (b :: rest) pos) tb fb) : DE m T K X (.BoolOp .And (a :: b :: rest) pos) (tAndV ta tb) (fAndV fa fb) := ⟨pe_and ha.pe hb.pe, fun W ρ σ H d Q gd rp e q => by
  obtain ⟨k, ek, e⟩ := obind e
  obtain ⟨x, ea, ek⟩ := obind ek
  refine ha.sd W ρ σ H x _ gd rp ea fun v H1 e1 g1 r1 => ?_
  cases r1 with
  | bl b' =>
    have hk : b' = k := Option.some.inj ek
    subst hk
    refine ⟨_, rfl, ?_⟩
    cases b' with
    | true =>
      rw [if_pos rfl] at e ⊢
      exact hb.sd W ρ σ H1 d Q g1 (rp.ext e1) e fun v H2 e2 g2 r2 => q v H2 (e1.trans e2) g2 r2
    | false =>
      rw [if_neg Bool.false_ne_true] at e ⊢
      cases e
      exact q _ H1 e1 g1 (.bl _)
  | _ => cases ek⟩
theorem de_or (ha : DE m T K X a ta fa) (hb : DE m T K X (.BoolOp .Or (b :: rest) pos) tb fb) : DE m T K X (.BoolOp .Or (a :: b :: rest) pos) (tOrV ta tb) (fOrV fa fb) := ⟨pe_or ha.pe hb.pe, fun W ρ σ H d Q gd rp e q => by
  obtain ⟨k, ek, e⟩ := obind e
  obtain ⟨x, ea, ek⟩ := obind ek
  refine ha.sd W ρ σ H x _ gd rp ea fun v H1 e1 g1 r1 => ?_
  cases r1 with
  | bl b' =>
    have hk : b' = k := Option.some.inj ek
    subst hk
    refine ⟨_, rfl, ?_⟩
    cases b' with
    | false =>
      rw [if_neg Bool.false_ne_true] at e ⊢
      exact hb.sd W ρ σ H1 d Q g1 (rp.ext e1) e fun v H2 e2 g2 r2 => q v H2 (e1.trans e2) g2 r2
    | true =>
      rw [if_pos rfl] at e ⊢
      cases e
      exact q _ H1 e1 g1 (.bl _)
  | _ => cases ek⟩
theorem de_ifExp {tk : TT} {gc : FnB} (hc : DT T K X c tk gc) (ha : DE m T K X a ta fa) (hb : DE m T K X b tb fb) : DE m T K X (.IfExp c a b pos) (tIf tk ta tb) (fIf gc fa fb) := ⟨pe_ifExp hc.pt ha.pe hb.pe, fun W ρ σ H d Q gd rp e q => by
  obtain ⟨k, ek, e⟩ := obind e
  refine hc.sd W ρ σ H k _ gd rp ek fun H1 e1 g1 => ?_
  cases k with
  | true =>
    rw [if_pos rfl] at e ⊢
    exact ha.sd W ρ σ H1 d Q g1 (rp.ext e1) e fun v H2 e2 g2 r2 => q v H2 (e1.trans e2) g2 r2
  | false =>
    rw [if_neg Bool.false_ne_true] at e ⊢
    exact hb.sd W ρ σ H1 d Q g1 (rp.ext e1) e fun v H2 e2 g2 r2 => q v H2 (e1.trans e2) g2 r2⟩
end

/-! ### lists of expressions -/
theorem da_nil : DA m T K X [] tNil fA0 := ⟨pa_nil, fun W ρ σ H ds Q gd rp e q => by
  cases e
  exact q [] H (Ext.refl H) gd .nil⟩
theorem da_cons (ha : DE m T K X e ta fa) (hr : DA m T K X es tr fr) (hs : starEach (e :: es) X.env = (false, eval e X.env) :: starEach es X.env := by rfl) : DA m T K X (e :: es) (tCons ta tr) (fAc fa fr) := ⟨pa_cons ha.pe hr.pa hs, fun W ρ σ H ds Q gd rp e q => by
  obtain ⟨x, ea, e⟩ := obind e
  obtain ⟨xs, er, e⟩ := obind e
  cases e
  refine ha.sd W ρ σ H x _ gd rp ea fun v H1 e1 g1 r1 => ?_
  exact hr.sd W ρ σ H1 xs _ g1 (rp.ext e1) er fun vs H2 e2 g2 r2 => q (v :: vs) H2 (e1.trans e2) g2 (.cons (r1.ext e2) r2)⟩
def fTup (a : FnL) : Fn := fun ρ => (a ρ).bind fun ds => if ds.length ≤ 1000 then some (.tup ds) else none
theorem le1000 {n : Nat} (h : n ≤ 1000) : n ≤ sizeLine := Nat.le_of_lt (small1000 h)
theorem de_tup {k : Nat} (ha : DA m T K X es tr fr) : DE m T K X (.Tuple es k pos) (tTup tr) (fTup fr) := ⟨pe_tup ha.pa, fun W ρ σ H d Q gd rp e q => by
  obtain ⟨ds, ea, e⟩ := obind e
  by_cases hl : ds.length ≤ 1000
  · rw [if_pos hl] at e
    cases e
    refine ha.sd W ρ σ H ds _ gd rp ea fun vs H1 e1 g1 r1 => ?_
    have hn : vs.length ≤ sizeLine := by rw [r1.length]; exact le1000 hl
    refine ⟨hn, fun p hp => q _ _ (e1.trans (Ext.new hp)) (g1.newT hp hn) (.tup upd_same (r1.ext (Ext.new hp)))⟩
  · rw [if_neg hl] at e
    cases e⟩
def fLstL (a : FnL) : FnL := fun ρ => (a ρ).bind fun ds => if ds.length ≤ 1000 then some ds else none
theorem df_lst (ha : DA true T K X es tr fr) : DF T K X (.List es pos) (tLst tr) (fLstL fr) := ⟨pe_lst ha.pa, fun W ρ σ H d Q gd rp e q => by
  obtain ⟨ds, ea, e⟩ := obind e
  by_cases hl : ds.length ≤ 1000
  · rw [if_pos hl] at e
    cases e
    refine ha.sd W ρ σ H d _ gd rp ea fun vs H1 e1 g1 r1 => ?_
    have hn : vs.length ≤ sizeLine := by rw [r1.length]; exact le1000 hl
    refine ⟨hn, fun p hp => q p vs _ (e1.trans (Ext.new hp)) (g1.newL hp hn) ?_ upd_same (r1.wt.newp hp)⟩
    exact e1.there p hp
  · rw [if_neg hl] at e
    cases e⟩
end
end EL
end

section
set_option Elab.async false
set_option maxRecDepth 100000
/-! EL operators, comparisons, subscripts, slices. -/
namespace EL
open PySem PySem.Spec PyProof.Rows L2

/-! ### as the library's data -/
mutual
def Dt.py : Dt → PyData
  | .non => .none
  | .bl b => .bool b
  | .int i => .int i
  | .str x => .str x
  | .tup xs => .tuple (Dt.pyA xs)
  | .lst xs => .list (Dt.pyA xs)
  | .scr _ => .dict []
def Dt.pyA : List Dt → List PyData
  | [] => []
  | x :: xs => x.py :: Dt.pyA xs
end
theorem pyA_map : ∀ xs : List Dt, Dt.pyA xs = xs.map Dt.py
  | [] => by simp [Dt.pyA]
  | x :: xs => by simp [Dt.pyA, pyA_map xs]
section
variable {K : PySem.W.Frag} {H : Hp} {W : Addr → Prop}
mutual
theorem Rep.dp : ∀ {d : Dt} {v : V}, Rep K H W v d → d.py.canLay0 = true → Dp K H v d.py
  | _, _, .non, _ => by rw [Dt.py]; exact .non
  | _, _, .bl b, _ => by rw [Dt.py]; exact .bl b
  | _, _, .int i, _ => by rw [Dt.py]; exact .int i
  | _, _, .str x, _ => by rw [Dt.py]; exact .str x
  | _, _, .tup h r, e => by
    rw [Dt.py] at e ⊢
    exact .tup (.of h) (RepA.dp r (by simpa [PyData.canLay0] using e))
  | _, _, .lst h n r, e => by
    rw [Dt.py] at e ⊢
    exact .lst (.of h) (RepA.dp r (by simpa [PyData.canLay0] using e))
  | _, _, .scr h, e => by simp [Dt.py, PyData.canLay0] at e
theorem RepA.dp : ∀ {ds : List Dt} {vs : List V}, RepA K H W vs ds → PyData.canLayAll0 (Dt.pyA ds) = true → DpAll K H vs (Dt.pyA ds)
  | _, _, .nil, _ => by rw [Dt.pyA]; exact .nil
  | _, _, .cons h r, e => by
    rw [Dt.pyA] at e ⊢
    have e' := Bool.and_eq_true_iff.mp (show (_ && _) = true from by simpa [PyData.canLayAll0] using e)
    exact .cons (Rep.dp h e'.1) (RepA.dp r e'.2)
end
end
def Dt.ok (d : Dt) : Bool := SeqAt.shaped d.py
theorem Rep.dps {K : PySem.W.Frag} {H : Hp} {W : Addr → Prop} {d : Dt} {v : V} (r : Rep K H W v d) (h : d.ok = true) : Dp K H v d.py := r.dp (SeqAt.canLay_of_shaped h)

section
variable {T : List Addr} {X : Cx} {K : PySem.W.Frag}
/-! ### + - * // % ** -/
def gAdd : Dt → Dt → Option Dt
  | .int i, .int j => some (.int (i + j))
  | .str x, .str y => if x.length + y.length ≤ sizeLine then some (.str (x ++ y)) else none
  | .tup xs, .tup ys => if xs.length + ys.length ≤ sizeLine then some (.tup (xs ++ ys)) else none
  | .lst xs, .lst ys => if xs.length + ys.length ≤ sizeLine then some (.lst (xs ++ ys)) else none
  | _, _ => none
theorem oAdd (hk : X.K = K) : OpR X (binaryOp .Add) (fun x y H Q => rI0 (fun i j => .int (i + j)) x y H Q ∨ (∃ i j, x = .str i ∧ y = .str j ∧ i.length + j.length ≤ sizeLine ∧ Q (.str (i ++ j)) H) ∨ rCatA K x y H Q ∨ rCat x y H Q) ∧
    OpD T K (fun x y H Q => rI0 (fun i j => .int (i + j)) x y H Q ∨ (∃ i j, x = .str i ∧ y = .str j ∧ i.length + j.length ≤ sizeLine ∧ Q (.str (i ++ j)) H) ∨ rCatA K x y H Q ∨ rCat x y H Q) gAdd := by
  subst hk
  refine ⟨OpR.or op_add (OpR.or op_add_str (OpR.or op_catA op_cat)), fun W H x y d e c Q g wl r1 r2 h q => ?_⟩
  cases r1 with
  | int i =>
    cases r2 with
    | int j => cases h; exact .inl ⟨i, j, rfl, rfl, q _ H (Ext.refl H) g (.int _)⟩
    | _ => cases h
  | str i =>
    cases r2 with
    | str j =>
      dsimp only [gAdd] at h
      by_cases hz : i.length + j.length ≤ sizeLine
      · rw [if_pos hz] at h
        cases h
        exact .inr (.inl ⟨i, j, rfl, rfl, hz, q _ H (Ext.refl H) g (.str _)⟩)
      · rw [if_neg hz] at h; cases h
    | _ => cases h
  | @tup a xs ds h1 ra =>
    cases r2 with
    | @tup b ys es h2 rb =>
      dsimp only [gAdd] at h
      by_cases hz : ds.length + es.length ≤ sizeLine
      · rw [if_pos hz] at h
        cases h
        have hl : xs.length + ys.length ≤ sizeLine := by rw [ra.length, rb.length]; exact hz
        refine .inr (.inr (.inl ⟨a, b, xs, ys, rfl, rfl, .of h1, .of h2, hl, fun e => ?_, fun _ e => ?_, fun _ _ p hp => ?_⟩))
        · subst e; cases ra; exact q _ H (Ext.refl H) g (.tup h2 rb)
        · subst e; cases rb; exact q _ H (Ext.refl H) g (by rw [List.append_nil]; exact .tup h1 ra)
        · exact q _ _ (Ext.new hp) (g.newT hp (by rw [List.length_append]; exact hl)) (.tup upd_same ((ra.append rb).ext (Ext.new hp)))
      · rw [if_neg hz] at h; cases h
    | _ => cases h
  | @lst a xs ds h1 n1 ra =>
    cases r2 with
    | @lst b ys es h2 n2 rb =>
      dsimp only [gAdd] at h
      by_cases hz : ds.length + es.length ≤ sizeLine
      · rw [if_pos hz] at h
        cases h
        have hl : xs.length + ys.length ≤ sizeLine := by rw [ra.length, rb.length]; exact hz
        refine .inr (.inr (.inr ⟨a, b, xs, ys, rfl, rfl, h1, h2, hl, fun p hp => ?_⟩))
        exact q _ _ (Ext.new hp) (g.newL hp (by rw [List.length_append]; exact hl)) (.lst upd_same (fun z => by obtain ⟨zs, hz⟩ := wl p z; rw [hp] at hz; cases hz) ((ra.append rb).ext (Ext.new hp)))
      · rw [if_neg hz] at h; cases h
    | _ => cases h
  | _ => cases h
def gI (C : Int → Int → Bool) (f : Int → Int → Int) : Dt → Dt → Option Dt
  | .int i, .int j => if C i j = true then some (.int (f i j)) else none
  | _, _ => none
theorem opD_int {C : Int → Int → Prop} {D : Int → Int → Bool} {f : Int → Int → Int} (h : ∀ i j, D i j = true → C i j) : OpD T K (rI C fun i j => .int (f i j)) (gI D f) := fun W H x y d e c Q g wl r1 r2 h' q => by
  cases r1 with
  | int i =>
    cases r2 with
    | int j =>
      dsimp only [gI] at h'
      by_cases hz : D i j = true
      · rw [if_pos hz] at h'
        cases h'
        exact ⟨i, j, rfl, rfl, h i j hz, q _ H (Ext.refl H) g (.int _)⟩
      · rw [if_neg hz] at h'; cases h'
    | _ => cases h'
  | _ => cases h'
def gMinus : Dt → Dt → Option Dt
  | .int i, .int j => some (.int (i - j))
  | _, _ => none
theorem oSub : OpR X (binaryOp .Sub) (rI0 fun i j => .int (i - j)) ∧ OpD T K (rI0 fun i j => .int (i - j)) gMinus := ⟨op_sub, fun W H x y d e c Q g wl r1 r2 h q => by
  cases r1 with
  | int i =>
    cases r2 with
    | int j => cases h; exact ⟨i, j, rfl, rfl, q _ H (Ext.refl H) g (.int _)⟩
    | _ => cases h
  | _ => cases h⟩
/-- a test that nothing reckons out: the kernel must not unfold comparisons with great numbers -/
noncomputable def cdc (p : Prop) : Bool := @decide p (Classical.propDecidable p)
theorem cdc_t {p : Prop} (h : p) : cdc p = true := by unfold cdc; exact @decide_eq_true p (Classical.propDecidable p) h
theorem cdc_p {p : Prop} (h : cdc p = true) : p := by unfold cdc at h; exact @of_decide_eq_true p (Classical.propDecidable p) h
noncomputable def cMul (i j : Int) : Bool := cdc (-(2 ^ 64) < i ∧ i < 2 ^ 64) || cdc (-(2 ^ 64) < j ∧ j < 2 ^ 64)
noncomputable def gMul : Dt → Dt → Option Dt
  | .int i, .int j => if cMul i j = true then some (.int (i * j)) else none
  | .lst xs, .int k => if -(2 ^ 63) ≤ k ∧ k < 2 ^ 63 ∧ xs.length * k.toNat ≤ sizeLine then some (.lst (List.replicate k.toNat xs).flatten) else none
  | _, _ => none
def cDiv (_ j : Int) : Bool := decide (j ≠ 0 ∧ j.natAbs < 1073741824)
def cMod (_ j : Int) : Bool := decide (j ≠ 0)
def cPow (i j : Int) : Bool := decide (0 ≤ j ∧ j ≤ 1000000 ∧ i.natAbs < 2 ^ 64)
theorem RepA.rep {W : Addr → Prop} {H : Hp} {vs : List V} {ds : List Dt} (h : RepA K H W vs ds) : ∀ k : Nat, RepA K H W (List.replicate k vs).flatten (List.replicate k ds).flatten
  | 0 => .nil
  | k + 1 => by
    rw [List.replicate_succ, List.replicate_succ, List.flatten_cons, List.flatten_cons]
    exact h.append (RepA.rep h k)
theorem len_rep {α : Type} (k : Nat) (xs : List α) : (List.replicate k xs).flatten.length = xs.length * k := by
  induction k with
  | zero => simp
  | succ k ih =>
    rw [List.replicate_succ, List.flatten_cons, List.length_append, ih, Nat.mul_succ]
    omega
theorem oMul : OpR X (binaryOp .Mult) (fun x y H Q => rI CMul (fun i j => .int (i * j)) x y H Q ∨ rRep x y H Q) ∧ OpD T K (fun x y H Q => rI CMul (fun i j => .int (i * j)) x y H Q ∨ rRep x y H Q) gMul := by
  refine ⟨OpR.or op_mul op_rep, fun W H x y d e c Q g wl r1 r2 h q => ?_⟩
  cases r1 with
  | int i =>
    cases r2 with
    | int j =>
      dsimp only [gMul] at h
      by_cases hz : cMul i j = true
      · rw [if_pos hz] at h
        cases h
        refine .inl ⟨i, j, rfl, rfl, ?_, q _ H (Ext.refl H) g (.int _)⟩
        rcases Bool.or_eq_true_iff.mp hz with z | z
        · exact .inl (cdc_p z)
        · exact .inr (cdc_p z)
      · rw [if_neg hz] at h; cases h
    | _ => cases h
  | @lst a xs ds h1 n1 ra =>
    cases r2 with
    | int k =>
      dsimp only [gMul] at h
      by_cases hz : -(2 ^ 63) ≤ k ∧ k < 2 ^ 63 ∧ ds.length * k.toNat ≤ sizeLine
      · rw [if_pos hz] at h
        cases h
        have hl : xs.length * k.toNat ≤ sizeLine := by rw [ra.length]; exact hz.2.2
        refine .inr ⟨a, k, xs, rfl, rfl, h1, hz.1, hz.2.1, hl, fun p hp => ?_⟩
        exact q _ _ (Ext.new hp) (g.newL hp (by rw [len_rep]; exact hl)) (.lst upd_same (fun z => by obtain ⟨zs, hz⟩ := wl p z; rw [hp] at hz; cases hz) ((ra.rep _).ext (Ext.new hp)))
      · rw [if_neg hz] at h; cases h
    | _ => cases h
  | _ => cases h
theorem oDiv : OpR X (binaryOp .FloorDiv) (rI CDivN fun i j => .int (i.fdiv j)) ∧ OpD T K (rI CDivN fun i j => .int (i.fdiv j)) (gI cDiv Int.fdiv) := ⟨op_fdivN, opD_int fun _ j h => (of_decide_eq_true h : j ≠ 0 ∧ j.natAbs < 1073741824)⟩
theorem oMod : OpR X (binaryOp .Mod) (rI (fun _ j => j ≠ 0) fun i j => .int (i.fmod j)) ∧ OpD T K (rI (fun _ j => j ≠ 0) fun i j => .int (i.fmod j)) (gI cMod Int.fmod) := ⟨op_modN, opD_int fun _ _ h => of_decide_eq_true h⟩
theorem oPow : OpR X (binaryOp .Pow) (rI CPow fun i j => .int (i ^ j.toNat)) ∧ OpD T K (rI CPow fun i j => .int (i ^ j.toNat)) (gI cPow fun i j => i ^ j.toNat) := ⟨op_pow, opD_int fun i j h => (of_decide_eq_true h : 0 ≤ j ∧ j ≤ 1000000 ∧ i.natAbs < 2 ^ 64)⟩
def gNeg : Dt → Option Dt
  | .int i => some (.int (-i))
  | _ => none
theorem de_neg {m : Bool} {a : Expr} {ta : TE} {fa : Fn} {pos : Pos} (ha : DE m T K X a ta fa) : DE m T K X (.UnaryOp .USub a pos) (tUn (rU fun i => .int (-i)) ta) (f1 gNeg fa) := ⟨pe_un un_neg ha.pe, fun W ρ σ H d Q g r e q => by
  obtain ⟨x, ea, e⟩ := obind e
  refine ha.sd W ρ σ H x _ g r ea fun v H1 e1 g1 r1 => ?_
  cases r1 with
  | int i => cases e; exact ⟨i, rfl, q _ H1 e1 g1 (.int _)⟩
  | _ => cases e⟩

/-! ### comparisons -/
def gEq (d e : Dt) : Option Bool := if d.ok = true ∧ e.ok = true then some (PyData.eqv d.py e.py) else none
def gNe (d e : Dt) : Option Bool := if d.ok = true ∧ e.ok = true then some (!PyData.eqv d.py e.py) else none
theorem cEq (hk : X.K = K) (hu : X.A.units + 64 < cLine) : OpR X (compareOp .Eq) (rEqD K) ∧ CmpD T K (rEqD K) gEq := by subst hk; exact ⟨op_eqD hu, fun H x y d e k Q g r1 r2 h q => by
  unfold gEq at h
  by_cases hz : d.ok = true ∧ e.ok = true
  · rw [if_pos hz] at h
    cases h
    exact ⟨d.py, e.py, r1.dps hz.1, r2.dps hz.2, hz.1, hz.2, q H (Ext.refl H) g⟩
  · rw [if_neg hz] at h; cases h⟩
theorem cNe (hk : X.K = K) (hu : X.A.units + 64 < cLine) : OpR X (compareOp .NotEq) (rNeD K) ∧ CmpD T K (rNeD K) gNe := by subst hk; exact ⟨op_neD hu, fun H x y d e k Q g r1 r2 h q => by
  unfold gNe at h
  by_cases hz : d.ok = true ∧ e.ok = true
  · rw [if_pos hz] at h
    cases h
    exact ⟨d.py, e.py, r1.dps hz.1, r2.dps hz.2, hz.1, hz.2, q H (Ext.refl H) g⟩
  · rw [if_neg hz] at h; cases h⟩
def gIsN : Dt → Dt → Option Bool
  | .non, .non => some true
  | _, .non => some false
  | _, _ => none
def gNotN : Dt → Dt → Option Bool
  | .non, .non => some false
  | _, .non => some true
  | _, _ => none
theorem cIsN : OpR X (compareOp .Is) (fun x y H Q => y = .non ∧ Q (.bl (decide (x = .non))) H) ∧ CmpD T K (fun x y H Q => y = .non ∧ Q (.bl (decide (x = .non))) H) gIsN := ⟨op_isN, fun H x y d e k Q g r1 r2 h q => by
  cases r2 with
  | non =>
    refine ⟨rfl, ?_⟩
    cases r1 <;> cases h <;> exact q H (Ext.refl H) g
  | _ => cases r1 <;> cases h⟩
theorem cNotN : OpR X (compareOp .IsNot) (fun x y H Q => y = .non ∧ Q (.bl (!decide (x = .non))) H) ∧ CmpD T K (fun x y H Q => y = .non ∧ Q (.bl (!decide (x = .non))) H) gNotN := ⟨op_notN, fun H x y d e k Q g r1 r2 h q => by
  cases r2 with
  | non =>
    refine ⟨rfl, ?_⟩
    cases r1 <;> cases h <;> exact q H (Ext.refl H) g
  | _ => cases r1 <;> cases h⟩
/-- order: ints -/
def gII (f : Int → Int → Bool) : Dt → Dt → Option Bool
  | .int i, .int j => some (f i j)
  | _, _ => none
theorem cmpD_int {f : Int → Int → Bool} : CmpD T K (rI0 fun i j => .bl (f i j)) (gII f) := fun H x y d e k Q g r1 r2 h q => by
  cases r1 with
  | int i =>
    cases r2 with
    | int j => cases h; exact ⟨i, j, rfl, rfl, q H (Ext.refl H) g⟩
    | _ => cases h
  | _ => cases h
def bLt (i j : Int) : Bool := decide (i < j)
def bLe (i j : Int) : Bool := decide (i ≤ j)
def bGt (i j : Int) : Bool := decide (j < i)
def bGe (i j : Int) : Bool := decide (j ≤ i)
theorem cLt : OpR X (compareOp .Lt) (rI0 fun i j => .bl (bLt i j)) ∧ CmpD T K (rI0 fun i j => .bl (bLt i j)) (gII bLt) := ⟨op_lt, cmpD_int⟩
theorem cLe : OpR X (compareOp .LtE) (rI0 fun i j => .bl (bLe i j)) ∧ CmpD T K (rI0 fun i j => .bl (bLe i j)) (gII bLe) := ⟨op_le, cmpD_int⟩
theorem cGt : OpR X (compareOp .Gt) (rI0 fun i j => .bl (bGt i j)) ∧ CmpD T K (rI0 fun i j => .bl (bGt i j)) (gII bGt) := ⟨op_gt, cmpD_int⟩
theorem cGe : OpR X (compareOp .GtE) (rI0 fun i j => .bl (bGe i j)) ∧ CmpD T K (rI0 fun i j => .bl (bGe i j)) (gII bGe) := ⟨op_ge, cmpD_int⟩

/-! in, not in: lists and tuples of data; texts -/
def rInS (K : PySem.W.Frag) (neg : Bool) : R2 := fun x y H Q => ∃ d ds, Dp K H x d ∧ (Dp K H y (.list ds) ∨ Dp K H y (.tuple ds)) ∧ SeqAt.shaped d = true ∧ SeqAt.shaped (.list ds) = true ∧ Q (.bl (if neg then !ds.any fun z => PyData.eqv z d else ds.any fun z => PyData.eqv z d)) H
theorem op_inS (hu : X.A.units + 65 < cLine) : OpR X (compareOp .In) (rInS X.K false) := by
  intro pins s σ H x y v u Q I rx ry h
  obtain ⟨d, ds, hd, he, sd, se, q⟩ := h
  obtain ⟨as, r1⟩ := Dp.reads I d x v hd rx
  rcases he with he | he
  · obtain ⟨bs, r2⟩ := Dp.reads I (.list ds) y u he ry
    exact SeqAt.in_list_reads r2 r1 (SeqAt.canLay_of_shaped se) (SeqAt.canLay_of_shaped sd) (room_in_shaped sd hu) ⟨.bl _, H, I, rfl, q⟩
  · obtain ⟨bs, r2⟩ := Dp.reads I (.tuple ds) y u he ry
    exact SeqAt.in_tuple_reads r2 r1 (SeqAt.canLay_of_shaped se) (SeqAt.canLay_of_shaped sd) (room_in_shaped sd hu) ⟨.bl _, H, I, rfl, q⟩
theorem op_notInS (hu : X.A.units + 65 < cLine) : OpR X (compareOp .NotIn) (rInS X.K true) := by
  intro pins s σ H x y v u Q I rx ry h
  obtain ⟨d, ds, hd, he, sd, se, q⟩ := h
  obtain ⟨as, r1⟩ := Dp.reads I d x v hd rx
  rcases he with he | he
  · obtain ⟨bs, r2⟩ := Dp.reads I (.list ds) y u he ry
    exact SeqAt.notIn_list_reads r2 r1 (SeqAt.canLay_of_shaped se) (SeqAt.canLay_of_shaped sd) (room_in_shaped sd hu) ⟨.bl _, H, I, rfl, q⟩
  · obtain ⟨bs, r2⟩ := Dp.reads I (.tuple ds) y u he ry
    exact SeqAt.notIn_tuple_reads r2 r1 (SeqAt.canLay_of_shaped se) (SeqAt.canLay_of_shaped sd) (room_in_shaped sd hu) ⟨.bl _, H, I, rfl, q⟩
def okA (ds : List Dt) : Bool := (Dt.lst ds).ok
def anyEq (d : Dt) (ds : List Dt) : Bool := (Dt.pyA ds).any fun z => PyData.eqv z d.py
def inStr (x y : Str) : Bool := !(Builtin.Str.occurrences y x 0 y.length 1).isEmpty
def gIn : Dt → Dt → Option Bool
  | .str x, .str y => some (inStr x y)
  | d, .lst ds => if d.ok = true ∧ okA ds = true then some (anyEq d ds) else none
  | d, .tup ds => if d.ok = true ∧ okA ds = true then some (anyEq d ds) else none
  | _, _ => none
def gNotIn (d e : Dt) : Option Bool := (gIn d e).map not
theorem shaped_tup {ds : List PyData} (h : SeqAt.shaped (.list ds) = true) : SeqAt.shaped (.tuple ds) = true := by
  unfold SeqAt.shaped at h ⊢
  have h1 := Bool.and_eq_true_iff.mp h
  refine Bool.and_eq_true_iff.mpr ⟨?_, ?_⟩
  · simpa [PyData.canLay0] using h1.1
  · simpa [PyData.depth] using h1.2
theorem in_cases {H : Hp} {x y : V} {d e : Dt} {k : Bool} {P : Bool → Prop} (r1 : Rep K H NoW x d) (r2 : Rep K H NoW y e) (h : gIn d e = some k) (hs : ∀ i j, x = .str i → y = .str j → P (inStr i j))
    (hl : ∀ ds, Dp K H x d.py → (Dp K H y (.list ds) ∨ Dp K H y (.tuple ds)) → SeqAt.shaped d.py = true → SeqAt.shaped (.list ds) = true → P (ds.any fun z => PyData.eqv z d.py)) : P k := by
  have go : ∀ ds : List Dt, (if d.ok = true ∧ okA ds = true then some (anyEq d ds) else none) = some k → (e = .lst ds ∨ e = .tup ds) → P k := fun ds h he => by
    by_cases hz : d.ok = true ∧ okA ds = true
    · rw [if_pos hz] at h
      cases h
      have hz2 : SeqAt.shaped (.list (Dt.pyA ds)) = true := by
        have := hz.2
        unfold okA Dt.ok at this
        rw [Dt.py] at this
        exact this
      refine hl (Dt.pyA ds) (r1.dps hz.1) ?_ hz.1 hz2
      rcases he with he | he
      · subst he
        have := r2.dps hz.2
        rw [Dt.py] at this
        exact .inl this
      · subst he
        have h3 : (Dt.tup ds).ok = true := by unfold Dt.ok; rw [Dt.py]; exact shaped_tup hz2
        have := r2.dps h3
        rw [Dt.py] at this
        exact .inr this
    · rw [if_neg hz] at h; cases h
  cases e with
  | lst ds => cases d <;> exact go ds h (.inl rfl)
  | tup ds => cases d <;> exact go ds h (.inr rfl)
  | str y' =>
    cases d with
    | str x' =>
      cases h
      cases r1
      cases r2
      exact hs _ _ rfl rfl
    | _ => cases h
  | _ => cases d <;> cases h
theorem cIn (hk : X.K = K) (hu : X.A.units + 65 < cLine) : OpR X (compareOp .In) (fun x y H Q => (∃ i j, x = .str i ∧ y = .str j ∧ Q (.bl (!(Builtin.Str.occurrences j i 0 j.length 1).isEmpty)) H) ∨ rInS K false x y H Q) ∧
    CmpD T K (fun x y H Q => (∃ i j, x = .str i ∧ y = .str j ∧ Q (.bl (!(Builtin.Str.occurrences j i 0 j.length 1).isEmpty)) H) ∨ rInS K false x y H Q) gIn := by subst hk; exact ⟨OpR.or op_in_str (op_inS hu), fun H x y d e k Q g r1 r2 h q =>
  in_cases (P := fun k => (∀ H', Ext H H' → Gd T H' → Q (.bl k) H') → _) r1 r2 h (fun i j e1 e2 q => .inl ⟨i, j, e1, e2, q H (Ext.refl H) g⟩) (fun ds h1 h2 h3 h4 q => .inr ⟨_, ds, h1, h2, h3, h4, q H (Ext.refl H) g⟩) q⟩
theorem cNotIn (hk : X.K = K) (hu : X.A.units + 65 < cLine) : OpR X (compareOp .NotIn) (fun x y H Q => (∃ i j, x = .str i ∧ y = .str j ∧ Q (.bl (!(!(Builtin.Str.occurrences j i 0 j.length 1).isEmpty))) H) ∨ rInS K true x y H Q) ∧
    CmpD T K (fun x y H Q => (∃ i j, x = .str i ∧ y = .str j ∧ Q (.bl (!(!(Builtin.Str.occurrences j i 0 j.length 1).isEmpty))) H) ∨ rInS K true x y H Q) gNotIn := by subst hk; exact ⟨OpR.or op_notin_str (op_notInS hu), fun H x y d e k Q g r1 r2 h q => by
  unfold gNotIn at h
  obtain ⟨k', hk, e'⟩ := Option.map_eq_some_iff.mp h
  subst e'
  exact in_cases (P := fun k => (∀ H', Ext H H' → Gd T H' → Q (.bl (!k)) H') → _) r1 r2 hk (fun i j e1 e2 q => .inl ⟨i, j, e1, e2, q H (Ext.refl H) g⟩) (fun ds h1 h2 h3 h4 q => .inr ⟨_, ds, h1, h2, h3, h4, q H (Ext.refl H) g⟩) q⟩
end
end EL
end

section
set_option Elab.async false
set_option maxRecDepth 100000
/-! EL subscripts, slices, calls of built-ins. -/
namespace EL
open PySem PySem.Spec PyProof.Rows L2

section
variable {m : Bool} {T : List Addr} {X : Cx} {K : PySem.W.Frag} {a b c e : Expr} {es : List Expr} {ta tb tc t : TE} {tr : TA} {fa fb : Fn} {fr : FnL} {pos p2 : Pos}
/-! ### x[i] -/
def gIx : Dt → Dt → Option Dt
  | .lst xs, .int i => atI xs i
  | .tup xs, .int i => atI xs i
  | .scr ns, .int i => (atI ns i).map Dt.int
  | .str z, .int i => if z.length ≤ sizeLine then (atI z.cps.toList i).map fun c => .str ⟨#[c]⟩ else none
  | _, _ => none
theorem RepA.atI {H : Hp} {W : Addr → Prop} {vs : List V} {ds : List Dt} {i : Int} {d : Dt} (r : RepA K H W vs ds) (h : L2.atI ds i = some d) : ∃ v, L2.atI vs i = some v ∧ Rep K H W v d := by
  unfold L2.atI at h ⊢
  obtain ⟨j, h1, h2⟩ := obind h
  obtain ⟨v, h3, h4⟩ := r.get h2
  exact ⟨v, by rw [r.length, h1]; exact h3, h4⟩
theorem atI_map {α β : Type} (f : α → β) (xs : List α) (i : Int) : L2.atI (xs.map f) i = (L2.atI xs i).map f := by
  unfold L2.atI
  rw [List.length_map]
  cases ixN xs.length i with
  | none => rfl
  | some j => show (xs.map f)[j]? = (xs[j]?).map f; rw [List.getElem?_map]
theorem opD_ix : OpD T K (rIx K) gIx := fun W H x y d e c Q g wl r1 r2 h q => by
  cases r2 with
  | int i =>
    cases r1 with
    | @lst a xs ds h1 n1 ra =>
      obtain ⟨v, h3, h4⟩ := ra.atI (show L2.atI ds i = some c from h)
      exact .inl ⟨a, xs, i, v, rfl, rfl, .of h1, h3, q v H (Ext.refl H) g h4⟩
    | @tup a xs ds h1 ra =>
      obtain ⟨v, h3, h4⟩ := ra.atI (show L2.atI ds i = some c from h)
      exact .inr (.inl ⟨a, xs, i, v, rfl, rfl, .of h1, h3, q v H (Ext.refl H) g h4⟩)
    | @scr a ns hs =>
      obtain ⟨n, h3, h4⟩ := Option.map_eq_some_iff.mp (show (L2.atI ns i).map Dt.int = some c from h)
      subst h4
      exact .inl ⟨a, ns.map V.int, i, .int n, rfl, rfl, hs.sq, by rw [atI_map, h3]; rfl, q _ H (Ext.refl H) g (.int n)⟩
    | str z =>
      dsimp only [gIx] at h
      by_cases hz : z.length ≤ sizeLine
      · rw [if_pos hz] at h
        obtain ⟨n, h3, h4⟩ := Option.map_eq_some_iff.mp h
        subst h4
        exact .inr (.inr ⟨z, i, n, rfl, rfl, hz, h3, q _ H (Ext.refl H) g (.str _)⟩)
      · rw [if_neg hz] at h; cases h
    | _ => cases h
  | _ => cases r1 <;> cases h
theorem de_ix (ha : DE m T K X a ta fa) (hb : DE m T K X b tb fb) (hs : PlainIx b := by exact fun _ _ => rfl) (hk : X.K = K := by rfl) : DE m T K X (.Subscript a b pos) (tOp (rIx K) ta tb) (f2 gIx fa fb) := by subst hk; exact ⟨pe_ix ix_seq ha.pe hb.pe hs, sd_op opD_ix ha.sd hb.sd⟩

/-! ### x[i:j] -/
abbrev FnO := Rho → Option (Option Int)
def SdO (T : List Addr) (K : PySem.W.Frag) (t : TO) (f : FnO) : Prop :=
  ∀ (W : Addr → Prop) (ρ : Rho) (σ : L2.St) (H : Hp) (i : Option Int) (Q : Option Int → Hp → Prop), Gd T H → Rp K H W ρ σ → f ρ = some i → (∀ H', Ext H H' → Gd T H' → Q i H') → t σ H Q
structure DO (T : List Addr) (K : PySem.W.Frag) (X : Cx) (e : Option Expr) (t : TO) (f : FnO) : Prop where
  po : PO X e t
  sd : SdO T K t f
def fNoP : FnO := fun _ => some none
def fPart (a : Fn) : FnO := fun ρ => (a ρ).bind fun d => match d with | .int i => some (some i) | _ => none
theorem do_none : DO T K X none tNoPart fNoP := ⟨po_none, fun W ρ σ H i Q g r e q => by cases e; exact q H (Ext.refl H) g⟩
theorem do_some (ha : DE false T K X a ta fa) : DO T K X (some a) (tPart ta) (fPart fa) := ⟨po_some ha.pe, fun W ρ σ H i Q g r e q => by
  obtain ⟨d, ea, e⟩ := obind e
  refine ha.sd W ρ σ H d _ g r ea fun v H1 e1 g1 r1 => ?_
  cases r1 with
  | int i' => cases e; exact ⟨i', rfl, q H1 e1 g1⟩
  | _ => cases e⟩
def cutL {α : Type} (xs : List α) (lo hi : Option Int) : List α := (xs.drop (HT.sIx xs.length 0 lo)).take (HT.sIx xs.length xs.length hi - HT.sIx xs.length 0 lo)
theorem cutL_length {α : Type} (xs : List α) (lo hi : Option Int) : (cutL xs lo hi).length ≤ xs.length := by
  unfold cutL
  rw [List.length_take, List.length_drop]
  omega
theorem RepA.cut {H : Hp} {W : Addr → Prop} {vs : List V} {ds : List Dt} (r : RepA K H W vs ds) (lo hi : Option Int) : RepA K H W (cutV vs lo hi) (cutL ds lo hi) := by
  unfold cutV cutL
  rw [r.length]
  exact (r.drop _).take _
def gSl : Dt → Option Int → Option Int → Option Dt
  | .lst xs, lo, hi => some (.lst (cutL xs lo hi))
  | .tup xs, lo, hi => some (.tup (cutL xs lo hi))
  | .str z, lo, hi => if z.length ≤ sizeLine then some (.str (cutS z lo hi)) else none
  | _, _, _ => none
def fSl (a : Fn) (lo hi : FnO) : Fn := fun ρ => (a ρ).bind fun d => (lo ρ).bind fun i => (hi ρ).bind fun j => gSl d i j
def rSl (K : PySem.W.Frag) : V → Option Int → Option Int → Hp → VK → Prop := fun x lo hi H Q => rSlL K x lo hi H Q ∨ rSlA K x lo hi H Q ∨ rSlS x lo hi H Q
theorem sl_any : SlR X (rSl X.K) := SlR.or sl_list (SlR.or sl_tupA sl_str)
theorem cutV_length2 (vs : List V) (lo hi : Option Int) : (cutV vs lo hi).length ≤ vs.length := L2.cutV_length vs lo hi
theorem cut_whole {α : Type} {xs : List α} {lo hi : Option Int} (h : HT.sIx xs.length 0 lo = 0 ∧ HT.sIx xs.length xs.length hi = xs.length) : cutL xs lo hi = xs := by
  unfold cutL
  rw [h.1, h.2, List.drop_zero, Nat.sub_zero, List.take_length]
theorem de_slice {lo hi : Option Expr} {tl th : TO} {fl fh : FnO} (ha : DE m T K X a ta fa) (hl : DO T K X lo tl fl) (hh : DO T K X hi th fh) (hk : X.K = K := by rfl) : DE m T K X (.Subscript a (.Slice lo hi none p2) pos) (tSl (rSl K) ta tl th) (fSl fa fl fh) := by
  subst hk
  exact ⟨pe_slice sl_any ha.pe hl.po hh.po, fun W ρ σ H d Q g r e q => by
  obtain ⟨x, ea, e⟩ := obind e
  obtain ⟨i, el, e⟩ := obind e
  obtain ⟨j, eh, e⟩ := obind e
  refine ha.sd W ρ σ H x _ g r ea fun v H1 e1 g1 r1 => ?_
  refine hl.sd W ρ σ H1 i _ g1 (r.ext e1) el fun H2 e2 g2 => ?_
  refine hh.sd W ρ σ H2 j _ g2 (r.ext (e1.trans e2)) eh fun H3 e3 g3 => ?_
  have r3 := r1.ext (e2.trans e3)
  have e13 := (e1.trans e2).trans e3
  cases r3 with
  | @lst p vs ds h1 n1 ra =>
    cases e
    refine .inl ⟨p, vs, rfl, .of h1, fun l hl => ?_⟩
    exact q _ _ (e13.trans (Ext.new hl)) (g3.newL hl (Nat.le_trans (cutV_length2 vs i j) (g3.1 p vs (.inl h1)))) (.lst upd_same (fun z => by obtain ⟨zs, hz⟩ := (r.ext e13).wo z; rw [hl] at hz; cases hz) ((ra.cut i j).ext (Ext.new hl)))
  | @tup p vs ds h1 ra =>
    cases e
    refine .inr (.inl ⟨p, vs, rfl, .of h1, fun hw => ?_, fun _ l hl => ?_⟩)
    · rw [ra.length] at hw
      rw [cut_whole hw] at q
      exact q _ _ e13 g3 (.tup h1 ra)
    · exact q _ _ (e13.trans (Ext.new hl)) (g3.newT hl (Nat.le_trans (cutV_length2 vs i j) (g3.1 p vs (.inr h1)))) (.tup upd_same ((ra.cut i j).ext (Ext.new hl)))
  | str z =>
    dsimp only [gSl] at e
    by_cases hz : z.length ≤ sizeLine
    · rw [if_pos hz] at e
      cases e
      exact .inr (.inr ⟨z, rfl, hz, q _ _ e13 g3 (.str _)⟩)
    · rw [if_neg hz] at e; cases e
  | _ => cases e⟩

/-! ### calls of built-ins -/
def CallD (T : List Addr) (K : PySem.W.Frag) (r : List V → Hp → VK → Prop) (g : List Dt → Option Dt) : Prop :=
  ∀ (W : Addr → Prop) (H : Hp) (vs : List V) (ds : List Dt) (c : Dt) (Q : VK), Gd T H → (∀ a, W a → ∃ xs, H a = some (.lst xs)) → RepA K H W vs ds → g ds = some c →
    (∀ v H', Ext H H' → Gd T H' → Rep K H' W v c → Q v H') → r vs H Q
theorem sd_call {r : List V → Hp → VK → Prop} {g : List Dt → Option Dt} (h : CallD T K r g) (ha : SdA m T K tr fr) : Sd m T K (tCB r tr) (fN g fr) := fun W ρ σ H d Q gd rp e q => by
  obtain ⟨ds, ea, e⟩ := obind e
  refine ha W ρ σ H ds _ gd rp ea fun vs H1 e1 g1 r1 => ?_
  exact h (wOf m W ρ σ) H1 vs ds d Q g1 (fun p z => (rp.ext e1).wo z) r1 e fun v H2 e2 g2 r2 => q v H2 (e1.trans e2) g2 r2
theorem de_callB {id : String} {r : List V → Hp → VK → Prop} {g : List Dt → Option Dt} {x : Str} {p : Pos} (h : CallR X (.builtin id) r ∧ CallD T K r g) (hm : X.mg x = none) (hv : bootBuiltins x = some (.builtin id)) (ha : DA m T K X (e :: es) tr fr) (hg : Gl X x := by rfl) (hn : x ≠ "__name__" := by decide)
    (hdb : (x == ("__debug__" : Str)) = false := by decide) (he : starEach (e :: es) X.env = (false, eval e X.env) :: starEach es X.env := by rfl) (hpl : (backTo pos (starEach es X.env)).any (·.1) = false := by rfl) :
    DE m T K X (.Call (.Name x p) (e :: es) [] pos) (tCB r tr) (fN g fr) := ⟨pe_callB h.1 hg hm hv ha.pa hn hdb he hpl, sd_call h.2 ha.sd⟩
theorem de_callT {ty : String} {r : List V → Hp → VK → Prop} {g : List Dt → Option Dt} {x : Str} {p : Pos} (h : CallR X (.type ty) r ∧ CallD T K r g) (hm : X.mg x = none) (hv : bootBuiltins x = some (.type ty)) (ha : DA m T K X (e :: es) tr fr) (hg : Gl X x := by rfl) (hn : x ≠ "__name__" := by decide)
    (hdb : (x == ("__debug__" : Str)) = false := by decide) (he : starEach (e :: es) X.env = (false, eval e X.env) :: starEach es X.env := by rfl) (hpl : (backTo pos (starEach es X.env)).any (·.1) = false := by rfl) :
    DE m T K X (.Call (.Name x p) (e :: es) [] pos) (tCB r tr) (fN g fr) := ⟨pe_callTy h.1 hg hm hv ha.pa hn hdb he hpl, sd_call h.2 ha.sd⟩
/-- len -/
def gLen : List Dt → Option Dt
  | [.lst xs] => some (.int xs.length)
  | [.tup xs] => some (.int xs.length)
  | [.scr ns] => some (.int ns.length)
  | [.str z] => if z.length ≤ sizeLine then some (.int z.length) else none
  | _ => none
theorem repA1 {H : Hp} {W : Addr → Prop} {vs : List V} {d : Dt} (r : RepA K H W vs [d]) : ∃ v, vs = [v] ∧ Rep K H W v d := by
  cases r with
  | cons h r => cases r; exact ⟨_, rfl, h⟩
theorem repA2 {H : Hp} {W : Addr → Prop} {vs : List V} {d d' : Dt} (r : RepA K H W vs [d, d']) : ∃ v v', vs = [v, v'] ∧ Rep K H W v d ∧ Rep K H W v' d' := by
  cases r with
  | cons h r =>
    obtain ⟨v', rfl, h'⟩ := repA1 r
    exact ⟨_, _, rfl, h, h'⟩
theorem kLen (hk : X.K = K) : CallR X (.builtin "len") (fun xs H Q => (∃ p ys, xs = [.ref p] ∧ (SqL K H p ys ∨ SqT K H p ys) ∧ Q (.int ys.length) H) ∨ ∃ z, xs = [.str z] ∧ z.length ≤ sizeLine ∧ Q (.int z.length) H) ∧
    CallD T K (fun xs H Q => (∃ p ys, xs = [.ref p] ∧ (SqL K H p ys ∨ SqT K H p ys) ∧ Q (.int ys.length) H) ∨ ∃ z, xs = [.str z] ∧ z.length ≤ sizeLine ∧ Q (.int z.length) H) gLen := by subst hk; exact ⟨CallR.or call_len_seq call_len_str, fun W H vs ds c Q g wl r h q => by
  match ds, h with
  | x0 :: _ :: _, h => cases x0 <;> cases h
  | [d], h =>
    obtain ⟨v, rfl, r1⟩ := repA1 r
    cases r1 with
    | lst h1 n1 ra => cases h; exact .inl ⟨_, _, rfl, .inl (.of h1), q _ H (Ext.refl H) g (by rw [ra.length]; exact .int _)⟩
    | tup h1 ra => cases h; exact .inl ⟨_, _, rfl, .inr (.of h1), q _ H (Ext.refl H) g (by rw [ra.length]; exact .int _)⟩
    | scr hs => cases h; exact .inl ⟨_, _, rfl, .inl hs.sq, q _ H (Ext.refl H) g (by rw [List.length_map]; exact .int _)⟩
    | str z =>
      dsimp only [gLen] at h
      by_cases hz : z.length ≤ sizeLine
      · rw [if_pos hz] at h
        cases h
        exact .inr ⟨z, rfl, hz, q _ H (Ext.refl H) g (.int _)⟩
      · rw [if_neg hz] at h; cases h
    | _ => cases h⟩
/-- abs -/
def gAbs : List Dt → Option Dt
  | [.int i] => some (.int (if i < 0 then -i else i))
  | _ => none
theorem kAbs : CallR X (.builtin "abs") (fun xs H Q => ∃ i, xs = [.int i] ∧ Q (.int (if i < 0 then -i else i)) H) ∧ CallD T K (fun xs H Q => ∃ i, xs = [.int i] ∧ Q (.int (if i < 0 then -i else i)) H) gAbs := ⟨call_abs, fun W H vs ds c Q g wl r h q => by
  match ds, h with
  | x0 :: _ :: _, h => cases x0 <;> cases h
  | [d], h =>
    obtain ⟨v, rfl, r1⟩ := repA1 r
    cases r1 with
    | int i => cases h; exact ⟨i, rfl, q _ H (Ext.refl H) g (.int _)⟩
    | _ => cases h⟩
/-- int of an int or a truth value -/
def gInt : List Dt → Option Dt
  | [.int i] => some (.int i)
  | [.bl b] => some (.int (if b then 1 else 0))
  | _ => none
theorem kInt : CallR X (.type "int") (fun xs H Q => (∃ i, xs = [.int i] ∧ Q (.int i) H) ∨ ∃ k, xs = [.bl k] ∧ Q (.int (if k then 1 else 0)) H) ∧
    CallD T K (fun xs H Q => (∃ i, xs = [.int i] ∧ Q (.int i) H) ∨ ∃ k, xs = [.bl k] ∧ Q (.int (if k then 1 else 0)) H) gInt := ⟨call_int1, fun W H vs ds c Q g wl r h q => by
  match ds, h with
  | x0 :: _ :: _, h => cases x0 <;> cases h
  | [d], h =>
    obtain ⟨v, rfl, r1⟩ := repA1 r
    cases r1 with
    | int i => cases h; exact .inl ⟨i, rfl, q _ H (Ext.refl H) g (.int _)⟩
    | bl b => cases h; exact .inr ⟨b, rfl, q _ H (Ext.refl H) g (.int _)⟩
    | _ => cases h⟩
/-- max, min of two ints -/
def gMax2 : List Dt → Option Dt
  | [.int i, .int j] => some (.int (if j > i then j else i))
  | _ => none
def gMin2 : List Dt → Option Dt
  | [.int i, .int j] => some (.int (if j < i then j else i))
  | _ => none
theorem kMax2 (hc : X.calm = true) : CallR X (.builtin "max") (fun xs H Q => ∃ i j, xs = [.int i, .int j] ∧ Q (.int (if j > i then j else i)) H) ∧ CallD T K (fun xs H Q => ∃ i j, xs = [.int i, .int j] ∧ Q (.int (if j > i then j else i)) H) gMax2 := ⟨call_max2 hc, fun W H vs ds c Q g wl r h q => by
  match ds, h with
  | [x0], h => cases x0 <;> cases h
  | x0 :: x1 :: _ :: _, h => cases x0 <;> cases x1 <;> cases h
  | [d, d'], h =>
    obtain ⟨v, v', rfl, r1, r2⟩ := repA2 r
    cases r1 with
    | int i =>
      cases r2 with
      | int j => cases h; exact ⟨i, j, rfl, q _ H (Ext.refl H) g (.int _)⟩
      | _ => cases h
    | _ => cases h⟩
theorem kMin2 (hc : X.calm = true) : CallR X (.builtin "min") (fun xs H Q => ∃ i j, xs = [.int i, .int j] ∧ Q (.int (if j < i then j else i)) H) ∧ CallD T K (fun xs H Q => ∃ i j, xs = [.int i, .int j] ∧ Q (.int (if j < i then j else i)) H) gMin2 := ⟨call_min2 hc, fun W H vs ds c Q g wl r h q => by
  match ds, h with
  | [x0], h => cases x0 <;> cases h
  | x0 :: x1 :: _ :: _, h => cases x0 <;> cases x1 <;> cases h
  | [d, d'], h =>
    obtain ⟨v, v', rfl, r1, r2⟩ := repA2 r
    cases r1 with
    | int i =>
      cases r2 with
      | int j => cases h; exact ⟨i, j, rfl, q _ H (Ext.refl H) g (.int _)⟩
      | _ => cases h
    | _ => cases h⟩
/-- the ints of a list of data -/
def ints? : List Dt → Option (List Int)
  | [] => some []
  | .int i :: r => (ints? r).bind fun ns => some (i :: ns)
  | _ :: _ => none
theorem ints?_some : ∀ {ds : List Dt} {ns : List Int}, ints? ds = some ns → ds = ns.map Dt.int
  | [], ns, h => by cases h; rfl
  | .int i :: r, ns, h => by
    obtain ⟨ms, h1, h2⟩ := obind h
    cases h2
    rw [ints?_some h1]
    rfl
  | .non :: _, _, h | .bl _ :: _, _, h | .str _ :: _, _, h | .tup _ :: _, _, h | .lst _ :: _, _, h | .scr _ :: _, _, h => by cases h
theorem ints?_map : ∀ ns : List Int, ints? (ns.map Dt.int) = some ns
  | [] => rfl
  | n :: ns => by
    show ((ints? (ns.map Dt.int)).bind fun ns => some (n :: ns)) = _
    rw [ints?_map ns]; rfl
def bools? : List Dt → Option (List Bool)
  | [] => some []
  | .bl i :: r => (bools? r).bind fun ns => some (i :: ns)
  | _ :: _ => none
theorem bools?_some : ∀ {ds : List Dt} {ns : List Bool}, bools? ds = some ns → ds = ns.map Dt.bl
  | [], ns, h => by cases h; rfl
  | .bl i :: r, ns, h => by
    obtain ⟨ms, h1, h2⟩ := obind h
    cases h2
    rw [bools?_some h1]
    rfl
  | .non :: _, _, h | .int _ :: _, _, h | .str _ :: _, _, h | .tup _ :: _, _, h | .lst _ :: _, _, h | .scr _ :: _, _, h => by cases h
theorem bools?_map : ∀ ns : List Bool, bools? (ns.map Dt.bl) = some ns
  | [] => rfl
  | n :: ns => by
    show ((bools? (ns.map Dt.bl)).bind fun ns => some (n :: ns)) = _
    rw [bools?_map ns]; rfl
theorem RepA.bools {H : Hp} {W : Addr → Prop} : ∀ {vs : List V} {ns : List Bool}, RepA K H W vs (ns.map Dt.bl) → vs = ns.map V.bl
  | _, [], h => by cases h; rfl
  | _, n :: ns, h => by
    cases h with
    | cons h r => cases h; rw [RepA.bools r]; rfl
def gSum : List Dt → Option Dt
  | [.lst xs] => (ints? xs).bind fun ns => some (.int ns.sum)
  | _ => none
theorem kSum (hk : X.K = K) (hc : X.calm = true) : CallR X (.builtin "sum") (rSum K) ∧ CallD T K (rSum K) gSum := by subst hk; exact ⟨cr_sum hc, fun W H vs ds c Q g wl r h q => by
  match ds, h with
  | x0 :: _ :: _, h => cases x0 <;> cases h
  | [d], h =>
    obtain ⟨v, rfl, r1⟩ := repA1 r
    cases r1 with
    | lst h1 n1 ra =>
      obtain ⟨ns, h2, h3⟩ := obind h
      cases h3
      rw [ints?_some h2] at ra
      rw [ra.ints] at h1
      exact ⟨_, ns, rfl, .of h1, q _ H (Ext.refl H) g (.int _)⟩
    | _ => cases h⟩
def gAll : List Dt → Option Dt
  | [.lst xs] => (bools? xs).bind fun bs => some (.bl (bs.all id))
  | _ => none
def gAny : List Dt → Option Dt
  | [.lst xs] => (bools? xs).bind fun bs => some (.bl (bs.any id))
  | _ => none
theorem kAll (hk : X.K = K) (hc : X.calm = true) : CallR X (.builtin "all") (rAll K) ∧ CallD T K (rAll K) gAll := by subst hk; exact ⟨cr_all hc, fun W H vs ds c Q g wl r h q => by
  match ds, h with
  | x0 :: _ :: _, h => cases x0 <;> cases h
  | [d], h =>
    obtain ⟨v, rfl, r1⟩ := repA1 r
    cases r1 with
    | lst h1 n1 ra =>
      obtain ⟨ns, h2, h3⟩ := obind h
      cases h3
      rw [bools?_some h2] at ra
      rw [ra.bools] at h1
      exact ⟨_, ns, rfl, .of h1, q _ H (Ext.refl H) g (.bl _)⟩
    | _ => cases h⟩
theorem kAny (hk : X.K = K) (hc : X.calm = true) : CallR X (.builtin "any") (rAny K) ∧ CallD T K (rAny K) gAny := by subst hk; exact ⟨cr_any hc, fun W H vs ds c Q g wl r h q => by
  match ds, h with
  | x0 :: _ :: _, h => cases x0 <;> cases h
  | [d], h =>
    obtain ⟨v, rfl, r1⟩ := repA1 r
    cases r1 with
    | lst h1 n1 ra =>
      obtain ⟨ns, h2, h3⟩ := obind h
      cases h3
      rw [bools?_some h2] at ra
      rw [ra.bools] at h1
      exact ⟨_, ns, rfl, .of h1, q _ H (Ext.refl H) g (.bl _)⟩
    | _ => cases h⟩
/-- max, min of a list of ints -/
def maxL : List Int → Option Int
  | [] => none
  | x :: xs => some (xs.foldl (fun a b => if b > a then b else a) x)
def minL : List Int → Option Int
  | [] => none
  | x :: xs => some (xs.foldl (fun a b => if b < a then b else a) x)
theorem foldmax : ∀ (xs : List Int) (x : Int), (xs.foldl (fun a b => if b > a then b else a) x) ∈ x :: xs ∧ x ≤ xs.foldl (fun a b => if b > a then b else a) x ∧ ∀ y ∈ xs, y ≤ xs.foldl (fun a b => if b > a then b else a) x
  | [], x => ⟨by simp, Int.le_refl _, by simp⟩
  | z :: xs, x => by
    obtain ⟨h1, h2, h3⟩ := foldmax xs (if z > x then z else x)
    rw [List.foldl_cons]
    by_cases hz : z > x
    · rw [if_pos hz] at h1 h2 h3 ⊢
      refine ⟨List.mem_cons_of_mem _ h1, by omega, fun y hy => ?_⟩
      rcases List.mem_cons.mp hy with e | hy
      · rw [e]; exact h2
      · exact h3 y hy
    · rw [if_neg hz] at h1 h2 h3 ⊢
      refine ⟨?_, h2, fun y hy => ?_⟩
      · rcases List.mem_cons.mp h1 with e | h
        · rw [e]; exact List.mem_cons_self
        · exact List.mem_cons_of_mem _ (List.mem_cons_of_mem _ h)
      · rcases List.mem_cons.mp hy with e | hy
        · rw [e]; omega
        · exact h3 y hy
theorem foldmin : ∀ (xs : List Int) (x : Int), (xs.foldl (fun a b => if b < a then b else a) x) ∈ x :: xs ∧ xs.foldl (fun a b => if b < a then b else a) x ≤ x ∧ ∀ y ∈ xs, xs.foldl (fun a b => if b < a then b else a) x ≤ y
  | [], x => ⟨by simp, Int.le_refl _, by simp⟩
  | z :: xs, x => by
    obtain ⟨h1, h2, h3⟩ := foldmin xs (if z < x then z else x)
    rw [List.foldl_cons]
    by_cases hz : z < x
    · rw [if_pos hz] at h1 h2 h3 ⊢
      refine ⟨List.mem_cons_of_mem _ h1, by omega, fun y hy => ?_⟩
      rcases List.mem_cons.mp hy with e | hy
      · rw [e]; exact h2
      · exact h3 y hy
    · rw [if_neg hz] at h1 h2 h3 ⊢
      refine ⟨?_, h2, fun y hy => ?_⟩
      · rcases List.mem_cons.mp h1 with e | h
        · rw [e]; exact List.mem_cons_self
        · exact List.mem_cons_of_mem _ (List.mem_cons_of_mem _ h)
      · rcases List.mem_cons.mp hy with e | hy
        · rw [e]; omega
        · exact h3 y hy
theorem maxL_is {ns : List Int} {m' k : Int} (h : maxL ns = some k) (hm : m' ∈ ns) (hle : ∀ y, y ∈ ns → y ≤ m') : m' = k := by
  cases ns with
  | nil => cases hm
  | cons x xs =>
    obtain ⟨h1, h2, h3⟩ := foldmax xs x
    cases h
    refine Int.le_antisymm ?_ (hle _ h1)
    rcases List.mem_cons.mp hm with e | e
    · rw [e]; exact h2
    · exact h3 _ e
theorem minL_is {ns : List Int} {m' k : Int} (h : minL ns = some k) (hm : m' ∈ ns) (hle : ∀ y, y ∈ ns → m' ≤ y) : m' = k := by
  cases ns with
  | nil => cases hm
  | cons x xs =>
    obtain ⟨h1, h2, h3⟩ := foldmin xs x
    cases h
    refine Int.le_antisymm (hle _ h1) ?_
    rcases List.mem_cons.mp hm with e | e
    · rw [e]; exact h2
    · exact h3 _ e
def gMaxL : List Dt → Option Dt
  | [.lst xs] => (ints? xs).bind fun ns => (maxL ns).bind fun k => some (.int k)
  | _ => none
def gMinL : List Dt → Option Dt
  | [.lst xs] => (ints? xs).bind fun ns => (minL ns).bind fun k => some (.int k)
  | _ => none
theorem kMaxL (hk : X.K = K) (hc : X.calm = true) : CallR X (.builtin "max") (rMax K) ∧ CallD T K (rMax K) gMaxL := by subst hk; exact ⟨cr_max hc, fun W H vs ds c Q g wl r h q => by
  match ds, h with
  | x0 :: _ :: _, h => cases x0 <;> cases h
  | [d], h =>
    obtain ⟨v, rfl, r1⟩ := repA1 r
    cases r1 with
    | lst h1 n1 ra =>
      obtain ⟨ns, h2, h3⟩ := obind h
      obtain ⟨k, h4, h5⟩ := obind h3
      cases h5
      rw [ints?_some h2] at ra
      rw [ra.ints] at h1
      refine ⟨_, ns, rfl, .of h1, ?_, fun m' hm hle => ?_⟩
      · cases ns with
        | nil => cases h4
        | cons _ _ => exact Nat.succ_pos _
      · rw [maxL_is h4 hm hle]
        exact q _ H (Ext.refl H) g (.int _)
    | _ => cases h⟩
theorem kMinL (hk : X.K = K) (hc : X.calm = true) : CallR X (.builtin "min") (rMin K) ∧ CallD T K (rMin K) gMinL := by subst hk; exact ⟨cr_min hc, fun W H vs ds c Q g wl r h q => by
  match ds, h with
  | x0 :: _ :: _, h => cases x0 <;> cases h
  | [d], h =>
    obtain ⟨v, rfl, r1⟩ := repA1 r
    cases r1 with
    | lst h1 n1 ra =>
      obtain ⟨ns, h2, h3⟩ := obind h
      obtain ⟨k, h4, h5⟩ := obind h3
      cases h5
      rw [ints?_some h2] at ra
      rw [ra.ints] at h1
      refine ⟨_, ns, rfl, .of h1, ?_, fun m' hm hle => ?_⟩
      · cases ns with
        | nil => cases h4
        | cons _ _ => exact Nat.succ_pos _
      · rw [minL_is h4 hm hle]
        exact q _ H (Ext.refl H) g (.int _)
    | _ => cases h⟩
/-- sorted, ints -/
def sortI (ns : List Int) : List Int := ns.mergeSort fun a b => decide (a ≤ b)
theorem sortI_perm (ns : List Int) : (sortI ns).Perm ns := List.mergeSort_perm ns _
theorem sortI_sorted (ns : List Int) : (sortI ns).Pairwise (· ≤ ·) := by
  have h := List.pairwise_mergeSort (le := fun a b : Int => decide (a ≤ b)) (fun a b c h1 h2 => by simp only [decide_eq_true_eq] at *; omega) (fun a b => by simp only [Bool.or_eq_true, decide_eq_true_eq]; omega) ns
  exact h.imp fun h => of_decide_eq_true h
theorem sortI_one {ns ms : List Int} (hp : ms.Perm ns) (hs : ms.Pairwise (· ≤ ·)) : ms = sortI ns :=
  List.Perm.eq_of_pairwise (le := fun a b : Int => a ≤ b) (fun a b _ _ h1 h2 => Int.le_antisymm h1 h2) hs (sortI_sorted ns) (hp.trans (sortI_perm ns).symm)
def gSorted : List Dt → Option (List Dt)
  | [.lst xs] => (ints? xs).bind fun ns => some ((sortI ns).map Dt.int)
  | _ => none
def fNL (g : List Dt → Option (List Dt)) (a : FnL) : FnL := fun ρ => (a ρ).bind g
/-- a call whose answer is a new list -/
def CallF (T : List Addr) (K : PySem.W.Frag) (r : List V → Hp → VK → Prop) (g : List Dt → Option (List Dt)) : Prop :=
  ∀ (W : Addr → Prop) (H : Hp) (vs : List V) (ds : List Dt) (c : List Dt) (Q : VK), Gd T H → (∀ a, W a → ∃ xs, H a = some (.lst xs)) → RepA K H W vs ds → g ds = some c →
    (∀ p us H', Ext H H' → Gd T H' → H p = none → H' p = some (.lst us) → RepA K H' (fun a => W a ∨ a = p) us c → Q (.ref p) H') → r vs H Q
theorem sd_callF {r : List V → Hp → VK → Prop} {g : List Dt → Option (List Dt)} (h : CallF T K r g) (ha : SdA true T K tr fr) : SdF T K (tCB r tr) (fNL g fr) := fun W ρ σ H d Q gd rp e q => by
  obtain ⟨ds, ea, e⟩ := obind e
  refine ha W ρ σ H ds _ gd rp ea fun vs H1 e1 g1 r1 => ?_
  exact h (wOf true W ρ σ) H1 vs ds d Q g1 (fun p z => (rp.ext e1).wo z) r1 e fun p us H2 e2 g2 hp hp2 r2 => q p us H2 (e1.trans e2) g2 (e1.there p hp) hp2 (r2.sub fun _ _ _ z => z.imp (fun z => ⟨rfl, z⟩) fun z => z)
/-- .. whose items hold no list -/
theorem sd_callF0 {r : List V → Hp → VK → Prop} {g : List Dt → Option (List Dt)} (h : CallF T K r g) (ha : SdA false T K tr fr) : SdF T K (tCB r tr) (fNL (fun ds => (g ds).bind fun c => if Dt.freeA c = true then some c else none) fr) := fun W ρ σ H d Q gd rp e q => by
  obtain ⟨ds, ea, e⟩ := obind e
  obtain ⟨c, e0, e⟩ := obind e
  by_cases hf : Dt.freeA c = true
  · rw [if_pos hf] at e
    cases e
    refine ha W ρ σ H ds _ gd rp ea fun vs H1 e1 g1 r1 => ?_
    exact h (wOf false W ρ σ) H1 vs ds d Q g1 (fun p z => (rp.ext e1).wo z) r1 e0 fun p us H2 e2 g2 hp hp2 r2 => q p us H2 (e1.trans e2) g2 (e1.there p hp) hp2 (r2.free hf)
  · rw [if_neg hf] at e; cases e
theorem df_callB {id : String} {r : List V → Hp → VK → Prop} {g : List Dt → Option (List Dt)} {x : Str} {p : Pos} (h : CallR X (.builtin id) r ∧ CallF T K r g) (hm : X.mg x = none) (hv : bootBuiltins x = some (.builtin id)) (ha : DA false T K X (e :: es) tr fr) (hg : Gl X x := by rfl) (hn : x ≠ "__name__" := by decide)
    (hdb : (x == ("__debug__" : Str)) = false := by decide) (he : starEach (e :: es) X.env = (false, eval e X.env) :: starEach es X.env := by rfl) (hpl : (backTo pos (starEach es X.env)).any (·.1) = false := by rfl) :
    DF T K X (.Call (.Name x p) (e :: es) [] pos) (tCB r tr) (fNL (fun ds => (g ds).bind fun c => if Dt.freeA c = true then some c else none) fr) := ⟨pe_callB h.1 hg hm hv ha.pa hn hdb he hpl, sd_callF0 h.2 ha.sd⟩
theorem df_callT {ty : String} {r : List V → Hp → VK → Prop} {g : List Dt → Option (List Dt)} {x : Str} {p : Pos} (h : CallR X (.type ty) r ∧ CallF T K r g) (hm : X.mg x = none) (hv : bootBuiltins x = some (.type ty)) (ha : DA false T K X (e :: es) tr fr) (hg : Gl X x := by rfl) (hn : x ≠ "__name__" := by decide)
    (hdb : (x == ("__debug__" : Str)) = false := by decide) (he : starEach (e :: es) X.env = (false, eval e X.env) :: starEach es X.env := by rfl) (hpl : (backTo pos (starEach es X.env)).any (·.1) = false := by rfl) :
    DF T K X (.Call (.Name x p) (e :: es) [] pos) (tCB r tr) (fNL (fun ds => (g ds).bind fun c => if Dt.freeA c = true then some c else none) fr) := ⟨pe_callTy h.1 hg hm hv ha.pa hn hdb he hpl, sd_callF0 h.2 ha.sd⟩
theorem df_callTs {ty : String} {r : List V → Hp → VK → Prop} {g : List Dt → Option (List Dt)} {x : Str} {p : Pos} (h : CallR X (.type ty) r ∧ CallF T K r g) (hm : X.mg x = none) (hv : bootBuiltins x = some (.type ty)) (ha : DA true T K X (e :: es) tr fr) (hg : Gl X x := by rfl) (hn : x ≠ "__name__" := by decide)
    (hdb : (x == ("__debug__" : Str)) = false := by decide) (he : starEach (e :: es) X.env = (false, eval e X.env) :: starEach es X.env := by rfl) (hpl : (backTo pos (starEach es X.env)).any (·.1) = false := by rfl) :
    DF T K X (.Call (.Name x p) (e :: es) [] pos) (tCB r tr) (fNL g fr) := ⟨pe_callTy h.1 hg hm hv ha.pa hn hdb he hpl, sd_callF h.2 ha.sd⟩
theorem kSortedL (hk : X.K = K) : CallR X (.builtin "sorted") (rSortedI K) ∧ CallF T K (rSortedI K) gSorted := by subst hk; exact ⟨cr_sortedI, fun W H vs ds c Q g wl r h q => by
  match ds, h with
  | x0 :: _ :: _, h => cases x0 <;> cases h
  | [d], h =>
    obtain ⟨v, rfl, r1⟩ := repA1 r
    cases r1 with
    | lst h1 n1 ra =>
      obtain ⟨ns, h2, h3⟩ := obind h
      cases h3
      have hd := ints?_some h2
      have hln := ra.length
      rw [hd] at ra
      have hz := g.1 _ _ (.inl h1)
      rw [ra.ints] at h1 hz
      refine ⟨_, ns, rfl, .of h1, fun ms p hp hs hn => ?_⟩
      have e := sortI_one hp hs
      subst e
      refine q p _ _ (Ext.new hn) (g.newL hn ?_) hn upd_same (repA_ints _)
      rw [List.length_map, (sortI_perm ns).length_eq]
      rw [List.length_map] at hz
      exact hz
    | _ => cases h⟩
/-- tuple of a list or tuple -/
def gTuple : List Dt → Option Dt
  | [.lst xs] => some (.tup xs)
  | [.tup xs] => some (.tup xs)
  | _ => none
def rTuple (K : PySem.W.Frag) : List V → Hp → VK → Prop := fun xs H Q => ∃ p ys, xs = [.ref p] ∧ ((SqL K H p ys ∧ ∀ l, H l = none → Q (.ref l) (upd H l (.tup ys))) ∨ (SqT K H p ys ∧ Q (.ref p) H))
theorem kTuple (hk : X.K = K) : CallR X (.type "tuple") (rTuple K) ∧ CallD T K (rTuple K) gTuple := by subst hk; exact ⟨call_tuple_of, fun W H vs ds c Q g wl r h q => by
  match ds, h with
  | x0 :: _ :: _, h => cases x0 <;> cases h
  | [d], h =>
    obtain ⟨v, rfl, r1⟩ := repA1 r
    cases r1 with
    | lst h1 n1 ra => cases h; exact ⟨_, _, rfl, .inl ⟨.of h1, fun l hl => q _ _ (Ext.new hl) (g.newT hl (g.1 _ _ (.inl h1))) (.tup upd_same (ra.ext (Ext.new hl)))⟩⟩
    | tup h1 ra => cases h; exact ⟨_, _, rfl, .inr ⟨.of h1, q _ H (Ext.refl H) g (.tup h1 ra)⟩⟩
    | _ => cases h⟩
/-- list of a list or tuple -/
def gList : List Dt → Option (List Dt)
  | [.lst xs] => some xs
  | [.tup xs] => some xs
  | _ => none
def rList (K : PySem.W.Frag) : List V → Hp → VK → Prop := fun xs H Q => ∃ p ys, xs = [.ref p] ∧ (SqL K H p ys ∨ SqT K H p ys) ∧ ∀ l, H l = none → Q (.ref l) (upd H l (.lst ys))
theorem kList (hk : X.K = K) : CallR X (.type "list") (rList K) ∧ CallF T K (rList K) gList := by subst hk; exact ⟨call_list_of, fun W H vs ds c Q g wl r h q => by
  match ds, h with
  | x0 :: _ :: _, h => cases x0 <;> cases h
  | [d], h =>
    obtain ⟨v, rfl, r1⟩ := repA1 r
    cases r1 with
    | lst h1 n1 ra => cases h; exact ⟨_, _, rfl, .inl (.of h1), fun l hl => q l _ _ (Ext.new hl) (g.newL hl (g.1 _ _ (.inl h1))) hl upd_same (ra.newp hl)⟩
    | tup h1 ra => cases h; exact ⟨_, _, rfl, .inr (.of h1), fun l hl => q l _ _ (Ext.new hl) (g.newL hl (g.1 _ _ (.inr h1))) hl upd_same (ra.newp hl)⟩
    | _ => cases h⟩
end
end EL
end

section
set_option Elab.async false
set_option maxRecDepth 100000
/-! EL what is walked, targets, comprehensions. -/
namespace EL
open PySem PySem.Spec PyProof.Rows L2

def Own (ρ : Rho) (σ : L2.St) : Addr → Prop := fun a => ∃ i ds, getS ρ i = .ow ds ∧ σ[i]? = some (some (.ref a))
/-- what stood stands, but the lists of O -/
structure Kp (O : Addr → Prop) (H H' : Hp) : Prop where
  keep : ∀ b o, H b = some o → nt o = true → ¬ O b → H' b = some o
  there : ∀ b, H' b = none → H b = none
theorem Kp.refl (O : Addr → Prop) (H : Hp) : Kp O H H := ⟨fun _ _ h _ _ => h, fun _ h => h⟩
theorem Ext.kp {O : Addr → Prop} {H H' : Hp} (e : Ext H H') : Kp O H H' := ⟨fun b o h n _ => e.keep b o h n, e.there⟩
theorem Kp.ext {O : Addr → Prop} {H H' : Hp} (k : Kp O H H') (h : ∀ a, ¬ O a) : Ext H H' := ⟨fun b o e n => k.keep b o e n (h b), k.there⟩
theorem Kp.trans {O O' : Addr → Prop} {H H1 H2 : Hp} (a : Kp O H H1) (b : Kp O' H1 H2) (h : ∀ c, O' c → O c ∨ H c = none) : Kp O H H2 where
  keep := fun c o e n no => b.keep c o (a.keep c o e n no) n fun z => by
    rcases h c z with z | z
    · exact no z
    · rw [e] at z; cases z
  there := fun c e => a.there c (b.there c e)
theorem Kp.sub {O O' : Addr → Prop} {H H' : Hp} (k : Kp O H H') (h : ∀ a, O a → O' a) : Kp O' H H' := ⟨fun b o e n no => k.keep b o e n fun z => no (h b z), k.there⟩

/-- the turns of J hand out ds, while what stood at H1 stands but for O -/
def JOk (O : Addr → Prop) (T : List Addr) (K : PySem.W.Frag) (W : Addr → Prop) (J : It) (H1 : Hp) (ds : List Dt) : Prop :=
  ∀ H, Kp O H1 H → Gd T H → (∀ i d, ds[i]? = some d → J.go i H ∧ ∀ x H', J.yld i H x H' → Ext H H' ∧ Gd T H' ∧ Rep K H' (fun a => W a ∨ H1 a = none) x d) ∧ ∀ i, ds.length ≤ i → J.stop i H
def SdI (k : Bool) (T : List Addr) (K : PySem.W.Frag) (wi : TI) (f : FnL) : Prop :=
  ∀ (W : Addr → Prop) (ρ : Rho) (σ : L2.St) (H : Hp) (ds : List Dt) (R : It → Hp → Prop), Gd T H → Rp K H W ρ σ → f ρ = some ds →
    (∀ J H1, Ext H H1 → Gd T H1 → JOk (fun a => k = true ∧ Own ρ σ a) T K (Wd W ρ σ) J H1 ds → R J H1) → wi σ H R
structure DI (k : Bool) (T : List Addr) (K : PySem.W.Frag) (X : Cx) (tg e : Expr) (wi : TI) (f : FnL) : Prop where
  pi : PI X tg e wi
  sd : SdI k T K wi f

section
variable {m k : Bool} {T : List Addr} {X : Cx} {K : PySem.W.Frag} {a b c e tg : Expr} {es : List Expr} {ta tb tc t : TE} {tr : TA} {fa fb : Fn} {fr : FnL} {pos p : Pos}

theorem RepA.age {H1 H : Hp} {O W : Addr → Prop} {vs : List V} {ds : List Dt} (r : RepA K H1 W vs ds) (kp : Kp O H1 H) (ho : ∀ a, O a → W a ∨ ∀ xs, H1 a ≠ some (.lst xs) ∧ H1 a ≠ some (.tup xs)) (hf : ∀ a, O a → ∀ o u, H1 a ≠ some (.frz o u)) (ht : ∀ a, O a → ∀ xs, H1 a ≠ some (.tup xs)) :
    RepA K H (fun a => W a ∨ H1 a = none) vs ds := r.keep ⟨fun b xs e => kp.keep b _ e rfl fun z => ht b z xs e, fun b o u e => kp.keep b _ e rfl fun z => hf b z o u e, fun b xs e n => kp.keep b _ e rfl fun z => by
    rcases ho b z with y | y
    · exact n y
    · exact (y xs).1 e⟩ fun a xs e z => by
    rcases z with z | z
    · exact z
    · rw [e] at z; cases z
theorem RepA.aged {H H1 Hc : Hp} {W : Addr → Prop} {ρ : Rho} {σ : L2.St} {vs : List V} {ds : List Dt} (rp : Rp K H1 W ρ σ) (r : RepA K H1 (Wd W ρ σ) vs ds) (kp : Kp (fun a => k = true ∧ Own ρ σ a) H1 Hc) :
    RepA K Hc (fun a => Wd W ρ σ a ∨ H1 a = none) vs ds := by
  have there : ∀ a, (k = true ∧ Own ρ σ a) → ∃ xs, H1 a = some (.lst xs) := fun a z => rp.wd (.inr z.2)
  refine r.age kp (fun a z => .inl (.inr z.2)) (fun a z o u e => ?_) fun a z xs e => ?_
  · obtain ⟨ys, q⟩ := there a z
    rw [e] at q; cases q
  · obtain ⟨ys, q⟩ := there a z
    rw [e] at q; cases q
/-! ### lists, tuples, texts -/
def iSeq (K : PySem.W.Frag) (tl : TE) : TI := fun σ H R => tl σ H fun x H1 => (∃ a xs, x = .ref a ∧ SqL K H1 a xs ∧ R (Itl K a) H1) ∨ (∃ a xs, x = .ref a ∧ SqT K H1 a xs ∧ R (Itt K a) H1) ∨ ∃ z, x = .str z ∧ R (Its z) H1
theorem pi_seq {tl : TE} (hl : PE X e tl) : PI X tg e (iSeq X.K tl) := ⟨fun pins s0 σ0 H0 R I0 h0 => by
  refine thn (hl.run pins s0 σ0 H0 _ I0 h0) fun u s1 ⟨x, H1, I1, r1, cs⟩ => ?_
  have new : ∀ b, b ∈ [s1.heap.objs.size] → FpOk X pins H1 b := fun b hb => by
    rw [List.mem_singleton.mp hb]
    exact I1.fpOk (Nat.le_refl _) (I1.hok.fresh (Nat.le_refl _))
  rcases cs with ⟨a, xs, rfl, hq, q⟩ | ⟨a, xs, rfl, hq, q⟩ | ⟨z, rfl, q⟩
  · cases r1
    obtain ⟨its, rv, pl, _⟩ := I1.list hq
    exact wpAny_pyIter_list pl.isList ⟨s1.heap.objs.size, [s1.heap.objs.size], _, _, H1, rfl, I1.kept (t' := s1.toks) fun b o eb => Heap.get?_push_of_some _ eb, turn_list a _, ⟨_, Heap.get?_push_size _ rfl, rfl, rfl⟩, new, q⟩
  · cases r1
    obtain ⟨its, rv, pl, _⟩ := I1.tuple hq
    exact wpAny_pyIter_tuple (show s1.heap.IsTuple a its.toArray from pl) ⟨s1.heap.objs.size, [s1.heap.objs.size], _, _, H1, rfl, I1.kept (t' := s1.toks) fun b o eb => Heap.get?_push_of_some _ eb, turn_tuple a _, ⟨_, Heap.get?_push_size _ rfl, rfl, rfl⟩, new, q⟩
  · obtain ⟨tk, rfl⟩ := r1
    cases ha : z.cps.all (· < 128) with
    | false => exact wpAny_pyIter_wide ha (pi_one (tk := s1.toks) I1 _ (turn_str _ z tk "str_iterator" (Or.inr rfl)) ⟨_, Heap.get?_push_size _ rfl, rfl, rfl⟩ q)
    | true => exact wpAny_pyIter_ascii ha (pi_one (tk := s1.toks) I1 _ (turn_str _ z tk "str_ascii_iterator" (Or.inl rfl)) ⟨_, Heap.get?_push_size _ rfl, rfl, rfl⟩ q)⟩
/-- the signs of a text -/
def signs (z : Str) : List Dt := z.cps.toList.map fun c => .str ⟨#[c]⟩
def gItems : Dt → Option (List Dt)
  | .lst xs => some xs
  | .tup xs => some xs
  | .str z => some (signs z)
  | _ => none
def f1L (g : Dt → Option (List Dt)) (a : Fn) : FnL := fun ρ => (a ρ).bind g
theorem jok_list {H1 : Hp} {W : Addr → Prop} {ρ : Rho} {σ : L2.St} {q : Addr} {vs : List V} {ds : List Dt} (rp : Rp K H1 W ρ σ) (h : H1 q = some (.lst vs)) (n : k = true → ¬ Own ρ σ q) (r : RepA K H1 (Wd W ρ σ) vs ds) :
    JOk (fun a => k = true ∧ Own ρ σ a) T K (Wd W ρ σ) (Itl K q) H1 ds := fun Hc kp g => by
  have hc : Hc q = some (.lst vs) := kp.keep q _ h rfl fun z => n z.1 z.2
  have rc := r.aged (H := H1) rp kp
  refine ⟨fun i d hd => ?_, fun i hi => ⟨vs, .of hc, by rw [r.length]; exact hi⟩⟩
  obtain ⟨v, hv, rv⟩ := rc.get hd
  refine ⟨⟨vs, v, .of hc, hv⟩, fun x H' y => ?_⟩
  obtain ⟨rfl, y⟩ := y
  have e := y vs (.of hc)
  rw [hv] at e
  cases e
  exact ⟨Ext.refl _, g, rv⟩
theorem jok_tup {H1 : Hp} {W : Addr → Prop} {ρ : Rho} {σ : L2.St} {q : Addr} {vs : List V} {ds : List Dt} (rp : Rp K H1 W ρ σ) (h : H1 q = some (.tup vs)) (r : RepA K H1 (Wd W ρ σ) vs ds) :
    JOk (fun a => k = true ∧ Own ρ σ a) T K (Wd W ρ σ) (Itt K q) H1 ds := fun Hc kp g => by
  have hc : Hc q = some (.tup vs) := kp.keep q _ h rfl fun z => by
    obtain ⟨xs, hx⟩ := rp.wd (.inr z.2)
    rw [h] at hx; cases hx
  have rc := r.aged (H := H1) rp kp
  refine ⟨fun i d hd => ?_, fun i hi => ⟨vs, .of hc, by rw [r.length]; exact hi⟩⟩
  obtain ⟨v, hv, rv⟩ := rc.get hd
  refine ⟨⟨vs, v, .of hc, hv⟩, fun x H' y => ?_⟩
  obtain ⟨rfl, y⟩ := y
  have e := y vs (.of hc)
  rw [hv] at e
  cases e
  exact ⟨Ext.refl _, g, rv⟩
theorem jok_str {H1 : Hp} {O W : Addr → Prop} (z : Str) : JOk O T K W (Its z) H1 (signs z) := fun Hc kp g => by
  unfold signs
  refine ⟨fun i d hd => ?_, fun i hi => ?_⟩
  · rw [List.getElem?_map, Array.getElem?_toList] at hd
    obtain ⟨c, hc, rfl⟩ := Option.map_eq_some_iff.mp hd
    refine ⟨(Array.getElem?_eq_some_iff.mp hc).1, fun x H' y => ?_⟩
    obtain ⟨rfl, c', hc', rfl⟩ := y
    rw [hc] at hc'
    cases hc'
    exact ⟨Ext.refl _, g, .str _⟩
  · show z.cps.size ≤ i
    simpa using hi
/-- over a frozen list or tuple, a text -/
theorem di_seq (h : DE true T K X e t fa) (hk : X.K = K := by rfl) : DI k T K X tg e (iSeq K t) (f1L gItems fa) := by subst hk; exact ⟨pi_seq h.pe, fun W ρ σ H ds R g rp e' q => by
  obtain ⟨x, ea, e'⟩ := obind e'
  refine h.sd W ρ σ H x _ g rp ea fun v H1 e1 g1 r1 => ?_
  cases r1.wt with
  | lst h1 n1 ra => cases e'; exact .inl ⟨_, _, rfl, .of h1, q _ H1 e1 g1 (jok_list (rp.ext e1) h1 (fun _ z => n1 (.inr z)) ra)⟩
  | tup h1 ra => cases e'; exact .inr (.inl ⟨_, _, rfl, .of h1, q _ H1 e1 g1 (jok_tup (rp.ext e1) h1 ra)⟩)
  | str z => cases e'; exact .inr (.inr ⟨z, rfl, q _ H1 e1 g1 (jok_str z)⟩)
  | _ => cases e'⟩
/-- over a new list -/
theorem di_new {f : FnL} (h : DF T K X e t f) (hk : X.K = K := by rfl) : DI k T K X tg e (iSeq K t) f := by subst hk; exact ⟨pi_seq h.pe, fun W ρ σ H ds R g rp e' q => by
  refine h.sd W ρ σ H ds _ g rp e' fun p vs H1 e1 g1 hp hp1 r1 => ?_
  refine .inl ⟨_, _, rfl, .of hp1, q _ H1 e1 g1 (jok_list (rp.ext e1) hp1 (fun _ z => ?_) (r1.sub fun _ _ _ z => .inl z))⟩
  obtain ⟨xs, hx⟩ := rp.wd (.inr z)
  rw [hp] at hx
  cases hx⟩
/-- over an owned list that is let alone meanwhile (in a comprehension) -/
def fOwn (i : Nat) : FnL := fun ρ => match getS ρ i with | .ow ds => some ds | _ => none
theorem di_own {i : Nat} {x : Str} (hN : X.N[i]? = some x := by rfl) (hv : Vis X.env.scope x := by first | exact Or.inl rfl | exact Or.inr (Or.inl rfl) | exact Or.inr (Or.inr rfl)) (hd : (x == ("__debug__" : Str)) = false := by decide)
    (hcd : (x == ("__classdict__" : Str)) = false := by decide) (hk : X.K = K := by rfl) : DI false T K X tg (.Name x p) (iSeq K (tVar i)) (fOwn i) := by subst hk; exact ⟨pi_seq (pe_var hN hv hd hcd), fun W ρ σ H ds R g rp e' q => by
  unfold fOwn at e'
  cases h : getS ρ i with
  | un => rw [h] at e'; cases e'
  | im d => rw [h] at e'; cases e'
  | ow es =>
    rw [h] at e'
    cases e'
    obtain ⟨q', vs, h1, h2, h3, h4⟩ := rp.ow i ds h
    exact ⟨_, h1, .inl ⟨q', vs, rfl, .of h2, q _ H (Ext.refl H) g (jok_list rp h2 (fun z => Bool.noConfusion z) h4)⟩⟩⟩
/-! ### ranges -/
def rngD (lo hi : Int) : List Dt := (List.range (hi - lo).toNat).map fun i => .int (lo + (i : Nat))
noncomputable def okR (i : Int) : Bool := cdc (-(2 ^ 62) ≤ i ∧ i < 2 ^ 62)
noncomputable def gRng1 : List Dt → Option (List Dt)
  | [.int j] => if okR j = true then some (rngD 0 j) else none
  | _ => none
noncomputable def gRng2 : List Dt → Option (List Dt)
  | [.int i, .int j] => if okR i = true ∧ okR j = true then some (rngD i j) else none
  | _ => none
theorem jok_rng {H1 : Hp} {O W : Addr → Prop} (lo hi : Int) : JOk O T K W (Itr lo (hi - lo).toNat) H1 (rngD lo hi) := fun Hc kp g => by
  unfold rngD
  refine ⟨fun i d hd => ?_, fun i hi' => ?_⟩
  · rw [List.getElem?_map] at hd
    obtain ⟨j, hj, rfl⟩ := Option.map_eq_some_iff.mp hd
    obtain ⟨hj1, hj2⟩ := List.getElem?_eq_some_iff.mp hj
    rw [List.getElem_range] at hj2
    subst hj2
    rw [List.length_range] at hj1
    refine ⟨hj1, fun x H' y => ?_⟩
    obtain ⟨rfl, rfl⟩ := y
    exact ⟨Ext.refl _, g, .int _⟩
  · show (hi - lo).toNat ≤ i
    simpa using hi'
theorem di_range1 (ha : DA false T K X [a] tr fr) (hm : X.mg "range" = none) (hg : Gl X "range" := by rfl) (hs : starEach [a] X.env = [(false, eval a X.env)] := by rfl) : DI k T K X tg (.Call (.Name "range" p) [a] [] pos) (iRng1 tr) (fNL gRng1 fr) :=
  ⟨pi_range1 hg hm ha.pa hs, fun W ρ σ H ds R g rp e' q => by
  obtain ⟨xs, ea, e'⟩ := obind e'
  refine ha.sd W ρ σ H xs _ g rp ea fun vs H1 e1 g1 r1 => ?_
  match xs, e', r1 with
  | x0 :: _ :: _, e', _ => cases x0 <;> cases e'
  | [d], e', r1 =>
    obtain ⟨v, rfl, r2⟩ := repA1 r1
    cases r2 with
    | int j =>
      dsimp only [gRng1] at e'
      by_cases hz : okR j = true
      · rw [if_pos hz] at e'
        cases e'
        have hb := cdc_p hz
        refine ⟨j, rfl, hb.1, hb.2, q _ H1 e1 g1 ?_⟩
        have := jok_rng (T := T) (K := K) (H1 := H1) (O := fun a => k = true ∧ Own ρ σ a) (W := Wd W ρ σ) 0 j
        rw [Int.sub_zero] at this
        exact this
      · rw [if_neg hz] at e'; cases e'
    | _ => cases e'⟩
theorem di_range2 (ha : DA false T K X [a, b] tr fr) (hm : X.mg "range" = none) (hg : Gl X "range" := by rfl) (hs : starEach [a, b] X.env = [(false, eval a X.env), (false, eval b X.env)] := by rfl) (hs2 : starEach [b] X.env = [(false, eval b X.env)] := by rfl) :
    DI k T K X tg (.Call (.Name "range" p) [a, b] [] pos) (iRng2 tr) (fNL gRng2 fr) :=
  ⟨pi_range2 hg hm ha.pa hs hs2, fun W ρ σ H ds R g rp e' q => by
  obtain ⟨xs, ea, e'⟩ := obind e'
  refine ha.sd W ρ σ H xs _ g rp ea fun vs H1 e1 g1 r1 => ?_
  match xs, e', r1 with
  | [x0], e', _ => cases x0 <;> cases e'
  | x0 :: x1 :: _ :: _, e', _ => cases x0 <;> cases x1 <;> cases e'
  | [d, d'], e', r1 =>
    obtain ⟨v, v', rfl, r2, r3⟩ := repA2 r1
    cases r2 with
    | int i =>
      cases r3 with
      | int j =>
        dsimp only [gRng2] at e'
        by_cases hz : okR i = true ∧ okR j = true
        · rw [if_pos hz] at e'
          cases e'
          have hb := cdc_p hz.1
          have hb2 := cdc_p hz.2
          exact ⟨i, j, rfl, ⟨hb.1, hb.2, hb2.1, hb2.2⟩, q _ H1 e1 g1 (jok_rng i j)⟩
        · rw [if_neg hz] at e'; cases e'
      | _ => cases e'
    | _ => cases e'⟩
end
end EL
end

section
set_option Elab.async false
set_option maxRecDepth 100000
/-! EL targets, comprehensions. -/
namespace EL
open PySem PySem.Spec PyProof.Rows L2

theorem setσ_ne {σ : L2.St} {i j : Nat} {x : Option V} (h : j ≠ i) : (σ.set i x)[j]? = σ[j]? := by rw [List.getElem?_set_ne (Ne.symm h)]
section
variable {K : PySem.W.Frag} {H H' : Hp} {W : Addr → Prop} {ρ : Rho} {σ : L2.St}
/-- a slot is given a new content -/
theorem Own.set {i : Nat} {s : Sl} {x : Option V} (hs : ∀ ds, s ≠ .ow ds) {a : Addr} (h : Own (setS ρ i s) (σ.set i x) a) : Own ρ σ a := by
  obtain ⟨j, ds, h1, h2⟩ := h
  by_cases hj : j = i
  · subst hj
    have hl : j < ρ.length := by rw [← setS_length ρ j s]; exact getS_lt (by rw [h1]; exact fun z => Sl.noConfusion z)
    rw [getS_set_same hl] at h1
    exact absurd h1 (hs ds)
  · rw [getS_set_ne hj] at h1
    rw [setσ_ne hj] at h2
    exact ⟨j, ds, h1, h2⟩
theorem Wd.set {i : Nat} {s : Sl} {x : Option V} (hs : ∀ ds, s ≠ .ow ds) {a : Addr} (h : Wd W (setS ρ i s) (σ.set i x) a) : Wd W ρ σ a := by
  rcases h with h | h
  · exact .inl h
  · exact .inr (Own.set hs h)
theorem Rp.setIm {i : Nat} {v : V} {d : Dt} (r : Rp K H W ρ σ) (h : Rep K H (Wd W ρ σ) v d) : Rp K H W (setS ρ i (.im d)) (σ.set i (some v)) := by
  have hs : ∀ ds, Sl.im d ≠ .ow ds := fun _ z => Sl.noConfusion z
  have sub : ∀ a xs, H a = some (.lst xs) → Wd W (setS ρ i (.im d)) (σ.set i (some v)) a → Wd W ρ σ a := fun a xs _ z => Wd.set hs z
  refine ⟨by rw [setS_length, List.length_set]; exact r.len, fun j d' e => ?_, fun j ds e => ?_, fun j l dj dl a e1 e2 e3 e4 => ?_, r.wl⟩
  · by_cases hj : j = i
    · subst hj
      have hl : j < ρ.length := by rw [← setS_length ρ j (.im d)]; exact getS_lt (by rw [e]; exact fun z => Sl.noConfusion z)
      rw [getS_set_same hl] at e
      cases e
      exact ⟨v, by rw [List.getElem?_set_self (by rw [← r.len]; exact hl)], h.sub sub⟩
    · rw [getS_set_ne hj] at e
      obtain ⟨u, h1, h2⟩ := r.im j d' e
      exact ⟨u, by rw [setσ_ne hj]; exact h1, h2.sub sub⟩
  · by_cases hj : j = i
    · subst hj
      have hl : j < ρ.length := by rw [← setS_length ρ j (.im d)]; exact getS_lt (by rw [e]; exact fun z => Sl.noConfusion z)
      rw [getS_set_same hl] at e
      cases e
    · rw [getS_set_ne hj] at e
      obtain ⟨a, vs, h1, h2, h3, h4⟩ := r.ow j ds e
      exact ⟨a, vs, by rw [setσ_ne hj]; exact h1, h2, h3, h4.sub sub⟩
  · have ne : ∀ l dl, getS (setS ρ i (.im d)) l = .ow dl → l ≠ i := fun l dl e z => by
      subst z
      have hl : l < ρ.length := by rw [← setS_length ρ l (.im d)]; exact getS_lt (by rw [e]; exact fun z => Sl.noConfusion z)
      rw [getS_set_same hl] at e
      cases e
    have n1 := ne j dj e1
    have n2 := ne l dl e2
    rw [getS_set_ne n1] at e1
    rw [getS_set_ne n2] at e2
    rw [setσ_ne n1] at e3
    rw [setσ_ne n2] at e4
    exact r.inj j l dj dl a e1 e2 e3 e4
/-- a slot is forgotten -/
theorem Rp.setUn {i : Nat} {x : Option V} (r : Rp K H W ρ σ) : Rp K H W (setS ρ i .un) (σ.set i x) := by
  have hs : ∀ ds, Sl.un ≠ .ow ds := fun _ z => Sl.noConfusion z
  have sub : ∀ a xs, H a = some (.lst xs) → Wd W (setS ρ i .un) (σ.set i x) a → Wd W ρ σ a := fun a xs _ z => Wd.set hs z
  have ne : ∀ l, getS (setS ρ i .un) l ≠ .un → l ≠ i := fun l e z => by
    subst z
    have hl : l < ρ.length := by rw [← setS_length ρ l .un]; exact getS_lt e
    exact e (getS_set_same hl)
  refine ⟨by rw [setS_length, List.length_set]; exact r.len, fun j d' e => ?_, fun j ds e => ?_, fun j l dj dl a e1 e2 e3 e4 => ?_, r.wl⟩
  · have n := ne j (by rw [e]; exact fun z => Sl.noConfusion z)
    rw [getS_set_ne n] at e
    obtain ⟨u, h1, h2⟩ := r.im j d' e
    exact ⟨u, by rw [setσ_ne n]; exact h1, h2.sub sub⟩
  · have n := ne j (by rw [e]; exact fun z => Sl.noConfusion z)
    rw [getS_set_ne n] at e
    obtain ⟨a, vs, h1, h2, h3, h4⟩ := r.ow j ds e
    exact ⟨a, vs, by rw [setσ_ne n]; exact h1, h2, h3, h4.sub sub⟩
  · have n1 := ne j (by rw [e1]; exact fun z => Sl.noConfusion z)
    have n2 := ne l (by rw [e2]; exact fun z => Sl.noConfusion z)
    rw [getS_set_ne n1] at e1
    rw [getS_set_ne n2] at e2
    rw [setσ_ne n1] at e3
    rw [setσ_ne n2] at e4
    exact r.inj j l dj dl a e1 e2 e3 e4
/-- a slot takes a new list -/
theorem Rp.setOw {i : Nat} {p : Addr} {vs : List V} {ds : List Dt} (r : Rp K H W ρ σ) (e : Ext H H') (hp : H p = none) (hp' : H' p = some (.lst vs)) (ra : RepA K H' (fun a => Wd W ρ σ a ∨ a = p) vs ds) :
    Rp K H' W (setS ρ i (.ow ds)) (σ.set i (some (.ref p))) := by
  have sub0 : ∀ a, Wd W (setS ρ i (.ow ds)) (σ.set i (some (.ref p))) a → Wd W ρ σ a ∨ a = p := fun a z => by
    rcases z with z | ⟨j, es, h1, h2⟩
    · exact .inl (.inl z)
    · by_cases hj : j = i
      · subst hj
        have hl : j < ρ.length := by rw [← setS_length ρ j (.ow ds)]; exact getS_lt (by rw [h1]; exact fun z => Sl.noConfusion z)
        rw [List.getElem?_set_self (by rw [← r.len]; exact hl)] at h2
        cases h2
        exact .inr rfl
      · rw [getS_set_ne hj] at h1
        rw [setσ_ne hj] at h2
        exact .inl (.inr ⟨j, es, h1, h2⟩)
  have sub : ∀ a xs, H a = some (.lst xs) → Wd W (setS ρ i (.ow ds)) (σ.set i (some (.ref p))) a → Wd W ρ σ a := fun a xs ha z => by
    rcases sub0 a z with z | z
    · exact z
    · rw [z, hp] at ha; cases ha
  refine ⟨by rw [setS_length, List.length_set]; exact r.len, fun j d' e' => ?_, fun j es e' => ?_, fun j l dj dl a e1 e2 e3 e4 => ?_, fun a z => ?_⟩
  · by_cases hj : j = i
    · subst hj
      have hl : j < ρ.length := by rw [← setS_length ρ j (.ow ds)]; exact getS_lt (by rw [e']; exact fun z => Sl.noConfusion z)
      rw [getS_set_same hl] at e'
      cases e'
    · rw [getS_set_ne hj] at e'
      obtain ⟨u, h1, h2⟩ := r.im j d' e'
      exact ⟨u, by rw [setσ_ne hj]; exact h1, h2.keep e.kw sub⟩
  · by_cases hj : j = i
    · subst hj
      have hl : j < ρ.length := by rw [← setS_length ρ j (.ow ds)]; exact getS_lt (by rw [e']; exact fun z => Sl.noConfusion z)
      rw [getS_set_same hl] at e'
      cases e'
      refine ⟨p, vs, by rw [List.getElem?_set_self (by rw [← r.len]; exact hl)], hp', fun z => ?_, ?_⟩
      · obtain ⟨xs, hx⟩ := r.wl p z
        rw [hp] at hx; cases hx
      · exact ra.sub fun a _ _ z => sub0 a z
    · rw [getS_set_ne hj] at e'
      obtain ⟨a, us, h1, h2, h3, h4⟩ := r.ow j es e'
      exact ⟨a, us, by rw [setσ_ne hj]; exact h1, e.keep _ _ h2 rfl, h3, h4.keep e.kw sub⟩
  · have old : ∀ l dl, l ≠ i → getS (setS ρ i (.ow ds)) l = .ow dl → (σ.set i (some (V.ref p)))[l]? = some (some (.ref a)) → a ≠ p := fun l dl n e' q z => by
      rw [getS_set_ne n] at e'
      rw [setσ_ne n] at q
      obtain ⟨b, us, h1, h2, _⟩ := r.ow l dl e'
      rw [q] at h1
      cases h1
      rw [z, hp] at h2
      cases h2
    have at_ : ∀ l dl, l = i → getS (setS ρ i (.ow ds)) l = .ow dl → (σ.set i (some (V.ref p)))[l]? = some (some (.ref a)) → a = p := fun l dl n e' q => by
      subst n
      have hl : l < ρ.length := by rw [← setS_length ρ l (.ow ds)]; exact getS_lt (by rw [e']; exact fun z => Sl.noConfusion z)
      rw [List.getElem?_set_self (by rw [← r.len]; exact hl)] at q
      cases q
      rfl
    by_cases n1 : j = i
    · by_cases n2 : l = i
      · rw [n1, n2]
      · exact absurd (at_ j dj n1 e1 e3) (old l dl n2 e2 e4)
    · by_cases n2 : l = i
      · exact absurd (at_ l dl n2 e2 e4) (old j dj n1 e1 e3)
      · rw [getS_set_ne n1] at e1
        rw [getS_set_ne n2] at e2
        rw [setσ_ne n1] at e3
        rw [setσ_ne n2] at e4
        exact r.inj j l dj dl a e1 e2 e3 e4
  · obtain ⟨xs, hx⟩ := r.wl a z
    exact ⟨xs, e.keep _ _ hx rfl⟩
end
end EL
end

section
set_option Elab.async false
set_option maxRecDepth 100000
/-! EL targets, comprehensions. -/
namespace EL
open PySem PySem.Spec PyProof.Rows L2

/-! ### targets: names, tuples of targets -/
def SdG (T : List Addr) (K : PySem.W.Frag) (g : TG) (gf : Dt → Rho → Option Rho) (is : List Nat) : Prop :=
  ∀ (W : Addr → Prop) (ρ : Rho) (σ : L2.St) (H : Hp) (v : V) (d : Dt) (ρ' : Rho) (Q : L2.St → Hp → Prop), Gd T H → Rp K H W ρ σ → Rep K H (Wd W ρ σ) v d → gf d ρ = some ρ' →
    (∀ σ', Rp K H W ρ' σ' → (∀ j, j ∉ is → σ'[j]? = σ[j]?) → σ'.length = σ.length → (∀ a, Own ρ' σ' a → Own ρ σ a) → (∀ j, j ∉ is → getS ρ' j = getS ρ j) → Q σ' H) → g v σ H Q
def SdGs (T : List Addr) (K : PySem.W.Frag) (g : TGs) (gf : List Dt → Rho → Option Rho) (is : List Nat) : Prop :=
  ∀ (W : Addr → Prop) (ρ : Rho) (σ : L2.St) (H : Hp) (v : List V) (d : List Dt) (ρ' : Rho) (Q : L2.St → Hp → Prop), Gd T H → Rp K H W ρ σ → RepA K H (Wd W ρ σ) v d → gf d ρ = some ρ' →
    (∀ σ', Rp K H W ρ' σ' → (∀ j, j ∉ is → σ'[j]? = σ[j]?) → σ'.length = σ.length → (∀ a, Own ρ' σ' a → Own ρ σ a) → (∀ j, j ∉ is → getS ρ' j = getS ρ j) → Q σ' H) → g v σ H Q
structure DG (T : List Addr) (K : PySem.W.Frag) (X : Cx) (tg : Expr) (g : TG) (gf : Dt → Rho → Option Rho) (is : List Nat) : Prop where
  pg : PG X tg g
  sd : SdG T K g gf is
structure DGs (T : List Addr) (K : PySem.W.Frag) (X : Cx) (tg : List Expr) (g : TGs) (gf : List Dt → Rho → Option Rho) (is : List Nat) : Prop where
  pg : PGs X tg g
  sd : SdGs T K g gf is
def hName (i : Nat) : Dt → Rho → Option Rho := fun d ρ => some (setS ρ i (.im d))
def hNil : List Dt → Rho → Option Rho := fun ds ρ => match ds with | [] => some ρ | _ => none
def hCons (g : Dt → Rho → Option Rho) (gs : List Dt → Rho → Option Rho) : List Dt → Rho → Option Rho := fun ds ρ => match ds with | d :: r => (g d ρ).bind fun ρ' => gs r ρ' | [] => none
def hTup (n : Nat) (gs : List Dt → Rho → Option Rho) : Dt → Rho → Option Rho := fun d ρ => match d with | .tup ds => if ds.length = n then gs ds ρ else none | _ => none
section
variable {T : List Addr} {X : Cx} {K : PySem.W.Frag} {e : Expr} {es : List Expr} {pos : Pos} {g : TG} {gs : TGs} {gf : Dt → Rho → Option Rho} {gfs : List Dt → Rho → Option Rho} {is js : List Nat}
theorem dg_name (i : Nat) {x : Str} (hN : X.N.Nodup) (hi : X.N[i]? = some x := by rfl) (hx : Loc X.env.scope x := by first | exact Or.inl rfl | exact Or.inr rfl) (hf : X.fn x = true ∨ X.env.scope.names.lookup x = some .local := by first | exact .inl rfl | exact .inr rfl) :
    DG T K X (.Name x pos) (gName i) (hName i) [i] := ⟨pg_name hN hi hx hf, fun W ρ σ H v d ρ' Q _ rp r e q => by
  cases e
  refine q _ (rp.setIm r) (fun j hj => setσ_ne fun z => hj (by rw [z]; exact List.mem_singleton.mpr rfl)) (List.length_set ..) (fun a z => Own.set (fun _ y => Sl.noConfusion y) z) fun j hj => getS_set_ne fun z => hj (by rw [z]; exact List.mem_singleton.mpr rfl)⟩
theorem dgs_nil : DGs T K X [] gNil hNil [] := ⟨pgs_nil, fun W ρ σ H v d ρ' Q _ rp r e q => by
  cases r with
  | nil => cases e; exact ⟨rfl, q σ rp (fun _ _ => rfl) rfl (fun _ z => z) fun _ _ => rfl⟩
  | cons _ _ => cases e⟩
theorem dgs_cons (h : DG T K X e g gf is) (h2 : DGs T K X es gs gfs js) (hz : (assignEach (e :: es) X.env).map (·.2) = assign e X.env :: (assignEach es X.env).map (·.2) := by rfl) : DGs T K X (e :: es) (gCons g gs) (hCons gf gfs) (is ++ js) := ⟨pgs_cons h.pg h2.pg hz, fun W ρ σ H v d ρ' Q gd rp r e' q => by
  cases r with
  | nil => cases e'
  | @cons v1 d1 vs ds r1 r2 =>
    obtain ⟨ρ1, e1, e2⟩ := obind e'
    refine ⟨v1, vs, rfl, h.sd W ρ σ H v1 d1 ρ1 _ gd rp r1 e1 fun σ1 rp1 k1 l1 o1 u1 => ?_⟩
    refine h2.sd W ρ1 σ1 H vs ds ρ' Q gd rp1 (r2.sub fun a _ _ z => z.imp (fun z => z) (o1 a)) e2 fun σ2 rp2 k2 l2 o2 u2 => ?_
    refine q σ2 rp2 (fun j hj => ?_) (l2.trans l1) (fun a z => o1 a (o2 a z)) fun j hj => ?_
    · rw [List.mem_append, not_or] at hj
      exact (k2 j hj.2).trans (k1 j hj.1)
    · rw [List.mem_append, not_or] at hj
      exact (u2 j hj.2).trans (u1 j hj.1)⟩
theorem dg_tup {k n : Nat} (hc : X.calm = true) (h : DGs T K X es gs gfs is) (hn : (assignEach es X.env).length = n := by rfl) (hz : (assignEach es X.env).findIdx? (·.1) = none := by rfl) (hk : X.K = K := by rfl) : DG T K X (.Tuple es k pos) (gTup K n gs) (hTup n gfs) is := by subst hk; exact ⟨pg_tup hc h.pg hn hz, fun W ρ σ H v d ρ' Q gd rp r e' q => by
  cases r with
  | @tup a xs ds h1 ra =>
    dsimp only [hTup] at e'
    by_cases hl : ds.length = n
    · rw [if_pos hl] at e'
      exact ⟨a, xs, rfl, .of h1, by rw [ra.length]; exact hl, h.sd W ρ σ H xs ds ρ' Q gd rp ra e' q⟩
    · rw [if_neg hl] at e'; cases e'
  | _ => cases e'⟩
end

/-! ### comprehensions -/
def wipeR (ρ : Rho) : List Nat → Rho
  | [] => ρ
  | v :: vs => setS (wipeR ρ vs) v .un
def noOw (ρ : Rho) : List Nat → Bool
  | [] => true
  | v :: vs => (match getS ρ v with | .ow _ => false | _ => true) && noOw ρ vs
theorem noOw_at {ρ : Rho} : ∀ {vs : List Nat}, noOw ρ vs = true → ∀ v ∈ vs, ∀ ds, getS ρ v ≠ .ow ds
  | [], _, _, h, _, _ => by cases h
  | v :: vs, h, u, hu, ds, e => by
    have h2 := Bool.and_eq_true_iff.mp (show (_ && _) = true from h)
    rcases List.mem_cons.mp hu with rfl | hu
    · have := h2.1
      rw [e] at this
      cases this
    · exact noOw_at h2.2 u hu ds e
theorem getS_wipe {ρ : Rho} {i : Nat} : ∀ {vs : List Nat}, i ∉ vs → getS (wipeR ρ vs) i = getS ρ i
  | [], _ => rfl
  | v :: vs, h => by
    rw [List.mem_cons, not_or] at h
    show getS (setS (wipeR ρ vs) v .un) i = _
    rw [getS_set_ne h.1, getS_wipe h.2]
theorem wipeσ_ne {σ : L2.St} {i : Nat} : ∀ {vs : List Nat}, i ∉ vs → (wipe σ vs)[i]? = σ[i]?
  | [], _ => rfl
  | v :: vs, h => by
    rw [List.mem_cons, not_or] at h
    show ((wipe σ vs).set v none)[i]? = _
    rw [setσ_ne h.1, wipeσ_ne h.2]
theorem wipe_eq {σ σ' : L2.St} {vs : List Nat} (hl : σ'.length = σ.length) (h : ∀ j, j ∉ vs → σ'[j]? = σ[j]?) : wipe σ' vs = wipe σ vs := by
  apply List.ext_getElem?
  intro i
  by_cases hi : i ∈ vs
  · have key : ∀ (τ : L2.St) (us : List Nat), i ∈ us → (wipe τ us)[i]? = if i < τ.length then some none else none := fun τ us => by
      induction us with
      | nil => intro h; cases h
      | cons u us ih =>
        intro hu
        show ((wipe τ us).set u none)[i]? = _
        by_cases e : i = u
        · subst e
          rw [List.getElem?_set, if_pos rfl, wipe_length]
        · rw [setσ_ne e]
          rcases List.mem_cons.mp hu with z | z
          · exact absurd z e
          · exact ih z
    rw [key σ' vs hi, key σ vs hi, hl]
  · rw [wipeσ_ne hi, wipeσ_ne hi, h i hi]
theorem wipe_wipe {σ : L2.St} {vs : List Nat} : wipe (wipe σ vs) vs = wipe σ vs := wipe_eq (wipe_length σ vs) fun j hj => wipeσ_ne hj
section
variable {K : PySem.W.Frag} {H H' : Hp} {W : Addr → Prop} {ρ : Rho} {σ : L2.St}
theorem Rp.wipe (r : Rp K H W ρ σ) : ∀ vs : List Nat, Rp K H W (wipeR ρ vs) (L2.wipe σ vs)
  | [] => r
  | v :: vs => (Rp.wipe r vs).setUn
theorem Own.wipe {vs : List Nat} (hn : noOw ρ vs = true) {a : Addr} : Own ρ σ a ↔ Own (wipeR ρ vs) (L2.wipe σ vs) a := by
  constructor
  · rintro ⟨i, ds, h1, h2⟩
    have hi : i ∉ vs := fun z => noOw_at hn i z ds h1
    exact ⟨i, ds, by rw [getS_wipe hi]; exact h1, by rw [wipeσ_ne hi]; exact h2⟩
  · rintro ⟨i, ds, h1, h2⟩
    have hi : i ∉ vs := fun z => by
      have key : ∀ us : List Nat, i ∈ us → getS (wipeR ρ us) i = .un := fun us => by
        induction us with
        | nil => intro h; cases h
        | cons u us ih =>
          intro hu
          show getS (setS (wipeR ρ us) u .un) i = _
          by_cases e : i = u
          · subst e
            by_cases hl : i < (wipeR ρ us).length
            · exact getS_set_same hl
            · exact getS_out (by rw [setS_length]; omega)
          · rw [getS_set_ne e]
            rcases List.mem_cons.mp hu with z | z
            · exact absurd z e
            · exact ih z
      rw [key vs z] at h1
      cases h1
    exact ⟨i, ds, by rw [getS_wipe hi] at h1; exact h1, by rw [wipeσ_ne hi] at h2; exact h2⟩
end
def compGo (ρ : Rho) (gf : Dt → Rho → Option Rho) (ft : FnB) (fe : Fn) : List Dt → Option (List Dt)
  | [] => some []
  | d :: ds => (gf d ρ).bind fun ρ' => (ft ρ').bind fun b => if b = true then (fe ρ').bind fun y => (compGo ρ gf ft fe ds).bind fun r => some (y :: r) else compGo ρ gf ft fe ds
def fComp (fi : FnL) (gf : Dt → Rho → Option Rho) (ft : FnB) (fe : Fn) (vs : List Nat) : FnL := fun ρ => (fi ρ).bind fun ds => if noOw ρ vs = true ∧ ds.length ≤ sizeLine then compGo (wipeR ρ vs) gf ft fe ds else none
def fYes : FnB := fun _ => some true
theorem sd_lc {k : Bool} {T : List Addr} {K : PySem.W.Frag} {wi : TI} {g : TG} {tt : TT} {te : TE} {fi : FnL} {gf : Dt → Rho → Option Rho} {is vs : List Nat} {ft : FnB} {fe : Fn} (hi : SdI k T K wi fi) (hg : SdG T K g gf is) (ht : SdT T K tt ft) (he : Sd true T K te fe) (hs : ∀ i ∈ is, i ∈ vs) :
    SdF T K (tLc wi g tt te vs) (fComp fi gf ft fe vs) := fun W ρ σ H ds Q gd rp e q => by
  obtain ⟨src, ei, e⟩ := obind e
  by_cases hz : noOw ρ vs = true ∧ src.length ≤ sizeLine
  · rw [if_pos hz] at e
    obtain ⟨hn, hlen⟩ := hz
    refine hi W ρ σ H src _ gd rp ei fun J H1 e1 g1 jok D hD => ?_
    have rp1 := rp.ext e1
    have rpD : Rp K (upd H1 D (.lst [])) (fun a => W a ∨ a = D) (wipeR ρ vs) (L2.wipe σ vs) := (rp1.addW (zs := []) hD).wipe vs
    have gD : Gd T (upd H1 D (.lst [])) := g1.newL hD (Nat.zero_le _)
    have eD : Ext H1 (upd H1 D (.lst [])) := Ext.new hD
    -- W and D and the owned ones
    have wd : ∀ {ρ' : Rho} {σ' : L2.St}, (∀ a, Own ρ' σ' a → Own (wipeR ρ vs) (L2.wipe σ vs) a) → (∀ a, Own (wipeR ρ vs) (L2.wipe σ vs) a → Own ρ' σ' a) → ∀ a, Wd (fun a => W a ∨ a = D) ρ' σ' a ↔ (Wd W ρ σ a ∨ a = D) := fun o1 o2 a => by
      constructor
      · rintro ((z | z) | z)
        · exact .inl (.inl z)
        · exact .inr z
        · exact .inl (.inr ((Own.wipe hn).mpr (o1 a z)))
      · rintro ((z | z) | z)
        · exact .inl (.inl z)
        · exact .inr (o2 a ((Own.wipe hn).mp z))
        · exact .inl (.inr z)
    refine ⟨fun i m Hc => m = src.length - i ∧ i ≤ src.length ∧ Ext (upd H1 D (.lst [])) (upd Hc D (.lst [])) ∧ Gd T Hc ∧ ∃ acc out rest, Hc D = some (.lst acc) ∧ acc.length ≤ i ∧ RepA K Hc (fun a => Wd W ρ σ a ∨ a = D) acc out ∧ compGo (wipeR ρ vs) gf ft fe (src.drop i) = some rest ∧ out ++ rest = ds,
      ⟨src.length, rfl, Nat.zero_le _, by rw [upd_upd]; exact Ext.refl _, gD, [], [], ds, upd_same, Nat.le_refl _, .nil, e, rfl⟩, fun i m Hc hW => ?_⟩
    obtain ⟨rfl, hile, ex, gc, acc, out, rest, hDc, hacc, racc, ego, eds⟩ := hW
    -- from H1 to Hc
    have e1c : Ext H1 Hc := ⟨fun b o h n => by
      have hb : b ≠ D := ne_of_none h hD
      have := ex.keep b o (by rw [upd_ne hb]; exact h) n
      rw [upd_ne hb] at this
      exact this, fun b h => by
      by_cases hb : b = D
      · rw [hb]; exact hD
      · have := ex.there b (by rw [upd_ne hb]; exact h)
        rw [upd_ne hb] at this
        exact this⟩
    obtain ⟨jgo, jstop⟩ := jok Hc e1c.kp gc
    have rpc : Rp K Hc (fun a => W a ∨ a = D) (wipeR ρ vs) (L2.wipe σ vs) := by
      have base : Rp K (upd Hc D (.lst [])) (fun a => W a ∨ a = D) (wipeR ρ vs) (L2.wipe σ vs) := rpD.ext ex
      have kw : KeepW (Wd (fun a => W a ∨ a = D) (wipeR ρ vs) (L2.wipe σ vs)) (upd Hc D (.lst [])) Hc := by
        have := KeepW.set (o := .lst acc) (H := upd Hc D (.lst [])) (W := Wd (fun a => W a ∨ a = D) (wipeR ρ vs) (L2.wipe σ vs)) upd_same (.inl (.inr rfl))
        rw [upd_upd] at this
        have e2 : upd Hc D (.lst acc) = Hc := by
          funext b
          by_cases hb : b = D
          · rw [hb, upd_same, hDc]
          · rw [upd_ne hb]
        rw [e2] at this
        exact this
      refine ⟨base.len, fun j d h => ?_, fun j es h => ?_, base.inj, fun a z => ?_⟩
      · obtain ⟨v, h1, h2⟩ := base.im j d h
        exact ⟨v, h1, h2.keep kw fun _ _ _ z => z⟩
      · obtain ⟨b, us, h1, h2, h3, h4⟩ := base.ow j es h
        have hb : b ≠ D := fun z => h3 (.inr z)
        rw [upd_ne hb] at h2
        exact ⟨b, us, h1, h2, h3, h4.keep kw fun _ _ _ z => z⟩
      · by_cases hb : a = D
        · exact ⟨acc, by rw [hb]; exact hDc⟩
        · obtain ⟨xs, hx⟩ := base.wl a z
          rw [upd_ne hb] at hx
          exact ⟨xs, hx⟩
    by_cases hlt : i < src.length
    · obtain ⟨d, hd⟩ : ∃ d, src[i]? = some d := ⟨src[i], List.getElem?_eq_getElem hlt⟩
      obtain ⟨go, yl⟩ := jgo i d hd
      have edrop : src.drop i = d :: src.drop (i + 1) := by
        rw [List.drop_eq_getElem_cons hlt]
        rw [List.getElem?_eq_getElem hlt] at hd
        cases hd
        rfl
      rw [edrop] at ego
      obtain ⟨ρ2, eg, ego⟩ := obind ego
      obtain ⟨b, et, ego⟩ := obind ego
      refine .inr ⟨go, fun Hn => Ext (upd H1 D (.lst [])) (upd Hn D (.lst [])) ∧ Gd T Hn ∧ ∃ acc out rest, Hn D = some (.lst acc) ∧ acc.length ≤ i + 1 ∧ RepA K Hn (fun a => Wd W ρ σ a ∨ a = D) acc out ∧ compGo (wipeR ρ vs) gf ft fe (src.drop (i + 1)) = some rest ∧ out ++ rest = ds,
        fun Hn hN => ⟨src.length - (i + 1), by omega, rfl, hlt, hN⟩, fun x H' y => ?_⟩
      obtain ⟨e2, g2, rx⟩ := yl x H' y
      have grow : ∀ {Hn : Hp}, Ext Hc Hn → Ext (upd H1 D (.lst [])) (upd Hn D (.lst [])) := fun {Hn} en => ⟨fun b o h n => by
        by_cases hb : b = D
        · rw [hb, upd_same] at h ⊢
          exact h
        · have h3 := ex.keep b o h n
          rw [upd_ne hb] at h3 ⊢
          exact en.keep b o h3 n, fun b h => by
        by_cases hb : b = D
        · rw [hb, upd_same] at h; cases h
        · rw [upd_ne hb] at h ⊢
          have h3 := ex.there b (by rw [upd_ne hb]; exact en.there b h)
          rw [upd_ne hb] at h3
          exact h3⟩
      have rp2 := rpc.ext e2
      have rx' : Rep K H' (Wd (fun a => W a ∨ a = D) (wipeR ρ vs) (L2.wipe σ vs)) x d := rx.sub fun a xs h z => by
        rcases (wd (fun _ z => z) (fun _ z => z) a).mp z with z | z
        · exact .inl z
        · exact .inr (by rw [z]; exact hD)
      refine hg _ (wipeR ρ vs) (L2.wipe σ vs) H' x d ρ2 _ g2 rp2 rx' eg fun σ2 rp3 k3 l3 o3 u3 => ?_
      have hnis : ∀ j, j ∉ vs → j ∉ is := fun j hj z => hj (hs j z)
      refine ⟨?_, ?_⟩
      · rw [wipe_eq l3 fun j hj => k3 j (hnis j hj), wipe_wipe]
      have o4 : ∀ a, Own (wipeR ρ vs) (L2.wipe σ vs) a → Own ρ2 σ2 a := fun a z => by
        obtain ⟨j, es, h1, h2⟩ := z
        obtain ⟨j0, es0, h10, h20⟩ := (Own.wipe hn).mpr ⟨j, es, h1, h2⟩
        have hj0 : j0 ∉ vs := fun z => noOw_at hn j0 z es0 h10
        exact ⟨j0, es0, by rw [u3 j0 (hnis j0 hj0), getS_wipe hj0]; exact h10, by rw [k3 j0 (hnis j0 hj0), wipeσ_ne hj0]; exact h20⟩
      refine ht _ ρ2 σ2 H' b _ g2 rp3 et fun H3 e3 g3 => ?_
      cases b with
      | true =>
        rw [if_pos rfl] at ego ⊢
        obtain ⟨y', ey, ego⟩ := obind ego
        obtain ⟨r', er, ego⟩ := obind ego
        cases ego
        refine he _ ρ2 σ2 H3 y' _ g3 (rp3.ext e3) ey fun v4 H4 e4 g4 r4 => ?_
        have ec4 : Ext Hc H4 := (e2.trans e3).trans e4
        have hD4 : H4 D = some (.lst acc) := ec4.keep D _ hDc rfl
        have hal : acc.length < sizeLine := by omega
        have r4' : Rep K H4 (fun a => Wd W ρ σ a ∨ a = D) v4 y' := r4.wt.sub fun a _ _ z => (wd o3 o4 a).mpr z
        have kw : KeepW (fun a => Wd W ρ σ a ∨ a = D) H4 (upd H4 D (.lst (acc ++ [v4]))) := KeepW.set hD4 (.inr rfl)
        refine ⟨acc, hD4, hal, by rw [upd_upd]; exact grow ec4, g4.setL hD4 (by rw [List.length_append, List.length_singleton]; omega), acc ++ [v4], out ++ [y'], r', upd_same, by rw [List.length_append, List.length_singleton]; omega, ?_, er, by rw [List.append_assoc]; exact eds⟩
        exact ((racc.ext ec4).keep kw fun _ _ _ z => z).append (.one (r4'.keep kw fun _ _ _ z => z))
      | false =>
        rw [if_neg Bool.false_ne_true] at ego ⊢
        have ec3 : Ext Hc H3 := e2.trans e3
        exact ⟨grow ec3, g3, acc, out, rest, ec3.keep D _ hDc rfl, by omega, racc.ext ec3, ego, eds⟩
    · have hi' : i = src.length := by omega
      subst hi'
      refine .inl ⟨jstop _ (Nat.le_refl _), ?_⟩
      rw [List.drop_length] at ego
      cases ego
      rw [List.append_nil] at eds
      subst eds
      exact q D acc Hc (e1.trans e1c) gc (e1.there D hD) hDc racc
  · rw [if_neg hz] at e; cases e
/-- [elt for tg in iter if ..] -/
theorem df_lc {T : List Addr} {K : PySem.W.Frag} {X : Cx} {elt tg iter : Expr} {ifs : List Expr} {scope : Scope} {own : List (Str × Nat)} {pos : Pos} {wi : TI} {g : TG} {tt : TT} {te : TE} {fi : FnL} {gf : Dt → Rho → Option Rho} {is : List Nat} {ft : FnB} {fe : Fn} (hc : X.calm = true) (hN : X.N.Nodup) (hi : DI false T K X tg iter wi fi) (ok : blkC X.N X.env.scope scope own = true)
    (hg : ∀ (s : Shared) (H : Hp) (C : Addr) (cl : List (Str × Addr)) (fp : List Addr), DG T K (X.blk s H scope (compEnvC scope cl C X.env) fp) tg g gf is)
    (ht : ∀ (s : Shared) (H : Hp) (C : Addr) (cl : List (Str × Addr)) (fp : List Addr), PTs (X.blk s H scope (compEnvC scope cl C X.env) fp) ifs tt ∧ SdT T K tt ft)
    (he : ∀ (s : Shared) (H : Hp) (C : Addr) (cl : List (Str × Addr)) (fp : List Addr), DE true T K (X.blk s H scope (compEnvC scope cl C X.env) fp) elt te fe)
    (hs : is.all (fun i => (own.map (·.2)).contains i) = true := by rfl) (hfs : ∀ x, foldedSetIterable iter X.env x = pure x := by intro _; rfl) :
    DF T K X (.ListComp elt [⟨tg, iter, ifs, 0⟩] scope pos) (tLc wi g tt te (own.map (·.2))) (fComp fi gf ft fe (own.map (·.2))) :=
  ⟨pe_lc hc hN hi.pi (blkOk_by ok) (fun s H C cl fp => (hg s H C cl fp).pg) (fun s H C cl fp => (ht s H C cl fp).1) (fun s H C cl fp => (he s H C cl fp).pe) hfs,
   sd_lc hi.sd (hg { } (fun _ => none) 0 [] []).sd (ht { } (fun _ => none) 0 [] []).2 (he { } (fun _ => none) 0 [] []).sd fun i hi => by
    have := List.all_eq_true.mp hs i hi
    simpa using this⟩
theorem dts_nil {T : List Addr} {K : PySem.W.Frag} {X : Cx} : PTs X [] tYes ∧ SdT T K tYes fYes := ⟨pts_nil, fun W ρ σ H b Q g r e q => by cases e; exact q H (Ext.refl H) g⟩
theorem dts_one {T : List Addr} {K : PySem.W.Frag} {X : Cx} {c : Expr} {t : TT} {f : FnB} (h : DT T K X c t f) : PTs X [c] t ∧ SdT T K t f := ⟨pts_one h.pt, h.sd⟩
end EL
end

section
set_option Elab.async false
set_option maxRecDepth 100000
/-! EL statements. -/
namespace EL
open PySem PySem.Spec PyProof.Rows L2

/-- how a statement ends -/
inductive Fl where
  | nx (ρ : Rho) | rt (d : Dt) | bk (ρ : Rho) | ct (ρ : Rho)
abbrev FnS := Rho → Option Fl
/-- behind a statement -/
structure Aft (T : List Addr) (K : PySem.W.Frag) (W : Addr → Prop) (as : List Nat) (ρ : Rho) (σ : L2.St) (H : Hp) (ρ' : Rho) (σ' : L2.St) (H' : Hp) : Prop where
  rp : Rp K H' W ρ' σ'
  gd : Gd T H'
  kp : Kp (Own ρ σ) H H'
  ow : ∀ a, Own ρ' σ' a → Own ρ σ a ∨ H a = none
  st : ∀ j, j ∉ as → σ'[j]? = σ[j]?
def Post (T : List Addr) (K : PySem.W.Frag) (W : Addr → Prop) (as : List Nat) (ρ : Rho) (σ : L2.St) (H : Hp) (D : Ends) : Fl → Prop
  | .nx ρ' => ∀ σ' H', Aft T K W as ρ σ H ρ' σ' H' → D.nx σ' H'
  | .bk ρ' => ∀ σ' H', Aft T K W as ρ σ H ρ' σ' H' → D.bk σ' H'
  | .ct ρ' => ∀ σ' H', Aft T K W as ρ σ H ρ' σ' H' → D.ct σ' H'
  | .rt d => ∀ v H', Kp (Own ρ σ) H H' → Gd T H' → Rep K H' W v d → D.rt v H'
def SdS (T : List Addr) (K : PySem.W.Frag) (t : TS) (F : FnS) (as : List Nat) : Prop :=
  ∀ (W : Addr → Prop) (ρ : Rho) (σ : L2.St) (H : Hp) (fl : Fl) (D : Ends), Gd T H → Rp K H W ρ σ → F ρ = some fl → Post T K W as ρ σ H D fl → t D σ H
structure DS (T : List Addr) (K : PySem.W.Frag) (X : Cx) (st : Stmt) (t : TS) (F : FnS) (as : List Nat) : Prop where
  ps : PS X st t
  sd : SdS T K t F as
structure DSs (T : List Addr) (K : PySem.W.Frag) (X : Cx) (st : List Stmt) (t : TS) (F : FnS) (as : List Nat) : Prop where
  ps : PSs X st t
  sd : SdS T K t F as

section
variable {T : List Addr} {K : PySem.W.Frag} {W : Addr → Prop} {as bs : List Nat} {ρ ρ1 ρ2 : Rho} {σ σ1 σ2 : L2.St} {H H1 H2 : Hp}
theorem Aft.trans (x : Aft T K W as ρ σ H ρ1 σ1 H1) (y : Aft T K W bs ρ1 σ1 H1 ρ2 σ2 H2) : Aft T K W (as ++ bs) ρ σ H ρ2 σ2 H2 where
  rp := y.rp
  gd := y.gd
  kp := x.kp.trans y.kp x.ow
  ow := fun a z => by
    rcases y.ow a z with z | z
    · exact x.ow a z
    · exact .inr (x.kp.there a z)
  st := fun j hj => by
    rw [List.mem_append, not_or] at hj
    exact (y.st j hj.2).trans (x.st j hj.1)
theorem Aft.sub (x : Aft T K W as ρ σ H ρ1 σ1 H1) (h : ∀ j ∈ as, j ∈ bs) : Aft T K W bs ρ σ H ρ1 σ1 H1 := ⟨x.rp, x.gd, x.kp, x.ow, fun j hj => x.st j fun z => hj (h j z)⟩
theorem Aft.refl (g : Gd T H) (rp : Rp K H W ρ σ) : Aft T K W [] ρ σ H ρ σ H := ⟨rp, g, Kp.refl _ _, fun _ z => .inl z, fun _ _ => rfl⟩
theorem Aft.ext (e : Ext H H1) (g : Gd T H1) (rp : Rp K H W ρ σ) : Aft T K W [] ρ σ H ρ σ H1 := ⟨rp.ext e, g, e.kp, fun _ z => .inl z, fun _ _ => rfl⟩
theorem Post.pre {D : Ends} {fl : Fl} (x : Aft T K W as ρ σ H ρ1 σ1 H1) (h : Post T K W (as ++ bs) ρ σ H D fl) : Post T K W bs ρ1 σ1 H1 D fl := by
  cases fl with
  | nx ρ' => exact fun σ' H' y => h σ' H' (x.trans y)
  | bk ρ' => exact fun σ' H' y => h σ' H' (x.trans y)
  | ct ρ' => exact fun σ' H' y => h σ' H' (x.trans y)
  | rt d => exact fun v H' k g r => h v H' (x.kp.trans k x.ow) g r
theorem Post.sub {D : Ends} {fl : Fl} (h : Post T K W bs ρ σ H D fl) (hs : ∀ j ∈ as, j ∈ bs) : Post T K W as ρ σ H D fl := by
  cases fl with
  | nx ρ' => exact fun σ' H' y => h σ' H' (y.sub hs)
  | bk ρ' => exact fun σ' H' y => h σ' H' (y.sub hs)
  | ct ρ' => exact fun σ' H' y => h σ' H' (y.sub hs)
  | rt d => exact h
end

def sNil : FnS := fun ρ => some (.nx ρ)
def sSeq (F G : FnS) : FnS := fun ρ => (F ρ).bind fun fl => match fl with | .nx ρ' => G ρ' | .rt d => some (.rt d) | .bk ρ' => some (.bk ρ') | .ct ρ' => some (.ct ρ')
def sRet (f : Fn) : FnS := fun ρ => (f ρ).bind fun d => some (.rt d)
def sExpr (f : Fn) : FnS := fun ρ => (f ρ).bind fun _ => some (.nx ρ)
def sSet (i : Nat) (f : Fn) : FnS := fun ρ => (f ρ).bind fun d => some (.nx (setS ρ i (.im d)))
def sSetF (i : Nat) (f : FnL) : FnS := fun ρ => (f ρ).bind fun ds => some (.nx (setS ρ i (.ow ds)))
def sAsg (f : Fn) (gf : Dt → Rho → Option Rho) : FnS := fun ρ => (f ρ).bind fun d => (gf d ρ).bind fun ρ' => some (.nx ρ')
def sIf (c : FnB) (F G : FnS) : FnS := fun ρ => (c ρ).bind fun k => if k = true then F ρ else G ρ

section
variable {m k : Bool} {T : List Addr} {X : Cx} {K : PySem.W.Frag} {a b c e tg : Expr} {es : List Expr} {st : Stmt} {sts rest body : List Stmt} {ta tb tc t : TE} {tr : TA} {u v : TS} {f fa fb : Fn} {fr fl : FnL} {F G : FnS} {as bs is : List Nat} {pos p : Pos}
theorem dss_nil : DSs T K X [] tNext sNil [] := ⟨pss_nil, fun W ρ σ H fl D g r e q => by cases e; exact q σ H (Aft.refl g r)⟩
theorem sd_seq (h1 : SdS T K u F as) (h2 : SdS T K v G bs) : SdS T K (tSeq u v) (sSeq F G) (as ++ bs) := fun W ρ σ H fl D g r e q => by
  obtain ⟨f1, e1, e2⟩ := obind e
  refine h1 W ρ σ H f1 _ g r e1 ?_
  cases f1 with
  | nx ρ1 => exact fun σ1 H1 x => h2 W ρ1 σ1 H1 fl D x.gd x.rp e2 (q.pre x)
  | bk ρ1 => cases e2; exact fun σ1 H1 x => q σ1 H1 (x.sub fun j h => List.mem_append_left _ h)
  | ct ρ1 => cases e2; exact fun σ1 H1 x => q σ1 H1 (x.sub fun j h => List.mem_append_left _ h)
  | rt d => cases e2; exact q
theorem dss_cons (h1 : DS T K X st u F as) (h2 : DSs T K X rest v G bs) : DSs T K X (st :: rest) (tSeq u v) (sSeq F G) (as ++ bs) := ⟨pss_cons h1.ps h2.ps, sd_seq h1.sd h2.sd⟩
theorem dss_one (h1 : DS T K X st u F as) : DSs T K X [st] u F as := ⟨pss_one h1.ps, h1.sd⟩
/-- slots are forgotten, lists that are owned are owned no longer, behind a statement -/

theorem ds_pass : DS T K X (.Pass pos) tNext sNil [] := ⟨ps_pass, fun W ρ σ H fl D g r e q => by cases e; exact q σ H (Aft.refl g r)⟩
theorem ds_break : DS T K X (.Break pos) tBreak (fun ρ => some (.bk ρ)) [] := ⟨ps_break, fun W ρ σ H fl D g r e q => by cases e; exact q σ H (Aft.refl g r)⟩
theorem ds_continue : DS T K X (.Continue pos) tCont (fun ρ => some (.ct ρ)) [] := ⟨ps_continue, fun W ρ σ H fl D g r e q => by cases e; exact q σ H (Aft.refl g r)⟩
theorem ds_never : DS T K X st tNever (fun _ => none) [] := ⟨ps_never, fun W ρ σ H fl D g r e q => by cases e⟩
theorem dss_never : DSs T K X sts tNever (fun _ => none) [] := ⟨pss_never, fun W ρ σ H fl D g r e q => by cases e⟩
theorem ds_ret (h : DE true T K X e t f) : DS T K X (.Return (some e) pos) (tRet t) (sRet f) [] := ⟨ps_ret h.pe, fun W ρ σ H fl D g r e q => by
  obtain ⟨d, ed, e⟩ := obind e
  cases e
  exact h.sd W ρ σ H d _ g r ed fun v H' e1 g1 r1 => q v H' e1.kp g1 (r1.wt.sub fun _ _ _ z => .inl z)⟩
theorem ds_retN : DS T K X (.Return none pos) tRetN (fun _ => some (.rt .non)) [] := ⟨ps_retN, fun W ρ σ H fl D g r e q => by
  cases e
  exact q .non H (Kp.refl _ _) g .non⟩
theorem ds_expr (h : DE m T K X e t f) (hs : swapsWith e none pos.line X.env = pure false := by rfl) : DS T K X (.Expr e pos) (tDrop t) (sExpr f) [] := ⟨ps_expr h.pe hs, fun W ρ σ H fl D g r e q => by
  obtain ⟨d, ed, e⟩ := obind e
  cases e
  exact h.sd W ρ σ H d _ g r ed fun v H' e1 g1 _ => q σ H' (Aft.ext e1 g1 r)⟩
theorem sd_set {i : Nat} (h : Sd true T K t f) : SdS T K (tAsg t (gName i)) (sSet i f) [i] := fun W ρ σ H fl D g r e q => by
  obtain ⟨d, ed, e⟩ := obind e
  cases e
  refine h W ρ σ H d _ g r ed fun v H' e1 g1 r1 => q _ H' ⟨(r.ext e1).setIm r1.wt, g1, e1.kp, fun a z => .inl (Own.set (fun _ y => Sl.noConfusion y) z), fun j hj => setσ_ne fun z => hj (by rw [z]; exact List.mem_singleton.mpr rfl)⟩
theorem Own.setOw {i : Nat} {ds : List Dt} {p : Addr} {ρ : Rho} {σ : L2.St} (hl : ρ.length = σ.length) {a : Addr} (z : Own (setS ρ i (.ow ds)) (σ.set i (some (.ref p))) a) : Own ρ σ a ∨ a = p := by
  obtain ⟨j, es, h1, h2⟩ := z
  by_cases hj : j = i
  · subst hj
    have hlt : j < ρ.length := by rw [← setS_length ρ j (.ow ds)]; exact getS_lt (by rw [h1]; exact fun z => Sl.noConfusion z)
    rw [List.getElem?_set_self (by rw [← hl]; exact hlt)] at h2
    cases h2
    exact .inr rfl
  · rw [getS_set_ne hj] at h1
    rw [setσ_ne hj] at h2
    exact .inl ⟨j, es, h1, h2⟩
theorem sd_setF {i : Nat} (h : SdF T K t fl) : SdS T K (tAsg t (gName i)) (sSetF i fl) [i] := fun W ρ σ H fl' D g r e q => by
  obtain ⟨ds, ed, e⟩ := obind e
  cases e
  refine h W ρ σ H ds _ g r ed fun p vs H' e1 g1 hp hp1 r1 => q _ H' ⟨r.setOw e1 hp hp1 r1, g1, e1.kp, fun a z => ?_, fun j hj => setσ_ne fun z => hj (by rw [z]; exact List.mem_singleton.mpr rfl)⟩
  rcases Own.setOw r.len z with z | z
  · exact .inl z
  · exact .inr (by rw [z]; exact hp)
theorem ds_set {i : Nat} {x : Str} {p' : Pos} (hN : X.N.Nodup) (h : DE true T K X e t f) (hi : X.N[i]? = some x := by rfl) (hx : Loc X.env.scope x := by first | exact Or.inl rfl | exact Or.inr rfl) (hs : swapsWith e (some (.Name x p')) pos.line X.env = pure false := by rfl) (hf : X.fn x = true ∨ X.env.scope.names.lookup x = some .local := by first | exact .inl rfl | exact .inr rfl) :
    DS T K X (.Assign [.Name x p'] e pos) (tAsg t (gName i)) (sSet i f) [i] := ⟨ps_set hN hi hx h.pe hs hf, sd_set h.sd⟩
theorem ds_setF {i : Nat} {x : Str} {p' : Pos} (hN : X.N.Nodup) (h : DF T K X e t fl) (hi : X.N[i]? = some x := by rfl) (hx : Loc X.env.scope x := by first | exact Or.inl rfl | exact Or.inr rfl) (hs : swapsWith e (some (.Name x p')) pos.line X.env = pure false := by rfl) (hf : X.fn x = true ∨ X.env.scope.names.lookup x = some .local := by first | exact .inl rfl | exact .inr rfl) :
    DS T K X (.Assign [.Name x p'] e pos) (tAsg t (gName i)) (sSetF i fl) [i] := ⟨ps_set hN hi hx h.pe hs hf, sd_setF h.sd⟩
/-- y = [elt for ..]: y a plain local, on one line -/
theorem ds_setLc {i : Nat} {y : Str} {py : Pos} {elt iter : Expr} {ifs : List Expr} {scope : Scope} {own : List (Str × Nat)} {spos : Pos} {wi : TI} {g : TG} {tt : TT} {te : TE} {fi : FnL} {gf : Dt → Rho → Option Rho} {ft : FnB} {fe : Fn} (hc : X.calm = true) (hN : X.N.Nodup) (hi : DI false T K X tg iter wi fi) (ok : blkC X.N X.env.scope scope own = true)
    (hg : ∀ (s : Shared) (H : Hp) (C : Addr) (cl : List (Str × Addr)) (fp : List Addr), DG T K (X.blk s H scope (compEnvC scope cl C X.env) fp) tg g gf is)
    (ht : ∀ (s : Shared) (H : Hp) (C : Addr) (cl : List (Str × Addr)) (fp : List Addr), PTs (X.blk s H scope (compEnvC scope cl C X.env) fp) ifs tt ∧ SdT T K tt ft)
    (he : ∀ (s : Shared) (H : Hp) (C : Addr) (cl : List (Str × Addr)) (fp : List Addr), DE true T K (X.blk s H scope (compEnvC scope cl C X.env) fp) elt te fe)
    (hy : X.N[i]? = some y := by rfl) (hyl : X.env.scope.names.lookup y = some .local := by rfl)
    (hsw : swapsWith (.ListComp elt [⟨tg, iter, ifs, 0⟩] scope pos) (some (.Name y py)) spos.line X.env = pure true := by exact sw_true rfl rfl rfl (by decide +kernel))
    (hs : is.all (fun i => (own.map (·.2)).contains i) = true := by rfl) (hfs : ∀ x, foldedSetIterable iter X.env x = pure x := by intro _; rfl) :
    DS T K X (.Assign [.Name y py] (.ListComp elt [⟨tg, iter, ifs, 0⟩] scope pos) spos) (tAsg (tLc wi g tt te (own.map (·.2))) (gName i)) (sSetF i (fComp fi gf ft fe (own.map (·.2)))) [i] :=
  ⟨ps_setLc hc hN hy hyl hsw hi.pi (blkOk_by ok) (fun s H C cl fp => (hg s H C cl fp).pg) (fun s H C cl fp => (ht s H C cl fp).1) (fun s H C cl fp => (he s H C cl fp).pe) hfs,
   sd_setF (sd_lc hi.sd (hg { } (fun _ => none) 0 [] []).sd (ht { } (fun _ => none) 0 [] []).2 (he { } (fun _ => none) 0 [] []).sd fun i hi => by
    have := List.all_eq_true.mp hs i hi
    simpa using this)⟩
/-- the same, the list never changed -/
theorem ds_setLcI {i : Nat} {y : Str} {py : Pos} {elt iter : Expr} {ifs : List Expr} {scope : Scope} {own : List (Str × Nat)} {spos : Pos} {wi : TI} {g : TG} {tt : TT} {te : TE} {fi : FnL} {gf : Dt → Rho → Option Rho} {ft : FnB} {fe : Fn} (hc : X.calm = true) (hN : X.N.Nodup) (hi : DI false T K X tg iter wi fi) (ok : blkC X.N X.env.scope scope own = true)
    (hg : ∀ (s : Shared) (H : Hp) (C : Addr) (cl : List (Str × Addr)) (fp : List Addr), DG T K (X.blk s H scope (compEnvC scope cl C X.env) fp) tg g gf is)
    (ht : ∀ (s : Shared) (H : Hp) (C : Addr) (cl : List (Str × Addr)) (fp : List Addr), PTs (X.blk s H scope (compEnvC scope cl C X.env) fp) ifs tt ∧ SdT T K tt ft)
    (he : ∀ (s : Shared) (H : Hp) (C : Addr) (cl : List (Str × Addr)) (fp : List Addr), DE true T K (X.blk s H scope (compEnvC scope cl C X.env) fp) elt te fe)
    (hy : X.N[i]? = some y := by rfl) (hyl : X.env.scope.names.lookup y = some .local := by rfl)
    (hsw : swapsWith (.ListComp elt [⟨tg, iter, ifs, 0⟩] scope pos) (some (.Name y py)) spos.line X.env = pure true := by exact sw_true rfl rfl rfl (by decide +kernel))
    (hs : is.all (fun i => (own.map (·.2)).contains i) = true := by rfl) (hfs : ∀ x, foldedSetIterable iter X.env x = pure x := by intro _; rfl) :
    DS T K X (.Assign [.Name y py] (.ListComp elt [⟨tg, iter, ifs, 0⟩] scope pos) spos) (tAsg (tLc wi g tt te (own.map (·.2))) (gName i)) (sSet i (fLst (fComp fi gf ft fe (own.map (·.2))))) [i] :=
  ⟨(ds_setLc (T := T) hc hN hi ok hg ht he hy hyl hsw hs hfs).ps, sd_set (DF.de (m := true) (df_lc (T := T) (pos := pos) hc hN hi ok hg ht he hs hfs)).sd⟩
/-- a, b = e1, e2: two plain names -/
def sPar (i j : Nat) (fr : FnL) : FnS := fun ρ => (fr ρ).bind fun ds => match ds with | [d, d'] => some (.nx (setS (setS ρ i (.im d)) j (.im d'))) | _ => none
theorem ds_par {i j : Nat} {x y : Str} {px py pt : Pos} {kt k2 : Nat} {pt2 : Pos} (hc : X.calm = true) (hN : X.N.Nodup) (h : DA true T K X [a, b] tr fr) (hij : i ≠ j) (hi : X.N[i]? = some x := by rfl) (hj : X.N[j]? = some y := by rfl)
    (hx : X.env.scope.names.lookup x = some .local := by rfl) (hy : X.env.scope.names.lookup y = some .local := by rfl)
    (hw : swappedStores [.Tuple [.Name x px, .Name y py] kt pt] (.Tuple [a, b] k2 pt2) X.env = pure (some [x, y]) := by rfl)
    (hs : swapsWithSole [.Tuple [.Name x px, .Name y py] kt pt] (.Tuple [a, b] k2 pt2) pos.line X.env = pure false := by rfl) :
    DS T K X (.Assign [.Tuple [.Name x px, .Name y py] kt pt] (.Tuple [a, b] k2 pt2) pos) (tPar i j tr) (sPar i j fr) [i, j] := ⟨ps_par hc hN hi hj hij hx hy h.pa hw hs, fun W ρ σ H fl D g r e q => by
  obtain ⟨ds, ed, e⟩ := obind e
  match ds, e with
  | [d, d'], e =>
    cases e
    refine h.sd W ρ σ H [d, d'] _ g r ed fun vs H' e1 g1 r1 => ?_
    obtain ⟨v, v', rfl, r2, r3⟩ := repA2 r1.wt
    have rp1 := (r.ext e1).setIm (i := i) r2
    have o1 : ∀ a, Own (setS ρ i (.im d)) (σ.set i (some v)) a → Own ρ σ a := fun a z => Own.set (fun _ y => Sl.noConfusion y) z
    have rp2 := rp1.setIm (i := j) (r3.sub fun a _ _ z => z.imp (fun z => z) (o1 a))
    refine ⟨v, v', rfl, q _ H' ⟨rp2, g1, e1.kp, fun a z => .inl (o1 a (Own.set (fun _ y => Sl.noConfusion y) z)), fun l hl => ?_⟩⟩
    rw [List.mem_cons, List.mem_singleton, not_or] at hl
    rw [setσ_ne hl.2, setσ_ne hl.1]⟩
/-- (a, b) = e -/
theorem ds_asg {g : TG} {gf : Dt → Rho → Option Rho} (h : DE true T K X e t f) (hg : DG T K X tg g gf is) (hs : swapsWithSole [tg] e pos.line X.env = pure false := by rfl) (hw : swappedStores [tg] e X.env = pure none := by rfl) (h1 : (assignEach [tg] X.env).map (·.2) = [assign tg X.env] := by rfl) :
    DS T K X (.Assign [tg] e pos) (tAsg t g) (sAsg f gf) is := ⟨ps_asg h.pe hg.pg hs hw h1, fun W ρ σ H fl D gd r e q => by
  obtain ⟨d, ed, e⟩ := obind e
  obtain ⟨ρ', eg, e⟩ := obind e
  cases e
  refine h.sd W ρ σ H d _ gd r ed fun v H' e1 g1 r1 => ?_
  exact hg.sd W ρ σ H' v d ρ' _ g1 (r.ext e1) r1.wt eg fun σ' rp' k' l' o' u' => q σ' H' ⟨rp', g1, e1.kp, fun a z => .inl (o' a z), k'⟩⟩
theorem ds_if {tk : TT} {gc : FnB} (hc : DT T K X c tk gc) (ha : DSs T K X sts u F as) (hb : DSs T K X rest v G bs) : DS T K X (.If c sts rest pos) (tIfS tk u v) (sIf gc F G) (as ++ bs) := ⟨ps_if hc.pt ha.ps hb.ps, fun W ρ σ H fl D g r e q => by
  obtain ⟨k, ek, e⟩ := obind e
  refine hc.sd W ρ σ H k _ g r ek fun H1 e1 g1 => ?_
  have x := Aft.ext e1 g1 r
  cases k with
  | true =>
    rw [if_pos rfl] at e ⊢
    exact ha.sd W ρ σ H1 fl D g1 (r.ext e1) e (Post.pre x (q.sub fun j h => List.mem_append_left _ h))
  | false =>
    rw [if_neg Bool.false_ne_true] at e ⊢
    exact hb.sd W ρ σ H1 fl D g1 (r.ext e1) e (Post.pre x (q.sub fun j h => List.mem_append_right _ h))⟩

/-! ### slots forgotten; lists that are owned no longer -/
def clr : List Bool → Rho → Rho
  | b :: bs, s :: r => (if b = true then s else .un) :: clr bs r
  | _, r => r
theorem clr_length : ∀ (bs : List Bool) (ρ : Rho), (clr bs ρ).length = ρ.length
  | [], _ => rfl
  | _ :: _, [] => rfl
  | b :: bs, s :: r => by show (clr bs r).length + 1 = r.length + 1; rw [clr_length bs r]
theorem getS_clr : ∀ (bs : List Bool) (ρ : Rho) (i : Nat), getS (clr bs ρ) i = getS ρ i ∨ getS (clr bs ρ) i = .un
  | [], _, _ => .inl rfl
  | _ :: _, [], _ => .inl rfl
  | true :: bs, s :: r, 0 => .inl rfl
  | false :: bs, s :: r, 0 => .inr rfl
  | _ :: bs, _ :: r, i + 1 => getS_clr bs r i
theorem Own.clr {bs : List Bool} {ρ : Rho} {σ : L2.St} {a : Addr} (z : Own (clr bs ρ) σ a) : Own ρ σ a := by
  obtain ⟨i, ds, h1, h2⟩ := z
  rcases getS_clr bs ρ i with e | e
  · exact ⟨i, ds, by rw [← e]; exact h1, h2⟩
  · rw [e] at h1; cases h1
theorem Rp.clr {W : Addr → Prop} {H : Hp} {ρ : Rho} {σ : L2.St} (r : Rp K H W ρ σ) (bs : List Bool) : Rp K H W (clr bs ρ) σ := by
  have sub : ∀ a xs, H a = some (.lst xs) → Wd W (EL.clr bs ρ) σ a → Wd W ρ σ a := fun a xs _ z => z.imp (fun z => z) Own.clr
  have at_ : ∀ i s, getS (EL.clr bs ρ) i = s → s ≠ .un → getS ρ i = s := fun i s e n => by
    rcases getS_clr bs ρ i with q | q
    · rw [← q]; exact e
    · rw [q] at e; exact absurd e.symm n
  refine ⟨by rw [clr_length]; exact r.len, fun i d e => ?_, fun i ds e => ?_, fun i j di dj a e1 e2 => r.inj i j di dj a (at_ i _ e1 fun z => Sl.noConfusion z) (at_ j _ e2 fun z => Sl.noConfusion z), r.wl⟩
  · obtain ⟨v, h1, h2⟩ := r.im i d (at_ i _ e fun z => Sl.noConfusion z)
    exact ⟨v, h1, h2.sub sub⟩
  · obtain ⟨a, vs, h1, h2, h3, h4⟩ := r.ow i ds (at_ i _ e fun z => Sl.noConfusion z)
    exact ⟨a, vs, h1, h2, h3, h4.sub sub⟩
theorem Aft.clr {W : Addr → Prop} {H H' : Hp} {ρ ρ' : Rho} {σ σ' : L2.St} (x : Aft T K W as ρ σ H ρ' σ' H') (bs : List Bool) : Aft T K W as ρ σ H (EL.clr bs ρ') σ' H' := ⟨x.rp.clr bs, x.gd, x.kp, fun a z => x.ow a z.clr, x.st⟩
/-- the list of slot i is frozen -/
def frz (i : Nat) (ρ : Rho) : Rho := match getS ρ i with
  | .ow ds => setS ρ i (.im (.lst ds))
  | _ => ρ
def frzs : List Nat → Rho → Rho
  | [], ρ => ρ
  | i :: is, ρ => frzs is (frz i ρ)
theorem Own.frz {i : Nat} {ρ : Rho} {σ : L2.St} {a : Addr} (z : Own (frz i ρ) σ a) : Own ρ σ a := by
  unfold EL.frz at z
  split at z
  · rename_i ds h
    obtain ⟨j, es, h1, h2⟩ := z
    by_cases hj : j = i
    · subst hj
      rw [getS_set_same (getS_lt (by rw [h]; exact fun z => Sl.noConfusion z))] at h1
      cases h1
    · rw [getS_set_ne hj] at h1
      exact ⟨j, es, h1, h2⟩
  · exact z
theorem set_self {σ : L2.St} {i : Nat} {x : Option V} (h : σ[i]? = some x) : σ.set i x = σ := by
  apply List.ext_getElem?
  intro j
  by_cases hj : j = i
  · subst hj
    have hl := (List.getElem?_eq_some_iff.mp h).1
    rw [List.getElem?_set_self hl, h]
  · rw [setσ_ne hj]
theorem Rp.frz {W : Addr → Prop} {H : Hp} {ρ : Rho} {σ : L2.St} (r : Rp K H W ρ σ) (i : Nat) : Rp K H W (frz i ρ) σ := by
  unfold EL.frz
  split
  · rename_i ds h
    obtain ⟨a, vs, h1, h2, h3, h4⟩ := r.ow i ds h
    -- first forget, then hold again
    have r1 : Rp K H W (setS ρ i .un) σ := by
      have := r.setUn (i := i) (x := some (V.ref a))
      rw [set_self h1] at this
      exact this
    have na : ¬ Wd W (setS ρ i .un) σ a := fun z => by
      rcases z with z | ⟨j, es, e1, e2⟩
      · exact h3 z
      · have hj : j ≠ i := fun z => by
          subst z
          rw [getS_set_same (getS_lt (by rw [h]; exact fun z => Sl.noConfusion z))] at e1
          cases e1
        rw [getS_set_ne hj] at e1
        exact hj (r.inj j i es ds a e1 h e2 h1)
    have rr : Rep K H (Wd W (setS ρ i .un) σ) (.ref a) (.lst ds) := .lst h2 na (h4.sub fun b xs _ z => z.imp (fun z => z) fun z => by
      obtain ⟨j, es, e1, e2⟩ := z
      have hj : j ≠ i := fun z => by
        subst z
        rw [getS_set_same (getS_lt (by rw [h]; exact fun z => Sl.noConfusion z))] at e1
        cases e1
      rw [getS_set_ne hj] at e1
      exact ⟨j, es, e1, e2⟩)
    have r2 := r1.setIm (i := i) rr
    rw [set_self h1] at r2
    have e : ∀ (ρ : Rho) (i : Nat) (s t : Sl), setS (setS ρ i s) i t = setS ρ i t := fun ρ => by
      induction ρ with
      | nil => intros; rfl
      | cons x r ih =>
        intro i s t
        cases i with
        | zero => rfl
        | succ i => show x :: setS (setS r i s) i t = x :: setS r i t; rw [ih]
    rw [e] at r2
    exact r2
  · exact r
theorem Rp.frzs {W : Addr → Prop} {H : Hp} {σ : L2.St} : ∀ {is : List Nat} {ρ : Rho}, Rp K H W ρ σ → Rp K H W (frzs is ρ) σ
  | [], _, r => r
  | i :: is, _, r => Rp.frzs (is := is) (r.frz i)
theorem Own.frzs {σ : L2.St} {a : Addr} : ∀ {is : List Nat} {ρ : Rho}, Own (frzs is ρ) σ a → Own ρ σ a
  | [], _, z => z
  | i :: is, _, z => Own.frz (Own.frzs (is := is) z)
theorem Aft.of_own {W : Addr → Prop} {H : Hp} {ρ ρ' : Rho} {σ : L2.St} (g : Gd T H) (r : Rp K H W ρ' σ) (h : ∀ a, Own ρ' σ a → Own ρ σ a) : Aft T K W [] ρ σ H ρ' σ H := ⟨r, g, Kp.refl _ _, fun a z => .inl (h a z), fun _ _ => rfl⟩
def sFrz (is : List Nat) (F : FnS) : FnS := fun ρ => F (frzs is ρ)
def sClr (bs : List Bool) (F : FnS) : FnS := fun ρ => F (clr bs ρ)
/-- ahead of a statement lists are frozen -/
theorem DS.frz (is : List Nat) (h : DS T K X st u F as) : DS T K X st u (sFrz is F) as := ⟨h.ps, fun W ρ σ H fl D g r e q => h.sd W (frzs is ρ) σ H fl D g r.frzs e (Post.pre (Aft.of_own g r.frzs fun _ z => z.frzs) q)⟩
/-- ahead of statements slots are forgotten -/
theorem DSs.clr (bs : List Bool) (h : DSs T K X sts u F as) : DSs T K X sts u (sClr bs F) as := ⟨h.ps, fun W ρ σ H fl D g r e q => h.sd W (EL.clr bs ρ) σ H fl D g (r.clr bs) e (Post.pre (Aft.of_own g (r.clr bs) fun _ z => z.clr) q)⟩
theorem DS.clr (bs : List Bool) (h : DS T K X st u F as) : DS T K X st u (sClr bs F) as := ⟨h.ps, fun W ρ σ H fl D g r e q => h.sd W (EL.clr bs ρ) σ H fl D g (r.clr bs) e (Post.pre (Aft.of_own g (r.clr bs) fun _ z => z.clr) q)⟩

/-! ### for -/
def forGo (gf : Dt → Rho → Option Rho) (mk : List Bool) (F : FnS) : List Dt → Rho → Option Fl
  | [], ρ => some (.nx ρ)
  | d :: ds, ρ => (gf d ρ).bind fun ρ1 => (F ρ1).bind fun fl => match fl with
    | .nx ρ2 => forGo gf mk F ds (clr mk ρ2)
    | .ct ρ2 => forGo gf mk F ds (clr mk ρ2)
    | .bk ρ2 => some (.nx (clr mk ρ2))
    | .rt d => some (.rt d)
def sFor (fi : FnL) (gf : Dt → Rho → Option Rho) (mk : List Bool) (F : FnS) : FnS := fun ρ => (fi ρ).bind fun ds => forGo gf mk F ds (clr mk ρ)
theorem ds_for {wi : TI} {g : TG} {gf : Dt → Rho → Option Rho} (mk : List Bool) (hp : PassesOwn (model X.prog X.w) X.A X.env X.xe) (hc : X.calm = true) (hi : DI true T K X tg e wi fl) (hg : DG T K X tg g gf is) (hb : DSs T K X body u F as)
    (hs : ∀ x, foldedSetIterable e X.env x = pure x := by intro _; rfl) : DS T K X (.For tg e body [] pos) (tFor wi g u) (sFor fl gf mk F) (is ++ as) := ⟨ps_for hp hc hi.pi hg.pg hb.ps hs, fun W ρ σ H fl' D gd r e' q => by
  obtain ⟨src, ei, ego⟩ := obind e'
  refine hi.sd W ρ σ H src _ gd r ei fun J H1 e1 g1 jok => ?_
  have x1 : Aft T K W [] ρ σ H (clr mk ρ) σ H1 := (Aft.ext e1 g1 r).clr mk
  refine ⟨fun i m σc Hc => m = src.length - i ∧ i ≤ src.length ∧ ∃ ρc, Aft T K W (is ++ as) (clr mk ρ) σ H1 ρc σc Hc ∧ forGo gf mk F (src.drop i) ρc = some fl',
    ⟨src.length, rfl, Nat.zero_le _, clr mk ρ, (Aft.refl g1 x1.rp).sub (fun _ h => by cases h), ego⟩, fun i m σc Hc hW => ?_⟩
  obtain ⟨rfl, hile, ρc, xc, ego⟩ := hW
  have kpc : Kp (fun a => true = true ∧ Own ρ σ a) H1 Hc := xc.kp.sub fun a z => ⟨rfl, z.clr⟩
  obtain ⟨jgo, jstop⟩ := jok Hc kpc xc.gd
  by_cases hlt : i < src.length
  · obtain ⟨d, hd⟩ : ∃ d, src[i]? = some d := ⟨src[i], List.getElem?_eq_getElem hlt⟩
    obtain ⟨go, yl⟩ := jgo i d hd
    have edrop : src.drop i = d :: src.drop (i + 1) := by
      rw [List.drop_eq_getElem_cons hlt]
      rw [List.getElem?_eq_getElem hlt] at hd
      cases hd
      rfl
    rw [edrop] at ego
    obtain ⟨ρ1, eg, ego⟩ := obind ego
    obtain ⟨f1, ef, ego⟩ := obind ego
    refine .inr ⟨go, fun σn Hn => ∃ ρn, Aft T K W (is ++ as) (clr mk ρ) σ H1 ρn σn Hn ∧ forGo gf mk F (src.drop (i + 1)) ρn = some fl', fun σn Hn hN => ⟨src.length - (i + 1), by omega, rfl, hlt, hN⟩, fun x H' y => ?_⟩
    obtain ⟨e2, g2, rx⟩ := yl x H' y
    have rx' : Rep K H' (Wd W ρc σc) x d := rx.sub fun a xs h z => by
      rcases z with z | z
      · exact .inl (.inl z)
      · rcases xc.ow a z with z | z
        · exact .inl (.inr z.clr)
        · exact .inr z
    have x2 : Aft T K W (is ++ as) (clr mk ρ) σ H1 ρc σc H' := (xc.trans (Aft.ext e2 g2 xc.rp)).sub fun j h => by simpa using h
    refine hg.sd W ρc σc H' x d ρ1 _ g2 (xc.rp.ext e2) rx' eg fun σ1 rp1 k1 l1 o1 u1 => ?_
    have x3 : Aft T K W (is ++ as) (clr mk ρ) σ H1 ρ1 σ1 H' := (x2.trans (bs := is) ⟨rp1, g2, Kp.refl _ _, fun a z => .inl (o1 a z), k1⟩).sub fun j h => by
      rcases List.mem_append.mp h with h | h
      · exact h
      · exact List.mem_append_left _ h
    have fin : ∀ {ρ2 : Rho} {σ2 : L2.St} {H2 : Hp}, Aft T K W as ρ1 σ1 H' ρ2 σ2 H2 → Aft T K W (is ++ as) (clr mk ρ) σ H1 ρ2 σ2 H2 := fun y => (x3.trans y).sub fun j h => by
      rcases List.mem_append.mp h with h | h
      · exact h
      · exact List.mem_append_right _ h
    have whole : ∀ {ρ2 : Rho} {σ2 : L2.St} {H2 : Hp}, Aft T K W (is ++ as) (clr mk ρ) σ H1 ρ2 σ2 H2 → Aft T K W (is ++ as) ρ σ H ρ2 σ2 H2 := fun y => x1.trans y
    refine hb.sd W ρ1 σ1 H' f1 _ g2 rp1 ef ?_
    cases f1 with
    | nx ρ2 => exact fun σ2 H2 y => ⟨clr mk ρ2, (fin y).clr mk, ego⟩
    | ct ρ2 => exact fun σ2 H2 y => ⟨clr mk ρ2, (fin y).clr mk, ego⟩
    | bk ρ2 => cases ego; exact fun σ2 H2 y => q σ2 H2 (whole ((fin y).clr mk))
    | rt d' => cases ego; exact fun v H2 kp2 g3 r3 => q v H2 ((x1.trans x3).kp.trans kp2 (x1.trans x3).ow) g3 r3
  · have hi' : i = src.length := by omega
    subst hi'
    rw [List.drop_length] at ego
    cases ego
    exact .inl ⟨jstop _ (Nat.le_refl _), q σc Hc (x1.trans xc)⟩⟩

/-! ### while -/
/-- turns until an end -/
def itN (step : Nat → Rho → Option (Sum Rho Fl)) : Nat → Nat → Rho → Option Fl
  | 0, _, _ => none
  | n + 1, i, ρ => (step i ρ).bind fun r => match r with
    | .inl ρ' => itN step n (i + 1) ρ'
    | .inr fl => some fl
theorem itN_mono {step : Nat → Rho → Option (Sum Rho Fl)} {fl : Fl} : ∀ (n m i : Nat) (ρ : Rho), itN step n i ρ = some fl → n ≤ m → itN step m i ρ = some fl
  | 0, _, _, _, h, _ => by cases h
  | n + 1, 0, _, _, _, hm => by omega
  | n + 1, m + 1, i, ρ, h, hm => by
    obtain ⟨r, h1, h2⟩ := obind h
    show (step i ρ).bind _ = _
    rw [h1]
    cases r with
    | inl ρ' => exact itN_mono n m (i + 1) ρ' h2 (by omega)
    | inr f => exact h2
open Classical in
noncomputable def itO (step : Nat → Rho → Option (Sum Rho Fl)) (ρ : Rho) : Option Fl := if h : ∃ fl n, itN step n 0 ρ = some fl then some h.choose else none
theorem itO_of {step : Nat → Rho → Option (Sum Rho Fl)} {ρ : Rho} {fl : Fl} {n : Nat} (h : itN step n 0 ρ = some fl) : itO step ρ = some fl := by
  have ex : ∃ fl n, itN step n 0 ρ = some fl := ⟨fl, n, h⟩
  unfold itO
  rw [dif_pos ex]
  obtain ⟨n', h'⟩ := ex.choose_spec
  have h1 := itN_mono n' (n' + n) 0 ρ h' (by omega)
  have h2 := itN_mono n (n' + n) 0 ρ h (by omega)
  rw [h1] at h2
  exact h2
theorem itO_to {step : Nat → Rho → Option (Sum Rho Fl)} {ρ : Rho} {fl : Fl} (h : itO step ρ = some fl) : ∃ n, itN step n 0 ρ = some fl := by
  unfold itO at h
  by_cases ex : ∃ fl n, itN step n 0 ρ = some fl
  · rw [dif_pos ex] at h
    have := ex.choose_spec
    cases h
    exact this
  · rw [dif_neg ex] at h; cases h
def whStep (c : FnB) (mk : List Bool) (F : FnS) : Nat → Rho → Option (Sum Rho Fl) := fun _ ρ => (c ρ).bind fun k => if k = true then (F ρ).bind fun fl => match fl with
    | .nx ρ2 => some (.inl (clr mk ρ2))
    | .ct ρ2 => some (.inl (clr mk ρ2))
    | .bk ρ2 => some (.inr (.nx (clr mk ρ2)))
    | .rt d => some (.inr (.rt d))
  else some (.inr (.nx ρ))
noncomputable def sWhile (c : FnB) (mk : List Bool) (F : FnS) : FnS := fun ρ => itO (whStep c mk F) (clr mk ρ)
theorem ds_while {tk : TT} {gc : FnB} (mk : List Bool) (hp : PassesOwn (model X.prog X.w) X.A X.env X.xe) (hc : DT T K X c tk gc) (hb : DSs T K X body u F as) : DS T K X (.While c body [] pos) (tWhile tk u) (sWhile gc mk F) as := ⟨ps_while hp hc.pt hb.ps, fun W ρ σ H fl' D gd r e' q => by
  obtain ⟨n0, e'⟩ := itO_to e'
  have x0 : Aft T K W as ρ σ H (clr mk ρ) σ H := ((Aft.refl gd r).clr mk).sub fun _ h => by cases h
  refine ⟨fun m σc Hc => ∃ i ρc, Aft T K W as ρ σ H ρc σc Hc ∧ itN (whStep gc mk F) m i ρc = some fl', ⟨n0, 0, clr mk ρ, x0, e'⟩, fun m σc Hc hW => ?_⟩
  obtain ⟨i, ρc, xc, eit⟩ := hW
  cases m with
  | zero => cases eit
  | succ m =>
    obtain ⟨r1, e1, e2⟩ := obind eit
    obtain ⟨k, ek, e1⟩ := obind e1
    refine hc.sd W ρc σc Hc k _ xc.gd xc.rp ek fun H1 x1 g1 => ?_
    have xc1 : Aft T K W as ρ σ H ρc σc H1 := (xc.trans (Aft.ext x1 g1 xc.rp)).sub fun j h => by simpa using h
    cases k with
    | true =>
      rw [if_pos rfl] at e1 ⊢
      obtain ⟨f1, ef, e1⟩ := obind e1
      refine ⟨fun σn Hn => ∃ i ρn, Aft T K W as ρ σ H ρn σn Hn ∧ itN (whStep gc mk F) m i ρn = some fl', fun σn Hn hN => ⟨m, Nat.lt_succ_self m, hN⟩, ?_⟩
      have fin : ∀ {ρ2 : Rho} {σ2 : L2.St} {H2 : Hp}, Aft T K W as ρc σc H1 ρ2 σ2 H2 → Aft T K W as ρ σ H ρ2 σ2 H2 := fun y => (xc1.trans y).sub fun j h => by
        rcases List.mem_append.mp h with h | h <;> exact h
      refine hb.sd W ρc σc H1 f1 _ g1 xc1.rp ef ?_
      cases f1 with
      | nx ρ2 => cases e1; exact fun σ2 H2 y => ⟨i + 1, _, (fin y).clr mk, e2⟩
      | ct ρ2 => cases e1; exact fun σ2 H2 y => ⟨i + 1, _, (fin y).clr mk, e2⟩
      | bk ρ2 => cases e1; cases e2; exact fun σ2 H2 y => q σ2 H2 ((fin y).clr mk)
      | rt d' => cases e1; cases e2; exact fun v H2 kp2 g3 r3 => q v H2 (xc1.kp.trans kp2 xc1.ow) g3 r3
    | false =>
      rw [if_neg Bool.false_ne_true] at e1 ⊢
      cases e1
      cases e2
      exact q σc H1 xc1⟩
end
end EL
end

section
set_option Elab.async false
set_option maxRecDepth 100000
/-! EL owned lists changed; defs and their calls. -/
namespace EL
open PySem PySem.Spec PyProof.Rows L2

section
variable {K : PySem.W.Frag} {T : List Addr} {H : Hp} {W : Addr → Prop} {ρ : Rho} {σ : L2.St}
theorem Own.mut {i : Nat} {ds es : List Dt} (h : getS ρ i = .ow ds) {a : Addr} : Own (setS ρ i (.ow es)) σ a ↔ Own ρ σ a := by
  have hl : i < ρ.length := getS_lt (by rw [h]; exact fun z => Sl.noConfusion z)
  constructor
  · rintro ⟨j, fs, h1, h2⟩
    by_cases hj : j = i
    · subst hj; exact ⟨j, ds, h, h2⟩
    · rw [getS_set_ne hj] at h1; exact ⟨j, fs, h1, h2⟩
  · rintro ⟨j, fs, h1, h2⟩
    by_cases hj : j = i
    · subst hj; exact ⟨j, es, getS_set_same hl, h2⟩
    · exact ⟨j, fs, by rw [getS_set_ne hj]; exact h1, h2⟩
theorem Rp.mut {i : Nat} {p : Addr} {ds es : List Dt} {us : List V} (r : Rp K H W ρ σ) (h : getS ρ i = .ow ds) (hp : σ[i]? = some (some (.ref p))) (ra : RepA K H (Wd W ρ σ) us es) :
    Rp K (upd H p (.lst us)) W (setS ρ i (.ow es)) σ := by
  obtain ⟨p', vs, h1, h2, h3, h4⟩ := r.ow i ds h
  rw [hp] at h1
  cases h1
  have hl : i < ρ.length := getS_lt (by rw [h]; exact fun z => Sl.noConfusion z)
  have wp : Wd W ρ σ p := .inr ⟨i, ds, h, hp⟩
  have kw : KeepW (Wd W ρ σ) H (upd H p (.lst us)) := KeepW.set h2 wp
  have sub : ∀ a xs, H a = some (.lst xs) → Wd W (setS ρ i (.ow es)) σ a → Wd W ρ σ a := fun a xs _ z => z.imp (fun z => z) (Own.mut h).mp
  refine ⟨by rw [setS_length]; exact r.len, fun j d e => ?_, fun j fs e => ?_, fun j l dj dl a e1 e2 e3 e4 => ?_, fun a z => ?_⟩
  · by_cases hj : j = i
    · subst hj; rw [getS_set_same hl] at e; cases e
    · rw [getS_set_ne hj] at e
      obtain ⟨v, q1, q2⟩ := r.im j d e
      exact ⟨v, q1, q2.keep kw sub⟩
  · by_cases hj : j = i
    · subst hj
      rw [getS_set_same hl] at e
      cases e
      exact ⟨p, us, hp, upd_same, h3, ra.keep kw sub⟩
    · rw [getS_set_ne hj] at e
      obtain ⟨a, ws, q1, q2, q3, q4⟩ := r.ow j fs e
      have ha : a ≠ p := fun z => by
        subst z
        exact hj (r.inj j i fs ds a e h q1 hp)
      exact ⟨a, ws, q1, by rw [upd_ne ha]; exact q2, q3, q4.keep kw sub⟩
  · have old : ∀ l dl, getS (setS ρ i (.ow es)) l = .ow dl → ∃ dl', getS ρ l = .ow dl' := fun l dl e => by
      by_cases hj : l = i
      · subst hj; exact ⟨ds, h⟩
      · rw [getS_set_ne hj] at e; exact ⟨dl, e⟩
    obtain ⟨dj', f1⟩ := old j dj e1
    obtain ⟨dl', f2⟩ := old l dl e2
    exact r.inj j l dj' dl' a f1 f2 e3 e4
  · by_cases ha : a = p
    · exact ⟨us, by rw [ha, upd_same]⟩
    · obtain ⟨xs, q⟩ := r.wl a z
      exact ⟨xs, by rw [upd_ne ha]; exact q⟩
theorem Aft.mut {i : Nat} {p : Addr} {ds es : List Dt} {vs us : List V} (g : Gd T H) (r : Rp K H W ρ σ) (h : getS ρ i = .ow ds) (hp : σ[i]? = some (some (.ref p))) (h2 : H p = some (.lst vs)) (ra : RepA K H (Wd W ρ σ) us es) (hl : us.length ≤ sizeLine) :
    Aft T K W [] ρ σ H (setS ρ i (.ow es)) σ (upd H p (.lst us)) where
  rp := r.mut h hp ra
  gd := g.setL h2 hl
  kp := ⟨fun b o e n no => by
    have hb : b ≠ p := fun z => no (by rw [z]; exact ⟨i, ds, h, hp⟩)
    rw [upd_ne hb]; exact e, fun b e => by
    by_cases hb : b = p
    · rw [hb, upd_same] at e; cases e
    · rw [upd_ne hb] at e; exact e⟩
  ow := fun a z => .inl ((Own.mut h).mp z)
  st := fun _ _ => rfl
end

/-- a slot's own list -/
def owned (ρ : Rho) (i : Nat) : Option (List Dt) := match getS ρ i with | .ow ds => some ds | _ => none
theorem owned_some {ρ : Rho} {i : Nat} {ds : List Dt} (h : owned ρ i = some ds) : getS ρ i = .ow ds := by
  unfold owned at h
  split at h
  · rename_i es e; cases h; exact e
  · cases h
section
variable {m : Bool} {T : List Addr} {X : Cx} {K : PySem.W.Frag} {a b c e : Expr} {es : List Expr} {ta tb t : TE} {tr : TA} {f fa fb : Fn} {fr : FnL} {pos p apos : Pos} {i : Nat} {x : Str}
/-- xs.m(..): a method that changes the list; by what it does to the items -/
def MutD (T : List Addr) (K : PySem.W.Frag) (r : V → List V → Hp → VK → Prop) (g : List Dt → List Dt → Option (List Dt)) : Prop :=
  ∀ (H : Hp) (W : Addr → Prop) (l : Addr) (xs : List V) (xd : List Dt) (vs : List V) (vd : List Dt) (yd : List Dt) (Q : VK), Gd T H → H l = some (.lst xs) → RepA K H W xs xd → RepA K H W vs vd → g xd vd = some yd →
    (∀ z ys, RepA K H W ys yd → ys.length ≤ sizeLine → Q z (upd H l (.lst ys))) → r (.ref l) vs H Q
def sMut (i : Nat) (g : List Dt → List Dt → Option (List Dt)) (fr : FnL) : FnS := fun ρ => (owned ρ i).bind fun xd => (fr ρ).bind fun vd => (g xd vd).bind fun yd => some (.nx (setS ρ i (.ow yd)))
theorem sd_mut {r : V → List V → Hp → VK → Prop} {g : List Dt → List Dt → Option (List Dt)} (h : MutD T K r g) (ha : SdA true T K tr fr) : SdS T K (tDrop (tBM K "list" r (tVar i) tr)) (sMut i g fr) [] := fun W ρ σ H fl D gd rp e' q => by
  obtain ⟨xd, e1, e'⟩ := obind e'
  obtain ⟨vd, e2, e'⟩ := obind e'
  obtain ⟨yd, e3, e'⟩ := obind e'
  cases e'
  have hs := owned_some e1
  obtain ⟨l, xs, h1, h2, h3, h4⟩ := rp.ow i xd hs
  refine ⟨_, h1, .inl ⟨rfl, xs, .of h2⟩, ?_⟩
  refine ha W ρ σ H vd _ gd rp e2 fun vs H1 x1 g1 r1 => ?_
  have h21 := x1.keep _ _ h2 rfl
  refine h H1 (Wd W ρ σ) l xs xd vs vd yd _ g1 h21 (h4.ext x1) r1.wt e3 fun z ys ry hl => ?_
  have x2 := (Aft.ext (W := W) (K := K) x1 g1 rp).trans (Aft.mut g1 (rp.ext x1) hs h1 h21 ry hl)
  exact q σ _ x2
theorem sd_mut0 {r : V → List V → Hp → VK → Prop} {g : List Dt → List Dt → Option (List Dt)} (h : MutD T K r g) : SdS T K (tDrop (tBM0 K "list" r (tVar i))) (sMut i g fA0) [] := fun W ρ σ H fl D gd rp e' q => by
  obtain ⟨xd, e1, e'⟩ := obind e'
  obtain ⟨vd, e2, e'⟩ := obind e'
  obtain ⟨yd, e3, e'⟩ := obind e'
  cases e'
  cases e2
  have hs := owned_some e1
  obtain ⟨l, xs, h1, h2, h3, h4⟩ := rp.ow i xd hs
  refine ⟨_, h1, .inl ⟨rfl, xs, .of h2⟩, ?_⟩
  refine h H (Wd W ρ σ) l xs xd [] [] yd _ gd h2 h4 .nil e3 fun z ys ry hl => ?_
  exact q σ _ (Aft.mut gd rp hs h1 h2 ry hl)
def gAppend : List Dt → List Dt → Option (List Dt)
  | xs, [y] => if xs.length < sizeLine then some (xs ++ [y]) else none
  | _, _ => none
theorem uAppend : MutD T K rAppend gAppend := fun H W l xs xd vs vd yd Q g hl rx rv e q => by
  match vd, e, rv with
  | [y], e, rv =>
    obtain ⟨v, rfl, r1⟩ := repA1 rv
    dsimp only [gAppend] at e
    by_cases hz : xd.length < sizeLine
    · rw [if_pos hz] at e
      cases e
      have hx : xs.length < sizeLine := by rw [rx.length]; exact hz
      exact ⟨l, xs, v, rfl, rfl, hl, hx, q _ _ (rx.append (.one r1)) (by rw [List.length_append, List.length_singleton]; omega)⟩
    · rw [if_neg hz] at e; cases e
def gExtend : List Dt → List Dt → Option (List Dt)
  | xs, [.lst ys] => if xs.length + ys.length ≤ sizeLine then some (xs ++ ys) else none
  | _, _ => none
theorem uExtend : MutD T K rExtend gExtend := fun H W l xs xd vs vd yd Q g hl rx rv e q => by
  match vd, e, rv with
  | x0 :: _ :: _, e, _ => cases x0 <;> cases e
  | [y], e, rv =>
    obtain ⟨v, rfl, r1⟩ := repA1 rv
    cases r1 with
    | @lst b zs es h1 n1 ra =>
      dsimp only [gExtend] at e
      by_cases hz : xd.length + es.length ≤ sizeLine
      · rw [if_pos hz] at e
        cases e
        have hx : xs.length + zs.length ≤ sizeLine := by rw [rx.length, ra.length]; exact hz
        exact ⟨l, b, xs, zs, rfl, rfl, hl, h1, hx, q _ _ (rx.append ra) (by rw [List.length_append]; exact hx)⟩
      · rw [if_neg hz] at e; cases e
    | _ => cases e
def gInsert : List Dt → List Dt → Option (List Dt)
  | xs, [.int i, y] => if xs.length < sizeLine ∧ 0 ≤ i ∧ i < 2 ^ 63 then some (xs.take i.toNat ++ [y] ++ xs.drop i.toNat) else none
  | _, _ => none
def rInsert : V → List V → Hp → VK → Prop := fun x vs H Q => ∃ (l : Addr) (xs : List V) (i : Int) (y : V), x = .ref l ∧ vs = [.int i, y] ∧ H l = some (.lst xs) ∧ xs.length < sizeLine ∧ 0 ≤ i ∧ i < 2 ^ 63 ∧ Q .non (upd H l (.lst (xs.take i.toNat ++ [y] ++ xs.drop i.toNat)))
theorem uInsert : MutD T K rInsert gInsert := fun H W l xs xd vs vd yd Q g hl rx rv e q => by
  match vd, e, rv with
  | [x0], e, _ => cases x0 <;> cases e
  | x0 :: _ :: _ :: _, e, _ => cases x0 <;> cases e
  | [n, y], e, rv =>
    obtain ⟨v, v', rfl, r1, r2⟩ := repA2 rv
    cases r1 with
    | int k =>
      dsimp only [gInsert] at e
      by_cases hz : xd.length < sizeLine ∧ 0 ≤ k ∧ k < 2 ^ 63
      · rw [if_pos hz] at e
        cases e
        have hx : xs.length < sizeLine := by rw [rx.length]; exact hz.1
        refine ⟨l, xs, k, v', rfl, rfl, hl, hx, hz.2.1, hz.2.2, q _ _ (((rx.take _).append (.one r2)).append (rx.drop _)) ?_⟩
        rw [List.length_append, List.length_append, List.length_take, List.length_drop, List.length_singleton]
        omega
      · rw [if_neg hz] at e; cases e
    | _ => cases e
def gPop : List Dt → List Dt → Option (List Dt)
  | xs, [] => if xs = [] then none else some xs.dropLast
  | _, _ => none
section
variable (hN : X.N[i]? = some x) (hv : Vis X.env.scope x)
theorem ds_meth {name : Str} {id : String} {r : V → List V → Hp → VK → Prop} {g : List Dt → List Dt → Option (List Dt)} (pa : PlainAttrs "list") (slot : Slot "list" name id) (hty : typeOf (.builtin id) = pure (.type "method_descriptor")) (hm : MtR X id r) (hg : MutD T K r g) (ha : DA true T K X (e :: es) tr fr)
    (hN : X.N[i]? = some x := by rfl) (hv : Vis X.env.scope x := by first | exact Or.inl rfl | exact Or.inr (Or.inl rfl) | exact Or.inr (Or.inr rfl)) (hd : (x == ("__debug__" : Str)) = false := by decide) (hcd : (x == ("__classdict__" : Str)) = false := by decide)
    (hbase : attributeBase (.Name x p) name X.env (eval (.Name x p) X.env) = eval (.Name x p) X.env := by rfl)
    (hfew : ((backTo pos (starEach (e :: es) X.env)).all (fun x => !x.1) && (backToKw pos (keywordEach [] X.env)).all (fun x => x.1.isSome) && decide ((e :: es).length + ([] : List Keyword).length + (if ([] : List Keyword).isEmpty then 0 else 1) < 30)) = true := by rfl)
    (hline : (apos.endLine == pos.line) = true := by rfl) (hs : starEach (e :: es) X.env = (false, eval e X.env) :: starEach es X.env := by rfl) (hplain : (backTo pos (starEach es X.env)).any (·.1) = false := by rfl) {pos2 : Pos}
    (hsw : swapsWith (.Call (.Attribute (.Name x p) name apos) (e :: es) [] pos) none pos2.line X.env = pure false := by rfl) (hk : X.K = K := by rfl) :
    DS T K X (.Expr (.Call (.Attribute (.Name x p) name apos) (e :: es) [] pos) pos2) (tDrop (tBM K "list" r (tVar i) tr)) (sMut i g fr) [] := by
  subst hk
  exact ⟨ps_expr (pe_bm pa slot hty hm (pe_var hN hv hd hcd) ha.pa hbase hfew hline hs hplain) hsw, sd_mut hg ha.sd⟩
end
/-! ### xs[i] = e -/
def sPut (i : Nat) (fk fe : Fn) : FnS := fun ρ => (fe ρ).bind fun d => (owned ρ i).bind fun xd => (fk ρ).bind fun k => match k with
  | .int n => (ixN xd.length n).bind fun j => some (.nx (setS ρ i (.ow (xd.set j d))))
  | _ => none
theorem ds_put {pos2 : Pos} (hk : DE false T K X b tb fb) (he : DE true T K X e t f) (hN : X.N[i]? = some x := by rfl) (hv : Vis X.env.scope x := by first | exact Or.inl rfl | exact Or.inr (Or.inl rfl) | exact Or.inr (Or.inr rfl)) (hd : (x == ("__debug__" : Str)) = false := by decide) (hcd : (x == ("__classdict__" : Str)) = false := by decide)
    (hz : ∀ u, assign (.Subscript (.Name x p) b pos) X.env u = (do
      let o1 ← holding [u] (eval (.Name x p) X.env)
      let o2 ← holding [u, o1] (eval b X.env)
      standAt pos
      holding [u, o1, o2] (setItem o1 o2 u)
      release [u, o1, o2] []) := by intro _; rfl)
    (hs : swapsWithSole [.Subscript (.Name x p) b pos] e pos2.line X.env = pure false := by rfl) (hw : swappedStores [.Subscript (.Name x p) b pos] e X.env = pure none := by rfl) (h1 : (assignEach [.Subscript (.Name x p) b pos] X.env).map (·.2) = [assign (.Subscript (.Name x p) b pos) X.env] := by rfl) :
    DS T K X (.Assign [.Subscript (.Name x p) b pos] e pos2) (tAsg t (gSub (tVar i) tb rSetL)) (sPut i fb f) [] := ⟨ps_asg he.pe (pg_sub (pe_var hN hv hd hcd) hk.pe set_list hz) hs hw h1, fun W ρ σ H fl D gd rp e' q => by
  obtain ⟨d, e1, e'⟩ := obind e'
  obtain ⟨xd, e2, e'⟩ := obind e'
  obtain ⟨k, e3, e'⟩ := obind e'
  refine he.sd W ρ σ H d _ gd rp e1 fun v H1 x1 g1 r1 => ?_
  have hs := owned_some e2
  obtain ⟨l, xs, h1, h2, h3, h4⟩ := (rp.ext x1).ow i xd hs
  refine ⟨_, h1, ?_⟩
  refine hk.sd W ρ σ H1 k _ g1 (rp.ext x1) e3 fun u H2 x2 g2 r2 => ?_
  cases r2 with
  | int n =>
    obtain ⟨j, e4, e'⟩ := obind e'
    cases e'
    have h22 := x2.keep _ _ h2 rfl
    refine ⟨l, xs, n, j, rfl, rfl, h22, by rw [h4.length]; exact e4, ?_⟩
    have x12 := x1.trans x2
    have y := (Aft.ext (W := W) (K := K) x12 g2 rp).trans (Aft.mut (es := xd.set j d) (us := xs.set j v) g2 (rp.ext x12) hs h1 h22 ((h4.ext x2).set (r1.wt.ext x2) j) (by rw [List.length_set]; exact g2.1 l xs (.inl h22)))
    exact q σ _ y
  | _ => cases e'⟩
/-! ### x op= e -/
def sAug (i : Nat) (g : Dt → Dt → Option Dt) (f : Fn) : FnS := fun ρ => (fV i ρ).bind fun x => (f ρ).bind fun y => (g x y).bind fun z => some (.nx (setS ρ i (.im z)))
theorem ds_aug {op : Operator} {r : R2} {g : Dt → Dt → Option Dt} {p' : Pos} (hN : X.N.Nodup) (ho : PIp X op r ∧ OpD T K r g) (h : DE true T K X e t f) (hi : X.N[i]? = some x := by rfl) (hx : Loc X.env.scope x := by first | exact Or.inl rfl | exact Or.inr rfl) (hf : X.fn x = true ∨ X.env.scope.names.lookup x = some .local := by first | exact .inl rfl | exact .inr rfl) :
    DS T K X (.AugAssign (.Name x p') op e pos) (tAug i t r) (sAug i g f) [i] := ⟨ps_aug hN hi hx h.pe ho.1 hf, fun W ρ σ H fl D gd rp e' q => by
  obtain ⟨d, e1, e'⟩ := obind e'
  obtain ⟨y, e2, e'⟩ := obind e'
  obtain ⟨z, e3, e'⟩ := obind e'
  cases e'
  have hs : getS ρ i = .im d := by
    unfold fV at e1
    split at e1
    · rename_i d' hd'; cases e1; exact hd'
    · cases e1
  obtain ⟨v, h1, h2⟩ := rp.im i d hs
  refine ⟨v, h1, h.sd W ρ σ H y _ gd rp e2 fun u H1 x1 g1 r1 => ?_⟩
  refine ho.2 (wOf true W ρ σ) H1 v u d y z _ g1 (fun a w => (rp.ext x1).wo w) (h2.wo.ext x1) r1 e3 fun w' H2 x2 g2 r2 => ?_
  have x12 := x1.trans x2
  exact q _ H2 ⟨(rp.ext x12).setIm r2.wt, g2, x12.kp, fun a z => .inl (Own.set (fun _ y => Sl.noConfusion y) z), fun j hj => setσ_ne fun z => hj (by rw [z]; exact List.mem_singleton.mpr rfl)⟩⟩
theorem pipAdd : PIp X .Add (rI0 fun i j => .int (i + j)) ∧ OpD T K (rI0 fun i j => .int (i + j)) (gI (fun _ _ => true) fun i j => i + j) := ⟨iop_add, fun W H x y d e c Q g wl r1 r2 h q => by
  cases r1 with
  | int i =>
    cases r2 with
    | int j => cases h; exact ⟨i, j, rfl, rfl, q _ H (Ext.refl H) g (.int _)⟩
    | _ => cases h
  | _ => cases h⟩
theorem pipSub : PIp X .Sub (rI0 fun i j => .int (i - j)) ∧ OpD T K (rI0 fun i j => .int (i - j)) (gI (fun _ _ => true) fun i j => i - j) := ⟨iop_sub, fun W H x y d e c Q g wl r1 r2 h q => by
  cases r1 with
  | int i =>
    cases r2 with
    | int j => cases h; exact ⟨i, j, rfl, rfl, q _ H (Ext.refl H) g (.int _)⟩
    | _ => cases h
  | _ => cases h⟩

/-! ### a def, its call -/
def runF (n : Nat) (F : FnS) : List Dt → Option Dt := fun ds => (F (ds.map Sl.im ++ List.replicate (n - ds.length) .un)).bind fun fl => match fl with
  | .rt d => some d
  | .nx _ => some .non
  | _ => none
def spOf (T : List Addr) (K : PySem.W.Frag) (n : Nat) (run : List Dt → Option Dt) : Sp := fun vs H Q _ => ∃ (W : Addr → Prop) (ds : List Dt) (d : Dt), Gd T H ∧ (∀ a, W a → ∃ xs, H a = some (.lst xs)) ∧ RepA K H W vs ds ∧ ds.length = n ∧ run ds = some d ∧
  ∀ v H', Ext H H' → Gd T H' → Rep K H' W v d → Q v H'
theorem getS_app : ∀ (ds : List Dt) (k i : Nat), getS (ds.map Sl.im ++ List.replicate k .un) i = (match ds[i]? with | some d => .im d | none => .un)
  | [], k, i => by
    rw [List.map_nil, List.nil_append]
    show _ = Sl.un
    induction k generalizing i with
    | zero => exact getS_out (Nat.zero_le _)
    | succ k ih =>
      rw [List.replicate_succ]
      cases i with
      | zero => rfl
      | succ i => exact ih i
  | d :: ds, k, 0 => rfl
  | d :: ds, k, i + 1 => by
    show getS (ds.map Sl.im ++ List.replicate k .un) i = _
    rw [getS_app ds k i]
    rfl
theorem ok_def {P : Program} {w : World} {mg : Str → Option Value} {base : Heap} {qual : Str} {st : Stmt} {fo : Addr} {fd : FuncData} {N ps : List Str} {k : Nat} {F : FnS} (Fn : Fun K x qual st fo fd) (S : FnScope N ps (defScope st))
    (hbody : ∀ (cdv : Value) (A : Around) (outer : List Env) (s : Shared) (H : Hp) (E : XK), Room k (A.deeper (envOfC qual (defScope st) s.heap.objs.size fo cdv)) →
      ∃ t as, DSs T K (cxOf CX0 P w K mg base N qual (defScope st) fo cdv A outer s H E).nox (defBody st) t F as) (hn : ps.length ≤ N.length := by decide) : FnOk P w K mg base CX0 (k + 1) fo fd ps (spOf T K ps.length (runF N.length F)) := by
  refine Fn.ok S (fun vs H Q E h => ?_) (fun cdv A outer s H vs Q E hr h => ?_)
  · obtain ⟨W, ds, d, _, _, r, hl, _⟩ := h
    rw [r.length, hl]
  · obtain ⟨W, ds, d, g, wl, r, hl, e, q⟩ := h
    obtain ⟨t, as, hb⟩ := hbody cdv A outer s H E hr
    refine ⟨t, hb.ps, ?_⟩
    obtain ⟨fl, e1, e2⟩ := obind e
    have hvl := r.length
    have nown : ∀ a, ¬ Own (ds.map Sl.im ++ List.replicate (N.length - ds.length) .un) (L2.start N vs) a := fun a z => by
      obtain ⟨i, es, h1, _⟩ := z
      rw [getS_app] at h1
      cases hd : ds[i]? with
      | none => rw [hd] at h1; cases h1
      | some d' => rw [hd] at h1; cases h1
    have rp : Rp K H W (ds.map Sl.im ++ List.replicate (N.length - ds.length) .un) (L2.start N vs) := by
      refine ⟨?_, fun i d' h1 => ?_, fun i es h1 => ?_, fun i j di dj a h1 => ?_, wl⟩
      · unfold L2.start
        simp only [List.length_append, List.length_map, List.length_replicate, hvl]
      · rw [getS_app] at h1
        cases hd : ds[i]? with
        | none => rw [hd] at h1; cases h1
        | some d2 =>
          rw [hd] at h1
          cases h1
          obtain ⟨v, hv, rv⟩ := r.get hd
          refine ⟨v, ?_, rv.sub fun a _ _ z => z.elim (fun z => z) fun z => (nown a z).elim⟩
          unfold L2.start
          have hi : i < vs.length := (List.getElem?_eq_some_iff.mp hv).1
          rw [List.getElem?_append_left (by rw [List.length_map]; exact hi), List.getElem?_map, hv]
          rfl
      · rw [getS_app] at h1
        cases hd : ds[i]? with
        | none => rw [hd] at h1; cases h1
        | some d' => rw [hd] at h1; cases h1
      · rw [getS_app] at h1
        cases hd : ds[i]? with
        | none => rw [hd] at h1; cases h1
        | some d' => rw [hd] at h1; cases h1
    refine hb.sd W _ _ H fl _ g rp e1 ?_
    cases fl with
    | rt d' =>
      cases e2
      exact fun v H' kp g1 r1 => q v H' (kp.ext nown) g1 r1
    | nx ρ' =>
      cases e2
      exact fun σ' H' y => q .non H' (y.kp.ext nown) y.gd .non
    | bk ρ' => cases e2
    | ct ρ' => cases e2
theorem sd_fn {n : Nat} {run : List Dt → Option Dt} (ha : SdA m T K tr fr) : Sd m T K (tCall (spOf T K n run) [] E0 tr) (fun ρ => (fr ρ).bind fun ds => if ds.length = n then run ds else none) := fun W ρ σ H d Q g rp e' q => by
  obtain ⟨ds, e1, e'⟩ := obind e'
  by_cases hl : ds.length = n
  · rw [if_pos hl] at e'
    refine ha W ρ σ H ds _ g rp e1 fun vs H1 x1 g1 r1 => ?_
    refine ⟨wOf m W ρ σ, ds, d, g1, fun a z => (rp.ext x1).wo z, by rw [List.append_nil]; exact r1, hl, e', fun v H2 x2 g2 r2 => q v H2 (x1.trans x2) g2 r2⟩
  · rw [if_neg hl] at e'; cases e'
def fFn (n : Nat) (run : List Dt → Option Dt) (fr : FnL) : Fn := fun ρ => (fr ρ).bind fun ds => if ds.length = n then run ds else none
theorem de_call {kk : Nat} {fo : Addr} {fd : FuncData} {ps : List Str} {n : Nat} {run : List Dt → Option Dt} (F : FnOk X.prog X.w X.K X.mg X.base CX0 kk fo fd ps (spOf T K n run)) (hr : Room kk X.A) (hm : X.mg x = some (.ref fo)) (hk : PySem.W.keepIn X.K (.ref fo) = true) (hb : Binds X.K fd ps []) (ha : DA m T K X (e :: es) tr fr)
    (hg : Gl X x := by rfl) (hdb : (x == ("__debug__" : Str)) = false := by decide) (he : starEach (e :: es) X.env = (false, eval e X.env) :: starEach es X.env := by rfl) (hpl : (backTo pos (starEach es X.env)).any (·.1) = false := by rfl) :
    DE m T K X (.Call (.Name x p) (e :: es) [] pos) (tCall (spOf T K n run) [] E0 tr) (fFn n run fr) := ⟨pe_call F hr hg hm hk hb .nil pass0 ha.pa hdb he hpl, sd_fn ha.sd⟩
end
end EL
end

section
set_option Elab.async false
set_option maxRecDepth 100000
/-! EL isinstance, flat answers, the end of a law. -/
namespace EL
open PySem PySem.Spec PyProof.Rows L2

section
variable {m : Bool} {T : List Addr} {X : Cx} {K : PySem.W.Frag} {a b c e : Expr} {es : List Expr} {ta tb t : TE} {tr : TA} {f fa fb : Fn} {fr : FnL} {pos p p2 : Pos} {x : Str}
/-- an answer that is never a list is frozen whatever its parts are -/
theorem DE.flat (h : DE false T K X e t f) (hf : ∀ ρ d, f ρ = some d → d.free = true) : DE m T K X e t f := ⟨h.pe, fun W ρ σ H d Q g r e q => h.sd W ρ σ H d Q g r e fun v H' e1 g1 r1 => q v H' e1 g1 (r1.free (hf ρ d e))⟩
theorem fl_N {g : List Dt → Option Dt} (h : ∀ ds c, g ds = some c → c.free = true) : ∀ ρ d, fN g fr ρ = some d → d.free = true := fun ρ d e => by
  obtain ⟨ds, _, e2⟩ := obind e
  exact h ds d e2
theorem fl_len : ∀ ds c, gLen ds = some c → c.free = true := fun ds c h => by
  unfold gLen at h
  split at h
  · cases h; rfl
  · cases h; rfl
  · cases h; rfl
  · split at h <;> cases h
    rfl
  · cases h
theorem fl_abs : ∀ ds c, gAbs ds = some c → c.free = true := fun ds c h => by
  unfold gAbs at h
  split at h <;> cases h
  rfl
theorem fl_int : ∀ ds c, gInt ds = some c → c.free = true := fun ds c h => by
  unfold gInt at h
  split at h <;> cases h <;> rfl
theorem fl_max2 : ∀ ds c, gMax2 ds = some c → c.free = true := fun ds c h => by
  unfold gMax2 at h
  split at h <;> cases h
  rfl
theorem fl_min2 : ∀ ds c, gMin2 ds = some c → c.free = true := fun ds c h => by
  unfold gMin2 at h
  split at h <;> cases h
  rfl
theorem fl_sum : ∀ ds c, gSum ds = some c → c.free = true := fun ds c h => by
  unfold gSum at h
  split at h
  · obtain ⟨ns, _, h2⟩ := obind h
    cases h2
    rfl
  · cases h
theorem fl_all : ∀ ds c, gAll ds = some c → c.free = true := fun ds c h => by
  unfold gAll at h
  split at h
  · obtain ⟨ns, _, h2⟩ := obind h
    cases h2
    rfl
  · cases h
theorem fl_any : ∀ ds c, gAny ds = some c → c.free = true := fun ds c h => by
  unfold gAny at h
  split at h
  · obtain ⟨ns, _, h2⟩ := obind h
    cases h2
    rfl
  · cases h
theorem fl_maxL : ∀ ds c, gMaxL ds = some c → c.free = true := fun ds c h => by
  unfold gMaxL at h
  split at h
  · obtain ⟨ns, _, h2⟩ := obind h
    obtain ⟨k, _, h3⟩ := obind h2
    cases h3
    rfl
  · cases h
theorem fl_minL : ∀ ds c, gMinL ds = some c → c.free = true := fun ds c h => by
  unfold gMinL at h
  split at h
  · obtain ⟨ns, _, h2⟩ := obind h
    obtain ⟨k, _, h3⟩ := obind h2
    cases h3
    rfl
  · cases h
/-- sorted ints, whatever list they come from -/
theorem df_sortedI {q : Pos} (hm : X.mg "sorted" = none) (ha : DA false T K X [e] tr fr) (hg : Gl X "sorted" := by rfl) (hv : bootBuiltins "sorted" = some (.builtin "sorted") := by decide +kernel)
    (he : starEach [e] X.env = (false, eval e X.env) :: starEach [] X.env := by rfl) (hpl : (backTo pos (starEach [] X.env)).any (·.1) = false := by rfl) (hk : X.K = K := by rfl) :
    DF T K X (.Call (.Name "sorted" q) [e] [] pos) (tCB (rSortedI K) tr) (fNL gSorted fr) := by subst hk; exact ⟨pe_callB (kSortedL (T := T) rfl).1 hg hm hv ha.pa (by decide) (by decide) he hpl, fun W ρ σ H d Q gd rp e q => by
  obtain ⟨ds, ea, e⟩ := obind e
  refine ha.sd W ρ σ H ds _ gd rp ea fun vs H1 e1 g1 r1 => ?_
  refine (kSortedL (T := T) rfl).2 (wOf false W ρ σ) H1 vs ds d Q g1 (fun p z => (rp.ext e1).wo z) r1 e fun p us H2 e2 g2 hp hp2 r2 => ?_
  have hd : Dt.freeA d = true := by
    unfold gSorted at e
    split at e
    · obtain ⟨ns, _, h2⟩ := obind e
      cases h2
      generalize sortI ns = ms
      induction ms with
      | nil => rfl
      | cons m ms ih => show (true && Dt.freeA (ms.map Dt.int)) = true; rw [ih]; rfl
    · cases e
  exact q p us H2 (e1.trans e2) g2 (e1.there p hp) hp2 (r2.free hd)⟩
/-! ### list(range(..)), tuple(range(..)) -/
def SdR (T : List Addr) (K : PySem.W.Frag) (tr : L2.St → Hp → (Int → Int → Hp → Prop) → Prop) (f : Rho → Option (Int × Int)) : Prop :=
  ∀ (W : Addr → Prop) (ρ : Rho) (σ : L2.St) (H : Hp) (ij : Int × Int) (Q : Int → Int → Hp → Prop), Gd T H → Rp K H W ρ σ → f ρ = some ij → (∀ H', Ext H H' → Gd T H' → Q ij.1 ij.2 H') → tr σ H Q
structure DR (T : List Addr) (K : PySem.W.Frag) (X : Cx) (e : Expr) (tr : L2.St → Hp → (Int → Int → Hp → Prop) → Prop) (f : Rho → Option (Int × Int)) : Prop where
  pr : PRg X e tr
  sd : SdR T K tr f
def fR1 (a : Fn) : Rho → Option (Int × Int) := fun ρ => (a ρ).bind fun d => match d with | .int n => some (0, n) | _ => none
def fR2 (a b : Fn) : Rho → Option (Int × Int) := fun ρ => (a ρ).bind fun d => (b ρ).bind fun d' => match d, d' with | .int n, .int k => some (n, k) | _, _ => none
theorem dr_1 (h : DE false T K X a ta fa) (hm : X.mg "range" = none) (hg : Gl X "range" := by rfl) (na : starEach [a] X.env = (false, eval a X.env) :: starEach [] X.env := by rfl) : DR T K X (.Call (.Name "range" p) [a] [] pos) (tRg1 ta) (fR1 fa) := ⟨prg_1 hg hm h.pe na, fun W ρ σ H ij Q g r e q => by
  obtain ⟨d, ea, e⟩ := obind e
  refine h.sd W ρ σ H d _ g r ea fun v H1 e1 g1 r1 => ?_
  cases r1 with
  | int i => cases e; exact ⟨i, rfl, q H1 e1 g1⟩
  | _ => cases e⟩
theorem dr_2 (h : DE false T K X a ta fa) (h2 : DE false T K X b tb fb) (hm : X.mg "range" = none) (hg : Gl X "range" := by rfl) (na : starEach [a, b] X.env = (false, eval a X.env) :: starEach [b] X.env := by rfl) (nb : starEach [b] X.env = (false, eval b X.env) :: starEach [] X.env := by rfl) (np : (backTo pos (starEach [b] X.env)).any (·.1) = false := by rfl) :
    DR T K X (.Call (.Name "range" p) [a, b] [] pos) (tRg2 ta tb) (fR2 fa fb) := ⟨prg_2 hg hm h.pe h2.pe na nb np, fun W ρ σ H ij Q g r e q => by
  obtain ⟨d, ea, e⟩ := obind e
  obtain ⟨d', eb, e⟩ := obind e
  refine h.sd W ρ σ H d _ g r ea fun v H1 e1 g1 r1 => ?_
  refine h2.sd W ρ σ H1 d' _ g1 (r.ext e1) eb fun v' H2 e2 g2 r2 => ?_
  cases r1 with
  | int i =>
    cases r2 with
    | int j => cases e; exact ⟨i, j, rfl, rfl, q H2 (e1.trans e2) g2⟩
    | _ => cases e
  | _ => cases e⟩
noncomputable def okRg (ij : Int × Int) : Bool := cdc (-(2 ^ 62) ≤ ij.1 ∧ ij.1 < 2 ^ 62 ∧ -(2 ^ 62) ≤ ij.2 ∧ ij.2 < 2 ^ 62 ∧ (ij.2 - ij.1).toNat ≤ 2 ^ 24)
noncomputable def fLR (f : Rho → Option (Int × Int)) : FnL := fun ρ => (f ρ).bind fun ij => if okRg ij = true then some (rngD ij.1 ij.2) else none
noncomputable def fTR (f : Rho → Option (Int × Int)) : Fn := fun ρ => (f ρ).bind fun ij => if okRg ij = true then some (.tup (rngD ij.1 ij.2)) else none
theorem rep_rng {H : Hp} {W : Addr → Prop} (a b : Int) : RepA K H W (rgV a b) (rngD a b) := by
  unfold rgV rngD
  generalize List.range (b - a).toNat = l
  induction l with
  | nil => exact .nil
  | cons i l ih => exact .cons (.int _) ih
theorem rng_len (a b : Int) : (rngD a b).length = (b - a).toNat := by unfold rngD; rw [List.length_map, List.length_range]
theorem df_listR {tg : L2.St → Hp → (Int → Int → Hp → Prop) → Prop} {fr : Rho → Option (Int × Int)} (hc : X.calm = true) (h : DR T K X e tg fr) (hm : X.mg "list" = none) (hg : Gl X "list" := by rfl) (na : starEach [e] X.env = (false, eval e X.env) :: starEach [] X.env := by rfl) :
    DF T K X (.Call (.Name "list" p) [e] [] pos) (tLstRg tg) (fLR fr) := ⟨pe_listRg hc hg hm h.pr na, fun W ρ σ H d Q g r e q => by
  obtain ⟨ij, ea, e⟩ := obind e
  by_cases hz : okRg ij = true
  · rw [if_pos hz] at e
    cases e
    have hb := cdc_p hz
    refine h.sd W ρ σ H ij _ g r ea fun H1 e1 g1 => ⟨hb, fun l hl => ?_⟩
    refine q l _ _ (e1.trans (Ext.new hl)) (g1.newL hl ?_) (e1.there l hl) upd_same ((rep_rng ij.1 ij.2).newp hl)
    rw [rgV_length]
    exact hb.2.2.2.2
  · rw [if_neg hz] at e; cases e⟩
theorem de_tupR {tg : L2.St → Hp → (Int → Int → Hp → Prop) → Prop} {fr : Rho → Option (Int × Int)} (hc : X.calm = true) (h : DR T K X e tg fr) (hm : X.mg "tuple" = none) (hg : Gl X "tuple" := by rfl) (na : starEach [e] X.env = (false, eval e X.env) :: starEach [] X.env := by rfl) :
    DE m T K X (.Call (.Name "tuple" p) [e] [] pos) (tTupRg tg) (fTR fr) := ⟨pe_tupRg hc hg hm h.pr na, fun W ρ σ H d Q g r e q => by
  obtain ⟨ij, ea, e⟩ := obind e
  by_cases hz : okRg ij = true
  · rw [if_pos hz] at e
    cases e
    have hb := cdc_p hz
    refine h.sd W ρ σ H ij _ g r ea fun H1 e1 g1 => ⟨hb, fun l hl => ?_⟩
    refine q _ _ (e1.trans (Ext.new hl)) (g1.newT hl ?_) (.tup upd_same ((rep_rng ij.1 ij.2).ext (Ext.new hl)))
    rw [rgV_length]
    exact hb.2.2.2.2
  · rw [if_neg hz] at e; cases e⟩
/-! ### isinstance(e, T) -/
def Dt.ty : Dt → String
  | .non => "NoneType" | .bl _ => "bool" | .int _ => "int" | .str _ => "str" | .tup _ => "tuple" | .lst _ => "list" | .scr _ => "list"
def isiB (a b : String) : Bool := a == b || (a == "bool" && b == "int")
theorem isi_kit : ∀ a ∈ ["NoneType", "bool", "int", "str", "tuple", "list"], ∀ b ∈ ["bool", "int", "str", "tuple", "list"], kitB a b = some (isiB a b) := by decide +kernel
theorem Rep.ty {H : Hp} {W : Addr → Prop} {v : V} {d : Dt} (r : Rep K H W v d) : TyX K H v (.type d.ty) := by
  cases r with
  | non => exact .base .non
  | bl b => exact .base (.bl b)
  | int i => exact .base (.int i)
  | str z => exact .base (.str z)
  | tup h _ => exact .base (.tup h)
  | lst h _ _ => exact .base (.lst h)
  | scr h =>
    rcases h with ⟨o, h⟩ | ⟨o, its, n, h, c, _⟩
    · exact .base (.frz h)
    · exact .kList h c
theorem Dt.ty_mem (d : Dt) : d.ty ∈ ["NoneType", "bool", "int", "str", "tuple", "list"] := by cases d <;> simp [Dt.ty]
def fIsi (ty : String) (a : Fn) : Fn := fun ρ => (a ρ).bind fun d => some (.bl (isiB d.ty ty))
theorem de_isi {ty : Str} {tys : String} {q : Pos} (ha : DE false T K X a ta fa) (hm : X.mg "isinstance" = none) (hmt : X.mg ty = none) (hvt : bootBuiltins ty = some (.type tys) := by decide +kernel) (hmem : tys ∈ ["bool", "int", "str", "tuple", "list"] := by decide)
    (hg : Gl X "isinstance" := by rfl) (hgt : Gl X ty := by rfl) (hv : bootBuiltins "isinstance" = some (.builtin "isinstance") := by decide +kernel) (hn : ty ≠ "__name__" := by decide) (hdb : (ty == ("__debug__" : Str)) = false := by decide)
    (he : starEach [a, .Name ty p2] X.env = (false, eval a X.env) :: starEach [.Name ty p2] X.env := by rfl) (he2 : starEach [.Name ty p2] X.env = (false, eval (.Name ty p2) X.env) :: starEach [] X.env := by rfl) (hpl : (backTo pos (starEach [.Name ty p2] X.env)).any (·.1) = false := by rfl) (hk : X.K = K := by rfl) :
    DE m T K X (.Call (.Name "isinstance" q) [a, .Name ty p2] [] pos) (tCB (rIsi K) (tCons ta (tCons (tC (.ty tys)) tNil))) (fIsi tys fa) := by
  subst hk
  exact ⟨pe_callB call_isi hg hm hv (pa_cons ha.pe (pa_cons (pe_bltn (v := .ty tys) hgt hmt hvt rfl hn hdb) pa_nil he2) he) (by decide) (by decide) he hpl, fun W ρ σ H d Q g r e q => by
  obtain ⟨x, ea, e⟩ := obind e
  cases e
  refine ha.sd W ρ σ H x _ g r ea fun v H1 e1 g1 r1 => ?_
  exact ⟨v, .ty tys, _, _, _, rfl, .ty tys, r1.ty, kit_ty (isi_kit _ x.ty_mem _ hmem), q _ H1 e1 g1 (.bl _)⟩⟩
/-! ### gcd -/
def gGcd : List Dt → Option Dt
  | [.int a, .int b] => some (.int ((Nat.gcd a.natAbs b.natAbs : Nat) : Int))
  | _ => none
theorem fl_gcd : ∀ ds c, gGcd ds = some c → c.free = true := fun ds c h => by
  unfold gGcd at h
  split at h <;> cases h
  rfl
theorem kGcd : CallR X (.builtin "math.gcd") rGcd ∧ CallD T K rGcd gGcd := ⟨cr_gcd, fun W H vs ds c Q g wl r h q => by
  match ds, h with
  | [x0], h => cases x0 <;> cases h
  | x0 :: x1 :: _ :: _, h => cases x0 <;> cases x1 <;> cases h
  | [d, d'], h =>
    obtain ⟨v, v', rfl, r1, r2⟩ := repA2 r
    cases r1 with
    | int i =>
      cases r2 with
      | int j => cases h; exact ⟨i, j, rfl, q _ H (Ext.refl H) g (.int _)⟩
      | _ => cases h
    | _ => cases h⟩
theorem de_callM {id : String} {r : List V → Hp → VK → Prop} {g : List Dt → Option Dt} (h : CallR X (.builtin id) r ∧ CallD T K r g) (hm : X.mg x = some (.builtin id)) (ha : DA m T K X (e :: es) tr fr) (hg : Gl X x := by rfl)
    (hdb : (x == ("__debug__" : Str)) = false := by decide) (he : starEach (e :: es) X.env = (false, eval e X.env) :: starEach es X.env := by rfl) (hpl : (backTo pos (starEach es X.env)).any (·.1) = false := by rfl) :
    DE m T K X (.Call (.Name x p) (e :: es) [] pos) (tCB r tr) (fN g fr) := ⟨pe_callBfun h.1 hg hm ha.pa hdb he hpl, sd_call h.2 ha.sd⟩
end
theorem hu65 {k : Nat} {A : Around} (r : Room k A) : A.units + 65 < cLine := by have := r.un; omega
/-- a promise about nothing -/
theorem ok_none {P : Program} {w : World} {K : PySem.W.Frag} {mg : Str → Option Value} {base : Heap} {k : Nat} {fo : Addr} {fd : FuncData} {ps : List Str} {T : List Addr} {n : Nat} : FnOk P w K mg base CX0 k fo fd ps (spOf T K n fun _ => none) :=
  ⟨fun vs H Q E h => (by obtain ⟨_, _, _, _, _, _, _, e, _⟩ := h; cases e), fun A outer s H args us vs Q E _ _ _ _ h => (by obtain ⟨_, _, _, _, _, _, _, e, _⟩ := h; cases e)⟩
theorem sp_end {K : PySem.W.Frag} {H : Hp} {a : Addr} {ns : List Int} {run : List Dt → Option Dt} (hO : Only H) (hS : SqL K H a (ns.map V.int)) (h : run [.scr ns] = some (.bl true)) : spOf [] K 1 run [.ref a] H (fun v _ => v = .bl true) fun _ _ _ => False := by
  refine ⟨NoW, [.scr ns], .bl true, ⟨fun b xs e => ?_, fun P hP => by cases hP⟩, fun _ z => z.elim, .one (.scr ?_), rfl, h, fun v H' _ _ r => by cases r; rfl⟩
  · rcases hO b with q | ⟨o, ys, q⟩ <;> rcases e with e | e <;> rw [q] at e <;> cases e
  · rcases hS with (h | ⟨o, h⟩) | h
    · rcases hO a with q | ⟨o, ys, q⟩ <;> rw [q] at h <;> cases h
    · exact .inl ⟨o, h⟩
    · exact .inr h
end EL
end

section
set_option Elab.async false
set_option maxRecDepth 100000
/-! EL: functions of the slots reckoned with. -/
namespace EL
open PySem

/-- keeps a plain equation out of dsimp's hands: the kernel then need not unfold a test with big numbers -/
theorem nd {α : Sort u} {a b : α} (h : a = b) : a = b := h
/-! ### slots -/
@[simp] theorem getS_z (s : Sl) (r : Rho) : getS (s :: r) 0 = s := rfl
@[simp] theorem getS_s (s : Sl) (r : Rho) (n : Nat) : getS (s :: r) (n + 1) = getS r n := rfl
@[simp] theorem setS_z (s x : Sl) (r : Rho) : setS (s :: r) 0 x = x :: r := rfl
@[simp] theorem setS_s (s x : Sl) (r : Rho) (n : Nat) : setS (s :: r) (n + 1) x = s :: setS r n x := rfl
@[simp] theorem clr_t (b : List Bool) (s : Sl) (r : Rho) : clr (true :: b) (s :: r) = s :: clr b r := rfl
@[simp] theorem clr_f (b : List Bool) (s : Sl) (r : Rho) : clr (false :: b) (s :: r) = .un :: clr b r := rfl
@[simp] theorem clr_n (r : Rho) : clr [] r = r := by cases r <;> rfl
@[simp] theorem clr_e (b : List Bool) : clr b [] = [] := by cases b <;> rfl
@[simp] theorem owned_def (ρ : Rho) (i : Nat) : owned ρ i = match getS ρ i with | .ow ds => some ds | _ => none := rfl
@[simp] theorem frzs_n (ρ : Rho) : frzs [] ρ = ρ := rfl
@[simp] theorem frzs_c (i : Nat) (is : List Nat) (ρ : Rho) : frzs (i :: is) ρ = frzs is (frz i ρ) := rfl
@[simp] theorem wipeR_n (ρ : Rho) : wipeR ρ [] = ρ := rfl
@[simp] theorem wipeR_c (ρ : Rho) (v : Nat) (vs : List Nat) : wipeR ρ (v :: vs) = setS (wipeR ρ vs) v .un := rfl
@[simp] theorem noOw_n (ρ : Rho) : noOw ρ [] = true := rfl
@[simp] theorem noOw_c (ρ : Rho) (v : Nat) (vs : List Nat) : noOw ρ (v :: vs) = ((match getS ρ v with | .ow _ => false | _ => true) && noOw ρ vs) := rfl
/-! ### expressions -/
@[simp] theorem fC_a (d : Dt) (ρ : Rho) : fC d ρ = some d := rfl
@[simp] theorem fV_a (i : Nat) (ρ : Rho) : fV i ρ = match getS ρ i with | .im d => some d | _ => none := rfl
@[simp] theorem fVb_a (i : Nat) (ρ : Rho) : fVb i ρ = match getS ρ i with | .im d => some d | .ow ds => some (.lst ds) | .un => none := rfl
@[simp] theorem fOwn_a (i : Nat) (ρ : Rho) : fOwn i ρ = match getS ρ i with | .ow ds => some ds | _ => none := rfl
@[simp] theorem f1_a (g : Dt → Option Dt) (a : Fn) (ρ : Rho) : f1 g a ρ = (a ρ).bind g := rfl
@[simp] theorem f1L_a (g : Dt → Option (List Dt)) (a : Fn) (ρ : Rho) : f1L g a ρ = (a ρ).bind g := rfl
@[simp] theorem f2_a (g : Dt → Dt → Option Dt) (a b : Fn) (ρ : Rho) : f2 g a b ρ = (a ρ).bind fun x => (b ρ).bind fun y => g x y := rfl
@[simp] theorem fA0_a (ρ : Rho) : fA0 ρ = some [] := rfl
@[simp] theorem fAc_a (a : Fn) (r : FnL) (ρ : Rho) : fAc a r ρ = (a ρ).bind fun x => (r ρ).bind fun xs => some (x :: xs) := rfl
@[simp] theorem fN_a (g : List Dt → Option Dt) (a : FnL) (ρ : Rho) : fN g a ρ = (a ρ).bind g := rfl
@[simp] theorem fNL_a (g : List Dt → Option (List Dt)) (a : FnL) (ρ : Rho) : fNL g a ρ = (a ρ).bind g := rfl
@[simp] theorem fIf_a (c : FnB) (a b : Fn) (ρ : Rho) : fIf c a b ρ = (c ρ).bind fun k => if k = true then a ρ else b ρ := rfl
@[simp] theorem fTru_a (a : Fn) (ρ : Rho) : fTru a ρ = (a ρ).bind Dt.tru := rfl
@[simp] theorem fB_a (a : Fn) (ρ : Rho) : fB a ρ = (a ρ).bind fun d => match d with | .bl b => some b | _ => none := rfl
@[simp] theorem fAnd_a (a b : FnB) (ρ : Rho) : fAnd a b ρ = (a ρ).bind fun k => if k = true then b ρ else some false := rfl
@[simp] theorem fOr_a (a b : FnB) (ρ : Rho) : fOr a b ρ = (a ρ).bind fun k => if k = true then some true else b ρ := rfl
@[simp] theorem fNot_a (a : FnB) (ρ : Rho) : fNot a ρ = (a ρ).bind fun k => some (!k) := rfl
@[simp] theorem fOfB_a (a : FnB) (ρ : Rho) : fOfB a ρ = (a ρ).bind fun k => some (.bl k) := rfl
@[simp] theorem fAndV_a (a b : Fn) (ρ : Rho) : fAndV a b ρ = (fB a ρ).bind fun k => if k = true then b ρ else some (.bl false) := rfl
@[simp] theorem fOrV_a (a b : Fn) (ρ : Rho) : fOrV a b ρ = (fB a ρ).bind fun k => if k = true then some (.bl true) else b ρ := rfl
@[simp] theorem fCmp_a (g : Dt → Dt → Option Bool) (a b : Fn) (ρ : Rho) : fCmp g a b ρ = (a ρ).bind fun x => (b ρ).bind fun y => g x y := rfl
@[simp] theorem fChain_a (g g' : Dt → Dt → Option Bool) (a b c : Fn) (ρ : Rho) : fChain g g' a b c ρ = (a ρ).bind fun x => (b ρ).bind fun y => (g x y).bind fun k => if k = true then (c ρ).bind fun z => g' y z else some false := rfl
@[simp] theorem fFree_a (a : Fn) (ρ : Rho) : fFree a ρ = (a ρ).bind fun d => if d.free = true then some d else none := rfl
@[simp] theorem fLst_a (a : FnL) (ρ : Rho) : fLst a ρ = (a ρ).bind fun ds => some (.lst ds) := rfl
@[simp] theorem fTup_a (a : FnL) (ρ : Rho) : fTup a ρ = (a ρ).bind fun ds => if ds.length ≤ 1000 then some (.tup ds) else none := nd rfl
@[simp] theorem fLstL_a (a : FnL) (ρ : Rho) : fLstL a ρ = (a ρ).bind fun ds => if ds.length ≤ 1000 then some ds else none := nd rfl
@[simp] theorem fNoP_a (ρ : Rho) : fNoP ρ = some none := rfl
@[simp] theorem fPart_a (a : Fn) (ρ : Rho) : fPart a ρ = (a ρ).bind fun d => match d with | .int i => some (some i) | _ => none := rfl
@[simp] theorem fSl_a (a : Fn) (lo hi : FnO) (ρ : Rho) : fSl a lo hi ρ = (a ρ).bind fun d => (lo ρ).bind fun i => (hi ρ).bind fun j => gSl d i j := rfl
@[simp] theorem fIsi_a (t : String) (a : Fn) (ρ : Rho) : fIsi t a ρ = (a ρ).bind fun d => some (.bl (isiB d.ty t)) := rfl
@[simp] theorem fFn_a (n : Nat) (run : List Dt → Option Dt) (a : FnL) (ρ : Rho) : fFn n run a ρ = (a ρ).bind fun ds => if ds.length = n then run ds else none := rfl
@[simp] theorem fR1_a (a : Fn) (ρ : Rho) : fR1 a ρ = (a ρ).bind fun d => match d with | .int n => some ((0 : Int), n) | _ => none := rfl
@[simp] theorem fR2_a (a b : Fn) (ρ : Rho) : fR2 a b ρ = (a ρ).bind fun d => (b ρ).bind fun d' => match d, d' with | .int n, .int k => some (n, k) | _, _ => none := rfl
@[simp] theorem fLR_a (f : Rho → Option (Int × Int)) (ρ : Rho) : fLR f ρ = (f ρ).bind fun ij => if okRg ij = true then some (rngD ij.1 ij.2) else none := nd rfl
@[simp] theorem fTR_a (f : Rho → Option (Int × Int)) (ρ : Rho) : fTR f ρ = (f ρ).bind fun ij => if okRg ij = true then some (.tup (rngD ij.1 ij.2)) else none := nd rfl
@[simp] theorem fComp_a (fi : FnL) (gf : Dt → Rho → Option Rho) (ft : FnB) (fe : Fn) (vs : List Nat) (ρ : Rho) : fComp fi gf ft fe vs ρ = (fi ρ).bind fun ds => if noOw ρ vs = true ∧ ds.length ≤ sizeLine then compGo (wipeR ρ vs) gf ft fe ds else none := nd rfl
@[simp] theorem fYes_a (ρ : Rho) : fYes ρ = some true := rfl
@[simp] theorem hName_a (i : Nat) (d : Dt) (ρ : Rho) : hName i d ρ = some (setS ρ i (.im d)) := rfl
@[simp] theorem hTup_a (n : Nat) (g : List Dt → Rho → Option Rho) (ds : List Dt) (ρ : Rho) : hTup n g (.tup ds) ρ = if ds.length = n then g ds ρ else none := rfl
@[simp] theorem hCons_a (g : Dt → Rho → Option Rho) (gs : List Dt → Rho → Option Rho) (d : Dt) (r : List Dt) (ρ : Rho) : hCons g gs (d :: r) ρ = (g d ρ).bind fun ρ' => gs r ρ' := rfl
@[simp] theorem hNil_a (ρ : Rho) : hNil [] ρ = some ρ := rfl
/-! ### statements -/
@[simp] theorem sNil_a (ρ : Rho) : sNil ρ = some (.nx ρ) := rfl
@[simp] theorem sRet_a (f : Fn) (ρ : Rho) : sRet f ρ = (f ρ).bind fun d => some (.rt d) := rfl
@[simp] theorem sExpr_a (f : Fn) (ρ : Rho) : sExpr f ρ = (f ρ).bind fun _ => some (.nx ρ) := rfl
@[simp] theorem sSet_a (i : Nat) (f : Fn) (ρ : Rho) : sSet i f ρ = (f ρ).bind fun d => some (.nx (setS ρ i (.im d))) := rfl
@[simp] theorem sSetF_a (i : Nat) (f : FnL) (ρ : Rho) : sSetF i f ρ = (f ρ).bind fun ds => some (.nx (setS ρ i (.ow ds))) := rfl
@[simp] theorem sAsg_a (f : Fn) (gf : Dt → Rho → Option Rho) (ρ : Rho) : sAsg f gf ρ = (f ρ).bind fun d => (gf d ρ).bind fun ρ' => some (.nx ρ') := rfl
@[simp] theorem sIf_a (c : FnB) (F G : FnS) (ρ : Rho) : sIf c F G ρ = (c ρ).bind fun k => if k = true then F ρ else G ρ := rfl
@[simp] theorem sPar_a (i j : Nat) (fr : FnL) (ρ : Rho) : sPar i j fr ρ = (fr ρ).bind fun ds => match ds with | [d, d'] => some (.nx (setS (setS ρ i (.im d)) j (.im d'))) | _ => none := rfl
@[simp] theorem sMut_a (i : Nat) (g : List Dt → List Dt → Option (List Dt)) (fr : FnL) (ρ : Rho) : sMut i g fr ρ = (owned ρ i).bind fun xd => (fr ρ).bind fun vd => (g xd vd).bind fun yd => some (.nx (setS ρ i (.ow yd))) := rfl
@[simp] theorem sPut_a (i : Nat) (fk fe : Fn) (ρ : Rho) : sPut i fk fe ρ = (fe ρ).bind fun d => (owned ρ i).bind fun xd => (fk ρ).bind fun k => match k with
  | .int n => (L2.ixN xd.length n).bind fun j => some (.nx (setS ρ i (.ow (xd.set j d))))
  | _ => none := rfl
@[simp] theorem sAug_a (i : Nat) (g : Dt → Dt → Option Dt) (f : Fn) (ρ : Rho) : sAug i g f ρ = (fV i ρ).bind fun x => (f ρ).bind fun y => (g x y).bind fun z => some (.nx (setS ρ i (.im z))) := rfl
@[simp] theorem sFrz_a (is : List Nat) (F : FnS) (ρ : Rho) : sFrz is F ρ = F (frzs is ρ) := rfl
@[simp] theorem sClr_a (b : List Bool) (F : FnS) (ρ : Rho) : sClr b F ρ = F (clr b ρ) := rfl
@[simp] theorem sFor_a (fi : FnL) (gf : Dt → Rho → Option Rho) (mk : List Bool) (F : FnS) (ρ : Rho) : sFor fi gf mk F ρ = (fi ρ).bind fun ds => forGo gf mk F ds (clr mk ρ) := rfl
theorem sSeq_nx {F G : FnS} {ρ ρ' : Rho} (h : F ρ = some (.nx ρ')) : sSeq F G ρ = G ρ' := by unfold sSeq; rw [h]; rfl
theorem sSeq_rt {F G : FnS} {ρ : Rho} {d : Dt} (h : F ρ = some (.rt d)) : sSeq F G ρ = some (.rt d) := by unfold sSeq; rw [h]; rfl
/-- what follows a statement's end -/
def sThen (G : FnS) : Fl → Option Fl
  | .nx ρ' => G ρ'
  | .rt d => some (.rt d)
  | .bk ρ' => some (.bk ρ')
  | .ct ρ' => some (.ct ρ')
@[simp] theorem sThen_nx (G : FnS) (ρ : Rho) : sThen G (.nx ρ) = G ρ := rfl
@[simp] theorem sThen_rt (G : FnS) (d : Dt) : sThen G (.rt d) = some (.rt d) := rfl
@[simp] theorem sThen_bk (G : FnS) (ρ : Rho) : sThen G (.bk ρ) = some (.bk ρ) := rfl
@[simp] theorem sThen_ct (G : FnS) (ρ : Rho) : sThen G (.ct ρ) = some (.ct ρ) := rfl
@[simp] theorem sSeq_a (F G : FnS) (ρ : Rho) : sSeq F G ρ = (F ρ).bind (sThen G) := by
  unfold sSeq
  congr 1
theorem sThen_if (G : FnS) (c : Prop) [Decidable c] (a b : Fl) : sThen G (if c then a else b) = if c then sThen G a else sThen G b := by split <;> rfl
theorem bind_ite {α β : Type} (c : Prop) [Decidable c] (a b : Option α) (f : α → Option β) : (if c then a else b).bind f = if c then a.bind f else b.bind f := by split <;> rfl
/-- what a def hands back -/
def endOf : Fl → Option Dt
  | .rt d => some d
  | .nx _ => some .non
  | _ => none
@[simp] theorem endOf_rt (d : Dt) : endOf (.rt d) = some d := rfl
@[simp] theorem endOf_nx (ρ : Rho) : endOf (.nx ρ) = some .non := rfl
theorem runF_a (n : Nat) (F : FnS) (ds : List Dt) : runF n F ds = (F (ds.map Sl.im ++ List.replicate (n - ds.length) .un)).bind endOf := by
  unfold runF
  congr 1
theorem runF_of {n : Nat} {F : FnS} {ds : List Dt} {fl : Fl} (h : F (ds.map Sl.im ++ List.replicate (n - ds.length) .un) = some fl) : runF n F ds = endOf fl := by rw [runF_a, h]; rfl
/-! ### operations on data -/
@[simp] theorem gAdd_i (i j : Int) : gAdd (.int i) (.int j) = some (.int (i + j)) := rfl
@[simp] theorem gMinus_i (i j : Int) : gMinus (.int i) (.int j) = some (.int (i - j)) := rfl
@[simp] theorem gI_i (C : Int → Int → Bool) (f : Int → Int → Int) (i j : Int) : gI C f (.int i) (.int j) = if C i j = true then some (.int (f i j)) else none := nd rfl
@[simp] theorem gMul_i (i j : Int) : gMul (.int i) (.int j) = if cMul i j = true then some (.int (i * j)) else none := nd rfl
@[simp] theorem gNeg_i (i : Int) : gNeg (.int i) = some (.int (-i)) := rfl
@[simp] theorem gII_i (f : Int → Int → Bool) (i j : Int) : gII f (.int i) (.int j) = some (f i j) := rfl
@[simp] theorem bLt_a (i j : Int) : bLt i j = decide (i < j) := rfl
@[simp] theorem bLe_a (i j : Int) : bLe i j = decide (i ≤ j) := rfl
@[simp] theorem bGt_a (i j : Int) : bGt i j = decide (j < i) := rfl
@[simp] theorem bGe_a (i j : Int) : bGe i j = decide (j ≤ i) := rfl
@[simp] theorem gEq_i (i j : Int) : gEq (.int i) (.int j) = some (decide (i = j)) := by
  show some (PyData.eqv (Dt.py (.int i)) (Dt.py (.int j))) = _
  simp only [Dt.py, PyData.eqv]
  rw [Bool.beq_eq_decide_eq]
@[simp] theorem gNe_i (i j : Int) : gNe (.int i) (.int j) = some (!decide (i = j)) := by
  show some (!PyData.eqv (Dt.py (.int i)) (Dt.py (.int j))) = _
  simp only [Dt.py, PyData.eqv]
  rw [Bool.beq_eq_decide_eq]
@[simp] theorem gEq_b (i j : Bool) : gEq (.bl i) (.bl j) = some (i == j) := by
  show some (PyData.eqv (Dt.py (.bl i)) (Dt.py (.bl j))) = _
  simp only [Dt.py, PyData.eqv]
@[simp] theorem gNe_b (i j : Bool) : gNe (.bl i) (.bl j) = some (!(i == j)) := by
  show some (!PyData.eqv (Dt.py (.bl i)) (Dt.py (.bl j))) = _
  simp only [Dt.py, PyData.eqv]
@[simp] theorem gIsN_n : gIsN .non .non = some true := rfl
@[simp] theorem gIsN_i (i : Int) : gIsN (.int i) .non = some false := rfl
@[simp] theorem gIsN_t (l : List Dt) : gIsN (.tup l) .non = some false := rfl
@[simp] theorem gIsN_s (l : Str) : gIsN (.str l) .non = some false := rfl
@[simp] theorem gIsN_b (b : Bool) : gIsN (.bl b) .non = some false := rfl
@[simp] theorem gIsN_l (l : List Dt) : gIsN (.lst l) .non = some false := rfl
@[simp] theorem gNotN_n : gNotN .non .non = some false := rfl
@[simp] theorem gNotN_i (i : Int) : gNotN (.int i) .non = some true := rfl
@[simp] theorem gNotN_t (l : List Dt) : gNotN (.tup l) .non = some true := rfl
@[simp] theorem gNotN_s (l : Str) : gNotN (.str l) .non = some true := rfl
@[simp] theorem gNotN_b (b : Bool) : gNotN (.bl b) .non = some true := rfl
@[simp] theorem gNotN_l (l : List Dt) : gNotN (.lst l) .non = some true := rfl
@[simp] theorem gLen_l (l : List Dt) : gLen [.lst l] = some (.int l.length) := nd rfl
@[simp] theorem gLen_t (l : List Dt) : gLen [.tup l] = some (.int l.length) := nd rfl
@[simp] theorem gLen_s (l : List Int) : gLen [.scr l] = some (.int l.length) := nd rfl
@[simp] theorem gAbs_i (i : Int) : gAbs [.int i] = some (.int (if i < 0 then -i else i)) := rfl
@[simp] theorem gInt_i (i : Int) : gInt [.int i] = some (.int i) := rfl
@[simp] theorem gMax2_i (i j : Int) : gMax2 [.int i, .int j] = some (.int (if j > i then j else i)) := rfl
@[simp] theorem gMin2_i (i j : Int) : gMin2 [.int i, .int j] = some (.int (if j < i then j else i)) := rfl
@[simp] theorem gGcd_i (i j : Int) : gGcd [.int i, .int j] = some (.int ((Nat.gcd i.natAbs j.natAbs : Nat) : Int)) := rfl
@[simp] theorem gTuple_l (l : List Dt) : gTuple [.lst l] = some (.tup l) := rfl
@[simp] theorem gTuple_t (l : List Dt) : gTuple [.tup l] = some (.tup l) := rfl
@[simp] theorem gList_l (l : List Dt) : gList [.lst l] = some l := rfl
@[simp] theorem gList_t (l : List Dt) : gList [.tup l] = some l := rfl
@[simp] theorem gItems_l (l : List Dt) : gItems (.lst l) = some l := rfl
@[simp] theorem gItems_t (l : List Dt) : gItems (.tup l) = some l := rfl
@[simp] theorem gItems_s (z : Str) : gItems (.str z) = some (signs z) := rfl
theorem gRng1_i (j : Int) : gRng1 [.int j] = if okR j = true then some (rngD 0 j) else none := nd rfl
theorem gRng2_i (i j : Int) : gRng2 [.int i, .int j] = if okR i = true ∧ okR j = true then some (rngD i j) else none := nd rfl
@[simp] theorem gSum_l (l : List Int) : gSum [.lst (l.map Dt.int)] = some (.int l.sum) := by
  show ((ints? (l.map Dt.int)).bind fun ns => some (Dt.int ns.sum)) = _
  rw [ints?_map]; rfl
@[simp] theorem gAll_l (l : List Bool) : gAll [.lst (l.map Dt.bl)] = some (.bl (l.all id)) := by
  show ((bools? (l.map Dt.bl)).bind fun ns => some (Dt.bl (ns.all id))) = _
  rw [bools?_map]; rfl
@[simp] theorem gAny_l (l : List Bool) : gAny [.lst (l.map Dt.bl)] = some (.bl (l.any id)) := by
  show ((bools? (l.map Dt.bl)).bind fun ns => some (Dt.bl (ns.any id))) = _
  rw [bools?_map]; rfl
@[simp] theorem gSorted_l (l : List Int) : gSorted [.lst (l.map Dt.int)] = some ((sortI l).map Dt.int) := by
  show ((ints? (l.map Dt.int)).bind fun ns => some ((sortI ns).map Dt.int)) = _
  rw [ints?_map]; rfl
@[simp] theorem gAppend_a (xs : List Dt) (y : Dt) : gAppend xs [y] = if xs.length < sizeLine then some (xs ++ [y]) else none := nd rfl
@[simp] theorem gExtend_a (xs ys : List Dt) : gExtend xs [.lst ys] = if xs.length + ys.length ≤ sizeLine then some (xs ++ ys) else none := nd rfl
@[simp] theorem gInsert_a (xs : List Dt) (i : Int) (y : Dt) : gInsert xs [.int i, y] = if xs.length < sizeLine ∧ 0 ≤ i ∧ i < 2 ^ 63 then some (xs.take i.toNat ++ [y] ++ xs.drop i.toNat) else none := nd rfl
@[simp] theorem tru_b (b : Bool) : Dt.tru (.bl b) = some b := rfl
@[simp] theorem tru_n : Dt.tru .non = some false := rfl
@[simp] theorem tru_i (i : Int) : Dt.tru (.int i) = some (i != 0) := rfl
@[simp] theorem tru_t (l : List Dt) : Dt.tru (.tup l) = some (!l.isEmpty) := rfl
@[simp] theorem tru_l (l : List Dt) : Dt.tru (.lst l) = some (!l.isEmpty) := rfl
@[simp] theorem gSl_l (l : List Dt) (i j : Option Int) : gSl (.lst l) i j = some (.lst (cutL l i j)) := rfl
@[simp] theorem gSl_t (l : List Dt) (i j : Option Int) : gSl (.tup l) i j = some (.tup (cutL l i j)) := rfl
/-! x[i] -/
theorem atI_ok {α : Type} {xs : List α} {i : Int} (h0 : 0 ≤ i) (h : i.toNat < xs.length) : L2.atI xs i = some xs[i.toNat] := by
  unfold L2.atI L2.ixN
  rw [if_pos h0, if_pos (by omega)]
  simp [h]
theorem atI_neg {α : Type} {xs : List α} {i : Int} (h0 : i < 0) (h : -(xs.length : Int) ≤ i) : L2.atI xs i = some (xs[(i + xs.length).toNat]'(by omega)) := by
  unfold L2.atI L2.ixN
  rw [if_neg (by omega), if_pos h]
  show xs[(i + (xs.length : Int)).toNat]? = _
  rw [List.getElem?_eq_getElem]
@[simp] theorem gIx_l (l : List Dt) (i : Int) : gIx (.lst l) (.int i) = L2.atI l i := rfl
@[simp] theorem gIx_t (l : List Dt) (i : Int) : gIx (.tup l) (.int i) = L2.atI l i := rfl
theorem gIx_s (l : List Int) (i : Int) : gIx (.scr l) (.int i) = (L2.atI l i).map Dt.int := rfl
theorem atI_map_int {l : List Int} {i : Int} (h0 : 0 ≤ i) (h : i.toNat < l.length) : L2.atI (l.map Dt.int) i = some (.int (l.getD i.toNat 0)) := by
  rw [atI_ok h0 (by simpa using h)]
  simp [List.getD, h]
theorem atI_mapf {α : Type} (f : α → Dt) {l : List α} {i : Int} (h0 : 0 ≤ i) (h : i.toNat < l.length) : L2.atI (l.map f) i = some (f l[i.toNat]) := by
  rw [atI_ok h0 (by simpa using h)]
  simp
@[simp] theorem atI_c0 (d : Dt) (r : List Dt) : L2.atI (d :: r) 0 = some d := by rw [atI_ok (by omega) (by simp)]; rfl
@[simp] theorem atI_c1 (a d : Dt) (r : List Dt) : L2.atI (a :: d :: r) 1 = some d := by rw [atI_ok (by omega) (by simp)]; rfl
@[simp] theorem atI_c2 (a b d : Dt) (r : List Dt) : L2.atI (a :: b :: d :: r) 2 = some d := by rw [atI_ok (by omega) (by simp)]; rfl
@[simp] theorem atI_c3 (a b c d : Dt) (r : List Dt) : L2.atI (a :: b :: c :: d :: r) 3 = some d := by rw [atI_ok (by omega) (by simp)]; rfl
/-! ### loops -/
/-- one turn of a for -/
def turn (gf : Dt → Rho → Option Rho) (mk : List Bool) (F : FnS) (d : Dt) (ρ : Rho) : Option Fl := (gf d ρ).bind fun ρ1 => (F ρ1).bind fun fl => match fl with
  | .nx ρ2 => some (.nx (clr mk ρ2))
  | .ct ρ2 => some (.nx (clr mk ρ2))
  | .bk ρ2 => some (.bk (clr mk ρ2))
  | .rt d => some (.rt d)
theorem forGo_nil {gf : Dt → Rho → Option Rho} {mk : List Bool} {F : FnS} {ρ : Rho} : forGo gf mk F [] ρ = some (.nx ρ) := rfl
theorem forGo_cons {gf : Dt → Rho → Option Rho} {mk : List Bool} {F : FnS} {d : Dt} {ds : List Dt} {ρ : Rho} : forGo gf mk F (d :: ds) ρ = (turn gf mk F d ρ).bind fun fl => match fl with
    | .nx ρ' => forGo gf mk F ds ρ'
    | .bk ρ' => some (.nx ρ')
    | .rt d => some (.rt d)
    | .ct _ => none := by
  show ((gf d ρ).bind fun ρ1 => (F ρ1).bind fun fl => _) = _
  unfold turn
  cases gf d ρ with
  | none => rfl
  | some ρ1 =>
    simp only [Option.bind_some]
    cases F ρ1 with
    | none => rfl
    | some fl => cases fl <;> rfl
/-- a for that runs through -/
theorem for_fold {α β : Type} {gf : Dt → Rho → Option Rho} {mk : List Bool} {F : FnS} (enc : α → Dt) (S : β → Rho) (step : β → α → β) (I : β → List α → Prop) :
    ∀ (xs : List α) (s : β), I s xs → (∀ s x r, I s (x :: r) → turn gf mk F (enc x) (S s) = some (.nx (S (step s x))) ∧ I (step s x) r) → forGo gf mk F (xs.map enc) (S s) = some (.nx (S (xs.foldl step s)))
  | [], s, _, _ => rfl
  | x :: xs, s, hi, h => by
    obtain ⟨h1, h2⟩ := h s x xs hi
    rw [List.map_cons, forGo_cons, h1]
    exact for_fold enc S step I xs (step s x) h2 h
/-- a for by an invariant -/
theorem for_inv {gf : Dt → Rho → Option Rho} {mk : List Bool} {F : FnS} (I : List Dt → Rho → Prop) (Q : Fl → Prop) (hs : ∀ d ds ρ, I (d :: ds) ρ → ∃ fl, turn gf mk F d ρ = some fl ∧ (match fl with | .nx ρ' => I ds ρ' | .bk ρ' => Q (.nx ρ') | .rt d => Q (.rt d) | .ct _ => False)) (hd : ∀ ρ, I [] ρ → Q (.nx ρ)) :
    ∀ (xs : List Dt) (ρ : Rho), I xs ρ → ∃ fl, forGo gf mk F xs ρ = some fl ∧ Q fl
  | [], ρ, h => ⟨_, rfl, hd ρ h⟩
  | d :: ds, ρ, h => by
    obtain ⟨fl, e, q⟩ := hs d ds ρ h
    rw [forGo_cons, e]
    cases fl with
    | nx ρ' => exact for_inv I Q hs hd ds ρ' q
    | bk ρ' => exact ⟨_, rfl, q⟩
    | rt d' => exact ⟨_, rfl, q⟩
    | ct _ => exact q.elim
/-- a for that looks for the first item with p -/
theorem for_find {α : Type} {gf : Dt → Rho → Option Rho} {mk : List Bool} {F : FnS} (enc : α → Dt) (ρ : Rho) (p : α → Bool) (res : α → Dt) : ∀ (xs : List α), (∀ x ∈ xs, turn gf mk F (enc x) ρ = some (if p x = true then .rt (res x) else .nx ρ)) →
    forGo gf mk F (xs.map enc) ρ = some (match xs.find? p with | some x => .rt (res x) | none => .nx ρ)
  | [], _ => rfl
  | x :: xs, h => by
    rw [List.map_cons, forGo_cons, h x List.mem_cons_self]
    cases hp : p x with
    | true => simp [List.find?_cons, hp]
    | false =>
      simp only [Bool.false_eq_true, if_false, List.find?_cons, hp]
      exact for_find enc ρ p res xs fun y hy => h y (List.mem_cons_of_mem _ hy)
/-- a for whose turns each return or go on alike: .. by options -/
theorem for_findSome {α : Type} {gf : Dt → Rho → Option Rho} {mk : List Bool} {F : FnS} (enc : α → Dt) (ρ : Rho) (g : α → Option Dt) : ∀ (xs : List α), (∀ x ∈ xs, turn gf mk F (enc x) ρ = some (match g x with | some d => .rt d | none => .nx ρ)) →
    forGo gf mk F (xs.map enc) ρ = some (match xs.findSome? g with | some d => .rt d | none => .nx ρ)
  | [], _ => rfl
  | x :: xs, h => by
    rw [List.map_cons, forGo_cons, h x List.mem_cons_self]
    cases hp : g x with
    | some d => simp [List.findSome?_cons, hp]
    | none =>
      simp only [List.findSome?_cons, hp]
      exact for_findSome enc ρ g xs fun y hy => h y (List.mem_cons_of_mem _ hy)
/-- a comprehension -/
theorem comp_map {α : Type} {ρ : Rho} {gf : Dt → Rho → Option Rho} {ft : FnB} {fe : Fn} (enc : α → Dt) (p : α → Bool) (g : α → Dt) : ∀ (xs : List α), (∀ x ∈ xs, ∃ ρ', gf (enc x) ρ = some ρ' ∧ ft ρ' = some (p x) ∧ (p x = true → fe ρ' = some (g x))) →
    compGo ρ gf ft fe (xs.map enc) = some ((xs.filter p).map g)
  | [], _ => rfl
  | x :: xs, h => by
    obtain ⟨ρ', h1, h2, h3⟩ := h x List.mem_cons_self
    have ih := comp_map (ρ := ρ) (gf := gf) (ft := ft) (fe := fe) enc p g xs fun y hy => h y (List.mem_cons_of_mem _ hy)
    show ((gf (enc x) ρ).bind fun ρ' => (ft ρ').bind fun b => if b = true then (fe ρ').bind fun y => (compGo ρ gf ft fe (xs.map enc)).bind fun r => some (y :: r) else compGo ρ gf ft fe (xs.map enc)) = _
    rw [h1, Option.bind_some, h2, Option.bind_some]
    cases hp : p x with
    | true =>
      rw [if_pos rfl, h3 hp, Option.bind_some, ih, Option.bind_some, List.filter_cons_of_pos hp]
      rfl
    | false =>
      rw [if_neg Bool.false_ne_true, ih, List.filter_cons_of_neg (by rw [hp]; exact Bool.false_ne_true)]
theorem comp_all {α : Type} {ρ : Rho} {gf : Dt → Rho → Option Rho} {ft : FnB} {fe : Fn} (enc : α → Dt) (g : α → Dt) (xs : List α) (h : ∀ x ∈ xs, ∃ ρ', gf (enc x) ρ = some ρ' ∧ ft ρ' = some true ∧ fe ρ' = some (g x)) :
    compGo ρ gf ft fe (xs.map enc) = some (xs.map g) := by
  have := comp_map enc (fun _ => true) g xs fun x hx => by
    obtain ⟨ρ', h1, h2, h3⟩ := h x hx
    exact ⟨ρ', h1, h2, fun _ => h3⟩
  rw [this, List.filter_eq_self.mpr fun _ _ => rfl]
/-- a while by an invariant and a measure -/
theorem while_inv {c : FnB} {mk : List Bool} {F : FnS} (I : Rho → Prop) (μ : Rho → Nat) (Q : Fl → Prop) (hs : ∀ ρ, I ρ → ∃ r, whStep c mk F 0 ρ = some r ∧ (match r with | .inl ρ' => I ρ' ∧ μ ρ' < μ ρ | .inr fl => Q fl)) (ρ : Rho) (h : I ρ) :
    ∃ fl, itO (whStep c mk F) ρ = some fl ∧ Q fl := by
  have key : ∀ (n i : Nat) (ρ : Rho), I ρ → μ ρ < n → ∃ fl, itN (whStep c mk F) n i ρ = some fl ∧ Q fl := by
    intro n
    induction n with
    | zero => intro i ρ _ h; omega
    | succ n ih =>
      intro i ρ hi hm
      obtain ⟨r, e, q⟩ := hs ρ hi
      have e' : whStep c mk F i ρ = some r := e
      show ∃ fl, ((whStep c mk F i ρ).bind _) = some fl ∧ Q fl
      rw [e']
      cases r with
      | inl ρ' => exact ih (i + 1) ρ' q.1 (by omega)
      | inr fl => exact ⟨fl, rfl, q⟩
  obtain ⟨fl, e, q⟩ := key (μ ρ + 1) 0 ρ h (Nat.lt_succ_self _)
  exact ⟨fl, itO_of e, q⟩
theorem rngD_map (lo hi : Int) : rngD lo hi = ((List.range (hi - lo).toNat).map fun (i : Nat) => (lo + (i : Int))).map Dt.int := by
  unfold rngD
  rw [List.map_map]
  rfl
/-- the ints from lo up to hi -/
def rgI (lo hi : Int) : List Int := (List.range (hi - lo).toNat).map fun (i : Nat) => (lo + (i : Int))
theorem rngD_eq (lo hi : Int) : rngD lo hi = (rgI lo hi).map Dt.int := rngD_map lo hi
theorem mem_rgI {lo hi x : Int} : x ∈ rgI lo hi ↔ lo ≤ x ∧ x < hi := by
  unfold rgI
  rw [List.mem_map]
  constructor
  · rintro ⟨i, hi', rfl⟩
    rw [List.mem_range] at hi'
    omega
  · intro ⟨h1, h2⟩
    exact ⟨(x - lo).toNat, by rw [List.mem_range]; omega, by omega⟩
theorem rgI_length (lo hi : Int) : (rgI lo hi).length = (hi - lo).toNat := by unfold rgI; rw [List.length_map, List.length_range]
theorem okR_of {i : Int} (h1 : -1000000000 ≤ i) (h2 : i ≤ 1000000000) : okR i = true := by
  unfold okR
  exact cdc_t ⟨by omega, by omega⟩
theorem rng1_of {j : Int} (h1 : -1000000000 ≤ j) (h2 : j ≤ 1000000000) : gRng1 [.int j] = some ((rgI 0 j).map Dt.int) := by
  rw [gRng1_i, if_pos (okR_of h1 h2), rngD_eq]
theorem rng2_of {i j : Int} (h1 : -1000000000 ≤ j) (h2 : j ≤ 1000000000) (h3 : -1000000000 ≤ i) (h4 : i ≤ 1000000000) : gRng2 [.int i, .int j] = some ((rgI i j).map Dt.int) := by
  rw [gRng2_i, if_pos ⟨okR_of h3 h4, okR_of h1 h2⟩, rngD_eq]
theorem cMod_of {i j : Int} (h : j ≠ 0) : cMod i j = true := decide_eq_true h
theorem cDiv_of {i j : Int} (h : j ≠ 0) (h2 : -1000000000 ≤ j) (h3 : j ≤ 1000000000) : cDiv i j = true := by
  unfold cDiv
  exact decide_eq_true ⟨h, by omega⟩
theorem cMul_r {i j : Int} (h2 : -1000000000000000000 ≤ j) (h3 : j ≤ 1000000000000000000) : cMul i j = true := by
  unfold cMul
  have : cdc (-(2 ^ 64) < j ∧ j < 2 ^ 64) = true := cdc_t ⟨by omega, by omega⟩
  rw [this, Bool.or_true]
theorem cMul_l {i j : Int} (h2 : -1000000000000000000 ≤ i) (h3 : i ≤ 1000000000000000000) : cMul i j = true := by
  unfold cMul
  have : cdc (-(2 ^ 64) < i ∧ i < 2 ^ 64) = true := cdc_t ⟨by omega, by omega⟩
  rw [this, Bool.true_or]
theorem size_ge {n : Nat} (h : n ≤ 1000000) : n ≤ sizeLine := by rw [sizeLine_eq]; omega
theorem size_gt {n : Nat} (h : n ≤ 1000000) : n < sizeLine := by rw [sizeLine_eq]; omega
theorem fComp_of {fi : FnL} {gf : Dt → Rho → Option Rho} {ft : FnB} {fe : Fn} {vs : List Nat} {ρ : Rho} {ds r : List Dt} (h1 : fi ρ = some ds) (h2 : noOw ρ vs = true) (h3 : ds.length ≤ 1000000) (h4 : compGo (wipeR ρ vs) gf ft fe ds = some r) : fComp fi gf ft fe vs ρ = some r := by
  unfold fComp
  rw [h1, Option.bind_some, if_pos ⟨h2, size_ge h3⟩, h4]
end EL
end

section
set_option Elab.async false
set_option maxRecDepth 100000
set_option maxHeartbeats 4000000
/-! EL: slices taken backwards. -/
namespace EL
open PySem PySem.Spec PyProof.Rows L2 HT
/-- where xs[lo:hi:-1] begins, and how many it takes -/
def rvP (n : Nat) (lo hi : Option Int) : Int × Nat := ((Builtin.Slice.sliceAdjust lo hi (-1) (n : Int)).1, Builtin.Slice.slicePlaces (Builtin.Slice.sliceAdjust lo hi (-1) (n : Int)).1 (Builtin.Slice.sliceAdjust lo hi (-1) (n : Int)).2 (-1))
def revCut {α : Type} (xs : List α) (lo hi : Option Int) : List α := (List.range (rvP xs.length lo hi).2).filterMap fun (m : Nat) => xs[((rvP xs.length lo hi).1 + (m : Int) * (-1)).toNat]?
theorem rvP_le (n : Nat) (lo hi : Option Int) : (rvP n lo hi).2 ≤ n := by
  unfold rvP Builtin.Slice.slicePlaces
  have h1 : ¬ ((-1 : Int) > 0) := by omega
  simp only [h1, if_false]
  have ha : (Builtin.Slice.sliceAdjust lo hi (-1) (n : Int)).1 ≤ (n : Int) - 1 := by
    unfold Builtin.Slice.sliceAdjust
    cases lo with
    | none => simp
    | some v => simp; split <;> omega
  have hb : -1 ≤ (Builtin.Slice.sliceAdjust lo hi (-1) (n : Int)).2 := by
    unfold Builtin.Slice.sliceAdjust
    cases hi with
    | none => simp
    | some v => simp; split <;> omega
  generalize (Builtin.Slice.sliceAdjust lo hi (-1) (n : Int)).1 = a at ha
  generalize (Builtin.Slice.sliceAdjust lo hi (-1) (n : Int)).2 = b at hb
  split
  · rw [Int.neg_neg, Int.ediv_one]; omega
  · omega
theorem filterMap_le {α β : Type} (f : α → Option β) : ∀ xs : List α, (xs.filterMap f).length ≤ xs.length
  | [] => Nat.le_refl _
  | x :: xs => by
    rw [List.filterMap_cons]
    have := filterMap_le f xs
    cases f x <;> simp <;> omega
theorem revCut_length {α : Type} (xs : List α) (lo hi : Option Int) : (revCut xs lo hi).length ≤ xs.length := by
  unfold revCut
  refine Nat.le_trans (filterMap_le _ _) ?_
  rw [List.length_range]
  exact rvP_le _ _ _
theorem Vals.at? {vs : List V} {us : List Value} (r : Vals vs us) (i : Nat) : (vs[i]? = none ∧ us[i]? = none) ∨ ∃ v u, vs[i]? = some v ∧ us[i]? = some u ∧ RelV v u := by
  induction r generalizing i with
  | nil => exact .inl ⟨rfl, rfl⟩
  | @cons v u vs us h r ih =>
    cases i with
    | zero => exact .inr ⟨v, u, rfl, rfl, h⟩
    | succ i => simpa using ih i
theorem Vals.pick {vs : List V} {us : List Value} (r : Vals vs us) (f : Nat → Nat) : ∀ ms : List Nat, Vals (ms.filterMap fun m => vs[f m]?) (ms.filterMap fun m => us[f m]?)
  | [] => .nil
  | m :: ms => by
    rw [List.filterMap_cons, List.filterMap_cons]
    rcases Vals.at? r (f m) with ⟨h1, h2⟩ | ⟨v, u, h1, h2, h3⟩
    · rw [h1, h2]; exact Vals.pick r f ms
    · rw [h1, h2]; exact .cons h3 (Vals.pick r f ms)
theorem Vals.revCut {vs : List V} {us : List Value} (r : Vals vs us) (lo hi : Option Int) : Vals (revCut vs lo hi) (revCut us lo hi) := by
  unfold EL.revCut
  rw [r.length]
  exact Vals.pick r _ _
section
variable {K : PySem.W.Frag}
theorem RepA.at? {H : Hp} {W : Addr → Prop} {vs : List V} {ds : List Dt} (r : RepA K H W vs ds) (i : Nat) : (vs[i]? = none ∧ ds[i]? = none) ∨ ∃ v d, vs[i]? = some v ∧ ds[i]? = some d ∧ Rep K H W v d := by
  induction ds generalizing vs i with
  | nil => cases r; exact .inl ⟨rfl, rfl⟩
  | cons d ds ih =>
    cases r with
    | cons h r =>
      cases i with
      | zero => exact .inr ⟨_, d, rfl, rfl, h⟩
      | succ i => simpa using ih r i
theorem RepA.pick {H : Hp} {W : Addr → Prop} {vs : List V} {ds : List Dt} (r : RepA K H W vs ds) (f : Nat → Nat) : ∀ ms : List Nat, RepA K H W (ms.filterMap fun m => vs[f m]?) (ms.filterMap fun m => ds[f m]?)
  | [] => .nil
  | m :: ms => by
    rw [List.filterMap_cons, List.filterMap_cons]
    rcases RepA.at? r (f m) with ⟨h1, h2⟩ | ⟨v, u, h1, h2, h3⟩
    · rw [h1, h2]; exact RepA.pick r f ms
    · rw [h1, h2]; exact .cons h3 (RepA.pick r f ms)
theorem RepA.revCut {H : Hp} {W : Addr → Prop} {vs : List V} {ds : List Dt} (r : RepA K H W vs ds) (lo hi : Option Int) : RepA K H W (revCut vs lo hi) (revCut ds lo hi) := by
  unfold EL.revCut
  rw [r.length]
  exact RepA.pick r _ _
end
section
variable {prog : Program} {w : World} {A : Around} {E : Value → Shared → Prop} {s : Shared}
theorem sliceApplied_rev {sl : Addr} {vl vu vs : Value} {lo hi : Option Int} {n : Nat} {Q : Int × Int × Nat → Shared → Prop} (hs : s.heap.IsSliceOf sl vl vu vs) (pl : IsPart vl lo) (pu : IsPart vu hi) (ps : IsPart vs (some (-1)))
    (h : Q ((rvP n lo hi).1, -1, (rvP n lo hi).2) s) : wpAny (model prog w) A (Builtin.Slice.sliceApplied (.ref sl) (pure (n : Int))) Q E s := by
  obtain ⟨os, hos, hcs, hds⟩ := id hs
  unfold Builtin.Slice.sliceApplied Builtin.Slice.sliceFields
  refine wpAny_bind (wpAny_bind (wpAny_field hos hds (x := vl) rfl (wpAny_bind (wpAny_field hos hds (x := vu) rfl (wpAny_bind (wpAny_field hos hds (x := vs) rfl (wpAny_pure ?_)))))))
  refine wpAny_bind (slicePart_ ps ?_)
  show wpAny _ _ (if ((-1 : Int) == 0) = true then _ else _) _ _ s
  rw [if_neg (by decide)]
  refine wpAny_bind (slicePart_ pl (wpAny_bind (slicePart_ pu (wpAny_bind (wpAny_pure ?_)))))
  exact wpAny_pure h
theorem getItem_tuple_rev {t sl : Addr} {items : Array Value} {vl vu vs : Value} {lo hi : Option Int} {Q : Value → Shared → Prop} (ht : IsTup s.heap t items) (hs : s.heap.IsSliceOf sl vl vu vs) (pl : IsPart vl lo) (pu : IsPart vu hi) (ps : IsPart vs (some (-1)))
    (h : Q (.ref s.heap.objs.size) { s with heap := s.heap.push { cls := .type "tuple", data := .seq (revCut items.toList lo hi).toArray } })
    (hsz : items.size ≤ sizeLine) : wpAny (model prog w) A (getItem (.ref t) (.ref sl)) Q E s := by
  have htake : sizeOk (.seq (revCut items.toList lo hi).toArray) := by
    show (revCut items.toList lo hi).toArray.size ≤ sizeLine
    rw [List.size_toArray]
    have := revCut_length items.toList lo hi
    have e2 : items.toList.length = items.size := Array.length_toList
    show (revCut items.toList lo hi).length ≤ sizeLine
    omega
  obtain ⟨os, hos, hcs, hds⟩ := id hs
  have hTs : s.TypeIs (.ref sl) "slice" := ⟨os, hos, hcs⟩
  unfold getItem
  try with_reducible refine wpAny_holding ?_
  first | refine wpAny_bind (wpAny_pure ?_) | skip
  refine wpAny_bind (wpAny_sequenceKey ht.typeIs (by decide) ?_)
  refine wpAny_bind (wpAny_callSpecial?_slot (name := Str.ofString "__getitem__") ht.typeIs PyProof.Rows.slot_tuple_getitem
    (wpAny_call_entry PyProof.Rows.slot_tuple_getitem ht.typeIs entry_tuple_getitem ?_ (args_tuple_getitem _ _)))
  show wpAny _ _ (Builtin.Tuple.tupleItemsOf (.ref t) >>= _) _ _ s
  refine wpAny_bind (tupleItemsOf_ ht ?_)
  refine wpAny_bind (wpAny_typeOf hTs ?_)
  rw [if_pos (by decide)]
  refine wpAny_bind (sliceApplied_rev hs pl pu ps ?_)
  have hno : ¬ (((rvP items.size lo hi).1 == 0 && (-1 : Int) == 1 && (rvP items.size lo hi).2 == items.size) = true) := by
    intro q
    rw [Bool.and_eq_true, Bool.and_eq_true] at q
    exact absurd q.1.2 (by decide)
  show wpAny _ _ (if ((rvP items.size lo hi).1 == 0 && (-1 : Int) == 1 && (rvP items.size lo hi).2 == items.size) = true then _ else _) _ _ s
  rw [if_neg hno]
  have hpk : ((List.range (rvP items.size lo hi).2).filterMap fun (m : Nat) => items[((rvP items.size lo hi).1 + (m : Int) * (-1)).toNat]?).toArray = (revCut items.toList lo hi).toArray := by
    unfold revCut
    simp only [Array.length_toList, Array.getElem?_toList]
  rw [hpk]
  first
    | exact wpAny_bind (m := Builtin.Tuple.tupleExact _) (wpAny_newObj_type (wpAny_pure ⟨_, rfl, wpAny_pure h⟩) htake)
    | exact wpAny_bind (m := Builtin.Tuple.tupleExact _) (wpAny_newObj_type (wpAny_bind (wpAny_pure (wpAny_pure ⟨_, rfl, wpAny_pure h⟩))) htake)
    | exact wpAny_bind (wpAny_bind (m := Builtin.Tuple.tupleExact _) (wpAny_newObj_type (wpAny_pure (wpAny_pure ⟨_, rfl, wpAny_pure h⟩)) htake))
    | exact wpAny_bind (wpAny_bind (m := Builtin.Tuple.tupleExact _) (wpAny_newObj_type (wpAny_pure ⟨_, rfl, wpAny_pure h⟩) htake))
end
def rSr (K : PySem.W.Frag) : V → Option Int → Option Int → Hp → VK → Prop := fun x lo hi H Q =>
  (∃ a xs, x = .ref a ∧ SqT K H a xs ∧ ∀ p, H p = none → Q (.ref p) (upd H p (.tup (revCut xs lo hi)))) ∨
  (∃ a xs, x = .ref a ∧ SqL K H a xs ∧ lo = none ∧ hi = none ∧ ∀ p, H p = none → Q (.ref p) (upd H p (.lst xs.reverse)))
section
variable {X : Cx} {e : Expr} {te : TE} {lo hi : Option Expr} {tl th : TO} {pos p1 p2 p3 : Pos} {k : Nat}
theorem pe_slrev (he : PE X e te) (hl : PO X lo tl) (hu : PO X hi th) : PE X (.Subscript e (.Slice lo hi (some (.UnaryOp .USub (.Constant (.int 1) k p1) p2)) p3) pos) (tSl (rSr X.K) te tl th) := by
  refine ⟨fun pins s σ H Q I h => ?_⟩
  refine Subscript_ (thn (he.run pins s σ H _ I h) fun v s1 ⟨x, H1, I1, r1, q1⟩ => ?_)
  have hst : PO X (some (.UnaryOp .USub (.Constant (.int 1) k p1) p2)) (tPart (tUn (rU fun i => .int (-i)) (tC (.int 1)))) := po_some (pe_un un_neg pe_int)
  refine wpAny_Slice (thn (hl.run pins s1 σ H1 _ I1 q1) fun vl s2 ⟨l, H2, I2, pl, q2⟩ => thn (hu.run pins s2 σ H2 _ I2 q2) fun vu s3 ⟨u, H3, I3, pu, q3⟩ => ?_)
  refine thn (hst.run pins s3 σ H3 (fun o H4 => o = some (-1) ∧ H4 = H3) I3 ⟨1, rfl, -1, rfl, rfl, rfl⟩) fun vs s4 ⟨o, H4, I4, ps, eo, e4⟩ => ?_
  subst eo e4
  have I5 : Inv X pins σ H4 { s4 with heap := s4.heap.push { cls := .type "slice", data := .fields #[vl, vu, vs] } } := I4.kept (t' := s4.toks) fun b ob q => Heap.get?_push_of_some _ q
  show wpAny (model X.prog X.w) X.A (subscriptTail e (.Slice lo hi (some (.UnaryOp .USub (.Constant (.int 1) k p1) p2)) p3) v (.ref s4.heap.objs.size)) (EP X pins σ Q) X.xe { s4 with heap := s4.heap.push { cls := .type "slice", data := .fields #[vl, vu, vs] } }
  rcases q3 with ⟨a, xs, ex, hx, q⟩ | ⟨a, xs, ex, hx, e1, e2, q⟩
  · subst ex
    cases r1
    obtain ⟨its, r, ht, hz⟩ := I5.tuple hx
    have hlen := r.length
    refine tail_any (ops := [.ref a, .ref s4.heap.objs.size]) ht.typeIs (PyProof.Rows.slot_tuple_getitem.lookup) ?_ (by with_unfolding_all rfl)
    refine getItem_tuple_rev ht (Heap.IsSliceOf.new _ vl vu vs) pl pu ps ?_ (by rw [List.size_toArray]; omega)
    refine ⟨.ref _, _, I5.laid (t' := s4.toks) (o := .tup (revCut xs l u)) (fun b ob q => Heap.get?_push_of_some _ q) (Nat.le_refl _) ?_, rfl, q _ (I5.hok.fresh (Nat.le_refl _))⟩
    exact ⟨Nat.le_trans (revCut_length xs l u) hz, _, by have := Vals.revCut r l u; simpa using this, IsTup.new _ _⟩
  · subst ex e1 e2
    cases r1
    obtain ⟨its, r, ht, hz⟩ := I5.list hx
    have hlen := r.length
    refine tail_any (ops := [.ref a, .ref s4.heap.objs.size]) ht.isList.typeIs (PySem.slot_list_getitem.lookup) ?_ (by with_unfolding_all rfl)
    refine wpAny_getItem_list_slice ht.isList (Heap.IsSliceOf.new _ vl vu vs) pl pu ps (by decide) ?_ (by rw [List.size_toArray]; omega)
    rw [PySem.W.krv_pick]
    refine ⟨.ref _, _, I5.laid (t' := s4.toks) (o := .lst xs.reverse) (fun b ob q => Heap.get?_push_of_some _ q) (Nat.le_refl _) ?_, rfl, q _ (I5.hok.fresh (Nat.le_refl _))⟩
    exact ⟨by rw [List.length_reverse]; exact hz, _, 0, r.reverse, Heap.get?_push_size _ rfl⟩
end
def gSlr : Dt → Option Int → Option Int → Option Dt
  | .tup xs, lo, hi => some (.tup (revCut xs lo hi))
  | .lst xs, none, none => some (.lst xs.reverse)
  | _, _, _ => none
def fSlr (a : Fn) (lo hi : FnO) : Fn := fun ρ => (a ρ).bind fun d => (lo ρ).bind fun i => (hi ρ).bind fun j => gSlr d i j
theorem RepA.rev {K : PySem.W.Frag} {H : Hp} {W : Addr → Prop} {vs : List V} {ds : List Dt} (r : RepA K H W vs ds) : RepA K H W vs.reverse ds.reverse := by
  induction ds generalizing vs with
  | nil => cases r; exact .nil
  | cons d ds ih =>
    cases r with
    | cons h r =>
      rw [List.reverse_cons, List.reverse_cons]
      exact RepA.append (ih r) (.cons h .nil)
section
variable {T : List Addr} {K : PySem.W.Frag} {X : Cx} {m : Bool} {a : Expr} {ta : TE} {fa : Fn} {lo hi : Option Expr} {tl th : TO} {fl fh : FnO} {pos p1 p2 p3 : Pos} {k : Nat}
theorem de_slrev (ha : DE m T K X a ta fa) (hl : DO T K X lo tl fl) (hh : DO T K X hi th fh) (hk : X.K = K := by rfl) : DE m T K X (.Subscript a (.Slice lo hi (some (.UnaryOp .USub (.Constant (.int 1) k p1) p2)) p3) pos) (tSl (rSr K) ta tl th) (fSlr fa fl fh) := by
  subst hk
  exact ⟨pe_slrev ha.pe hl.po hh.po, fun W ρ σ H d Q g r e q => by
  obtain ⟨x, ea, e⟩ := obind e
  obtain ⟨i, el, e⟩ := obind e
  obtain ⟨j, eh, e⟩ := obind e
  refine ha.sd W ρ σ H x _ g r ea fun v H1 e1 g1 r1 => ?_
  refine hl.sd W ρ σ H1 i _ g1 (r.ext e1) el fun H2 e2 g2 => ?_
  refine hh.sd W ρ σ H2 j _ g2 (r.ext (e1.trans e2)) eh fun H3 e3 g3 => ?_
  have r3 := r1.ext (e2.trans e3)
  have e13 := (e1.trans e2).trans e3
  cases r3 with
  | @lst p vs ds h1 n1 ra =>
    cases i with
    | some i => cases e
    | none =>
      cases j with
      | some j => cases e
      | none =>
        cases e
        refine .inr ⟨p, vs, rfl, .of h1, rfl, rfl, fun l hl => ?_⟩
        exact q _ _ (e13.trans (Ext.new hl)) (g3.newL hl (by rw [List.length_reverse]; exact g3.1 p vs (.inl h1))) (.lst upd_same (fun z => by obtain ⟨zs, hz⟩ := (r.ext e13).wo z; rw [hl] at hz; cases hz) (ra.rev.ext (Ext.new hl)))
  | @tup p vs ds h1 ra =>
    cases e
    refine .inl ⟨p, vs, rfl, .of h1, fun l hl => ?_⟩
    exact q _ _ (e13.trans (Ext.new hl)) (g3.newT hl (Nat.le_trans (revCut_length vs i j) (g3.1 p vs (.inr h1)))) (.tup upd_same ((ra.revCut i j).ext (Ext.new hl)))
  | _ => cases e⟩
end
@[simp] theorem fSlr_a (a : Fn) (lo hi : FnO) (ρ : Rho) : fSlr a lo hi ρ = (a ρ).bind fun d => (lo ρ).bind fun i => (hi ρ).bind fun j => gSlr d i j := rfl
theorem revCut_all {α : Type} (xs : List α) : revCut xs none none = xs.reverse := by
  have hp : rvP xs.length none none = ((xs.length : Int) - 1, xs.length) := by
    unfold rvP Builtin.Slice.sliceAdjust Builtin.Slice.slicePlaces
    simp
    split <;> omega
  unfold revCut
  rw [hp]
  have key : ∀ n, n ≤ xs.length → ((List.range n).filterMap fun (m : Nat) => xs[(((xs.length : Int) - 1) + (m : Int) * (-1)).toNat]?) = (xs.drop (xs.length - n)).reverse := by
    intro n
    induction n with
    | zero => intro _; simp
    | succ n ih =>
      intro hn
      rw [List.range_succ, List.filterMap_append, ih (by omega)]
      have hi : (((xs.length : Int) - 1) + (n : Int) * (-1)).toNat = xs.length - (n + 1) := by omega
      have hlt : xs.length - (n + 1) < xs.length := by omega
      have hd : xs.drop (xs.length - (n + 1)) = xs[xs.length - (n + 1)] :: xs.drop (xs.length - n) := by
        rw [List.drop_eq_getElem_cons hlt, show xs.length - (n + 1) + 1 = xs.length - n by omega]
      rw [hd, List.reverse_cons]
      rw [List.filterMap_cons, hi, List.getElem?_eq_getElem hlt]
      rfl
  have := key xs.length (Nat.le_refl _)
  rw [Nat.sub_self, List.drop_zero] at this
  exact this
@[simp] theorem gSlr_t (xs : List Dt) : gSlr (.tup xs) none none = some (.tup xs.reverse) := by
  show some (Dt.tup (revCut xs none none)) = _
  rw [revCut_all]
@[simp] theorem gSlr_l (xs : List Dt) : gSlr (.lst xs) none none = some (.lst xs.reverse) := rfl
end EL
end

section
set_option Elab.async false
set_option maxRecDepth 100000
set_option maxHeartbeats 4000000
/-! EL: min and max of data. -/
namespace EL
open PySem PySem.Spec PySem.W PyProof.Rows L2 HT
section
variable {X : Cx}
/-- the best of alike data, lists and tuples -/
def rBest (K : PySem.W.Frag) (best : PyData → List PyData → PyData) : List V → Hp → VK → Prop := fun vs H Q => ∃ (a : Addr) (xs : List V) (d : PyData) (ds : List PyData), vs = [V.ref a] ∧ (SqL K H a xs ∨ SqT K H a xs) ∧ DpAll K H xs (d :: ds) ∧ AlikeAll (d :: ds) ∧ PyData.depthAll (d :: ds) ≤ 60 ∧
  ∀ (i : Nat) (v : V), xs[i]? = some v → (d :: ds)[i]? = some (best d ds) → Q v H
theorem reads_at {h h' : Heap} {us : List Value} {vs : List V} {xs : List PyData} {as bs : List Addr} {i : Nat} {u : Value} {e : PyData} (hk : ∀ b o, h.get? b = some o → h'.get? b = some o) (rv : Vals vs us) (rs : ReadsAll h us xs as) (hu : us[i]? = some u) (he : Reads h' u e bs) : ∃ v, vs[i]? = some v ∧ RelV v u ∧ xs[i]? = some e := by
  obtain ⟨cs, r1, h1, h2, h3⟩ := readsAll_at rs i u hu
  have e1 := (reads_det (fun b o q _ => hk b o q) r1 he).1
  rcases EL.Vals.at? rv i with ⟨_, h4⟩ | ⟨v, u', h4, h5, h6⟩
  · rw [hu] at h4; cases h4
  · rw [hu] at h5
    cases h5
    refine ⟨v, h4, h6, ?_⟩
    rw [e1, List.getD_eq_getElem?_getD, List.getElem?_eq_getElem h1]
    rfl
theorem cr_minD (hc : X.calm = true) (hu : X.A.units + 64 < cLine) : CallR X (.builtin "min") (rBest X.K minD) := by
  intro pins s σ H vs us Q I r h
  obtain ⟨a, xs, d, ds, rfl, hs, hd, ha, hdep, q⟩ := h
  rw [Vals.ref1 r]
  rcases hs with hs | hs
  · obtain ⟨its, rv, hl, _⟩ := I.list hs
    obtain ⟨as, rs⟩ := Dp.readsAll I (d :: ds) xs its hd rv
    refine min_list_data (I.ok.hd hc) hl.isList rs ha (by omega) fun i v h' tk bs hv hr hk => ?_
    obtain ⟨v', h4, h5, h6⟩ := reads_at hk rv rs (by simpa using hv) hr
    exact ⟨v', H, I.kept hk, h5, q i v' h4 h6⟩
  · obtain ⟨its, rv, hl, _⟩ := I.tuple hs
    obtain ⟨as, rs⟩ := Dp.readsAll I (d :: ds) xs its hd rv
    refine min_tuple_data (I.ok.hd hc) hl rs ha (by omega) fun i v h' tk bs hv hr hk => ?_
    obtain ⟨v', h4, h5, h6⟩ := reads_at hk rv rs (by simpa using hv) hr
    exact ⟨v', H, I.kept hk, h5, q i v' h4 h6⟩
theorem cr_maxD (hc : X.calm = true) (hu : X.A.units + 64 < cLine) : CallR X (.builtin "max") (rBest X.K maxD) := by
  intro pins s σ H vs us Q I r h
  obtain ⟨a, xs, d, ds, rfl, hs, hd, ha, hdep, q⟩ := h
  rw [Vals.ref1 r]
  rcases hs with hs | hs
  · obtain ⟨its, rv, hl, _⟩ := I.list hs
    obtain ⟨as, rs⟩ := Dp.readsAll I (d :: ds) xs its hd rv
    refine max_list_data (I.ok.hd hc) hl.isList rs ha (by omega) fun i v h' tk bs hv hr hk => ?_
    obtain ⟨v', h4, h5, h6⟩ := reads_at hk rv rs (by simpa using hv) hr
    exact ⟨v', H, I.kept hk, h5, q i v' h4 h6⟩
  · obtain ⟨its, rv, hl, _⟩ := I.tuple hs
    obtain ⟨as, rs⟩ := Dp.readsAll I (d :: ds) xs its hd rv
    refine max_tuple_data (I.ok.hd hc) hl rs ha (by omega) fun i v h' tk bs hv hr hk => ?_
    obtain ⟨v', h4, h5, h6⟩ := reads_at hk rv rs (by simpa using hv) hr
    exact ⟨v', H, I.kept hk, h5, q i v' h4 h6⟩
end
theorem dict_bad : SeqAt.shaped (.dict []) = false := by decide
mutual
theorem py_inj : ∀ d e : Dt, d.py = e.py → d.py.canLay0 = true → d = e
  | .non, e, h, _ => by cases e <;> simp [Dt.py] at h ⊢
  | .bl b, e, h, _ => by cases e <;> simp [Dt.py] at h ⊢; exact h
  | .int i, e, h, _ => by cases e <;> simp [Dt.py] at h ⊢; exact h
  | .str x, e, h, _ => by cases e <;> simp [Dt.py] at h ⊢; exact h
  | .tup xs, e, h, k => by
    cases e <;> simp [Dt.py] at h ⊢
    exact pyA_inj xs _ h (by simpa [Dt.py, PyData.canLay0] using k)
  | .lst xs, e, h, k => by
    cases e <;> simp [Dt.py] at h ⊢
    exact pyA_inj xs _ h (by simpa [Dt.py, PyData.canLay0] using k)
  | .scr ns, e, h, k => by simp [Dt.py, PyData.canLay0] at k
theorem pyA_inj : ∀ ds es : List Dt, Dt.pyA ds = Dt.pyA es → PyData.canLayAll0 (Dt.pyA ds) = true → ds = es
  | [], es, h, _ => by cases es <;> simp [Dt.pyA] at h ⊢
  | d :: ds, es, h, k => by
    cases es with
    | nil => simp [Dt.pyA] at h
    | cons e es =>
      simp only [Dt.pyA, List.cons.injEq] at h
      rw [Dt.pyA] at k
      have k' := Bool.and_eq_true_iff.mp (show (_ && _) = true from by simpa [PyData.canLayAll0] using k)
      rw [py_inj d e h.1 k'.1, pyA_inj ds es h.2 k'.2]
end
/-- the best, by a comparison f -/
def bestD (f : PyData → PyData → Bool) (x : Dt) (xs : List Dt) : Dt := xs.foldl (fun a y => if f y.py a.py then y else a) x
theorem bestD_py (f : PyData → PyData → Bool) : ∀ (xs : List Dt) (x : Dt), (bestD f x xs).py = (Dt.pyA xs).foldl (fun a y => if f y a then y else a) x.py
  | [], x => by simp [bestD, Dt.pyA]
  | y :: xs, x => by
    rw [Dt.pyA, List.foldl_cons]
    show (bestD f (if f y.py x.py then y else x) xs).py = _
    rw [bestD_py f xs]
    congr 1
    split <;> rfl
noncomputable def gBest (f : PyData → PyData → Bool) : List Dt → Option Dt
  | [.lst (x :: xs)] => if cdc (AlikeAll (Dt.pyA (x :: xs)) ∧ PyData.canLayAll0 (Dt.pyA (x :: xs)) = true ∧ PyData.depthAll (Dt.pyA (x :: xs)) ≤ 60) = true then some (bestD f x xs) else none
  | [.tup (x :: xs)] => if cdc (AlikeAll (Dt.pyA (x :: xs)) ∧ PyData.canLayAll0 (Dt.pyA (x :: xs)) = true ∧ PyData.depthAll (Dt.pyA (x :: xs)) ≤ 60) = true then some (bestD f x xs) else none
  | _ => none
section
variable {T : List Addr} {X : Cx} {K : PySem.W.Frag}
theorem pyA_at : ∀ (ds : List Dt) (i : Nat) (p : PyData), (Dt.pyA ds)[i]? = some p → ∃ d, ds[i]? = some d ∧ d.py = p
  | [], i, p, h => by simp [Dt.pyA] at h
  | d :: ds, 0, p, h => by rw [Dt.pyA] at h; exact ⟨d, rfl, by simpa using h⟩
  | d :: ds, i + 1, p, h => by rw [Dt.pyA] at h; simpa using pyA_at ds i p (by simpa using h)
theorem best_call (f : PyData → PyData → Bool) : CallD T K (rBest K fun x xs => xs.foldl (fun a y => if f y a then y else a) x) (gBest f) := fun W H vs ds c Q g wl r h q => by
  have go : ∀ (a : Addr) (zs : List V) (x : Dt) (xs : List Dt), (SqL K H a zs ∨ SqT K H a zs) → RepA K H W zs (x :: xs) → vs = [V.ref a] →
      (if cdc (AlikeAll (Dt.pyA (x :: xs)) ∧ PyData.canLayAll0 (Dt.pyA (x :: xs)) = true ∧ PyData.depthAll (Dt.pyA (x :: xs)) ≤ 60) = true then some (bestD f x xs) else none) = some c → rBest K (fun x xs => xs.foldl (fun a y => if f y a then y else a) x) vs H Q := by
    intro a zs x xs hs ra hv h
    by_cases hz : cdc (AlikeAll (Dt.pyA (x :: xs)) ∧ PyData.canLayAll0 (Dt.pyA (x :: xs)) = true ∧ PyData.depthAll (Dt.pyA (x :: xs)) ≤ 60) = true
    · rw [if_pos hz] at h
      cases h
      obtain ⟨h1, h2, h3⟩ := cdc_p hz
      have hdp := RepA.dp ra h2
      have e1 : Dt.pyA (x :: xs) = x.py :: Dt.pyA xs := by rw [Dt.pyA]
      refine ⟨a, zs, x.py, Dt.pyA xs, hv, hs, e1 ▸ hdp, e1 ▸ h1, e1 ▸ h3, fun i v hi hp => ?_⟩
      simp only [] at hp
      rw [← bestD_py, ← e1] at hp
      obtain ⟨d, hd, hdp⟩ := pyA_at (x :: xs) i _ hp
      rcases EL.RepA.at? ra i with ⟨h4, _⟩ | ⟨v', d', h4, h5, h6⟩
      · rw [hi] at h4; cases h4
      · rw [hi] at h4
        cases h4
        rw [hd] at h5
        cases h5
        have hlay : d.py.canLay0 = true := by
          have : ∀ (ds : List Dt) (i : Nat) (d : Dt), PyData.canLayAll0 (Dt.pyA ds) = true → ds[i]? = some d → d.py.canLay0 = true := by
            intro ds
            induction ds with
            | nil => intro i d _ h; simp at h
            | cons e ds ih =>
              intro i d hl h
              rw [Dt.pyA] at hl
              have k' := Bool.and_eq_true_iff.mp (show (_ && _) = true from by simpa [PyData.canLayAll0] using hl)
              cases i with
              | zero => simp at h; rw [← h]; exact k'.1
              | succ i => exact ih i d k'.2 (by simpa using h)
          exact this _ _ _ h2 hd
        rw [← py_inj d _ hdp hlay] at q
        exact q v H (Ext.refl H) g h6
    · rw [if_neg hz] at h; cases h
  match ds, h with
  | x0 :: _ :: _, h =>
    cases x0 with
    | lst l => cases l <;> cases h
    | tup l => cases l <;> cases h
    | _ => cases h
  | [d], h =>
    obtain ⟨v, rfl, r1⟩ := repA1 r
    cases r1 with
    | @lst p zs l h1 n1 ra =>
      cases l with
      | nil => cases h
      | cons x xs => exact go p zs x xs (.inl (.of h1)) ra rfl h
    | @tup p zs l h1 ra =>
      cases l with
      | nil => cases h
      | cons x xs => exact go p zs x xs (.inr (.of h1)) ra rfl h
    | _ => cases h
noncomputable abbrev gMinD : List Dt → Option Dt := gBest dataLt
noncomputable abbrev gMaxD : List Dt → Option Dt := gBest fun y a => dataLt a y
theorem kMinD (hk : X.K = K) (hc : X.calm = true) (hu : X.A.units + 64 < cLine) : CallR X (.builtin "min") (rBest K minD) ∧ CallD T K (rBest K minD) gMinD := by subst hk; exact ⟨cr_minD hc hu, best_call dataLt⟩
theorem kMaxD (hk : X.K = K) (hc : X.calm = true) (hu : X.A.units + 64 < cLine) : CallR X (.builtin "max") (rBest K maxD) ∧ CallD T K (rBest K maxD) gMaxD := by subst hk; exact ⟨cr_maxD hc hu, best_call fun y a => dataLt a y⟩
end
/-- min of ints -/
theorem alike_ints (x : Int) (xs : List Int) : AlikeAll (Dt.pyA ((x :: xs).map Dt.int)) := by
  rw [pyA_map]
  constructor
  · intro a ha b hb
    simp at ha hb
    rcases ha with rfl | ⟨_, _, rfl⟩ <;> rcases hb with rfl | ⟨_, _, rfl⟩ <;> simp [Dt.py, alike]
  · intro a ha
    simp at ha
    rcases ha with rfl | ⟨_, _, rfl⟩ <;> simp [Dt.py]
end EL
end

section
set_option Elab.async false
set_option maxRecDepth 100000
set_option maxHeartbeats 4000000
/-! EL: range with a step. -/
namespace EL
open PySem PySem.Spec PyProof.Rows L2
section
variable {T : List Addr} {X : Cx} {K : PySem.W.Frag} {k : Bool} {tg : Expr} {p pos : Pos} {a b c : Expr} {tr : TA} {fr : FnL}
def stD (lo st : Int) (n : Nat) : List Dt := (List.range n).map fun (i : Nat) => .int (lo + (i : Int) * st)
noncomputable def gRng3 : List Dt → Option (List Dt)
  | [.int i, .int j, .int st] => if cdc (RgC i j st (Builtin.Range.rangeSize i j st).toNat) = true then some (stD i st (Builtin.Range.rangeSize i j st).toNat) else none
  | _ => none
theorem jok_rngC {H1 : Hp} {O W : Addr → Prop} (lo st : Int) (n : Nat) : JOk O T K W (Itc lo st n) H1 (stD lo st n) := fun Hc kp g => by
  unfold stD
  refine ⟨fun i d hd => ?_, fun i hi' => ?_⟩
  · rw [List.getElem?_map] at hd
    obtain ⟨j, hj, rfl⟩ := Option.map_eq_some_iff.mp hd
    obtain ⟨hj1, hj2⟩ := List.getElem?_eq_some_iff.mp hj
    rw [List.getElem_range] at hj2
    subst hj2
    rw [List.length_range] at hj1
    refine ⟨hj1, fun x H' y => ?_⟩
    obtain ⟨rfl, rfl⟩ := y
    exact ⟨Ext.refl _, g, .int _⟩
  · show n ≤ i
    simpa using hi'
theorem di_range3 (ha : DA false T K X [a, b, c] tr fr) (hm : X.mg "range" = none) (hg : Gl X "range" := by rfl) (hs : starEach [a, b, c] X.env = (false, eval a X.env) :: starEach [b, c] X.env := by rfl) (hpl : (backTo pos (starEach [b, c] X.env)).any (·.1) = false := by rfl) :
    DI k T K X tg (.Call (.Name "range" p) [a, b, c] [] pos) (iRng3 tr) (fNL gRng3 fr) :=
  ⟨pi_range3 hg hm ha.pa hs hpl, fun W ρ σ H ds R g rp e' q => by
  obtain ⟨xs, ea, e'⟩ := obind e'
  refine ha.sd W ρ σ H xs _ g rp ea fun vs H1 e1 g1 r1 => ?_
  cases r1 with
  | nil => cases e'
  | @cons v vs d ds r2 r1 =>
    cases r2 with
    | int i =>
      cases r1 with
      | nil => cases e'
      | @cons v vs d ds r3 r1 =>
        cases r3 with
        | int j =>
          cases r1 with
          | nil => cases e'
          | @cons v vs d ds r4 r1 =>
            cases r4 with
            | int st =>
              cases r1 with
              | nil =>
                dsimp only [gRng3] at e'
                by_cases hz : cdc (RgC i j st (Builtin.Range.rangeSize i j st).toNat) = true
                · rw [if_pos hz] at e'
                  cases e'
                  exact ⟨i, j, st, _, rfl, cdc_p hz, q _ H1 e1 g1 (jok_rngC i st _)⟩
                · rw [if_neg hz] at e'; cases e'
              | cons _ _ => cases e'
            | _ => cases e'
        | _ => cases e'
    | _ => cases e'⟩
end
/-- the ints from lo on by st, n of them -/
def stI (lo st : Int) (n : Nat) : List Int := (List.range n).map fun (i : Nat) => lo + (i : Int) * st
theorem stD_eq (lo st : Int) (n : Nat) : stD lo st n = (stI lo st n).map Dt.int := by unfold stD stI; rw [List.map_map]; rfl
end EL
end

section
set_option Elab.async false
set_option maxRecDepth 100000
set_option maxHeartbeats 4000000
namespace EL
open PySem PySem.Spec PyProof.Rows L2
section
variable {T : List Addr} {K : PySem.W.Frag} {X : Cx} {i : Nat} {x : Str} {p pos apos pos2 : Pos} {e1 e2 : Expr} {t1 t2 : TE} {g1 g2 : Fn}
theorem ds_insert (h1 : DE true T K X e1 t1 g1) (h2 : DE true T K X e2 t2 g2)
    (hN : X.N[i]? = some x := by rfl) (hv : Vis X.env.scope x := by first | exact Or.inl rfl | exact Or.inr (Or.inl rfl) | exact Or.inr (Or.inr rfl)) (hd : (x == ("__debug__" : Str)) = false := by decide) (hcd : (x == ("__classdict__" : Str)) = false := by decide)
    (hbase : attributeBase (.Name x p) "insert" X.env (eval (.Name x p) X.env) = eval (.Name x p) X.env := by rfl)
    (hfew : ((backTo pos (starEach [e1, e2] X.env)).all (fun x => !x.1) && (backToKw pos (keywordEach [] X.env)).all (fun x => x.1.isSome) && decide ([e1, e2].length + ([] : List Keyword).length + (if ([] : List Keyword).isEmpty then 0 else 1) < 30)) = true := by rfl)
    (hline : (apos.endLine == pos.line) = true := by rfl) (hs : starEach [e1, e2] X.env = (false, eval e1 X.env) :: starEach [e2] X.env := by rfl) (hs2 : starEach [e2] X.env = (false, eval e2 X.env) :: starEach [] X.env := by rfl) (hplain : (backTo pos (starEach [e2] X.env)).any (·.1) = false := by rfl)
    (hsw : swapsWith (.Call (.Attribute (.Name x p) "insert" apos) [e1, e2] [] pos) none pos2.line X.env = pure false := by rfl) (hk : X.K = K := by rfl) :
    DS T K X (.Expr (.Call (.Attribute (.Name x p) "insert" apos) [e1, e2] [] pos) pos2) (tDrop (tBM K "list" rInsert (tVar i) (tCons t1 (tCons t2 tNil)))) (sMut i gInsert (fAc g1 (fAc g2 fA0))) [] :=
  ds_meth (i := i) PySem.F.plainAttrs_list PySem.F.slot_list_insert PySem.F.type_list_insert mt_insert uInsert (da_cons h1 (da_cons h2 da_nil hs2) hs) hN hv hd hcd hbase hfew hline hs hplain hsw hk
end
end EL
end

section
set_option Elab.async false
set_option maxRecDepth 100000
set_option maxHeartbeats 4000000
/-! EL: sorted of a tuple of ints. -/
namespace EL
open PySem PySem.Spec PySem.Calls PyProof.Rows L2 SrtO
section
variable {prog : Program} {w : World} {A : Around} {E : Value → Shared → Prop} {s : Shared}
theorem sorted_tup {l : Addr} {vs : List Value} {ltv : Value → Value → Bool} {Q : Value → Shared → Prop} (O : Swo ltv) (hl : IsTup s.heap l vs.toArray) (hz : vs.length ≤ sizeLine)
    (hS : 2 ≤ vs.length → ∀ (h₁ : Heap) (a : Addr), h₁.get? a = some (seqObj "list" vs.toArray 0) → (∀ b o, s.heap.get? b = some o → b ≠ a ∧ h₁.get? b = some o) → SortableO prog w A.in1.in1 { s with heap := h₁ } a vs ltv)
    (h : ∀ (h' : Heap) (out : List Value), (∀ b o, s.heap.get? b = some o → h'.get? b = some o) → Srtd ltv out → Stb ltv out vs → Q (.ref h'.objs.size) { s with heap := sortedHeap (h'.push (seqObj "list" vs.toArray 0)) h'.objs.size vs out.toArray }) :
    wpAny (model prog w) A (call (.builtin "sorted") [.ref l]) Q E s := by
  obtain ⟨o, ho, hc, n, hd⟩ := id hl
  refine Calls.call_function_entry kind_sorted plain_sorted entry_sorted (args_sorted1 _) ?_
  unfold Builtin.«sorted»
  refine wpAny_bind (m := checkCount "sorted" 1 1 _) (wpAny_pure ?_)
  refine wpAny_bind (wpAny_collect_seq l (.inr rfl) ho hc hd (fun h' hk => ?_) (by rw [List.size_toArray]; exact hz))
  refine wpAny_bind (wpAny_newList ?_ hz)
  have hoL : (h'.push (seqObj "list" vs.toArray 0)).get? h'.objs.size = some (seqObj "list" vs.toArray 0) := Heap.get?_push_size _ rfl
  have keep : ∀ b o, s.heap.get? b = some o → b ≠ h'.objs.size ∧ (h'.push (seqObj "list" vs.toArray 0)).get? b = some o := fun b o q =>
    ⟨Nat.ne_of_lt (Heap.lt_size (hk b o q)), Heap.get?_push_of_some _ (hk b o q)⟩
  show wpAny _ _ _ _ _ { s with heap := h'.push (seqObj "list" vs.toArray 0) }
  refine wpAny_bind (wpAny_holding (wpAny_call_entry slot_list_sort ⟨_, hoL, rfl⟩ entry_list_sort (list_sort_ord O hoL hz (fun h2 => hS h2 _ _ hoL keep) fun out hs hb => ⟨_, rfl, ?_⟩) (args_list_sort _)))
  exact wpAny_pure ⟨_, rfl, h h' out hk hs hb⟩
end
def rSortedT (K : PySem.W.Frag) : List V → Hp → VK → Prop := fun vs H Q => ∃ (a : Addr) (ns : List Int), vs = [V.ref a] ∧ SqT K H a (ns.map V.int) ∧
  ∀ (ns' : List Int) (p : Addr), ns'.Perm ns → ns'.Pairwise (· ≤ ·) → H p = none → Q (.ref p) (upd H p (.lst (ns'.map V.int)))
section
variable {X : Cx}
theorem cr_sortedT : CallR X (.builtin "sorted") (rSortedT X.K) := by
  intro pins s σ H vs us Q I r h
  obtain ⟨a, ns, rfl, hs, q⟩ := h
  obtain ⟨its, rv, hl, hz⟩ := I.tuple hs
  rw [Vals.ref1 r]
  have hi := rv.ints
  refine sorted_tup SrtO.swo_int hl (by rw [← rv.length]; exact hz) (fun h2 h₁ a' _ _ => SrtO.ints_sortable hi h2) fun h' out hk h1 h2 => ?_
  obtain ⟨k1, k2, k3⟩ := SrtO.ints_out hi h1 h2
  have I' := I.kept (t' := s.toks) hk
  have hob : (h'.push (seqObj "list" its.toArray 0)).get? h'.objs.size = some (seqObj "list" its.toArray 0) := Heap.get?_push_size _ rfl
  obtain ⟨ep, he'⟩ := PyProof.Rows.sortedHeap_at (vs := its) (out := out.toArray) hob
  have hlen : ((out.map SrtO.iv).map V.int).length ≤ sizeLine := by
    rw [List.length_map, k2.length_eq]
    rw [List.length_map] at hz
    exact hz
  refine ⟨.ref _, upd H h'.objs.size (.lst ((out.map SrtO.iv).map V.int)), I'.laid (t' := s.toks) (fun b o e => ?_) (Nat.le_refl _) ⟨hlen, out, ep, vals_of_ints k1, he'⟩, rfl, q _ _ k2 k3 (I'.hok.fresh (Nat.le_refl _))⟩
  have hlt := Heap.lt_size e
  rw [PyProof.Rows.sortedHeap_old (Nat.ne_of_lt hlt) (Heap.lt_size (Heap.get?_push_of_some _ e))]
  exact Heap.get?_push_of_some _ e
end
def rSortedA (K : PySem.W.Frag) : List V → Hp → VK → Prop := fun vs H Q => rSortedI K vs H Q ∨ rSortedT K vs H Q
theorem CallR.or' {X : Cx} {f : Value} {r r' : List V → Hp → VK → Prop} (h : CallR X f r) (h' : CallR X f r') : CallR X f (fun vs H Q => r vs H Q ∨ r' vs H Q) := by
  intro pins s σ H vs us Q I rv q
  rcases q with q | q
  · exact h pins s σ H vs us Q I rv q
  · exact h' pins s σ H vs us Q I rv q
def gSortedA : List Dt → Option (List Dt)
  | [.lst xs] => (ints? xs).bind fun ns => some ((sortI ns).map Dt.int)
  | [.tup xs] => (ints? xs).bind fun ns => some ((sortI ns).map Dt.int)
  | _ => none
theorem gSortedA_free {ds c : List Dt} (h : gSortedA ds = some c) : Dt.freeA c = true := by
  have key : ∀ ms : List Int, Dt.freeA (ms.map Dt.int) = true := by
    intro ms
    induction ms with
    | nil => rfl
    | cons m ms ih => show (true && Dt.freeA (ms.map Dt.int)) = true; rw [ih]; rfl
  unfold gSortedA at h
  split at h
  · obtain ⟨ns, _, h2⟩ := obind h
    cases h2
    exact key _
  · obtain ⟨ns, _, h2⟩ := obind h
    cases h2
    exact key _
  · cases h
section
variable {T : List Addr} {X : Cx} {K : PySem.W.Frag} {e : Expr} {tr : TA} {fr : FnL} {pos : Pos}
theorem kSortedA (hk : X.K = K) : CallR X (.builtin "sorted") (rSortedA K) ∧ CallF T K (rSortedA K) gSortedA := by subst hk; exact ⟨CallR.or' cr_sortedI cr_sortedT, fun W H vs ds c Q g wl r h q => by
  match ds, h with
  | x0 :: _ :: _, h => cases x0 <;> cases h
  | [.lst l], h => exact .inl ((kSortedL (X := X) (T := T) rfl).2 W H vs [.lst l] c Q g wl r h q)
  | [.tup l], h =>
    obtain ⟨v, rfl, r1⟩ := repA1 r
    cases r1 with
    | tup h1 ra =>
      obtain ⟨ns, h2, h3⟩ := obind h
      cases h3
      have hd := ints?_some h2
      rw [hd] at ra
      have hz := g.1 _ _ (.inr h1)
      rw [ra.ints] at h1 hz
      refine .inr ⟨_, ns, rfl, .of h1, fun ms p hp hs hn => ?_⟩
      have e := sortI_one hp hs
      subst e
      refine q p _ _ (Ext.new hn) (g.newL hn ?_) hn upd_same (repA_ints _)
      rw [List.length_map, (sortI_perm ns).length_eq]
      rw [List.length_map] at hz
      exact hz⟩
theorem df_sortedA {q : Pos} (hm : X.mg "sorted" = none) (ha : DA false T K X [e] tr fr) (hg : Gl X "sorted" := by rfl) (hv : bootBuiltins "sorted" = some (.builtin "sorted") := by decide +kernel)
    (he : starEach [e] X.env = (false, eval e X.env) :: starEach [] X.env := by rfl) (hpl : (backTo pos (starEach [] X.env)).any (·.1) = false := by rfl) (hk : X.K = K := by rfl) :
    DF T K X (.Call (.Name "sorted" q) [e] [] pos) (tCB (rSortedA K) tr) (fNL gSortedA fr) := by subst hk; exact ⟨pe_callB (kSortedA (T := T) rfl).1 hg hm hv ha.pa (by decide) (by decide) he hpl, fun W ρ σ H d Q gd rp e q => by
  obtain ⟨ds, ea, e⟩ := obind e
  refine ha.sd W ρ σ H ds _ gd rp ea fun vs H1 e1 g1 r1 => ?_
  refine (kSortedA (T := T) rfl).2 (wOf false W ρ σ) H1 vs ds d Q g1 (fun p z => (rp.ext e1).wo z) r1 e fun p us H2 e2 g2 hp hp2 r2 => ?_
  exact q p us H2 (e1.trans e2) g2 (e1.there p hp) hp2 (r2.free (gSortedA_free e))⟩
end
@[simp] theorem gSortedA_l (l : List Int) : gSortedA [.lst (l.map Dt.int)] = some ((sortI l).map Dt.int) := by
  show ((ints? (l.map Dt.int)).bind fun ns => some ((sortI ns).map Dt.int)) = _
  rw [ints?_map]; rfl
@[simp] theorem gSortedA_t (l : List Int) : gSortedA [.tup (l.map Dt.int)] = some ((sortI l).map Dt.int) := by
  show ((ints? (l.map Dt.int)).bind fun ns => some ((sortI ns).map Dt.int)) = _
  rw [ints?_map]; rfl
end EL
end

section
set_option Elab.async false
set_option maxRecDepth 100000
/-! functions of the slots, printed by gen.py -/
namespace LK
open PySem PySem.Spec PyProof.Rows L2 EL

/- def is_sequence(jobs, order): slots 0:jobs 1:order 2:now 3:place -/
noncomputable def F_is_sequence : FnS := (sSeq (sIf (fCmp gNe (fLst (fNL gSortedA (fAc (fV 1) fA0))) (fLst (fLR (fR1 (fN gLen (fAc (fV 0) fA0)))))) (sRet (fC (.bl false))) sNil)
  (sSeq (sSet 2 (fC (.int 0)))
  (sSeq (sFor (f1L gItems (fV 1)) (hName 3) [true, false, true, false]
   (sSeq (sAug 2 (gI (fun _ _ => true) fun i j => i + j) (f2 gIx (f2 gIx (fV 0) (fV 3)) (fC (.int 0))))
  (sIf (fCmp (gII bGt) (fV 2) (f2 gIx (f2 gIx (fV 0) (fV 3)) (fC (.int 1)))) (sRet (fC (.bl false))) sNil)))
  (sRet (fC (.bl true))))))
noncomputable def R_is_sequence : List Dt → Option Dt := runF 4 F_is_sequence

/- def late_lot(jobs): slots 0:jobs 1:job 2:due 3:length 4:other -/
noncomputable def F_late_lot : FnS := (sSeq (sFor (fNL gSorted (fAc (fLst (fComp (f1L gItems (fV 0)) (hName 1) fYes (f2 gIx (fV 1) (fC (.int 1))) [1])) fA0)) (hName 2) [true, false, false, false, false]
   (sIf (fCmp (gII bGt) (fN gSum (fAc (fLst (fComp (f1L gItems (fV 0)) (hTup 2 (hCons (hName 3) (hCons (hName 4) hNil))) (fCmp (gII bLe) (fV 4) (fV 2)) (fV 3) [3, 4])) fA0)) (fV 2)) (sRet (fV 2)) sNil))
  (sRet (fC .non)))
noncomputable def R_late_lot : List Dt → Option Dt := runF 5 F_late_lot

/- def told_sequence(jobs): slots 0:jobs 1:order 2:now 3:left 4:place 5:other 6:rest 7:then -/
noncomputable def F_told_sequence : FnS := (sSeq (sIf (fCmp gNotN (fFn 1 R_late_lot (fAc (fV 0) fA0)) (fC .non)) (sRet (fC .non)) sNil)
  (sSeq (sSet 1 (fTup fA0))
  (sSeq (sSet 2 (fC (.int 0)))
  (sSeq (sSet 3 (fLst (fLR (fR1 (fN gLen (fAc (fV 0) fA0))))))
  (sSeq (sWhile (fTru (fV 3)) [true, true, true, true, true, false, true, true]
   (sSeq (sFor (f1L gItems (fV 3)) (hName 4) [true, true, true, true, true, false, true, true]
   (sSeq (sSet 6 (fLst (fComp (f1L gItems (fV 3)) (hName 5) (fCmp gNe (fV 5) (fV 4)) (fV 5) [5])))
  (sSeq (sSet 7 (f2 gAdd (fV 2) (f2 gIx (f2 gIx (fV 0) (fV 4)) (fC (.int 0)))))
  (sIf (fAnd (fCmp (gII bLe) (fV 7) (f2 gIx (f2 gIx (fV 0) (fV 4)) (fC (.int 1)))) (fCmp gIsN (fFn 1 R_late_lot (fAc (fLst (fComp (f1L gItems (fV 6)) (hName 5) fYes (fTup (fAc (f2 gIx (f2 gIx (fV 0) (fV 5)) (fC (.int 0))) (fAc (f2 gMinus (f2 gIx (f2 gIx (fV 0) (fV 5)) (fC (.int 1))) (fV 7)) fA0))) [5])) fA0)) (fC .non))) (fun ρ => some (.bk ρ)) sNil))))
  (sSeq (sSet 1 (f2 gAdd (fV 1) (fTup (fAc (fV 4) fA0))))
  (sSeq (sSet 2 (fV 7))
  (sSet 3 (fV 6))))))
  (sRet (fV 1)))))))
noncomputable def R_told_sequence : List Dt → Option Dt := runF 8 F_told_sequence

/- def _law_cell(script, k): slots 0:script 1:k -/
noncomputable def F_f_law_cell : FnS := (sSeq (sIf (fCmp (gII bLt) (fV 1) (fN gLen (fAc (fV 0) fA0))) (sRet (f2 gIx (fV 0) (fV 1))) sNil)
  (sRet (f2 gAdd (f2 gMul (fC (.int 5)) (fV 1)) (fC (.int 3)))))
noncomputable def R_f_law_cell : List Dt → Option Dt := runF 2 F_f_law_cell

/- def _law_draws(cell, count): slots 0:cell 1:count 2:rest 3:digits 4:seed 5:draws 6:k 7:mixed -/
noncomputable def F_f_law_draws : FnS := (sSeq (sSet 2 (fN gAbs (fAc (fN gInt (fAc (fV 0) fA0)) fA0)))
  (sSeq (sSet 3 (fOfB (fCmp (gII bGe) (fV 2) (f2 (gI cPow fun i j => i ^ j.toNat) (fC (.int 10)) (fC (.int 18))))))
  (sSeq (sSet 4 (fV 2))
  (sSeq (sSetF 5 (fLstL fA0))
  (sSeq (sFor (fNL gRng1 (fAc (fV 1) fA0)) (hName 6) [false, false, true, true, true, true, false, false]
   (sIf (fAnd (fTru (fV 3)) (fCmp (gII bGt) (fV 2) (fC (.int 0)))) (sSeq (sMut 5 gAppend (fAc (f2 (gI cMod Int.fmod) (fN gInt (fAc (fV 2) fA0)) (fC (.int 5040))) fA0))
  (sSet 2 (f2 (gI cDiv Int.fdiv) (fV 2) (fC (.int 5040))))) (sSeq (sSet 7 (f2 (gI cMod Int.fmod) (fN gInt (fAc (f2 gAdd (f2 gAdd (f2 gMul (fV 4) (fC (.int 48271))) (f2 gMul (f2 gAdd (fV 6) (fC (.int 1))) (fC (.int 69621)))) (fC (.int 11))) fA0)) (fC (.int 2147483647))))
  (sSeq (sSet 7 (f2 (gI cMod Int.fmod) (fN gInt (fAc (f2 gAdd (f2 gMul (fV 7) (fV 7)) (f2 gMul (fC (.int 40692)) (f2 gAdd (fV 6) (fC (.int 3))))) fA0)) (fC (.int 2147483399))))
  (sMut 5 gAppend (fAc (f2 (gI cMod Int.fmod) (fN gInt (fAc (f2 (gI cDiv Int.fdiv) (fV 7) (fC (.int 64))) fA0)) (fC (.int 5040))) fA0))))))
  (sFrz [5] (sRet (fV 5))))))))
noncomputable def R_f_law_draws : List Dt → Option Dt := runF 8 F_f_law_draws

/- def _law_is_integer(value): slots 0:value -/
noncomputable def F_f_law_is_integer : FnS := (sRet (fAndV (fIsi "int" (fV 0)) (fOfB (fNot (fB (fIsi "bool" (fV 0)))))))
noncomputable def R_f_law_is_integer : List Dt → Option Dt := runF 1 F_f_law_is_integer

/- def _law_is(value, due): slots 0:value 1:due 2:at -/
noncomputable def F_f_law_is (r : List Dt → Option Dt) : FnS := (sSeq (sIf (fCmp gIsN (fV 1) (fC .non)) (sRet (fOfB (fCmp gIsN (fV 0) (fC .non)))) sNil)
  (sSeq (sIf (fTru (fIsi "bool" (fV 1))) (sRet (fAndV (fIsi "bool" (fV 0)) (fOfB (fCmp gEq (fV 0) (fV 1))))) sNil)
  (sSeq (sIf (fTru (fIsi "int" (fV 1))) (sRet (fAndV (fFn 1 R_f_law_is_integer (fAc (fV 0) fA0)) (fOfB (fCmp gEq (fV 0) (fV 1))))) sNil)
  (sSeq (sIf (fTru (fIsi "str" (fV 1))) (sRet (fAndV (fIsi "str" (fV 0)) (fOfB (fCmp gEq (fV 0) (fV 1))))) sNil)
  (sSeq (sIf (fOr (fNot (fTru (fIsi "tuple" (fV 0)))) (fCmp gNe (fN gLen (fAc (fV 0) fA0)) (fN gLen (fAc (fV 1) fA0)))) (sRet (fC (.bl false))) sNil)
  (sRet (fN gAll (fAc (fLst (fComp (fNL gRng1 (fAc (fN gLen (fAc (fV 1) fA0)) fA0)) (hName 2) fYes (fFn 2 r (fAc (f2 gIx (fV 0) (fV 2)) (fAc (f2 gIx (fV 1) (fV 2)) fA0))) [2])) fA0))))))))
noncomputable def Rn_f_law_is : Nat → List Dt → Option Dt
  | 0 => fun _ => none
  | k + 1 => runF 3 (F_f_law_is (Rn_f_law_is k))
noncomputable def R_f_law_is : List Dt → Option Dt := Rn_f_law_is 6

/- def _law_bent(row, draws, most): slots 0:row 1:draws 2:most 3:way 4:at 5:odd -/
noncomputable def F_f_law_bent : FnS := (sSeq (sSet 3 (f2 (gI cMod Int.fmod) (fN gInt (fAc (f2 gIx (fV 1) (fC (.int 0))) fA0)) (fC (.int 6))))
  (sSeq (sSet 4 (f2 (gI cMod Int.fmod) (fN gInt (fAc (f2 gIx (fV 1) (fC (.int 1))) fA0)) (f2 gAdd (fN gLen (fAc (fV 0) fA0)) (fC (.int 1)))))
  (sSeq (sSet 5 (f2 gIx (fTup (fAc (f2 gMinus (f2 (gI cMod Int.fmod) (fN gInt (fAc (f2 gIx (fV 1) (fC (.int 2))) fA0)) (f2 gAdd (fV 2) (fC (.int 3)))) (fC (.int 1))) (fAc (f2 (gI cPow fun i j => i ^ j.toNat) (fC (.int 10)) (fC (.int 20))) (fAc (f2 gMinus (fC (.int 0)) (fC (.int 1))) fA0)))) (f2 (gI cDiv Int.fdiv) (f2 (gI cMod Int.fmod) (f2 (gI cDiv Int.fdiv) (fN gInt (fAc (f2 gIx (fV 1) (fC (.int 2))) fA0)) (fC (.int 60))) (fC (.int 14))) (fC (.int 6)))))
  (sSeq (sIf (fCmp gEq (fV 3) (fC (.int 0))) (sRet (f2 gAdd (fSl (fV 0) fNoP (fPart (fV 4))) (fSl (fV 0) (fPart (f2 gAdd (fV 4) (fC (.int 1)))) fNoP))) sNil)
  (sSeq (sIf (fCmp gEq (fV 3) (fC (.int 1))) (sRet (f2 gAdd (f2 gAdd (fSl (fV 0) fNoP (fPart (fV 4))) (fTup (fAc (fV 5) fA0))) (fSl (fV 0) (fPart (fV 4)) fNoP))) sNil)
  (sSeq (sIf (fCmp (gII bLt) (fV 3) (fC (.int 4))) (sRet (f2 gAdd (f2 gAdd (fSl (fV 0) fNoP (fPart (fV 4))) (fTup (fAc (fV 5) fA0))) (fSl (fV 0) (fPart (f2 gAdd (fV 4) (fC (.int 1)))) fNoP))) sNil)
  (sRet (fIf (fCmp gEq (fV 3) (fC (.int 4))) (fSlr (fV 0) fNoP fNoP) (f2 gAdd (fSl (fV 0) fNoP (fPart (fV 4))) (fSl (fV 0) (fPart (fN gMax2 (fAc (fC (.int 0)) (fAc (f2 gMinus (fV 4) (fC (.int 1))) fA0)))) fNoP))))))))))
noncomputable def R_f_law_bent : List Dt → Option Dt := runF 6 F_f_law_bent

/- def _law_orders(items): slots 0:items 1:found 2:turn 3:longer 4:row 5:item -/
noncomputable def F_f_law_orders : FnS := (sSeq (sSet 1 (fLst (fLstL (fAc (fTup fA0) fA0))))
  (sSeq (sFor (fNL gRng1 (fAc (fN gLen (fAc (fV 0) fA0)) fA0)) (hName 2) [true, true, false, false, false, false]
   (sSeq (sSet 3 (fLst (fLstL fA0)))
  (sSeq (sFor (f1L gItems (fV 1)) (hName 4) [true, false, false, true, false, false]
   (sSet 3 (f2 gAdd (fV 3) (fLst (fComp (f1L gItems (fV 0)) (hName 5) (fCmp gNotIn (fV 5) (fV 4)) (f2 gAdd (fV 4) (fTup (fAc (fV 5) fA0))) [5])))))
  (sSet 1 (fV 3)))))
  (sRet (fV 1))))
noncomputable def R_f_law_orders : List Dt → Option Dt := runF 6 F_f_law_orders

/- def _law_jobs(draws, way): slots 0:draws 1:way 2:size 3:at 4:lengths 5:dues 6:hidden 7:now 8:place 9:due -/
noncomputable def F_f_law_jobs : FnS := (sSeq (sSet 2 (fIf (fCmp gNe (fV 1) (fC (.int 1))) (f2 (gI cMod Int.fmod) (fN gInt (fAc (f2 gIx (fV 0) (fC (.int 0))) fA0)) (fC (.int 6))) (f2 gAdd (fC (.int 1)) (f2 (gI cMod Int.fmod) (fN gInt (fAc (f2 gIx (fV 0) (fC (.int 0))) fA0)) (fC (.int 5))))))
  (sSeq (sSet 4 (fLst (fComp (fNL gRng1 (fAc (fV 2) fA0)) (hName 3) fYes (f2 gAdd (fC (.int 1)) (f2 (gI cMod Int.fmod) (fN gInt (fAc (f2 gIx (fV 0) (f2 gAdd (fC (.int 1)) (fV 3))) fA0)) (f2 gIx (fTup (fAc (fC (.int 3)) (fAc (fC (.int 7)) fA0))) (f2 (gI cMod Int.fmod) (fN gInt (fAc (f2 gIx (fV 0) (fC (.int 6))) fA0)) (fC (.int 2)))))) [3])))
  (sSeq (sSetF 5 (fComp (fNL gRng1 (fAc (fV 2) fA0)) (hName 3) fYes (f2 (gI cMod Int.fmod) (fN gInt (fAc (f2 gIx (fV 0) (f2 gAdd (fC (.int 7)) (fV 3))) fA0)) (f2 gAdd (fN gSum (fAc (fV 4) fA0)) (fC (.int 4)))) [3]))
  (sSeq (sSetF 6 (fLstL fA0))
  (sSeq (sFor (fNL gRng1 (fAc (fV 2) fA0)) (hName 3) [true, true, true, false, true, true, true, false, false, false]
   (sMut 6 gInsert (fAc (f2 (gI cMod Int.fmod) (fN gInt (fAc (f2 gIx (fV 0) (f2 gAdd (fC (.int 12)) (fV 3))) fA0)) (f2 gAdd (fV 3) (fC (.int 1)))) (fAc (fV 3) fA0))))
  (sSeq (sSet 7 (fC (.int 0)))
  (sSeq (sFrz [6] (sFor (f1L gItems (fV 6)) (hName 8) [true, true, true, false, true, true, true, true, false, false]
   (sSeq (sSet 7 (f2 gAdd (fV 7) (f2 gIx (fV 4) (fV 8))))
  (sSeq (sIf (fCmp gEq (fV 1) (fC (.int 0))) (sPut 5 (fV 8) (fN gMin2 (fAc (fC (.int 40)) (fAc (f2 gAdd (fV 7) (f2 gMul (f2 (gI cMod Int.fmod) (fN gInt (fAc (f2 gIx (fV 0) (f2 gAdd (fC (.int 7)) (fV 8))) fA0)) (fC (.int 3))) (f2 (gI cMod Int.fmod) (f2 (gI cDiv Int.fdiv) (fN gInt (fAc (f2 gIx (fV 0) (f2 gAdd (fC (.int 7)) (fV 8))) fA0)) (fC (.int 3))) (fC (.int 5))))) fA0)))) sNil)
  (sIf (fAnd (fCmp gEq (fV 1) (fC (.int 2))) (fCmp (gII bGt) (f2 (gI cMod Int.fmod) (fN gInt (fAc (f2 gIx (fV 0) (f2 gAdd (fC (.int 7)) (fV 8))) fA0)) (fC (.int 5))) (fC (.int 1)))) (sPut 5 (fV 8) (fN gMin2 (fAc (fC (.int 40)) (fAc (f2 gAdd (fV 7) (f2 (gI cMod Int.fmod) (f2 (gI cDiv Int.fdiv) (fN gInt (fAc (f2 gIx (fV 0) (f2 gAdd (fC (.int 7)) (fV 8))) fA0)) (fC (.int 5))) (fC (.int 3)))) fA0)))) sNil)))))
  (sSeq (sIf (fCmp gEq (fV 1) (fC (.int 1))) (sSeq (sSet 9 (f2 gMinus (fN gSum (fAc (fSl (fV 4) fNoP (fPart (f2 gAdd (fC (.int 1)) (f2 (gI cMod Int.fmod) (fN gInt (fAc (f2 gIx (fV 0) (fC (.int 17))) fA0)) (fV 2))))) fA0)) (fC (.int 1))))
  (sFor (fNL gRng1 (fAc (f2 gAdd (fC (.int 1)) (f2 (gI cMod Int.fmod) (fN gInt (fAc (f2 gIx (fV 0) (fC (.int 17))) fA0)) (fV 2))) fA0)) (hName 3) [true, false, true, false, true, true, false, false, false, true]
   (sPut 5 (fV 3) (f2 gMinus (fV 9) (f2 gMul (f2 (gI cMod Int.fmod) (fN gInt (fAc (f2 gIx (fV 0) (f2 gAdd (fC (.int 7)) (fV 3))) fA0)) (fC (.int 2))) (f2 (gI cMod Int.fmod) (f2 (gI cDiv Int.fdiv) (fN gInt (fAc (f2 gIx (fV 0) (fC (.int 17))) fA0)) (fC (.int 5))) (f2 gAdd (fV 9) (fC (.int 1))))))))) sNil)
  (sFrz [5] (sRet (fN gTuple (fAc (fLst (fComp (fNL gRng1 (fAc (fV 2) fA0)) (hName 3) fYes (fTup (fAc (f2 gIx (fV 4) (fV 3)) (fAc (f2 gIx (fV 5) (fV 3)) fA0))) [3])) fA0))))))))))))
noncomputable def R_f_law_jobs : List Dt → Option Dt := runF 10 F_f_law_jobs

/- def _law_sequence(jobs, order): slots 0:jobs 1:order 2:now 3:at -/
noncomputable def F_f_law_sequence : FnS := (sSeq (sSet 2 (fC (.int 0)))
  (sSeq (sFor (fNL gRng1 (fAc (fN gLen (fAc (fV 1) fA0)) fA0)) (hName 3) [true, true, true, false]
   (sSeq (sIf (fOr (fNot (fChain (gII bLe) (gII bLt) (fC (.int 0)) (f2 gIx (fV 1) (fV 3)) (fN gLen (fAc (fV 0) fA0)))) (fCmp gIn (f2 gIx (fV 1) (fV 3)) (fSl (fV 1) fNoP (fPart (fV 3))))) (sRet (fC (.bl false))) sNil)
  (sSeq (sSet 2 (f2 gAdd (fV 2) (f2 gIx (f2 gIx (fV 0) (f2 gIx (fV 1) (fV 3))) (fC (.int 0)))))
  (sIf (fCmp (gII bLt) (f2 gIx (f2 gIx (fV 0) (f2 gIx (fV 1) (fV 3))) (fC (.int 1))) (fV 2)) (sRet (fC (.bl false))) sNil))))
  (sRet (fOfB (fCmp gEq (fN gLen (fAc (fV 1) fA0)) (fN gLen (fAc (fV 0) fA0)))))))
noncomputable def R_f_law_sequence : List Dt → Option Dt := runF 4 F_f_law_sequence

/- def law(script): slots 0:script 1:way 2:jobs 3:every 4:order 5:good 6:lots 7:length 8:due 9:job 10:more 11:turn 12:base 13:asked -/
noncomputable def F_law : FnS := (sSeq (sFor (fNL gRng1 (fAc (fC (.int 3)) fA0)) (hName 1) [true, false, false, false, false, false, false, false, false, false, false, false, false, false]
   (sSeq (sSet 2 (fFn 2 R_f_law_jobs (fAc (fFn 2 R_f_law_draws (fAc (fFn 2 R_f_law_cell (fAc (fV 0) (fAc (fV 1) fA0))) (fAc (fC (.int 18)) fA0))) (fAc (fV 1) fA0))))
  (sSeq (sSet 3 (fFn 1 R_f_law_orders (fAc (fTR (fR1 (fN gLen (fAc (fV 2) fA0)))) fA0)))
  (sSeq (sSet 5 (fLst (fComp (f1L gItems (fV 3)) (hName 4) (fTru (fFn 2 R_f_law_sequence (fAc (fV 2) (fAc (fV 4) fA0)))) (fV 4) [4])))
  (sSeq (sSetF 6 (fLstL fA0))
  (sSeq (sFor (f1L gItems (fV 2)) (hTup 2 (hCons (hName 7) (hCons (hName 8) hNil))) [true, true, true, true, false, true, true, false, false, false, false, false, false, false]
   (sIf (fCmp (gII bGt) (fN gSum (fAc (fLst (fComp (f1L gItems (fV 2)) (hName 9) (fCmp (gII bLe) (f2 gIx (fV 9) (fC (.int 1))) (fV 8)) (f2 gIx (fV 9) (fC (.int 0))) [9])) fA0)) (fV 8)) (sMut 6 gAppend (fAc (fV 8) fA0)) sNil))
  (sSeq (sIf (fOr (fCmp gNe (fOfB (fCmp (gII bGt) (fN gLen (fAc (fV 5) fA0)) (fC (.int 0)))) (fOfB (fCmp gEq (fN gLen (fAc (fVb 6) fA0)) (fC (.int 0))))) (fAnd (fCmp (gII bLt) (fV 1) (fC (.int 2))) (fCmp gNe (fOfB (fCmp (gII bGt) (fN gLen (fAc (fV 5) fA0)) (fC (.int 0)))) (fOfB (fCmp gEq (fV 1) (fC (.int 0))))))) (sRet (fC (.bl false))) sNil)
  (sSeq (sIf (fNot (fTru (fFn 2 R_f_law_is (fAc (fFn 1 R_told_sequence (fAc (fV 2) fA0)) (fAc (fIf (fCmp (gII bGt) (fN gLen (fAc (fV 5) fA0)) (fC (.int 0))) (f2 gIx (fV 5) (fC (.int 0))) (fC .non)) fA0))))) (sRet (fC (.bl false))) sNil)
  (sSeq (sIf (fNot (fTru (fFn 2 R_f_law_is (fAc (fFn 1 R_late_lot (fAc (fV 2) fA0)) (fAc (fIf (fCmp (gII bGt) (fN gLen (fAc (fVb 6) fA0)) (fC (.int 0))) (fN gMinD (fAc (fVb 6) fA0)) (fC .non)) fA0))))) (sRet (fC (.bl false))) sNil)
  (sSeq (sSet 10 (fFn 2 R_f_law_draws (fAc (fFn 2 R_f_law_cell (fAc (fV 0) (fAc (f2 gAdd (fC (.int 3)) (fV 1)) fA0))) (fAc (fC (.int 16)) fA0))))
  (sFor (fNL gRng1 (fAc (fC (.int 8)) fA0)) (hName 11) [true, false, true, true, false, true, false, false, false, false, true, false, false, false]
   (sSeq (sSet 12 (f2 gIx (fV 3) (f2 (gI cMod Int.fmod) (fN gInt (fAc (f2 gIx (fV 10) (fV 11)) fA0)) (fN gLen (fAc (fV 3) fA0)))))
  (sSeq (sIf (fAnd (fCmp (gII bLt) (fV 11) (fC (.int 5))) (fCmp (gII bGt) (fN gLen (fAc (fV 5) fA0)) (fC (.int 0)))) (sSet 12 (f2 gIx (fV 5) (f2 (gI cMod Int.fmod) (fN gInt (fAc (f2 gIx (fV 10) (fV 11)) fA0)) (fN gLen (fAc (fV 5) fA0))))) sNil)
  (sSeq (sSet 13 (fIf (fCmp (gII bLt) (fV 11) (fC (.int 3))) (fV 12) (fFn 3 R_f_law_bent (fAc (fV 12) (fAc (fSl (fV 10) (fPart (f2 gMinus (f2 gAdd (fC (.int 8)) (fV 11)) (fC (.int 3)))) (fPart (f2 gMinus (f2 gAdd (fC (.int 11)) (fV 11)) (fC (.int 3))))) (fAc (fN gLen (fAc (fV 2) fA0)) fA0))))))
  (sIf (fNot (fTru (fFn 2 R_f_law_is (fAc (fFn 2 R_is_sequence (fAc (fV 2) (fAc (fV 13) fA0))) (fAc (fFn 2 R_f_law_sequence (fAc (fV 2) (fAc (fV 13) fA0))) fA0))))) (sRet (fC (.bl false))) sNil)))))))))))))))
  (sRet (fC (.bl true))))
noncomputable def R_law : List Dt → Option Dt := runF 14 F_law

end LK
end

section
set_option Elab.async false
set_option maxRecDepth 100000
set_option maxHeartbeats 4000000
/-! the derivations, printed by gen.py -/
namespace LK
open PySem PySem.Spec PyProof.Rows L2 EL
def topS (i : Nat) : Stmt := PySem.Challenge.pw_breadward_k32_whole_sequences_or_a_late.main.body.getD i (.Pass ⟨0, 0, 0, 0⟩)
abbrev s_is_sequence : Stmt := topS 1
theorem sc_is_sequence : FnScope ["jobs", "order", "now", "place"] ["jobs", "order"] (defScope s_is_sequence) := ⟨rfl, rfl, rfl, by decide +kernel, rfl, by decide +kernel, by decide +kernel⟩
abbrev s_late_lot : Stmt := topS 2
theorem sc_late_lot : FnScope ["jobs", "job", "due", "length", "other"] ["jobs"] (defScope s_late_lot) := ⟨rfl, rfl, rfl, by decide +kernel, rfl, by decide +kernel, by decide +kernel⟩
abbrev s_told_sequence : Stmt := topS 3
theorem sc_told_sequence : FnScope ["jobs", "order", "now", "left", "place", "other", "rest", "then"] ["jobs"] (defScope s_told_sequence) := ⟨rfl, rfl, rfl, by decide +kernel, rfl, by decide +kernel, by decide +kernel⟩
abbrev s_f_law_cell : Stmt := topS 5
theorem sc_f_law_cell : FnScope ["script", "k"] ["script", "k"] (defScope s_f_law_cell) := ⟨rfl, rfl, rfl, by decide +kernel, rfl, by decide +kernel, by decide +kernel⟩
abbrev s_f_law_draws : Stmt := topS 6
theorem sc_f_law_draws : FnScope ["cell", "count", "rest", "digits", "seed", "draws", "k", "mixed"] ["cell", "count"] (defScope s_f_law_draws) := ⟨rfl, rfl, rfl, by decide +kernel, rfl, by decide +kernel, by decide +kernel⟩
abbrev s_f_law_is_integer : Stmt := topS 7
theorem sc_f_law_is_integer : FnScope ["value"] ["value"] (defScope s_f_law_is_integer) := ⟨rfl, rfl, rfl, by decide +kernel, rfl, by decide +kernel, by decide +kernel⟩
abbrev s_f_law_is : Stmt := topS 8
theorem sc_f_law_is : FnScope ["value", "due", "at"] ["value", "due"] (defScope s_f_law_is) := ⟨rfl, rfl, rfl, by decide +kernel, rfl, by decide +kernel, by decide +kernel⟩
abbrev s_f_law_bent : Stmt := topS 9
theorem sc_f_law_bent : FnScope ["row", "draws", "most", "way", "at", "odd"] ["row", "draws", "most"] (defScope s_f_law_bent) := ⟨rfl, rfl, rfl, by decide +kernel, rfl, by decide +kernel, by decide +kernel⟩
abbrev s_f_law_orders : Stmt := topS 10
theorem sc_f_law_orders : FnScope ["items", "found", "turn", "longer", "row", "item"] ["items"] (defScope s_f_law_orders) := ⟨rfl, rfl, rfl, by decide +kernel, rfl, by decide +kernel, by decide +kernel⟩
abbrev s_f_law_jobs : Stmt := topS 11
theorem sc_f_law_jobs : FnScope ["draws", "way", "size", "at", "lengths", "dues", "hidden", "now", "place", "due"] ["draws", "way"] (defScope s_f_law_jobs) := ⟨rfl, rfl, rfl, by decide +kernel, rfl, by decide +kernel, by decide +kernel⟩
abbrev s_f_law_sequence : Stmt := topS 12
theorem sc_f_law_sequence : FnScope ["jobs", "order", "now", "at"] ["jobs", "order"] (defScope s_f_law_sequence) := ⟨rfl, rfl, rfl, by decide +kernel, rfl, by decide +kernel, by decide +kernel⟩
abbrev s_law : Stmt := topS 13
theorem sc_law : FnScope ["script", "way", "jobs", "every", "order", "good", "lots", "length", "due", "job", "more", "turn", "base", "asked"] ["script"] (defScope s_law) := ⟨rfl, rfl, rfl, by decide +kernel, rfl, by decide +kernel, by decide +kernel⟩
/-- what the top leaves -/
structure Top (K : PySem.W.Frag) (mg : Str → Option Value) where
  f_is_sequence : Addr
  d_is_sequence : FuncData
  F_is_sequence : Fun K "is_sequence" "is_sequence" s_is_sequence f_is_sequence d_is_sequence
  b_is_sequence : Binds K d_is_sequence ["jobs", "order"] []
  g_is_sequence : mg "is_sequence" = some (.ref f_is_sequence)
  f_late_lot : Addr
  d_late_lot : FuncData
  F_late_lot : Fun K "late_lot" "late_lot" s_late_lot f_late_lot d_late_lot
  b_late_lot : Binds K d_late_lot ["jobs"] []
  g_late_lot : mg "late_lot" = some (.ref f_late_lot)
  f_told_sequence : Addr
  d_told_sequence : FuncData
  F_told_sequence : Fun K "told_sequence" "told_sequence" s_told_sequence f_told_sequence d_told_sequence
  b_told_sequence : Binds K d_told_sequence ["jobs"] []
  g_told_sequence : mg "told_sequence" = some (.ref f_told_sequence)
  f_f_law_cell : Addr
  d_f_law_cell : FuncData
  F_f_law_cell : Fun K "_law_cell" "_law_cell" s_f_law_cell f_f_law_cell d_f_law_cell
  b_f_law_cell : Binds K d_f_law_cell ["script", "k"] []
  g_f_law_cell : mg "_law_cell" = some (.ref f_f_law_cell)
  f_f_law_draws : Addr
  d_f_law_draws : FuncData
  F_f_law_draws : Fun K "_law_draws" "_law_draws" s_f_law_draws f_f_law_draws d_f_law_draws
  b_f_law_draws : Binds K d_f_law_draws ["cell", "count"] []
  g_f_law_draws : mg "_law_draws" = some (.ref f_f_law_draws)
  f_f_law_is_integer : Addr
  d_f_law_is_integer : FuncData
  F_f_law_is_integer : Fun K "_law_is_integer" "_law_is_integer" s_f_law_is_integer f_f_law_is_integer d_f_law_is_integer
  b_f_law_is_integer : Binds K d_f_law_is_integer ["value"] []
  g_f_law_is_integer : mg "_law_is_integer" = some (.ref f_f_law_is_integer)
  f_f_law_is : Addr
  d_f_law_is : FuncData
  F_f_law_is : Fun K "_law_is" "_law_is" s_f_law_is f_f_law_is d_f_law_is
  b_f_law_is : Binds K d_f_law_is ["value", "due"] []
  g_f_law_is : mg "_law_is" = some (.ref f_f_law_is)
  f_f_law_bent : Addr
  d_f_law_bent : FuncData
  F_f_law_bent : Fun K "_law_bent" "_law_bent" s_f_law_bent f_f_law_bent d_f_law_bent
  b_f_law_bent : Binds K d_f_law_bent ["row", "draws", "most"] []
  g_f_law_bent : mg "_law_bent" = some (.ref f_f_law_bent)
  f_f_law_orders : Addr
  d_f_law_orders : FuncData
  F_f_law_orders : Fun K "_law_orders" "_law_orders" s_f_law_orders f_f_law_orders d_f_law_orders
  b_f_law_orders : Binds K d_f_law_orders ["items"] []
  g_f_law_orders : mg "_law_orders" = some (.ref f_f_law_orders)
  f_f_law_jobs : Addr
  d_f_law_jobs : FuncData
  F_f_law_jobs : Fun K "_law_jobs" "_law_jobs" s_f_law_jobs f_f_law_jobs d_f_law_jobs
  b_f_law_jobs : Binds K d_f_law_jobs ["draws", "way"] []
  g_f_law_jobs : mg "_law_jobs" = some (.ref f_f_law_jobs)
  f_f_law_sequence : Addr
  d_f_law_sequence : FuncData
  F_f_law_sequence : Fun K "_law_sequence" "_law_sequence" s_f_law_sequence f_f_law_sequence d_f_law_sequence
  b_f_law_sequence : Binds K d_f_law_sequence ["jobs", "order"] []
  g_f_law_sequence : mg "_law_sequence" = some (.ref f_f_law_sequence)
  f_law : Addr
  d_law : FuncData
  F_law : Fun K "law" "law" s_law f_law d_law
  b_law : Binds K d_law ["script"] []
  g_law : mg "law" = some (.ref f_law)
  m_abs : mg "abs" = none
  m_all : mg "all" = none
  m_bool : mg "bool" = none
  m_int : mg "int" = none
  m_isinstance : mg "isinstance" = none
  m_len : mg "len" = none
  m_list : mg "list" = none
  m_max : mg "max" = none
  m_min : mg "min" = none
  m_range : mg "range" = none
  m_sorted : mg "sorted" = none
  m_str : mg "str" = none
  m_sum : mg "sum" = none
  m_tuple : mg "tuple" = none
section
variable {P : Program} {w : World} {K : PySem.W.Frag} {mg : Str → Option Value} {base : Heap}
theorem ok_is_sequence (Z : Top K mg) : FnOk P w K mg base CX0 1 Z.f_is_sequence Z.d_is_sequence ["jobs", "order"] (spOf [] K 2 R_is_sequence) := by
  refine ok_def (T := []) Z.F_is_sequence sc_is_sequence (fun cdv A outer s H E hr => ?_)
  exact ⟨_, _, (dss_cons (ds_if (dt_cmp (cNe rfl hr.units) (DF.de (df_sortedA Z.m_sorted (da_cons (de_var 1) da_nil))) (DF.de (df_listR rfl (dr_1 (de_callB (kLen rfl) Z.m_len (by decide +kernel) (da_cons (de_var 0) da_nil)) Z.m_range) Z.m_list))) (dss_one (ds_ret de_bl)) dss_nil)
    (dss_cons (ds_set (i := 2) sc_is_sequence.nd de_int)
    (dss_cons (ds_for [true, false, true, false] PassesOwn.never rfl (di_seq (de_var 1)) (dg_name 3 sc_is_sequence.nd)
   (dss_cons (ds_aug (i := 2) sc_is_sequence.nd pipAdd (de_ix (de_ix (de_var 0) (de_var 3)) de_int))
    (dss_one (ds_if (dt_cmp cGt (de_var 2) (de_ix (de_ix (de_var 0) (de_var 3)) de_int)) (dss_one (ds_ret de_bl)) dss_nil))))
    (dss_one (ds_ret de_bl)))))⟩
theorem ok_late_lot (Z : Top K mg) : FnOk P w K mg base CX0 1 Z.f_late_lot Z.d_late_lot ["jobs"] (spOf [] K 1 R_late_lot) := by
  refine ok_def (T := []) Z.F_late_lot sc_late_lot (fun cdv A outer s H E hr => ?_)
  exact ⟨_, _, (dss_cons (ds_for [true, false, false, false, false] PassesOwn.never rfl (di_new (df_sortedI Z.m_sorted (da_cons (DF.de (df_lc (own := [("job", 1)]) rfl sc_late_lot.nd (di_seq (de_var 0)) (by kernel_rfl) (fun _ _ _ _ _ => (dg_name 1 sc_late_lot.nd)) (fun _ _ _ _ _ => dts_nil) (fun _ _ _ _ _ => (de_ix (de_var 1) de_int)))) da_nil))) (dg_name 2 sc_late_lot.nd)
   (dss_one (ds_if (dt_cmp cGt (de_callB (kSum rfl rfl) Z.m_sum (by decide +kernel) (da_cons (DF.de (df_lc (own := [("length", 3), ("other", 4)]) rfl sc_late_lot.nd (di_seq (de_var 0)) (by kernel_rfl) (fun _ _ _ _ _ => (dg_tup rfl (dgs_cons (dg_name 3 sc_late_lot.nd) (dgs_cons (dg_name 4 sc_late_lot.nd) dgs_nil)))) (fun _ _ _ _ _ => (dts_one (dt_cmp cLe (de_var 4) (de_var 2)))) (fun _ _ _ _ _ => (de_var 3)))) da_nil)) (de_var 2)) (dss_one (ds_ret (de_var 2))) dss_nil)))
    (dss_one (ds_ret de_non)))⟩
theorem ok_told_sequence (Z : Top K mg) : FnOk P w K mg base CX0 2 Z.f_told_sequence Z.d_told_sequence ["jobs"] (spOf [] K 1 R_told_sequence) := by
  have O_late_lot := ok_late_lot (P := P) (w := w) (base := base) Z
  refine ok_def (T := []) Z.F_told_sequence sc_told_sequence (fun cdv A outer s H E hr => ?_)
  exact ⟨_, _, (dss_cons (ds_if (dt_cmp cNotN (de_call O_late_lot (hr.mono (by omega)) Z.g_late_lot Z.F_late_lot.kp Z.b_late_lot (da_cons (de_var 0) da_nil)) de_non) (dss_one (ds_ret de_non)) dss_nil)
    (dss_cons (ds_set (i := 1) sc_told_sequence.nd (de_tup da_nil))
    (dss_cons (ds_set (i := 2) sc_told_sequence.nd de_int)
    (dss_cons (ds_set (i := 3) sc_told_sequence.nd (DF.de (df_listR rfl (dr_1 (de_callB (kLen rfl) Z.m_len (by decide +kernel) (da_cons (de_var 0) da_nil)) Z.m_range) Z.m_list)))
    (dss_cons (ds_while [true, true, true, true, true, false, true, true] PassesOwn.never (dt_tru (de_var 3))
   (dss_cons (ds_for [true, true, true, true, true, false, true, true] PassesOwn.never rfl (di_seq (de_var 3)) (dg_name 4 sc_told_sequence.nd)
   (dss_cons (ds_setLcI (i := 6) (own := [("other", 5)]) rfl sc_told_sequence.nd (di_seq (de_var 3)) (by kernel_rfl) (fun _ _ _ _ _ => (dg_name 5 sc_told_sequence.nd)) (fun _ _ _ _ _ => (dts_one (dt_cmp (cNe rfl hr.units) (de_var 5) (de_var 4)))) (fun _ _ _ _ _ => (de_var 5)))
    (dss_cons (ds_set (i := 7) sc_told_sequence.nd (de_op (oAdd rfl) (de_var 2) (de_ix (de_ix (de_var 0) (de_var 4)) de_int)))
    (dss_one (ds_if (DW.dt (dw_and (dt_cmp cLe (de_var 7) (de_ix (de_ix (de_var 0) (de_var 4)) de_int)) (dw_and1 (dt_cmp cIsN (de_call O_late_lot (hr.mono (by omega)) Z.g_late_lot Z.F_late_lot.kp Z.b_late_lot (da_cons (DF.de (df_lc (own := [("other", 5)]) rfl sc_told_sequence.nd (di_seq (de_var 6)) (by kernel_rfl) (fun _ _ _ _ _ => (dg_name 5 sc_told_sequence.nd)) (fun _ _ _ _ _ => dts_nil) (fun _ _ _ _ _ => (de_tup (da_cons (de_ix (de_ix (de_var 0) (de_var 5)) de_int) (da_cons (de_op oSub (de_ix (de_ix (de_var 0) (de_var 5)) de_int) (de_var 7)) da_nil)))))) da_nil)) de_non)))) (dss_one ds_break) dss_nil)))))
    (dss_cons (ds_set (i := 1) sc_told_sequence.nd (de_op (oAdd rfl) (de_var 1) (de_tup (da_cons (de_var 4) da_nil))))
    (dss_cons (ds_set (i := 2) sc_told_sequence.nd (de_var 7))
    (dss_one (ds_set (i := 3) sc_told_sequence.nd (de_var 6)))))))
    (dss_one (ds_ret (de_var 1))))))))⟩
theorem ok_f_law_cell (Z : Top K mg) : FnOk P w K mg base CX0 1 Z.f_f_law_cell Z.d_f_law_cell ["script", "k"] (spOf [] K 2 R_f_law_cell) := by
  refine ok_def (T := []) Z.F_f_law_cell sc_f_law_cell (fun cdv A outer s H E hr => ?_)
  exact ⟨_, _, (dss_cons (ds_if (dt_cmp cLt (de_var 1) (de_callB (kLen rfl) Z.m_len (by decide +kernel) (da_cons (de_var 0) da_nil))) (dss_one (ds_ret (de_ix (de_var 0) (de_var 1)))) dss_nil)
    (dss_one (ds_ret (de_op (oAdd rfl) (de_op oMul de_int (de_var 1)) de_int))))⟩
theorem ok_f_law_draws (Z : Top K mg) : FnOk P w K mg base CX0 1 Z.f_f_law_draws Z.d_f_law_draws ["cell", "count"] (spOf [] K 2 R_f_law_draws) := by
  refine ok_def (T := []) Z.F_f_law_draws sc_f_law_draws (fun cdv A outer s H E hr => ?_)
  exact ⟨_, _, (dss_cons (ds_set (i := 2) sc_f_law_draws.nd (DE.flat (de_callB kAbs Z.m_abs (by decide +kernel) (da_cons (de_callT kInt Z.m_int (by decide +kernel) (da_cons (de_var 0) da_nil)) da_nil)) (fl_N fl_abs)))
    (dss_cons (ds_set (i := 3) sc_f_law_draws.nd (de_cmp cGe (de_var 2) (de_op oPow de_int de_int)))
    (dss_cons (ds_set (i := 4) sc_f_law_draws.nd (de_var 2))
    (dss_cons (ds_setF (i := 5) sc_f_law_draws.nd (df_lst da_nil))
    (dss_cons (ds_for [false, false, true, true, true, true, false, false] PassesOwn.never rfl (di_range1 (da_cons (de_var 1) da_nil) Z.m_range) (dg_name 6 sc_f_law_draws.nd)
   (dss_one (ds_if (DW.dt (dw_and (dt_tru (de_var 3)) (dw_and1 (dt_cmp cGt (de_var 2) de_int)))) (dss_cons (ds_meth (i := 5) PySem.F.plainAttrs_list PySem.F.slot_list_append PySem.F.type_list_append mt_append uAppend (da_cons (de_op oMod (DE.flat (de_callT kInt Z.m_int (by decide +kernel) (da_cons (de_var 2) da_nil)) (fl_N fl_int)) de_int) da_nil))
    (dss_one (ds_set (i := 2) sc_f_law_draws.nd (de_op oDiv (de_var 2) de_int)))) (dss_cons (ds_set (i := 7) sc_f_law_draws.nd (de_op oMod (DE.flat (de_callT kInt Z.m_int (by decide +kernel) (da_cons (de_op (oAdd rfl) (de_op (oAdd rfl) (de_op oMul (de_var 4) de_int) (de_op oMul (de_op (oAdd rfl) (de_var 6) de_int) de_int)) de_int) da_nil)) (fl_N fl_int)) de_int))
    (dss_cons (ds_set (i := 7) sc_f_law_draws.nd (de_op oMod (DE.flat (de_callT kInt Z.m_int (by decide +kernel) (da_cons (de_op (oAdd rfl) (de_op oMul (de_var 7) (de_var 7)) (de_op oMul de_int (de_op (oAdd rfl) (de_var 6) de_int))) da_nil)) (fl_N fl_int)) de_int))
    (dss_one (ds_meth (i := 5) PySem.F.plainAttrs_list PySem.F.slot_list_append PySem.F.type_list_append mt_append uAppend (da_cons (de_op oMod (DE.flat (de_callT kInt Z.m_int (by decide +kernel) (da_cons (de_op oDiv (de_var 7) de_int) da_nil)) (fl_N fl_int)) de_int) da_nil))))))))
    (dss_one (DS.frz [5] (ds_ret (de_var 5)))))))))⟩
theorem ok_f_law_is_integer (Z : Top K mg) : FnOk P w K mg base CX0 1 Z.f_f_law_is_integer Z.d_f_law_is_integer ["value"] (spOf [] K 1 R_f_law_is_integer) := by
  refine ok_def (T := []) Z.F_f_law_is_integer sc_f_law_is_integer (fun cdv A outer s H E hr => ?_)
  exact ⟨_, _, (dss_one (ds_ret (de_and (de_isi (tys := "int") (de_var 0) Z.m_isinstance Z.m_int) (de_one (de_not (de_isi (tys := "bool") (de_var 0) Z.m_isinstance Z.m_bool))))))⟩
theorem ok_f_law_is (Z : Top K mg) : FnOk P w K mg base CX0 7 Z.f_f_law_is Z.d_f_law_is ["value", "due"] (spOf [] K 2 R_f_law_is) := by
  have O_f_law_is_integer := ok_f_law_is_integer (P := P) (w := w) (base := base) Z
  have step : ∀ k r, FnOk P w K mg base CX0 (1 + k) Z.f_f_law_is Z.d_f_law_is ["value", "due"] (spOf [] K 2 r) → FnOk P w K mg base CX0 (1 + k + 1) Z.f_f_law_is Z.d_f_law_is ["value", "due"] (spOf [] K 2 (runF 3 (F_f_law_is r))) := fun k r G => by
    refine ok_def (T := []) Z.F_f_law_is sc_f_law_is (fun cdv A outer s H E hrG => ?_)
    have hr := hrG
    exact ⟨_, _, (dss_cons (ds_if (dt_cmp cIsN (de_var 1) de_non) (dss_one (ds_ret (de_cmp cIsN (de_var 0) de_non))) dss_nil)
    (dss_cons (ds_if (dt_tru (de_isi (tys := "bool") (de_var 1) Z.m_isinstance Z.m_bool)) (dss_one (ds_ret (de_and (de_isi (tys := "bool") (de_var 0) Z.m_isinstance Z.m_bool) (de_one (de_cmp (cEq rfl hr.units) (de_var 0) (de_var 1)))))) dss_nil)
    (dss_cons (ds_if (dt_tru (de_isi (tys := "int") (de_var 1) Z.m_isinstance Z.m_int)) (dss_one (ds_ret (de_and (de_call O_f_law_is_integer (hr.mono (by omega)) Z.g_f_law_is_integer Z.F_f_law_is_integer.kp Z.b_f_law_is_integer (da_cons (de_var 0) da_nil)) (de_one (de_cmp (cEq rfl hr.units) (de_var 0) (de_var 1)))))) dss_nil)
    (dss_cons (ds_if (dt_tru (de_isi (tys := "str") (de_var 1) Z.m_isinstance Z.m_str)) (dss_one (ds_ret (de_and (de_isi (tys := "str") (de_var 0) Z.m_isinstance Z.m_str) (de_one (de_cmp (cEq rfl hr.units) (de_var 0) (de_var 1)))))) dss_nil)
    (dss_cons (ds_if (DW.dt (dw_or (dt_not (dt_tru (de_isi (tys := "tuple") (de_var 0) Z.m_isinstance Z.m_tuple))) (dw_or1 (dt_cmp (cNe rfl hr.units) (de_callB (kLen rfl) Z.m_len (by decide +kernel) (da_cons (de_var 0) da_nil)) (de_callB (kLen rfl) Z.m_len (by decide +kernel) (da_cons (de_var 1) da_nil)))))) (dss_one (ds_ret de_bl)) dss_nil)
    (dss_one (ds_ret (DE.flat (de_callB (kAll rfl rfl) Z.m_all (by decide +kernel) (da_cons (DF.de (df_lc (own := [("at", 2)]) rfl sc_f_law_is.nd (di_range1 (da_cons (de_callB (kLen rfl) Z.m_len (by decide +kernel) (da_cons (de_var 1) da_nil)) da_nil) Z.m_range) (by kernel_rfl) (fun _ _ _ _ _ => (dg_name 2 sc_f_law_is.nd)) (fun _ _ _ _ _ => dts_nil) (fun _ _ _ _ _ => (de_call G hrG Z.g_f_law_is Z.F_f_law_is.kp Z.b_f_law_is (da_cons (de_ix (de_var 0) (de_var 2)) (da_cons (de_ix (de_var 1) (de_var 2)) da_nil)))))) da_nil)) (fl_N fl_all)))))))))⟩
  have all : ∀ k, FnOk P w K mg base CX0 (1 + k) Z.f_f_law_is Z.d_f_law_is ["value", "due"] (spOf [] K 2 (Rn_f_law_is k)) := fun k => by
    induction k with
    | zero => exact ok_none
    | succ k ih => exact step k _ ih
  exact all 6
theorem ok_f_law_bent (Z : Top K mg) : FnOk P w K mg base CX0 1 Z.f_f_law_bent Z.d_f_law_bent ["row", "draws", "most"] (spOf [] K 3 R_f_law_bent) := by
  refine ok_def (T := []) Z.F_f_law_bent sc_f_law_bent (fun cdv A outer s H E hr => ?_)
  exact ⟨_, _, (dss_cons (ds_set (i := 3) sc_f_law_bent.nd (de_op oMod (DE.flat (de_callT kInt Z.m_int (by decide +kernel) (da_cons (de_ix (de_var 1) de_int) da_nil)) (fl_N fl_int)) de_int))
    (dss_cons (ds_set (i := 4) sc_f_law_bent.nd (de_op oMod (DE.flat (de_callT kInt Z.m_int (by decide +kernel) (da_cons (de_ix (de_var 1) de_int) da_nil)) (fl_N fl_int)) (de_op (oAdd rfl) (DE.flat (de_callB (kLen rfl) Z.m_len (by decide +kernel) (da_cons (de_var 0) da_nil)) (fl_N fl_len)) de_int)))
    (dss_cons (ds_set (i := 5) sc_f_law_bent.nd (de_ix (de_tup (da_cons (de_op oSub (de_op oMod (DE.flat (de_callT kInt Z.m_int (by decide +kernel) (da_cons (de_ix (de_var 1) de_int) da_nil)) (fl_N fl_int)) (de_op (oAdd rfl) (de_var 2) de_int)) de_int) (da_cons (de_op oPow de_int de_int) (da_cons (de_op oSub de_int de_int) da_nil)))) (de_op oDiv (de_op oMod (de_op oDiv (DE.flat (de_callT kInt Z.m_int (by decide +kernel) (da_cons (de_ix (de_var 1) de_int) da_nil)) (fl_N fl_int)) de_int) de_int) de_int)))
    (dss_cons (ds_if (dt_cmp (cEq rfl hr.units) (de_var 3) de_int) (dss_one (ds_ret (de_op (oAdd rfl) (de_slice (de_var 0) do_none (do_some (de_var 4))) (de_slice (de_var 0) (do_some (de_op (oAdd rfl) (de_var 4) de_int)) do_none)))) dss_nil)
    (dss_cons (ds_if (dt_cmp (cEq rfl hr.units) (de_var 3) de_int) (dss_one (ds_ret (de_op (oAdd rfl) (de_op (oAdd rfl) (de_slice (de_var 0) do_none (do_some (de_var 4))) (de_tup (da_cons (de_var 5) da_nil))) (de_slice (de_var 0) (do_some (de_var 4)) do_none)))) dss_nil)
    (dss_cons (ds_if (dt_cmp cLt (de_var 3) de_int) (dss_one (ds_ret (de_op (oAdd rfl) (de_op (oAdd rfl) (de_slice (de_var 0) do_none (do_some (de_var 4))) (de_tup (da_cons (de_var 5) da_nil))) (de_slice (de_var 0) (do_some (de_op (oAdd rfl) (de_var 4) de_int)) do_none)))) dss_nil)
    (dss_one (ds_ret (de_ifExp (dt_cmp (cEq rfl hr.units) (de_var 3) de_int) (de_slrev (de_var 0) do_none do_none) (de_op (oAdd rfl) (de_slice (de_var 0) do_none (do_some (de_var 4))) (de_slice (de_var 0) (do_some (de_callB (kMax2 rfl) Z.m_max (by decide +kernel) (da_cons de_int (da_cons (de_op oSub (de_var 4) de_int) da_nil)))) do_none)))))))))))⟩
theorem ok_f_law_orders (Z : Top K mg) : FnOk P w K mg base CX0 1 Z.f_f_law_orders Z.d_f_law_orders ["items"] (spOf [] K 1 R_f_law_orders) := by
  refine ok_def (T := []) Z.F_f_law_orders sc_f_law_orders (fun cdv A outer s H E hr => ?_)
  exact ⟨_, _, (dss_cons (ds_set (i := 1) sc_f_law_orders.nd (DF.de (df_lst (da_cons (de_tup da_nil) da_nil))))
    (dss_cons (ds_for [true, true, false, false, false, false] PassesOwn.never rfl (di_range1 (da_cons (de_callB (kLen rfl) Z.m_len (by decide +kernel) (da_cons (de_var 0) da_nil)) da_nil) Z.m_range) (dg_name 2 sc_f_law_orders.nd)
   (dss_cons (ds_set (i := 3) sc_f_law_orders.nd (DF.de (df_lst da_nil)))
    (dss_cons (ds_for [true, false, false, true, false, false] PassesOwn.never rfl (di_seq (de_var 1)) (dg_name 4 sc_f_law_orders.nd)
   (dss_one (ds_set (i := 3) sc_f_law_orders.nd (de_op (oAdd rfl) (de_var 3) (DF.de (df_lc (own := [("item", 5)]) rfl sc_f_law_orders.nd (di_seq (de_var 0)) (by kernel_rfl) (fun _ _ _ _ _ => (dg_name 5 sc_f_law_orders.nd)) (fun _ _ _ _ _ => (dts_one (dt_cmp (cNotIn rfl (hu65 hr)) (de_var 5) (de_var 4)))) (fun _ _ _ _ _ => (de_op (oAdd rfl) (de_var 4) (de_tup (da_cons (de_var 5) da_nil))))))))))
    (dss_one (ds_set (i := 1) sc_f_law_orders.nd (de_var 3))))))
    (dss_one (ds_ret (de_var 1)))))⟩
theorem ok_f_law_jobs (Z : Top K mg) : FnOk P w K mg base CX0 1 Z.f_f_law_jobs Z.d_f_law_jobs ["draws", "way"] (spOf [] K 2 R_f_law_jobs) := by
  refine ok_def (T := []) Z.F_f_law_jobs sc_f_law_jobs (fun cdv A outer s H E hr => ?_)
  exact ⟨_, _, (dss_cons (ds_set (i := 2) sc_f_law_jobs.nd (de_ifExp (dt_cmp (cNe rfl hr.units) (de_var 1) de_int) (de_op oMod (DE.flat (de_callT kInt Z.m_int (by decide +kernel) (da_cons (de_ix (de_var 0) de_int) da_nil)) (fl_N fl_int)) de_int) (de_op (oAdd rfl) de_int (de_op oMod (DE.flat (de_callT kInt Z.m_int (by decide +kernel) (da_cons (de_ix (de_var 0) de_int) da_nil)) (fl_N fl_int)) de_int))))
    (dss_cons (ds_set (i := 4) sc_f_law_jobs.nd (DF.de (df_lc (own := [("at", 3)]) rfl sc_f_law_jobs.nd (di_range1 (da_cons (de_var 2) da_nil) Z.m_range) (by kernel_rfl) (fun _ _ _ _ _ => (dg_name 3 sc_f_law_jobs.nd)) (fun _ _ _ _ _ => dts_nil) (fun _ _ _ _ _ => (de_op (oAdd rfl) de_int (de_op oMod (DE.flat (de_callT kInt Z.m_int (by decide +kernel) (da_cons (de_ix (de_var 0) (de_op (oAdd rfl) de_int (de_var 3))) da_nil)) (fl_N fl_int)) (de_ix (de_tup (da_cons de_int (da_cons de_int da_nil))) (de_op oMod (DE.flat (de_callT kInt Z.m_int (by decide +kernel) (da_cons (de_ix (de_var 0) de_int) da_nil)) (fl_N fl_int)) de_int))))))))
    (dss_cons (ds_setF (i := 5) sc_f_law_jobs.nd (df_lc (own := [("at", 3)]) rfl sc_f_law_jobs.nd (di_range1 (da_cons (de_var 2) da_nil) Z.m_range) (by kernel_rfl) (fun _ _ _ _ _ => (dg_name 3 sc_f_law_jobs.nd)) (fun _ _ _ _ _ => dts_nil) (fun _ _ _ _ _ => (de_op oMod (DE.flat (de_callT kInt Z.m_int (by decide +kernel) (da_cons (de_ix (de_var 0) (de_op (oAdd rfl) de_int (de_var 3))) da_nil)) (fl_N fl_int)) (de_op (oAdd rfl) (DE.flat (de_callB (kSum rfl rfl) Z.m_sum (by decide +kernel) (da_cons (de_var 4) da_nil)) (fl_N fl_sum)) de_int)))))
    (dss_cons (ds_setF (i := 6) sc_f_law_jobs.nd (df_lst da_nil))
    (dss_cons (ds_for [true, true, true, false, true, true, true, false, false, false] PassesOwn.never rfl (di_range1 (da_cons (de_var 2) da_nil) Z.m_range) (dg_name 3 sc_f_law_jobs.nd)
   (dss_one (ds_insert (i := 6) (de_op oMod (DE.flat (de_callT kInt Z.m_int (by decide +kernel) (da_cons (de_ix (de_var 0) (de_op (oAdd rfl) de_int (de_var 3))) da_nil)) (fl_N fl_int)) (de_op (oAdd rfl) (de_var 3) de_int)) (de_var 3))))
    (dss_cons (ds_set (i := 7) sc_f_law_jobs.nd de_int)
    (dss_cons (DS.frz [6] (ds_for [true, true, true, false, true, true, true, true, false, false] PassesOwn.never rfl (di_seq (de_var 6)) (dg_name 8 sc_f_law_jobs.nd)
   (dss_cons (ds_set (i := 7) sc_f_law_jobs.nd (de_op (oAdd rfl) (de_var 7) (de_ix (de_var 4) (de_var 8))))
    (dss_cons (ds_if (dt_cmp (cEq rfl hr.units) (de_var 1) de_int) (dss_one (ds_put (i := 5) (de_var 8) (DE.flat (de_callB (kMin2 rfl) Z.m_min (by decide +kernel) (da_cons de_int (da_cons (de_op (oAdd rfl) (de_var 7) (de_op oMul (de_op oMod (de_callT kInt Z.m_int (by decide +kernel) (da_cons (de_ix (de_var 0) (de_op (oAdd rfl) de_int (de_var 8))) da_nil)) de_int) (de_op oMod (de_op oDiv (de_callT kInt Z.m_int (by decide +kernel) (da_cons (de_ix (de_var 0) (de_op (oAdd rfl) de_int (de_var 8))) da_nil)) de_int) de_int))) da_nil))) (fl_N fl_min2)))) dss_nil)
    (dss_one (ds_if (DW.dt (dw_and (dt_cmp (cEq rfl hr.units) (de_var 1) de_int) (dw_and1 (dt_cmp cGt (de_op oMod (de_callT kInt Z.m_int (by decide +kernel) (da_cons (de_ix (de_var 0) (de_op (oAdd rfl) de_int (de_var 8))) da_nil)) de_int) de_int)))) (dss_one (ds_put (i := 5) (de_var 8) (DE.flat (de_callB (kMin2 rfl) Z.m_min (by decide +kernel) (da_cons de_int (da_cons (de_op (oAdd rfl) (de_var 7) (de_op oMod (de_op oDiv (de_callT kInt Z.m_int (by decide +kernel) (da_cons (de_ix (de_var 0) (de_op (oAdd rfl) de_int (de_var 8))) da_nil)) de_int) de_int)) da_nil))) (fl_N fl_min2)))) dss_nil))))))
    (dss_cons (ds_if (dt_cmp (cEq rfl hr.units) (de_var 1) de_int) (dss_cons (ds_set (i := 9) sc_f_law_jobs.nd (de_op oSub (DE.flat (de_callB (kSum rfl rfl) Z.m_sum (by decide +kernel) (da_cons (de_slice (de_var 4) do_none (do_some (de_op (oAdd rfl) de_int (de_op oMod (de_callT kInt Z.m_int (by decide +kernel) (da_cons (de_ix (de_var 0) de_int) da_nil)) (de_var 2))))) da_nil)) (fl_N fl_sum)) de_int))
    (dss_one (ds_for [true, false, true, false, true, true, false, false, false, true] PassesOwn.never rfl (di_range1 (da_cons (de_op (oAdd rfl) de_int (de_op oMod (de_callT kInt Z.m_int (by decide +kernel) (da_cons (de_ix (de_var 0) de_int) da_nil)) (de_var 2))) da_nil) Z.m_range) (dg_name 3 sc_f_law_jobs.nd)
   (dss_one (ds_put (i := 5) (de_var 3) (de_op oSub (de_var 9) (de_op oMul (de_op oMod (DE.flat (de_callT kInt Z.m_int (by decide +kernel) (da_cons (de_ix (de_var 0) (de_op (oAdd rfl) de_int (de_var 3))) da_nil)) (fl_N fl_int)) de_int) (de_op oMod (de_op oDiv (DE.flat (de_callT kInt Z.m_int (by decide +kernel) (da_cons (de_ix (de_var 0) de_int) da_nil)) (fl_N fl_int)) de_int) (de_op (oAdd rfl) (de_var 9) de_int))))))))) dss_nil)
    (dss_one (DS.frz [5] (ds_ret (de_callT (kTuple rfl) Z.m_tuple (by decide +kernel) (da_cons (DF.de (df_lc (own := [("at", 3)]) rfl sc_f_law_jobs.nd (di_range1 (da_cons (de_var 2) da_nil) Z.m_range) (by kernel_rfl) (fun _ _ _ _ _ => (dg_name 3 sc_f_law_jobs.nd)) (fun _ _ _ _ _ => dts_nil) (fun _ _ _ _ _ => (de_tup (da_cons (de_ix (de_var 4) (de_var 3)) (da_cons (de_ix (de_var 5) (de_var 3)) da_nil)))))) da_nil)))))))))))))⟩
theorem ok_f_law_sequence (Z : Top K mg) : FnOk P w K mg base CX0 1 Z.f_f_law_sequence Z.d_f_law_sequence ["jobs", "order"] (spOf [] K 2 R_f_law_sequence) := by
  refine ok_def (T := []) Z.F_f_law_sequence sc_f_law_sequence (fun cdv A outer s H E hr => ?_)
  exact ⟨_, _, (dss_cons (ds_set (i := 2) sc_f_law_sequence.nd de_int)
    (dss_cons (ds_for [true, true, true, false] PassesOwn.never rfl (di_range1 (da_cons (de_callB (kLen rfl) Z.m_len (by decide +kernel) (da_cons (de_var 1) da_nil)) da_nil) Z.m_range) (dg_name 3 sc_f_law_sequence.nd)
   (dss_cons (ds_if (DW.dt (dw_or (dt_not (dt_chain cLe cLt de_int (de_ix (de_var 1) (de_var 3)) (de_callB (kLen rfl) Z.m_len (by decide +kernel) (da_cons (de_var 0) da_nil)))) (dw_or1 (dt_cmp (cIn rfl (hu65 hr)) (de_ix (de_var 1) (de_var 3)) (de_slice (de_var 1) do_none (do_some (de_var 3))))))) (dss_one (ds_ret de_bl)) dss_nil)
    (dss_cons (ds_set (i := 2) sc_f_law_sequence.nd (de_op (oAdd rfl) (de_var 2) (de_ix (de_ix (de_var 0) (de_ix (de_var 1) (de_var 3))) de_int)))
    (dss_one (ds_if (dt_cmp cLt (de_ix (de_ix (de_var 0) (de_ix (de_var 1) (de_var 3))) de_int) (de_var 2)) (dss_one (ds_ret de_bl)) dss_nil)))))
    (dss_one (ds_ret (de_cmp (cEq rfl hr.units) (de_callB (kLen rfl) Z.m_len (by decide +kernel) (da_cons (de_var 1) da_nil)) (de_callB (kLen rfl) Z.m_len (by decide +kernel) (da_cons (de_var 0) da_nil)))))))⟩
theorem ok_law (Z : Top K mg) : FnOk P w K mg base CX0 8 Z.f_law Z.d_law ["script"] (spOf [] K 1 R_law) := by
  have O_f_law_jobs := ok_f_law_jobs (P := P) (w := w) (base := base) Z
  have O_f_law_orders := ok_f_law_orders (P := P) (w := w) (base := base) Z
  have O_f_law_draws := ok_f_law_draws (P := P) (w := w) (base := base) Z
  have O_f_law_is := ok_f_law_is (P := P) (w := w) (base := base) Z
  have O_f_law_cell := ok_f_law_cell (P := P) (w := w) (base := base) Z
  have O_f_law_sequence := ok_f_law_sequence (P := P) (w := w) (base := base) Z
  have O_told_sequence := ok_told_sequence (P := P) (w := w) (base := base) Z
  have O_late_lot := ok_late_lot (P := P) (w := w) (base := base) Z
  have O_f_law_bent := ok_f_law_bent (P := P) (w := w) (base := base) Z
  have O_is_sequence := ok_is_sequence (P := P) (w := w) (base := base) Z
  refine ok_def (T := []) Z.F_law sc_law (fun cdv A outer s H E hr => ?_)
  exact ⟨_, _, (dss_cons (ds_for [true, false, false, false, false, false, false, false, false, false, false, false, false, false] PassesOwn.never rfl (di_range1 (da_cons de_int da_nil) Z.m_range) (dg_name 1 sc_law.nd)
   (dss_cons (ds_set (i := 2) sc_law.nd (de_call O_f_law_jobs (hr.mono (by omega)) Z.g_f_law_jobs Z.F_f_law_jobs.kp Z.b_f_law_jobs (da_cons (de_call O_f_law_draws (hr.mono (by omega)) Z.g_f_law_draws Z.F_f_law_draws.kp Z.b_f_law_draws (da_cons (de_call O_f_law_cell (hr.mono (by omega)) Z.g_f_law_cell Z.F_f_law_cell.kp Z.b_f_law_cell (da_cons (de_var 0) (da_cons (de_var 1) da_nil))) (da_cons de_int da_nil))) (da_cons (de_var 1) da_nil))))
    (dss_cons (ds_set (i := 3) sc_law.nd (de_call O_f_law_orders (hr.mono (by omega)) Z.g_f_law_orders Z.F_f_law_orders.kp Z.b_f_law_orders (da_cons (de_tupR rfl (dr_1 (de_callB (kLen rfl) Z.m_len (by decide +kernel) (da_cons (de_var 2) da_nil)) Z.m_range) Z.m_tuple) da_nil)))
    (dss_cons (ds_setLcI (i := 5) (own := [("order", 4)]) rfl sc_law.nd (di_seq (de_var 3)) (by kernel_rfl) (fun _ _ _ _ _ => (dg_name 4 sc_law.nd)) (fun _ _ _ _ _ => (dts_one (dt_tru (de_call O_f_law_sequence (hr.mono (by omega)) Z.g_f_law_sequence Z.F_f_law_sequence.kp Z.b_f_law_sequence (da_cons (de_var 2) (da_cons (de_var 4) da_nil)))))) (fun _ _ _ _ _ => (de_var 4)))
    (dss_cons (ds_setF (i := 6) sc_law.nd (df_lst da_nil))
    (dss_cons (ds_for [true, true, true, true, false, true, true, false, false, false, false, false, false, false] PassesOwn.never rfl (di_seq (de_var 2)) (dg_tup rfl (dgs_cons (dg_name 7 sc_law.nd) (dgs_cons (dg_name 8 sc_law.nd) dgs_nil)))
   (dss_one (ds_if (dt_cmp cGt (de_callB (kSum rfl rfl) Z.m_sum (by decide +kernel) (da_cons (DF.de (df_lc (own := [("job", 9)]) rfl sc_law.nd (di_seq (de_var 2)) (by kernel_rfl) (fun _ _ _ _ _ => (dg_name 9 sc_law.nd)) (fun _ _ _ _ _ => (dts_one (dt_cmp cLe (de_ix (de_var 9) de_int) (de_var 8)))) (fun _ _ _ _ _ => (de_ix (de_var 9) de_int)))) da_nil)) (de_var 8)) (dss_one (ds_meth (i := 6) PySem.F.plainAttrs_list PySem.F.slot_list_append PySem.F.type_list_append mt_append uAppend (da_cons (de_var 8) da_nil))) dss_nil)))
    (dss_cons (ds_if (DW.dt (dw_or (dt_cmp (cNe rfl hr.units) (de_cmp cGt (de_callB (kLen rfl) Z.m_len (by decide +kernel) (da_cons (de_var 5) da_nil)) de_int) (de_cmp (cEq rfl hr.units) (de_callB (kLen rfl) Z.m_len (by decide +kernel) (da_cons (dp_var 6) da_nil)) de_int)) (dw_or1 (DW.dt (dw_and (dt_cmp cLt (de_var 1) de_int) (dw_and1 (dt_cmp (cNe rfl hr.units) (de_cmp cGt (de_callB (kLen rfl) Z.m_len (by decide +kernel) (da_cons (de_var 5) da_nil)) de_int) (de_cmp (cEq rfl hr.units) (de_var 1) de_int)))))))) (dss_one (ds_ret de_bl)) dss_nil)
    (dss_cons (ds_if (dt_not (dt_tru (de_call O_f_law_is (hr.mono (by omega)) Z.g_f_law_is Z.F_f_law_is.kp Z.b_f_law_is (da_cons (de_call O_told_sequence (hr.mono (by omega)) Z.g_told_sequence Z.F_told_sequence.kp Z.b_told_sequence (da_cons (de_var 2) da_nil)) (da_cons (de_ifExp (dt_cmp cGt (de_callB (kLen rfl) Z.m_len (by decide +kernel) (da_cons (de_var 5) da_nil)) de_int) (de_ix (de_var 5) de_int) de_non) da_nil))))) (dss_one (ds_ret de_bl)) dss_nil)
    (dss_cons (ds_if (dt_not (dt_tru (de_call O_f_law_is (hr.mono (by omega)) Z.g_f_law_is Z.F_f_law_is.kp Z.b_f_law_is (da_cons (de_call O_late_lot (hr.mono (by omega)) Z.g_late_lot Z.F_late_lot.kp Z.b_late_lot (da_cons (de_var 2) da_nil)) (da_cons (de_ifExp (dt_cmp cGt (de_callB (kLen rfl) Z.m_len (by decide +kernel) (da_cons (dp_var 6) da_nil)) de_int) (de_callB (kMinD rfl rfl hr.units) Z.m_min (by decide +kernel) (da_cons (dp_var 6) da_nil)) de_non) da_nil))))) (dss_one (ds_ret de_bl)) dss_nil)
    (dss_cons (ds_set (i := 10) sc_law.nd (de_call O_f_law_draws (hr.mono (by omega)) Z.g_f_law_draws Z.F_f_law_draws.kp Z.b_f_law_draws (da_cons (de_call O_f_law_cell (hr.mono (by omega)) Z.g_f_law_cell Z.F_f_law_cell.kp Z.b_f_law_cell (da_cons (de_var 0) (da_cons (de_op (oAdd rfl) de_int (de_var 1)) da_nil))) (da_cons de_int da_nil))))
    (dss_one (ds_for [true, false, true, true, false, true, false, false, false, false, true, false, false, false] PassesOwn.never rfl (di_range1 (da_cons de_int da_nil) Z.m_range) (dg_name 11 sc_law.nd)
   (dss_cons (ds_set (i := 12) sc_law.nd (de_ix (de_var 3) (de_op oMod (DE.flat (de_callT kInt Z.m_int (by decide +kernel) (da_cons (de_ix (de_var 10) (de_var 11)) da_nil)) (fl_N fl_int)) (DE.flat (de_callB (kLen rfl) Z.m_len (by decide +kernel) (da_cons (de_var 3) da_nil)) (fl_N fl_len)))))
    (dss_cons (ds_if (DW.dt (dw_and (dt_cmp cLt (de_var 11) de_int) (dw_and1 (dt_cmp cGt (de_callB (kLen rfl) Z.m_len (by decide +kernel) (da_cons (de_var 5) da_nil)) de_int)))) (dss_one (ds_set (i := 12) sc_law.nd (de_ix (de_var 5) (de_op oMod (DE.flat (de_callT kInt Z.m_int (by decide +kernel) (da_cons (de_ix (de_var 10) (de_var 11)) da_nil)) (fl_N fl_int)) (DE.flat (de_callB (kLen rfl) Z.m_len (by decide +kernel) (da_cons (de_var 5) da_nil)) (fl_N fl_len)))))) dss_nil)
    (dss_cons (ds_set (i := 13) sc_law.nd (de_ifExp (dt_cmp cLt (de_var 11) de_int) (de_var 12) (de_call O_f_law_bent (hr.mono (by omega)) Z.g_f_law_bent Z.F_f_law_bent.kp Z.b_f_law_bent (da_cons (de_var 12) (da_cons (de_slice (de_var 10) (do_some (de_op oSub (de_op (oAdd rfl) de_int (de_var 11)) de_int)) (do_some (de_op oSub (de_op (oAdd rfl) de_int (de_var 11)) de_int))) (da_cons (DE.flat (de_callB (kLen rfl) Z.m_len (by decide +kernel) (da_cons (de_var 2) da_nil)) (fl_N fl_len)) da_nil))))))
    (dss_one (ds_if (dt_not (dt_tru (de_call O_f_law_is (hr.mono (by omega)) Z.g_f_law_is Z.F_f_law_is.kp Z.b_f_law_is (da_cons (de_call O_is_sequence (hr.mono (by omega)) Z.g_is_sequence Z.F_is_sequence.kp Z.b_is_sequence (da_cons (de_var 2) (da_cons (de_var 13) da_nil))) (da_cons (de_call O_f_law_sequence (hr.mono (by omega)) Z.g_f_law_sequence Z.F_f_law_sequence.kp Z.b_f_law_sequence (da_cons (de_var 2) (da_cons (de_var 13) da_nil))) da_nil))))) (dss_one (ds_ret de_bl)) dss_nil)))))))))))))))))
    (dss_one (ds_ret de_bl)))⟩
end
section
variable {P : Program} {w : World}
theorem law_end {K : PySem.W.Frag} {h : Heap} {mg : Str → Option Value} {fa : Addr} (X : K.In h) (G : h.Ns mainGlobals mg) (hfa : mg "law" = some (.ref fa))
    {f0 : Addr} {od0 an0 : Option Addr} {sl0 : Array (Option Value)} {oc0 kV0 dc0 pm0 cd0 ct0 : Value}
    {f1 : Addr} {od1 an1 : Option Addr} {sl1 : Array (Option Value)} {oc1 kV1 dc1 pm1 cd1 ct1 : Value}
    {f2 : Addr} {od2 an2 : Option Addr} {sl2 : Array (Option Value)} {oc2 kV2 dc2 pm2 cd2 ct2 : Value}
    {f3 : Addr} {od3 an3 : Option Addr} {sl3 : Array (Option Value)} {oc3 kV3 dc3 pm3 cd3 ct3 : Value}
    {f4 : Addr} {od4 an4 : Option Addr} {sl4 : Array (Option Value)} {oc4 kV4 dc4 pm4 cd4 ct4 : Value}
    {f5 : Addr} {od5 an5 : Option Addr} {sl5 : Array (Option Value)} {oc5 kV5 dc5 pm5 cd5 ct5 : Value}
    {f6 : Addr} {od6 an6 : Option Addr} {sl6 : Array (Option Value)} {oc6 kV6 dc6 pm6 cd6 ct6 : Value}
    {f7 : Addr} {od7 an7 : Option Addr} {sl7 : Array (Option Value)} {oc7 kV7 dc7 pm7 cd7 ct7 : Value}
    {f8 : Addr} {od8 an8 : Option Addr} {sl8 : Array (Option Value)} {oc8 kV8 dc8 pm8 cd8 ct8 : Value}
    {f9 : Addr} {od9 an9 : Option Addr} {sl9 : Array (Option Value)} {oc9 kV9 dc9 pm9 cd9 ct9 : Value}
    {f10 : Addr} {od10 an10 : Option Addr} {sl10 : Array (Option Value)} {oc10 kV10 dc10 pm10 cd10 ct10 : Value}
    {f11 : Addr} {od11 an11 : Option Addr} {sl11 : Array (Option Value)} {oc11 kV11 dc11 pm11 cd11 ct11 : Value}
    (a0 : PySem.W.nsIn K mainGlobals "is_sequence" = some (some (.ref f0))) (l0 : K.lookup f0 = some ⟨oc0, od0, .func (PySem.W.fnOf "is_sequence" "is_sequence" (defArgs s_is_sequence) (defBody s_is_sequence) (defScope s_is_sequence) .none kV0 dc0 pm0 an0 cd0 ct0), sl0⟩) (c0 : PySem.W.codeIn K cd0 "is_sequence" = true) (k0 : PySem.W.keepIn K (.ref f0) = true)
    (a1 : PySem.W.nsIn K mainGlobals "late_lot" = some (some (.ref f1))) (l1 : K.lookup f1 = some ⟨oc1, od1, .func (PySem.W.fnOf "late_lot" "late_lot" (defArgs s_late_lot) (defBody s_late_lot) (defScope s_late_lot) .none kV1 dc1 pm1 an1 cd1 ct1), sl1⟩) (c1 : PySem.W.codeIn K cd1 "late_lot" = true) (k1 : PySem.W.keepIn K (.ref f1) = true)
    (a2 : PySem.W.nsIn K mainGlobals "told_sequence" = some (some (.ref f2))) (l2 : K.lookup f2 = some ⟨oc2, od2, .func (PySem.W.fnOf "told_sequence" "told_sequence" (defArgs s_told_sequence) (defBody s_told_sequence) (defScope s_told_sequence) .none kV2 dc2 pm2 an2 cd2 ct2), sl2⟩) (c2 : PySem.W.codeIn K cd2 "told_sequence" = true) (k2 : PySem.W.keepIn K (.ref f2) = true)
    (a3 : PySem.W.nsIn K mainGlobals "_law_cell" = some (some (.ref f3))) (l3 : K.lookup f3 = some ⟨oc3, od3, .func (PySem.W.fnOf "_law_cell" "_law_cell" (defArgs s_f_law_cell) (defBody s_f_law_cell) (defScope s_f_law_cell) .none kV3 dc3 pm3 an3 cd3 ct3), sl3⟩) (c3 : PySem.W.codeIn K cd3 "_law_cell" = true) (k3 : PySem.W.keepIn K (.ref f3) = true)
    (a4 : PySem.W.nsIn K mainGlobals "_law_draws" = some (some (.ref f4))) (l4 : K.lookup f4 = some ⟨oc4, od4, .func (PySem.W.fnOf "_law_draws" "_law_draws" (defArgs s_f_law_draws) (defBody s_f_law_draws) (defScope s_f_law_draws) .none kV4 dc4 pm4 an4 cd4 ct4), sl4⟩) (c4 : PySem.W.codeIn K cd4 "_law_draws" = true) (k4 : PySem.W.keepIn K (.ref f4) = true)
    (a5 : PySem.W.nsIn K mainGlobals "_law_is_integer" = some (some (.ref f5))) (l5 : K.lookup f5 = some ⟨oc5, od5, .func (PySem.W.fnOf "_law_is_integer" "_law_is_integer" (defArgs s_f_law_is_integer) (defBody s_f_law_is_integer) (defScope s_f_law_is_integer) .none kV5 dc5 pm5 an5 cd5 ct5), sl5⟩) (c5 : PySem.W.codeIn K cd5 "_law_is_integer" = true) (k5 : PySem.W.keepIn K (.ref f5) = true)
    (a6 : PySem.W.nsIn K mainGlobals "_law_is" = some (some (.ref f6))) (l6 : K.lookup f6 = some ⟨oc6, od6, .func (PySem.W.fnOf "_law_is" "_law_is" (defArgs s_f_law_is) (defBody s_f_law_is) (defScope s_f_law_is) .none kV6 dc6 pm6 an6 cd6 ct6), sl6⟩) (c6 : PySem.W.codeIn K cd6 "_law_is" = true) (k6 : PySem.W.keepIn K (.ref f6) = true)
    (a7 : PySem.W.nsIn K mainGlobals "_law_bent" = some (some (.ref f7))) (l7 : K.lookup f7 = some ⟨oc7, od7, .func (PySem.W.fnOf "_law_bent" "_law_bent" (defArgs s_f_law_bent) (defBody s_f_law_bent) (defScope s_f_law_bent) .none kV7 dc7 pm7 an7 cd7 ct7), sl7⟩) (c7 : PySem.W.codeIn K cd7 "_law_bent" = true) (k7 : PySem.W.keepIn K (.ref f7) = true)
    (a8 : PySem.W.nsIn K mainGlobals "_law_orders" = some (some (.ref f8))) (l8 : K.lookup f8 = some ⟨oc8, od8, .func (PySem.W.fnOf "_law_orders" "_law_orders" (defArgs s_f_law_orders) (defBody s_f_law_orders) (defScope s_f_law_orders) .none kV8 dc8 pm8 an8 cd8 ct8), sl8⟩) (c8 : PySem.W.codeIn K cd8 "_law_orders" = true) (k8 : PySem.W.keepIn K (.ref f8) = true)
    (a9 : PySem.W.nsIn K mainGlobals "_law_jobs" = some (some (.ref f9))) (l9 : K.lookup f9 = some ⟨oc9, od9, .func (PySem.W.fnOf "_law_jobs" "_law_jobs" (defArgs s_f_law_jobs) (defBody s_f_law_jobs) (defScope s_f_law_jobs) .none kV9 dc9 pm9 an9 cd9 ct9), sl9⟩) (c9 : PySem.W.codeIn K cd9 "_law_jobs" = true) (k9 : PySem.W.keepIn K (.ref f9) = true)
    (a10 : PySem.W.nsIn K mainGlobals "_law_sequence" = some (some (.ref f10))) (l10 : K.lookup f10 = some ⟨oc10, od10, .func (PySem.W.fnOf "_law_sequence" "_law_sequence" (defArgs s_f_law_sequence) (defBody s_f_law_sequence) (defScope s_f_law_sequence) .none kV10 dc10 pm10 an10 cd10 ct10), sl10⟩) (c10 : PySem.W.codeIn K cd10 "_law_sequence" = true) (k10 : PySem.W.keepIn K (.ref f10) = true)
    (a11 : PySem.W.nsIn K mainGlobals "law" = some (some (.ref f11))) (l11 : K.lookup f11 = some ⟨oc11, od11, .func (PySem.W.fnOf "law" "law" (defArgs s_law) (defBody s_law) (defScope s_law) .none kV11 dc11 pm11 an11 cd11 ct11), sl11⟩) (c11 : PySem.W.codeIn K cd11 "law" = true) (k11 : PySem.W.keepIn K (.ref f11) = true)
    (z0 : PySem.W.nsIn K mainGlobals "abs" = some none)
    (z1 : PySem.W.nsIn K mainGlobals "all" = some none)
    (z2 : PySem.W.nsIn K mainGlobals "bool" = some none)
    (z3 : PySem.W.nsIn K mainGlobals "int" = some none)
    (z4 : PySem.W.nsIn K mainGlobals "isinstance" = some none)
    (z5 : PySem.W.nsIn K mainGlobals "len" = some none)
    (z6 : PySem.W.nsIn K mainGlobals "list" = some none)
    (z7 : PySem.W.nsIn K mainGlobals "max" = some none)
    (z8 : PySem.W.nsIn K mainGlobals "min" = some none)
    (z9 : PySem.W.nsIn K mainGlobals "range" = some none)
    (z10 : PySem.W.nsIn K mainGlobals "sorted" = some none)
    (z11 : PySem.W.nsIn K mainGlobals "str" = some none)
    (z12 : PySem.W.nsIn K mainGlobals "sum" = some none)
    (z13 : PySem.W.nsIn K mainGlobals "tuple" = some none)
    : ∃ fd : FuncData, (∀ (s : Shared) (v : Value), BindsTo s fd ⟨[v], []⟩ [("script", v)]) ∧ ∀ base : Heap, K.In base → base.Ns mainGlobals mg → FnOk P w K mg base CX0 8 fa fd ["script"] (spOf [] K 1 R_law) := by
  have F0 := fun_mk (st := s_is_sequence) l0 c0 k0
  have F1 := fun_mk (st := s_late_lot) l1 c1 k1
  have F2 := fun_mk (st := s_told_sequence) l2 c2 k2
  have F3 := fun_mk (st := s_f_law_cell) l3 c3 k3
  have F4 := fun_mk (st := s_f_law_draws) l4 c4 k4
  have F5 := fun_mk (st := s_f_law_is_integer) l5 c5 k5
  have F6 := fun_mk (st := s_f_law_is) l6 c6 k6
  have F7 := fun_mk (st := s_f_law_bent) l7 c7 k7
  have F8 := fun_mk (st := s_f_law_orders) l8 c8 k8
  have F9 := fun_mk (st := s_f_law_jobs) l9 c9 k9
  have F10 := fun_mk (st := s_f_law_sequence) l10 c10 k10
  have F11 := fun_mk (st := s_law) l11 c11 k11
  let Z : Top K mg := {
    f_is_sequence := f0, d_is_sequence := _, F_is_sequence := F0, b_is_sequence := F0.binds (ps := ["jobs", "order"]) fun _ _ _ _ _ _ us hl => match us, hl with | [_, _], _ => rfl, g_is_sequence := PySem.W.mg_of X G a0,
    f_late_lot := f1, d_late_lot := _, F_late_lot := F1, b_late_lot := F1.binds (ps := ["jobs"]) fun _ _ _ _ _ _ us hl => match us, hl with | [_], _ => rfl, g_late_lot := PySem.W.mg_of X G a1,
    f_told_sequence := f2, d_told_sequence := _, F_told_sequence := F2, b_told_sequence := F2.binds (ps := ["jobs"]) fun _ _ _ _ _ _ us hl => match us, hl with | [_], _ => rfl, g_told_sequence := PySem.W.mg_of X G a2,
    f_f_law_cell := f3, d_f_law_cell := _, F_f_law_cell := F3, b_f_law_cell := F3.binds (ps := ["script", "k"]) fun _ _ _ _ _ _ us hl => match us, hl with | [_, _], _ => rfl, g_f_law_cell := PySem.W.mg_of X G a3,
    f_f_law_draws := f4, d_f_law_draws := _, F_f_law_draws := F4, b_f_law_draws := F4.binds (ps := ["cell", "count"]) fun _ _ _ _ _ _ us hl => match us, hl with | [_, _], _ => rfl, g_f_law_draws := PySem.W.mg_of X G a4,
    f_f_law_is_integer := f5, d_f_law_is_integer := _, F_f_law_is_integer := F5, b_f_law_is_integer := F5.binds (ps := ["value"]) fun _ _ _ _ _ _ us hl => match us, hl with | [_], _ => rfl, g_f_law_is_integer := PySem.W.mg_of X G a5,
    f_f_law_is := f6, d_f_law_is := _, F_f_law_is := F6, b_f_law_is := F6.binds (ps := ["value", "due"]) fun _ _ _ _ _ _ us hl => match us, hl with | [_, _], _ => rfl, g_f_law_is := PySem.W.mg_of X G a6,
    f_f_law_bent := f7, d_f_law_bent := _, F_f_law_bent := F7, b_f_law_bent := F7.binds (ps := ["row", "draws", "most"]) fun _ _ _ _ _ _ us hl => match us, hl with | [_, _, _], _ => rfl, g_f_law_bent := PySem.W.mg_of X G a7,
    f_f_law_orders := f8, d_f_law_orders := _, F_f_law_orders := F8, b_f_law_orders := F8.binds (ps := ["items"]) fun _ _ _ _ _ _ us hl => match us, hl with | [_], _ => rfl, g_f_law_orders := PySem.W.mg_of X G a8,
    f_f_law_jobs := f9, d_f_law_jobs := _, F_f_law_jobs := F9, b_f_law_jobs := F9.binds (ps := ["draws", "way"]) fun _ _ _ _ _ _ us hl => match us, hl with | [_, _], _ => rfl, g_f_law_jobs := PySem.W.mg_of X G a9,
    f_f_law_sequence := f10, d_f_law_sequence := _, F_f_law_sequence := F10, b_f_law_sequence := F10.binds (ps := ["jobs", "order"]) fun _ _ _ _ _ _ us hl => match us, hl with | [_, _], _ => rfl, g_f_law_sequence := PySem.W.mg_of X G a10,
    f_law := f11, d_law := _, F_law := F11, b_law := F11.binds (ps := ["script"]) fun _ _ _ _ _ _ us hl => match us, hl with | [_], _ => rfl, g_law := PySem.W.mg_of X G a11,
    m_abs := PySem.W.mg_none_of X G z0,
    m_all := PySem.W.mg_none_of X G z1,
    m_bool := PySem.W.mg_none_of X G z2,
    m_int := PySem.W.mg_none_of X G z3,
    m_isinstance := PySem.W.mg_none_of X G z4,
    m_len := PySem.W.mg_none_of X G z5,
    m_list := PySem.W.mg_none_of X G z6,
    m_max := PySem.W.mg_none_of X G z7,
    m_min := PySem.W.mg_none_of X G z8,
    m_range := PySem.W.mg_none_of X G z9,
    m_sorted := PySem.W.mg_none_of X G z10,
    m_str := PySem.W.mg_none_of X G z11,
    m_sum := PySem.W.mg_none_of X G z12,
    m_tuple := PySem.W.mg_none_of X G z13 }
  have e := hfa.symm.trans Z.g_law
  cases e
  exact ⟨Z.d_law, fun s v => .of_eq rfl, fun base _ _ => ok_law Z⟩
end
end LK
end

section
set_option Elab.async false
set_option maxRecDepth 100000
namespace LK
open PySem EL
/-! jobs: (length, due) -/
abbrev Jb := Int × Int
/-- the work that is due by d -/
def load (l : List Jb) (d : Int) : Int := ((l.filter fun j => decide (j.2 ≤ d)).map (·.1)).sum
def NoLate (l : List Jb) : Prop := ∀ d ∈ l.map (·.2), load l d ≤ d
instance (l : List Jb) : Decidable (NoLate l) := inferInstanceAs (Decidable (∀ d ∈ l.map (·.2), load l d ≤ d))
def shift (t : Int) (l : List Jb) : List Jb := l.map fun j => (j.1, j.2 - t)
/-- the jobs one after the other, each by its due -/
def Runs : List Jb → Int → Prop
  | [], _ => True
  | j :: r, now => now + j.1 ≤ j.2 ∧ Runs r (now + j.1)
def decRuns : ∀ (l : List Jb) (t : Int), Decidable (Runs l t)
  | [], _ => isTrue trivial
  | j :: r, now => @instDecidableAnd _ _ _ (decRuns r (now + j.1))
instance (l : List Jb) (t : Int) : Decidable (Runs l t) := decRuns l t
def Pos (l : List Jb) : Prop := ∀ j ∈ l, 0 < j.1
theorem load_nonneg {l : List Jb} (h : Pos l) (d : Int) : 0 ≤ load l d := by
  unfold load
  induction l with
  | nil => exact Int.le_refl _
  | cons j l ih =>
    have ih := ih fun x hx => h x (List.mem_cons_of_mem _ hx)
    have := h j List.mem_cons_self
    by_cases hj : j.2 ≤ d
    · rw [List.filter_cons_of_pos (by simpa using hj), List.map_cons, List.sum_cons]; omega
    · rw [List.filter_cons_of_neg (by simpa using hj)]; exact ih
theorem load_cons (j : Jb) (l : List Jb) (d : Int) : load (j :: l) d = (if j.2 ≤ d then j.1 else 0) + load l d := by
  unfold load
  by_cases hj : j.2 ≤ d
  · rw [List.filter_cons_of_pos (by simpa using hj), List.map_cons, List.sum_cons, if_pos hj]
  · rw [List.filter_cons_of_neg (by simpa using hj), if_neg hj]; omega
theorem load_append (l m : List Jb) (d : Int) : load (l ++ m) d = load l d + load m d := by
  induction l with
  | nil => unfold load; simp
  | cons j l ih => rw [List.cons_append, load_cons, load_cons, ih]; omega
theorem load_perm {l m : List Jb} (h : l.Perm m) (d : Int) : load l d = load m d := by
  induction h with
  | nil => rfl
  | cons x _ ih => rw [load_cons, load_cons, ih]
  | swap x y l => rw [load_cons, load_cons, load_cons, load_cons]; omega
  | trans _ _ a b => rw [a, b]
theorem NoLate_perm {l m : List Jb} (h : l.Perm m) (hl : NoLate l) : NoLate m := fun d hd => by
  rw [← load_perm h]
  exact hl d ((h.map _).mem_iff.mpr hd)
/-- what runs has no late lot -/
theorem runs_load {l : List Jb} (hp : Pos l) {now : Int} (h : Runs l now) (d : Int) (hd : load l d ≠ 0) : now + load l d ≤ d := by
  induction l generalizing now with
  | nil => exact absurd rfl hd
  | cons j l ih =>
    obtain ⟨h1, h2⟩ := h
    have hp' : Pos l := fun x hx => hp x (List.mem_cons_of_mem _ hx)
    rw [load_cons] at hd ⊢
    by_cases hz : load l d = 0
    · rw [hz] at hd ⊢
      by_cases hj : j.2 ≤ d
      · rw [if_pos hj] at hd ⊢; omega
      · rw [if_neg hj] at hd; omega
    · have := ih hp' h2 hz
      have hj1 := hp j List.mem_cons_self
      by_cases hj : j.2 ≤ d
      · rw [if_pos hj]; omega
      · rw [if_neg hj]; omega
theorem load_ne {l : List Jb} (hp : Pos l) {d : Int} (hd : d ∈ l.map (·.2)) : load l d ≠ 0 := by
  induction l with
  | nil => cases hd
  | cons j l ih =>
    have hp' : Pos l := fun x hx => hp x (List.mem_cons_of_mem _ hx)
    have h0 := load_nonneg hp' d
    have hj1 := hp j List.mem_cons_self
    rw [load_cons]
    rw [List.map_cons] at hd
    by_cases hj : j.2 ≤ d
    · rw [if_pos hj]; omega
    · rw [if_neg hj]
      rcases List.mem_cons.mp hd with e | e
      · omega
      · have := ih hp' e; omega
theorem noLate_of_runs {l : List Jb} (hp : Pos l) (h : Runs l 0) : NoLate l := fun d hd => by
  have := runs_load hp h d (load_ne hp hd)
  omega
theorem load_shift (l : List Jb) (t d : Int) : load (shift t l) d = load l (d + t) := by
  induction l with
  | nil => rfl
  | cons j l ih =>
    show load ((j.1, j.2 - t) :: shift t l) d = _
    rw [load_cons, load_cons, ih]
    by_cases hj : j.2 ≤ d + t
    · rw [if_pos hj, if_pos (by show j.2 - t ≤ d; omega)]
    · rw [if_neg hj, if_neg (by show ¬ j.2 - t ≤ d; omega)]
theorem runs_shift {l : List Jb} {t u : Int} : Runs (shift t l) u ↔ Runs l (u + t) := by
  induction l generalizing u with
  | nil => exact Iff.rfl
  | cons j l ih =>
    show (u + j.1 ≤ j.2 - t ∧ Runs (shift t l) (u + j.1)) ↔ (u + t + j.1 ≤ j.2 ∧ Runs l (u + t + j.1))
    rw [ih, show u + j.1 + t = u + t + j.1 by omega]
    constructor
    · rintro ⟨a, b⟩; exact ⟨by omega, b⟩
    · rintro ⟨a, b⟩; exact ⟨by omega, b⟩
theorem pos_shift {l : List Jb} {t : Int} (h : Pos l) : Pos (shift t l) := fun j hj => by
  obtain ⟨i, hi, rfl⟩ := List.mem_map.mp hj
  exact h i hi
theorem runs_append {l m : List Jb} {now : Int} : Runs (l ++ m) now ↔ Runs l now ∧ Runs m (now + (l.map (·.1)).sum) := by
  induction l generalizing now with
  | nil => simp [Runs]
  | cons j l ih =>
    rw [List.cons_append]
    show (now + j.1 ≤ j.2 ∧ Runs (l ++ m) (now + j.1)) ↔ (now + j.1 ≤ j.2 ∧ Runs l (now + j.1)) ∧ Runs m _
    rw [ih, List.map_cons, List.sum_cons, show now + j.1 + (l.map (·.1)).sum = now + (j.1 + (l.map (·.1)).sum) by omega, and_assoc]
/-- a job with the greatest due -/
theorem exists_max : ∀ {l : List Jb}, l ≠ [] → ∃ j, j ∈ l ∧ ∀ i ∈ l, i.2 ≤ j.2
  | [j], _ => ⟨j, List.mem_cons_self, fun i hi => by rw [List.mem_singleton.mp hi]; exact Int.le_refl _⟩
  | j :: k :: l, _ => by
    obtain ⟨m, h1, h2⟩ := exists_max (l := k :: l) (by simp)
    by_cases h : m.2 ≤ j.2
    · refine ⟨j, List.mem_cons_self, fun i hi => ?_⟩
      rcases List.mem_cons.mp hi with e | e
      · rw [e]; exact Int.le_refl _
      · exact Int.le_trans (h2 i e) h
    · refine ⟨m, List.mem_cons_of_mem _ h1, fun i hi => ?_⟩
      rcases List.mem_cons.mp hi with e | e
      · rw [e]; omega
      · exact h2 i e
theorem load_all {l : List Jb} {d : Int} (h : ∀ i ∈ l, i.2 ≤ d) : load l d = (l.map (·.1)).sum := by
  unfold load
  rw [List.filter_eq_self.mpr fun i hi => decide_eq_true (h i hi)]
/-- no late lot: some order runs -/
theorem runs_of_noLate : ∀ (n : Nat) (l : List Jb), l.length = n → Pos l → NoLate l → ∃ m, m.Perm l ∧ Runs m 0
  | 0, l, hn, _, _ => ⟨[], by rw [List.length_eq_zero_iff.mp hn], trivial⟩
  | n + 1, l, hn, hp, hl => by
    obtain ⟨j, hj, hmax⟩ := exists_max (l := l) (by intro e; rw [e] at hn; cases hn)
    have hpe : l.Perm (j :: l.erase j) := List.perm_cons_erase hj
    have hp' : Pos (l.erase j) := fun x hx => hp x (List.mem_of_mem_erase hx)
    have hn' : (l.erase j).length = n := by have := hpe.length_eq; rw [List.length_cons] at this; omega
    have hl' : NoLate (l.erase j) := fun d hd => by
      have h1 := hl d ((hpe.map _).mem_iff.mpr (by rw [List.map_cons]; exact List.mem_cons_of_mem _ hd))
      rw [load_perm hpe, load_cons] at h1
      have := hp j hj
      split at h1 <;> omega
    obtain ⟨m, hm1, hm2⟩ := runs_of_noLate n (l.erase j) hn' hp' hl'
    refine ⟨m ++ [j], ?_, ?_⟩
    · exact (List.perm_append_comm.trans (List.Perm.cons j hm1)).trans hpe.symm
    · rw [runs_append]
      refine ⟨hm2, ?_, trivial⟩
      have h1 := hl j.2 (List.mem_map_of_mem hj)
      rw [load_perm hpe, load_cons, if_pos (Int.le_refl _), load_all fun i hi => hmax i (List.mem_of_mem_erase hi)] at h1
      have h2 : (m.map (·.1)).sum = ((l.erase j).map (·.1)).sum := by
        rw [← load_all (l := m) (d := j.2) fun i hi => hmax i (List.mem_of_mem_erase (hm1.mem_iff.mp hi)), ← load_all (l := l.erase j) (d := j.2) fun i hi => hmax i (List.mem_of_mem_erase hi)]
        exact load_perm hm1 j.2
      omega
/-! the least late due -/
def late (l : List Jb) : Option Int := (sortI (l.map (·.2))).find? fun d => decide (d < load l d)
theorem late_none (l : List Jb) : late l = none ↔ NoLate l := by
  unfold late NoLate
  rw [List.find?_eq_none]
  constructor
  · intro h d hd
    have := h d ((sortI_perm _).mem_iff.mpr hd)
    simpa using this
  · intro h d hd
    have := h d ((sortI_perm _).mem_iff.mp hd)
    simpa using this
/-- the first of a sorted list with p is the least with p -/
theorem find_sorted (p : Int → Bool) : ∀ (ms : List Int), ms.Pairwise (· ≤ ·) → ∀ k, ms.find? p = some k → k ∈ ms.filter p ∧ ∀ y ∈ ms.filter p, k ≤ y
  | [], _, k, h => by cases h
  | m :: ms, hs, k, h => by
    rw [List.pairwise_cons] at hs
    cases hm : p m with
    | true =>
      rw [List.find?_cons_of_pos hm] at h
      cases h
      rw [List.filter_cons_of_pos hm]
      refine ⟨List.mem_cons_self, fun y hy => ?_⟩
      rcases List.mem_cons.mp hy with e | e
      · rw [e]; exact Int.le_refl _
      · exact hs.1 y (List.mem_filter.mp e).1
    | false =>
      rw [List.find?_cons_of_neg (by rw [hm]; exact Bool.false_ne_true)] at h
      obtain ⟨a, b⟩ := find_sorted p ms hs.2 k h
      rw [List.filter_cons_of_neg (by rw [hm]; exact Bool.false_ne_true)]
      exact ⟨a, b⟩
theorem late_min (l : List Jb) (k : Int) (h : late l = some k) : k ∈ (l.map (·.2)).filter (fun d => decide (d < load l d)) ∧ ∀ y ∈ (l.map (·.2)).filter (fun d => decide (d < load l d)), k ≤ y := by
  obtain ⟨a, b⟩ := find_sorted _ _ (sortI_sorted _) k h
  have hp := (sortI_perm (l.map (·.2))).filter fun d => decide (d < load l d)
  exact ⟨hp.mem_iff.mp a, fun y hy => b y (hp.mem_iff.mpr hy)⟩
/-! sequences, by the places of the jobs -/
def jb (J : List Jb) (i : Int) : Jb := J.getD i.toNat (0, 0)
def items (J : List Jb) : List Int := rgI 0 J.length
/-- a row, made longer by k items that are not in it -/
def ext (it : List Int) : Nat → List Int → List (List Int)
  | 0, row => [row]
  | k + 1, row => (it.filter fun i => decide (i ∉ row)).flatMap fun i => ext it k (row ++ [i])
/-- one turn of the law's walk -/
def longer (it : List Int) (L : List (List Int)) : List (List Int) := L.flatMap fun row => (it.filter fun i => decide (i ∉ row)).map fun i => row ++ [i]
theorem ext_turns (it : List Int) : ∀ (k : Nat) (L : List (List Int)), (List.range k).foldl (fun L _ => longer it L) L = L.flatMap (ext it k) := by
  have key : ∀ (k : Nat) (L : List (List Int)), Nat.repeat (longer it) k L = L.flatMap (ext it k) := by
    intro k
    induction k with
    | zero => intro L; simp [Nat.repeat, ext]
    | succ k ih =>
      intro L
      have hc : ∀ (k : Nat) (L : List (List Int)), Nat.repeat (longer it) (k + 1) L = Nat.repeat (longer it) k (longer it L) := by
        intro k
        induction k with
        | zero => intro L; rfl
        | succ k ih => intro L; show longer it (Nat.repeat (longer it) (k + 1) L) = _; rw [ih]; rfl
      rw [hc, ih]
      unfold longer
      rw [List.flatMap_assoc]
      congr 1
      funext row
      rw [List.flatMap_map]
      rfl
  intro k L
  rw [← key]
  induction k with
  | zero => rfl
  | succ k ih => rw [List.range_succ, List.foldl_append, ih]; rfl
/-- the jobs of a row -/
def js (J : List Jb) (row : List Int) : List Jb := row.map (jb J)
def ok (J : List Jb) (row : List Int) : Bool := decide (Runs (js J row) 0)
def left (J : List Jb) (row : List Int) : List Int := (items J).filter fun i => decide (i ∉ row)
theorem nodup_items (J : List Jb) : (items J).Nodup := by
  unfold items rgI
  unfold List.Nodup
  rw [List.pairwise_map]
  exact List.nodup_range.imp fun h => by omega
theorem left_snoc (J : List Jb) (row : List Int) (i : Int) : left J (row ++ [i]) = (left J row).filter fun o => decide (o ≠ i) := by
  unfold left
  rw [List.filter_filter]
  congr 1
  funext o
  by_cases h1 : o = i <;> by_cases h2 : o ∈ row <;> simp [h1, h2]
theorem left_len (J : List Jb) (row : List Int) (i : Int) (hi : i ∈ left J row) : (left J (row ++ [i])).length + 1 = (left J row).length := by
  rw [left_snoc]
  have hn : (left J row).Nodup := (nodup_items J).filter _
  have : ((left J row).filter fun o => decide (o ≠ i)) = (left J row).erase i := by
    rw [List.Nodup.erase_eq_filter hn]
    congr 1
    funext o
    by_cases h : o = i <;> simp [h]
  rw [this, List.length_erase_of_mem hi]
  have := List.length_pos_of_mem hi
  omega
theorem left_perm (J : List Jb) (row : List Int) (i : Int) (hi : i ∈ left J row) : (left J row).Perm (i :: left J (row ++ [i])) := by
  rw [left_snoc]
  have hn : (left J row).Nodup := (nodup_items J).filter _
  have : ((left J row).filter fun o => decide (o ≠ i)) = (left J row).erase i := by
    rw [List.Nodup.erase_eq_filter hn]
    congr 1
    funext o
    by_cases h : o = i <;> simp [h]
  rw [this]
  exact List.perm_cons_erase hi
theorem shift_shift (a b : Int) (l : List Jb) : shift a (shift b l) = shift (b + a) l := by
  unfold shift
  rw [List.map_map]
  refine List.map_congr_left fun j _ => ?_
  show (j.1, j.2 - b - a) = (j.1, j.2 - (b + a))
  rw [show j.2 - b - a = j.2 - (b + a) by omega]
theorem jb_mem {J : List Jb} {i : Int} (hi : i ∈ items J) : jb J i ∈ J := by
  unfold items at hi
  rw [mem_rgI] at hi
  unfold jb
  have h2 : i.toNat < J.length := by omega
  simp [List.getD, h2]
theorem pos_js {J : List Jb} (hp : Pos J) {l : List Int} (h : ∀ i ∈ l, i ∈ items J) : Pos (js J l) := fun j hj => by
  obtain ⟨i, hi, rfl⟩ := List.mem_map.mp hj
  exact hp _ (jb_mem (h i hi))
theorem left_items {J : List Jb} {row : List Int} {i : Int} (h : i ∈ left J row) : i ∈ items J := (List.mem_filter.mp h).1
theorem js_snoc (J : List Jb) (row : List Int) (i : Int) : js J (row ++ [i]) = js J row ++ [jb J i] := by unfold js; rw [List.map_append]; rfl
def spent (J : List Jb) (row : List Int) : Int := ((js J row).map (·.1)).sum
theorem spent_snoc (J : List Jb) (row : List Int) (i : Int) : spent J (row ++ [i]) = spent J row + (jb J i).1 := by
  unfold spent
  rw [js_snoc, List.map_append, List.sum_append]
  simp
/-- place i may come next -/
def next (J : List Jb) (row : List Int) (i : Int) : Prop := spent J row + (jb J i).1 ≤ (jb J i).2 ∧ NoLate (shift (spent J row + (jb J i).1) (js J (left J (row ++ [i]))))
theorem next_iff {J : List Jb} (hp : Pos J) {row : List Int} (hl : left J row ≠ []) : NoLate (shift (spent J row) (js J (left J row))) ↔ ∃ i ∈ left J row, next J row i := by
  generalize ht : spent J row = t
  have hx : ∀ i ∈ left J row, (shift t (js J (left J row))).Perm (((jb J i).1, (jb J i).2 - t) :: shift t (js J (left J (row ++ [i])))) := fun i hi => ((left_perm J row i hi).map (jb J)).map fun j : Jb => (j.1, j.2 - t)
  have hpl : Pos (js J (left J row)) := pos_js hp fun i hi => left_items hi
  constructor
  · intro h
    obtain ⟨m, m1, m2⟩ := runs_of_noLate _ _ rfl (pos_shift hpl) h
    cases m with
    | nil =>
      have := m1.length_eq
      have h2 : (left J row).length = 0 := by simpa [shift, js] using this.symm
      exact absurd (List.length_eq_zero_iff.mp h2) hl
    | cons x r =>
      have hxm : x ∈ shift t (js J (left J row)) := m1.mem_iff.mp List.mem_cons_self
      obtain ⟨j, hj, rfl⟩ := List.mem_map.mp hxm
      obtain ⟨i, hi, rfl⟩ := List.mem_map.mp hj
      obtain ⟨r1, r2⟩ := m2
      have hr : r.Perm (shift t (js J (left J (row ++ [i])))) := List.Perm.cons_inv (m1.trans (hx i hi))
      refine ⟨i, hi, ?_, ?_⟩
      · rw [ht]; have r1' : (0 : Int) + (jb J i).1 ≤ (jb J i).2 - t := r1; omega
      · rw [ht, ← shift_shift]
        have hpr : Pos (shift (jb J i).1 r) := pos_shift fun j hj => by
          have := hr.mem_iff.mp hj
          exact pos_shift (t := t) (pos_js hp fun i hi => left_items hi) j this
        refine NoLate_perm (hr.map fun j => (j.1, j.2 - (jb J i).1)) (noLate_of_runs hpr (runs_shift.mpr ?_))
        exact r2
  · rintro ⟨i, hi, h1, h2⟩
    rw [ht] at h1 h2
    have hpl' : Pos (js J (left J (row ++ [i]))) := pos_js hp fun i hi => left_items hi
    obtain ⟨m, m1, m2⟩ := runs_of_noLate _ _ rfl (pos_shift hpl') h2
    have hr : (shift (-(jb J i).1) m).Perm (shift t (js J (left J (row ++ [i])))) := by
      have := m1.map fun j : Jb => (j.1, j.2 - (-(jb J i).1))
      have e : shift (-(jb J i).1) (shift (t + (jb J i).1) (js J (left J (row ++ [i])))) = shift t (js J (left J (row ++ [i]))) := by
        rw [shift_shift, show t + (jb J i).1 + -(jb J i).1 = t by omega]
      rw [← e]
      exact this
    have hperm : (((jb J i).1, (jb J i).2 - t) :: shift (-(jb J i).1) m).Perm (shift t (js J (left J row))) := (List.Perm.cons _ hr).trans (hx i hi).symm
    refine NoLate_perm hperm (noLate_of_runs ?_ ⟨by show (0 : Int) + (jb J i).1 ≤ (jb J i).2 - t; omega, ?_⟩)
    · intro j hj
      exact pos_shift hpl j (hperm.mem_iff.mp hj)
    · refine runs_shift.mpr ?_
      show Runs m (0 + (jb J i).1 + -(jb J i).1)
      rw [show (0 : Int) + (jb J i).1 + -(jb J i).1 = 0 by omega]
      exact m2
theorem runs_snoc (J : List Jb) (row : List Int) (i : Int) : Runs (js J (row ++ [i])) 0 ↔ Runs (js J row) 0 ∧ spent J row + (jb J i).1 ≤ (jb J i).2 := by
  rw [js_snoc, runs_append]
  show _ ∧ ((0 : Int) + spent J row + (jb J i).1 ≤ (jb J i).2 ∧ True) ↔ _
  rw [Int.zero_add, and_true]
/-- the first whole row that runs -/
def headF (J : List Jb) (k : Nat) (row : List Int) : Option (List Int) := ((ext (items J) k row).filter (ok J)).head?
theorem headF_succ (J : List Jb) (k : Nat) (row : List Int) : headF J (k + 1) row = (left J row).findSome? fun i => headF J k (row ++ [i]) := by
  unfold headF
  show (((left J row).flatMap fun i => ext (items J) k (row ++ [i])).filter (ok J)).head? = _
  rw [List.filter_flatMap, List.head?_flatMap]
theorem headF_some (J : List Jb) (hp : Pos J) : ∀ (k : Nat) (row : List Int), (left J row).length = k → ((headF J k row).isSome = true ↔ (Runs (js J row) 0 ∧ NoLate (shift (spent J row) (js J (left J row)))))
  | 0, row, hk => by
    have hl : left J row = [] := List.length_eq_zero_iff.mp hk
    rw [hl]
    show ((([row] : List (List Int)).filter (ok J)).head?.isSome = true) ↔ _
    have hn : NoLate (shift (spent J row) (js J [])) := fun d hd => by cases hd
    by_cases h : Runs (js J row) 0
    · simp [ok, h, hn]
    · simp [ok, h]
  | k + 1, row, hk => by
    have hl : left J row ≠ [] := fun e => by rw [e] at hk; cases hk
    rw [headF_succ, List.findSome?_isSome_iff, next_iff hp hl]
    constructor
    · rintro ⟨i, hi, h⟩
      have hk' : (left J (row ++ [i])).length = k := by have := left_len J row i hi; omega
      rw [headF_some J hp k (row ++ [i]) hk', runs_snoc, spent_snoc] at h
      exact ⟨h.1.1, i, hi, h.1.2, h.2⟩
    · rintro ⟨h0, i, hi, h1, h2⟩
      have hk' : (left J (row ++ [i])).length = k := by have := left_len J row i hi; omega
      refine ⟨i, hi, ?_⟩
      rw [headF_some J hp k (row ++ [i]) hk', runs_snoc, spent_snoc]
      exact ⟨⟨h0, h1⟩, h2⟩
/-- the first that may come next leads to the first row -/
theorem headF_next (J : List Jb) (hp : Pos J) (k : Nat) (row : List Int) (hk : (left J row).length = k + 1) (hr : Runs (js J row) 0) (hn : NoLate (shift (spent J row) (js J (left J row)))) (p : Int → Bool) (hpn : ∀ i ∈ left J row, (p i = true ↔ next J row i)) :
    ∃ i, (left J row).find? p = some i ∧ i ∈ left J row ∧ next J row i ∧ headF J (k + 1) row = headF J k (row ++ [i]) := by
  have hl : left J row ≠ [] := fun e => by rw [e] at hk; cases hk
  obtain ⟨i0, hi0, hn0⟩ := (next_iff hp hl).mp hn
  cases hf : (left J row).find? p with
  | none =>
    rw [List.find?_eq_none] at hf
    exact absurd ((hpn i0 hi0).mpr hn0) (hf i0 hi0)
  | some i =>
    have hi := List.mem_of_find?_eq_some hf
    have hpi := (hpn i hi).mp (List.find?_some hf)
    refine ⟨i, rfl, hi, hpi, ?_⟩
    rw [headF_succ]
    have key : ∀ xs : List Int, (∀ x ∈ xs, x ∈ left J row) → xs.find? p = some i → (xs.findSome? fun i => headF J k (row ++ [i])) = headF J k (row ++ [i]) := by
      intro xs
      induction xs with
      | nil => intro _ h; cases h
      | cons x xs ih =>
        intro hx h
        have hk' : ∀ y ∈ left J row, (left J (row ++ [y])).length = k := fun y hy => by have := left_len J row y hy; omega
        cases hpx : p x with
        | true =>
          rw [List.find?_cons_of_pos hpx] at h
          cases h
          rw [List.findSome?_cons]
          have : (headF J k (row ++ [i])).isSome = true := by
            rw [headF_some J hp k _ (hk' i hi), runs_snoc, spent_snoc]
            exact ⟨⟨hr, hpi.1⟩, hpi.2⟩
          cases hq : headF J k (row ++ [i]) with
          | none => rw [hq] at this; cases this
          | some r => rfl
        | false =>
          rw [List.find?_cons_of_neg (by rw [hpx]; exact Bool.false_ne_true)] at h
          rw [List.findSome?_cons]
          have hxl := hx x List.mem_cons_self
          have : headF J k (row ++ [x]) = none := by
            cases hq : headF J k (row ++ [x]) with
            | none => rfl
            | some r =>
              have h3 : (headF J k (row ++ [x])).isSome = true := by rw [hq]; rfl
              rw [headF_some J hp k _ (hk' x hxl), runs_snoc, spent_snoc] at h3
              have := (hpn x hxl).mpr ⟨h3.1.2, h3.2⟩
              rw [hpx] at this; cases this
          rw [this]
          exact ih (fun y hy => hx y (List.mem_cons_of_mem _ hy)) h
    exact key _ (fun x hx => hx) hf
theorem left_nil (J : List Jb) : left J [] = items J := by
  unfold left
  exact List.filter_eq_self.mpr fun i _ => by simp
theorem js_items (J : List Jb) : js J (items J) = J := by
  unfold js items rgI
  rw [List.map_map]
  refine List.ext_getElem (by simp) fun n h1 h2 => ?_
  simp [jb, List.getD, h2]
theorem headF_law (J : List Jb) (hp : Pos J) : (headF J J.length []).isSome = true ↔ NoLate J := by
  have hk : (left J []).length = J.length := by rw [left_nil]; unfold items; rw [rgI_length]; omega
  rw [headF_some J hp J.length [] hk, left_nil, js_items]
  have e : shift (spent J []) J = J := by
    unfold shift spent js
    simp
  rw [e]
  exact ⟨fun h => h.2, fun h => ⟨trivial, h⟩⟩
end LK
end

section
set_option Elab.async false
set_option maxRecDepth 100000
namespace LK
open PySem EL

theorem cell_ok (ns : List Int) (k : Int) (h0 : 0 ≤ k) (h1 : k ≤ 1000) : ∃ c : Int, R_f_law_cell [.scr ns, .int k] = some (.int c) := by
  unfold R_f_law_cell
  rw [runF_a]
  unfold F_f_law_cell
  by_cases h : k < ns.length
  · refine ⟨ns.getD k.toNat 0, ?_⟩
    have e : L2.atI ns k = some (ns.getD k.toNat 0) := by
      rw [atI_ok h0 (by omega)]
      simp [List.getD, show k.toNat < ns.length by omega]
    simp [h, gIx_s, e]
  · refine ⟨5 * k + 3, ?_⟩
    simp [h, cMul_l]

theorem draws_ok (c n : Int) (h0 : 0 ≤ n) (h1 : n ≤ 1000) : ∃ ds : List Int, R_f_law_draws [.int c, .int n] = some (.lst (ds.map .int)) ∧ ds.length = n.toNat ∧ ∀ x ∈ ds, 0 ≤ x ∧ x < 5040 := by
  have body : ∀ (rest seed : Int) (dg : Bool) (ks : List Int), 0 ≤ rest → ks.length ≤ 1000 → ∃ fl, forGo (hName 6) [false, false, true, true, true, true, false, false]
      (sIf (fAnd (fTru (fV 3)) (fCmp (gII bGt) (fV 2) (fC (.int 0)))) (sSeq (sMut 5 gAppend (fAc (f2 (gI cMod Int.fmod) (fN gInt (fAc (fV 2) fA0)) (fC (.int 5040))) fA0))
  (sSet 2 (f2 (gI cDiv Int.fdiv) (fV 2) (fC (.int 5040))))) (sSeq (sSet 7 (f2 (gI cMod Int.fmod) (fN gInt (fAc (f2 gAdd (f2 gAdd (f2 gMul (fV 4) (fC (.int 48271))) (f2 gMul (f2 gAdd (fV 6) (fC (.int 1))) (fC (.int 69621)))) (fC (.int 11))) fA0)) (fC (.int 2147483647))))
  (sSeq (sSet 7 (f2 (gI cMod Int.fmod) (fN gInt (fAc (f2 gAdd (f2 gMul (fV 7) (fV 7)) (f2 gMul (fC (.int 40692)) (f2 gAdd (fV 6) (fC (.int 3))))) fA0)) (fC (.int 2147483399))))
  (sMut 5 gAppend (fAc (f2 (gI cMod Int.fmod) (fN gInt (fAc (f2 (gI cDiv Int.fdiv) (fV 7) (fC (.int 64))) fA0)) (fC (.int 5040))) fA0)))))
      (ks.map Dt.int) [.un, .un, .im (.int rest), .im (.bl dg), .im (.int seed), .ow [], .un, .un] = some fl ∧
      ∃ (r : Int) (ds : List Int), fl = .nx [.un, .un, .im (.int r), .im (.bl dg), .im (.int seed), .ow (ds.map .int), .un, .un] ∧ ds.length = ks.length ∧ ∀ x ∈ ds, 0 ≤ x ∧ x < 5040 := by
    intro rest seed dg ks hr hk
    refine for_inv (fun rem ρ => ∃ (r : Int) (ds js : List Int), rem = js.map Dt.int ∧ ρ = [.un, .un, .im (.int r), .im (.bl dg), .im (.int seed), .ow (ds.map .int), .un, .un] ∧ 0 ≤ r ∧ ds.length + js.length = ks.length ∧ ∀ x ∈ ds, 0 ≤ x ∧ x < 5040)
      _ (fun d rem ρ h => ?_) (fun ρ h => ?_) _ _ ⟨rest, [], ks, rfl, rfl, hr, by simp, by simp⟩
    · obtain ⟨r, ds, js, e1, rfl, h2, h3, h4⟩ := h
      cases js with
      | nil => simp at e1
      | cons j js =>
        simp only [List.map_cons, List.cons.injEq] at e1
        obtain ⟨rfl, rfl⟩ := e1
        have hlen : ds.length < sizeLine := size_gt (by simp at h3; omega)
        have m1 : ∀ x : Int, 0 ≤ x.fmod 5040 ∧ x.fmod 5040 < 5040 := fun x => ⟨Int.fmod_nonneg_of_pos x (by omega), Int.fmod_lt_of_pos x (by omega)⟩
        by_cases hc : dg = true ∧ 0 < r
        · obtain ⟨rfl, hr0⟩ := hc
          refine ⟨.nx [.un, .un, .im (.int (r.fdiv 5040)), .im (.bl true), .im (.int seed), .ow ((ds ++ [r.fmod 5040]).map .int), .un, .un], ?_, r.fdiv 5040, ds ++ [r.fmod 5040], js, rfl, rfl, ?_, ?_, ?_⟩
          · simp [turn, hr0, cMod_of, cDiv_of, hlen]
          · rw [Int.fdiv_eq_ediv_of_nonneg _ (by omega)]; omega
          · simp at h3 ⊢; omega
          · intro x hx
            rcases List.mem_append.mp hx with hx | hx
            · exact h4 x hx
            · rw [List.mem_singleton.mp hx]; exact m1 r
        · have hc' : (dg && decide (0 < r)) = false := by
            cases dg <;> simp_all
          generalize hm1 : (seed * 48271 + (j + 1) * 69621 + 11).fmod 2147483647 = a1
          have ha1 : 0 ≤ a1 ∧ a1 < 2147483647 := by rw [← hm1]; exact ⟨Int.fmod_nonneg_of_pos _ (by omega), Int.fmod_lt_of_pos _ (by omega)⟩
          generalize hm2 : (a1 * a1 + 40692 * (j + 3)).fmod 2147483399 = a2
          refine ⟨.nx [.un, .un, .im (.int r), .im (.bl dg), .im (.int seed), .ow ((ds ++ [(a2.fdiv 64).fmod 5040]).map .int), .un, .un], ?_, r, ds ++ [(a2.fdiv 64).fmod 5040], js, rfl, rfl, h2, ?_, ?_⟩
          · have h5 : (if dg = true then some (decide (0 < r)) else some false) = some false := by
              cases dg <;> simp_all
            simp [turn, h5, cMod_of, cDiv_of, hlen, cMul_r, cMul_l, hm1, hm2, cMul_l (show -1000000000000000000 ≤ a1 by omega) (show a1 ≤ 1000000000000000000 by omega)]
          · simp at h3 ⊢; omega
          · intro x hx
            rcases List.mem_append.mp hx with hx | hx
            · exact h4 x hx
            · rw [List.mem_singleton.mp hx]; exact m1 _
    · obtain ⟨r, ds, js, e1, rfl, h2, h3, h4⟩ := h
      have : js = [] := by simpa using e1.symm
      subst this
      exact ⟨r, ds, rfl, by simpa using h3, h4⟩
  unfold R_f_law_draws
  rw [runF_a]
  unfold F_f_law_draws
  have hp : cPow 10 18 = true := by decide
  have hge : 0 ≤ (if c < 0 then -c else c) := by split <;> omega
  obtain ⟨fl, e1, r, ds, rfl, h5, h6⟩ := body (if c < 0 then -c else c) (if c < 0 then -c else c) (decide (10 ^ 18 ≤ (if c < 0 then -c else c))) (rgI 0 n) hge (by rw [rgI_length]; omega)
  refine ⟨ds, ?_, by rw [h5, rgI_length]; omega, h6⟩
  simp [hp, rng1_of (show -1000000000 ≤ n by omega) (show n ≤ 1000000000 by omega)]
  simp at e1
  rw [e1]
  simp [frz]
theorem isinteger_i (i : Int) : R_f_law_is_integer [.int i] = some (.bl true) := by
  unfold R_f_law_is_integer
  rw [runF_a]
  unfold F_f_law_is_integer
  have h1 : isiB (Dt.int i).ty "int" = true := by simp only [Dt.ty]; decide
  have h2 : isiB (Dt.int i).ty "bool" = false := by simp only [Dt.ty]; decide
  simp [h1, h2]
theorem is_non (k : Nat) : Rn_f_law_is (k + 1) [.non, .non] = some (.bl true) := by
  show runF 3 (F_f_law_is _) _ = _
  rw [runF_a]
  unfold F_f_law_is
  simp
theorem is_int (k : Nat) (i : Int) : Rn_f_law_is (k + 1) [.int i, .int i] = some (.bl true) := by
  show runF 3 (F_f_law_is _) _ = _
  rw [runF_a]
  unfold F_f_law_is
  have h1 : isiB (Dt.int i).ty "int" = true := by simp only [Dt.ty]; decide
  have h2 : isiB (Dt.int i).ty "bool" = false := by simp only [Dt.ty]; decide
  simp [h1, h2, isinteger_i]
theorem is_bl (k : Nat) (i : Bool) : Rn_f_law_is (k + 1) [.bl i, .bl i] = some (.bl true) := by
  show runF 3 (F_f_law_is _) _ = _
  rw [runF_a]
  unfold F_f_law_is
  have h2 : isiB (Dt.bl i).ty "bool" = true := by simp only [Dt.ty]; decide
  simp [h2]
theorem is_tup (k : Nat) (ds : List Dt) (hn : ds.length ≤ 1000) (h : ∀ d ∈ ds, Rn_f_law_is k [d, d] = some (.bl true)) : Rn_f_law_is (k + 1) [.tup ds, .tup ds] = some (.bl true) := by
  show runF 3 (F_f_law_is _) _ = _
  rw [runF_a]
  unfold F_f_law_is
  have h1 : isiB (Dt.tup ds).ty "bool" = false := by simp only [Dt.ty]; decide
  have h2 : isiB (Dt.tup ds).ty "int" = false := by simp only [Dt.ty]; decide
  have h3 : isiB (Dt.tup ds).ty "str" = false := by simp only [Dt.ty]; decide
  have h4 : isiB (Dt.tup ds).ty "tuple" = true := by simp only [Dt.ty]; decide
  have h5 : compGo [.im (.tup ds), .im (.tup ds), .un] (hName 2) fYes (fFn 2 (Rn_f_law_is k) (fAc (f2 gIx (fV 0) (fV 2)) (fAc (f2 gIx (fV 1) (fV 2)) fA0))) ((rgI 0 ds.length).map Dt.int) = some ((rgI 0 ds.length).map fun _ => Dt.bl true) := by
    refine comp_all Dt.int (fun _ => Dt.bl true) _ fun x hx => ⟨_, rfl, rfl, ?_⟩
    rw [mem_rgI] at hx
    simp
    rw [atI_ok hx.1 (by omega)]
    simp
    exact h _ (List.getElem_mem _)
  have h6 : (rgI 0 ds.length).map (fun _ => Dt.bl true) = ((rgI 0 ds.length).map (fun _ => true)).map Dt.bl := by rw [List.map_map]; rfl
  rw [sSeq_nx (ρ' := [.im (.tup ds), .im (.tup ds), .un]) (by simp)]
  rw [sSeq_nx (ρ' := [.im (.tup ds), .im (.tup ds), .un]) (by simp [h1])]
  rw [sSeq_nx (ρ' := [.im (.tup ds), .im (.tup ds), .un]) (by simp [h2])]
  rw [sSeq_nx (ρ' := [.im (.tup ds), .im (.tup ds), .un]) (by simp [h3])]
  rw [sSeq_nx (ρ' := [.im (.tup ds), .im (.tup ds), .un]) (by simp [h4])]
  have h9 : ∀ g : FnL, g [.im (.tup ds), .im (.tup ds), .un] = some ((rgI 0 ds.length).map fun _ => Dt.bl true) → (sRet (fN gAll (fAc (fLst g) fA0)) [.im (.tup ds), .im (.tup ds), .un]).bind endOf = some (.bl true) := by
    intro g hg
    simp only [sRet_a, fN_a, fAc_a, fLst_a, fA0_a, hg, Option.bind_some, h6, gAll_l]
    simp
  refine h9 _ ?_
  refine fComp_of (ds := (rgI 0 ds.length).map Dt.int) ?_ rfl (by rw [List.length_map, rgI_length]; omega) h5
  simp [rng1_of (show (-1000000000 : Int) ≤ ds.length by omega) (show (ds.length : Int) ≤ 1000000000 by omega)]
end LK
end

section
set_option Elab.async false
set_option maxRecDepth 100000
namespace LK
open PySem EL
open PySem.W (AlikeAll dataLt alike alikeAll)
theorem nm (a b : Nat) : Int.fmod (a : Int) (b : Int) = ((a % b : Nat) : Int) := by
  rw [Int.fmod_eq_emod_of_nonneg _ (Int.natCast_nonneg b)]; exact (Int.natCast_emod a b).symm
theorem nq (a b : Nat) : Int.fdiv (a : Int) (b : Int) = ((a / b : Nat) : Int) := by
  rw [Int.fdiv_eq_ediv_of_nonneg _ (Int.natCast_nonneg b)]; exact (Int.natCast_ediv a b).symm
/-- a list of draws -/
abbrev dl (dn : List Nat) : List Dt := dn.map fun (d : Nat) => .int d
theorem dl_at {dn : List Nat} (i : Int) (h0 : 0 ≤ i) (h : i < dn.length) : L2.atI (dl dn) i = some (.int (dn.getD i.toNat 0 : Nat)) := by
  unfold dl
  rw [atI_mapf _ h0 (by omega)]
  simp [List.getD, show i.toNat < dn.length by omega]
theorem gAdd_tt {xs ys : List Dt} (h1 : xs.length ≤ 4000) (h2 : ys.length ≤ 4000) : gAdd (.tup xs) (.tup ys) = some (.tup (xs ++ ys)) := by
  show (if xs.length + ys.length ≤ sizeLine then some (Dt.tup (xs ++ ys)) else none) = _
  rw [if_pos (size_ge (by omega))]
theorem gAdd_ll {xs ys : List Dt} (h1 : xs.length ≤ 4000) (h2 : ys.length ≤ 4000) : gAdd (.lst xs) (.lst ys) = some (.lst (xs ++ ys)) := by
  show (if xs.length + ys.length ≤ sizeLine then some (Dt.lst (xs ++ ys)) else none) = _
  rw [if_pos (size_ge (by omega))]
theorem mem_cutL {α : Type} {xs : List α} {lo hi : Option Int} {x : α} (h : x ∈ cutL xs lo hi) : x ∈ xs := by
  unfold cutL at h
  exact List.mem_of_mem_drop (List.mem_of_mem_take h)
theorem pickodd (a : Int) (x : Nat) : ∃ o : Int, L2.atI [.int a, .int (100000000000000000000), .int (-1)] ((x % 14 / 6 : Nat) : Int) = some (Dt.int o) := by
  have h : x % 14 / 6 = 0 ∨ x % 14 / 6 = 1 ∨ x % 14 / 6 = 2 := by omega
  rcases h with h | h | h <;> rw [h]
  · exact ⟨_, rfl⟩
  · exact ⟨_, rfl⟩
  · exact ⟨_, rfl⟩
theorem bent_ok (row : List Dt) (hrow : row.length ≤ 1000) (dn : List Nat) (hd : dn.length = 3) (most : Nat) (hm : most ≤ 1000000) :
    ∃ l' : List Dt, R_f_law_bent [.tup row, .lst (dl dn), .int most] = some (.tup l') ∧ (∀ d ∈ l', d ∈ row ∨ ∃ i, d = .int i) ∧ l'.length ≤ 2 * row.length + 1 := by
  unfold R_f_law_bent
  rw [runF_a]
  unfold F_f_law_bent
  have a0 := dl_at (dn := dn) 0 (by omega) (by omega)
  have a1 := dl_at (dn := dn) 1 (by omega) (by omega)
  have a2 := dl_at (dn := dn) 2 (by omega) (by omega)
  generalize dn.getD (0 : Int).toNat 0 = x0 at a0
  generalize dn.getD (1 : Int).toNat 0 = x1 at a1
  generalize dn.getD (2 : Int).toNat 0 = x2 at a2
  have m0 : cMod x0 6 = true := cMod_of (by omega)
  have m1 : cMod x1 ((row.length : Int) + 1) = true := cMod_of (by omega)
  have m2 : cMod x2 ((most : Int) + 3) = true := cMod_of (by omega)
  have m3 : cDiv x2 60 = true := cDiv_of (by omega) (by omega) (by omega)
  have m4 : cMod ((x2 / 60 : Nat) : Int) 14 = true := cMod_of (by omega)
  have m5 : cDiv ((x2 / 60 % 14 : Nat) : Int) 6 = true := cDiv_of (by omega) (by omega) (by omega)
  have f0 : Int.fmod (x0 : Int) 6 = ((x0 % 6 : Nat) : Int) := nm x0 6
  have f1 : Int.fmod (x1 : Int) ((row.length : Int) + 1) = ((x1 % (row.length + 1) : Nat) : Int) := nm x1 (row.length + 1)
  have f3 : Int.fdiv (x2 : Int) 60 = ((x2 / 60 : Nat) : Int) := nq x2 60
  have f4 : Int.fmod ((x2 / 60 : Nat) : Int) 14 = ((x2 / 60 % 14 : Nat) : Int) := nm _ 14
  have f5 : Int.fdiv ((x2 / 60 % 14 : Nat) : Int) 6 = ((x2 / 60 % 14 / 6 : Nat) : Int) := nq _ 6
  obtain ⟨o, eo⟩ := pickodd (Int.fmod x2 ((most : Int) + 3) - 1) (x2 / 60)
  have hp : cPow 10 20 = true := by decide
  generalize hw : x0 % 6 = w at f0
  generalize ha : x1 % (row.length + 1) = at' at f1
  show ∃ l', Option.bind (sSeq _ _ [.im (.tup row), .im (.lst (dl dn)), .im (.int most), .un, .un, .un]) endOf = _ ∧ _
  rw [sSeq_nx (ρ' := [.im (.tup row), .im (.lst (dl dn)), .im (.int most), .im (.int w), .un, .un]) (by simp [a0, m0, f0, -Int.natCast_emod])]
  rw [sSeq_nx (ρ' := [.im (.tup row), .im (.lst (dl dn)), .im (.int most), .im (.int w), .im (.int at'), .un]) (by simp [a1, m1, f1, -Int.natCast_emod])]
  rw [sSeq_nx (ρ' := [.im (.tup row), .im (.lst (dl dn)), .im (.int most), .im (.int w), .im (.int at'), .im (.int o)]) (by simp [a2, m2, m3, m4, m5, f3, f4, f5, hp, eo, -atI_c0, -atI_c1, -atI_c2, -Int.natCast_emod, -Int.natCast_ediv])]
  have hc : ∀ i j, (cutL row i j).length ≤ 1000 := fun i j => Nat.le_trans (cutL_length row i j) hrow
  have hc2 : ∀ i j, (cutL row i j).length ≤ row.length := fun i j => cutL_length row i j
  have ad1 : ∀ i j i' j', gAdd (.tup (cutL row i j)) (.tup (cutL row i' j')) = some (.tup (cutL row i j ++ cutL row i' j')) := fun i j i' j' => gAdd_tt (by have := hc i j; omega) (by have := hc i' j'; omega)
  have ad2 : ∀ i j (d : Dt), gAdd (.tup (cutL row i j)) (.tup [d]) = some (.tup (cutL row i j ++ [d])) := fun i j d => gAdd_tt (by have := hc i j; omega) (by simp)
  have ad3 : ∀ i j (d : Dt) i' j', gAdd (.tup (cutL row i j ++ [d])) (.tup (cutL row i' j')) = some (.tup (cutL row i j ++ [d] ++ cutL row i' j')) := fun i j d i' j' => gAdd_tt (by have := hc i j; simp; omega) (by have := hc i' j'; omega)
  have mm1 : ∀ i j i' j', ∀ d ∈ cutL row i j ++ cutL row i' j', d ∈ row ∨ ∃ i, d = Dt.int i := fun i j i' j' d hd => by
    rcases List.mem_append.mp hd with h | h <;> exact .inl (mem_cutL h)
  have mm2 : ∀ i j i' j', ∀ d ∈ cutL row i j ++ [.int o] ++ cutL row i' j', d ∈ row ∨ ∃ i, d = Dt.int i := fun i j i' j' d hd => by
    rcases List.mem_append.mp hd with h | h
    · rcases List.mem_append.mp h with h | h
      · exact .inl (mem_cutL h)
      · exact .inr ⟨o, List.mem_singleton.mp h⟩
    · exact .inl (mem_cutL h)
  by_cases h0 : w = 0
  · refine ⟨_, ?_, mm1 none (some (at' : Int)) (some ((at' : Int) + 1)) none, ?_⟩
    · subst h0
      simp [ad1]
    · have := hc2 none (some (at' : Int)); have := hc2 (some ((at' : Int) + 1)) none
      rw [List.length_append]; omega
  · by_cases h1 : w = 1
    · refine ⟨_, ?_, mm2 none (some (at' : Int)) (some (at' : Int)) none, ?_⟩
      · subst h1
        simp [ad2, ad3]
      · have := hc2 none (some (at' : Int)); have := hc2 (some (at' : Int)) none
        simp only [List.length_append, List.length_singleton]; omega
    · have h0' : ¬ (w : Int) = 0 := by omega
      have h1' : ¬ (w : Int) = 1 := by omega
      by_cases h2 : w < 4
      · have h2' : (w : Int) < 4 := by omega
        refine ⟨_, ?_, mm2 none (some (at' : Int)) (some ((at' : Int) + 1)) none, ?_⟩
        · simp [h0, h1, h1', h2', ad2, ad3]
        · have := hc2 none (some (at' : Int)); have := hc2 (some ((at' : Int) + 1)) none
          simp only [List.length_append, List.length_singleton]; omega
      · have h2' : ¬ (w : Int) < 4 := by omega
        by_cases h3 : w = 4
        · refine ⟨row.reverse, ?_, fun d hd => .inl (List.mem_reverse.mp hd), by rw [List.length_reverse]; omega⟩
          subst h3
          simp
        · have h3' : ¬ (w : Int) = 4 := by omega
          refine ⟨_, ?_, mm1 none (some (at' : Int)) (some (if (at' : Int) - 1 > 0 then (at' : Int) - 1 else 0)) none, ?_⟩
          · have hg : gMax2 [.int 0, .int ((at' : Int) - 1)] = some (.int (if (at' : Int) - 1 > 0 then (at' : Int) - 1 else 0)) := rfl
            simp [-gMax2_i, h0, h1, h1', h2', h3', hg, ad1]
          · have := hc2 none (some (at' : Int)); have := hc2 (some (if (at' : Int) - 1 > 0 then (at' : Int) - 1 else 0)) none
            rw [List.length_append]; omega
/-! min of ints and of pairs -/
theorem depth_ints : ∀ l : List Int, PyData.depthAll (Dt.pyA (l.map Dt.int)) ≤ 1
  | [] => by simp [Dt.pyA, PyData.depthAll]
  | x :: l => by
    have := depth_ints l
    simp only [List.map_cons, Dt.pyA, Dt.py, PyData.depthAll, PyData.depth]
    omega
theorem lay_ints : ∀ l : List Int, PyData.canLayAll0 (Dt.pyA (l.map Dt.int)) = true
  | [] => by simp [Dt.pyA, PyData.canLayAll0]
  | x :: l => by
    have := lay_ints l
    simp only [List.map_cons, Dt.pyA, Dt.py, PyData.canLayAll0, PyData.canLay0, this, Bool.and_self]
theorem pyA_ints (l : List Int) : Dt.pyA (l.map Dt.int) = l.map PyData.int := by
  rw [pyA_map, List.map_map]
  refine List.map_congr_left fun x _ => by simp [Dt.py]
theorem minT_ints (x : Int) (l : List Int) : gMinD [.tup ((x :: l).map Dt.int)] = some (.int (l.foldl min x)) := by
  have hc : cdc (AlikeAll (Dt.pyA ((x :: l).map Dt.int)) ∧ PyData.canLayAll0 (Dt.pyA ((x :: l).map Dt.int)) = true ∧ PyData.depthAll (Dt.pyA ((x :: l).map Dt.int)) ≤ 60) = true :=
    cdc_t ⟨alike_ints x l, lay_ints (x :: l), Nat.le_trans (depth_ints (x :: l)) (by omega)⟩
  show (if cdc (AlikeAll (Dt.pyA (.int x :: l.map Dt.int)) ∧ PyData.canLayAll0 (Dt.pyA (.int x :: l.map Dt.int)) = true ∧ PyData.depthAll (Dt.pyA (.int x :: l.map Dt.int)) ≤ 60) = true then some (bestD dataLt (.int x) (l.map Dt.int)) else none) = _
  rw [List.map_cons] at hc
  rw [if_pos hc]
  congr 1
  have h := bestD_py dataLt (l.map Dt.int) (.int x)
  rw [pyA_ints] at h
  have h2 := W.minD_ints x l
  unfold W.minD at h2
  have h3 : (Dt.int x).py = PyData.int x := by simp [Dt.py]
  rw [h3, h2] at h
  have h4 : (Dt.int (l.foldl min x)).py = PyData.int (l.foldl min x) := by simp [Dt.py]
  rw [← h4] at h
  exact (py_inj _ _ h.symm (by simp [Dt.py, PyData.canLay0])).symm
def en2 (q : Int × Int) : Dt := .tup [.int q.1, .int q.2]
theorem best_mem (f : PyData → PyData → Bool) : ∀ (xs : List Dt) (x : Dt), bestD f x xs ∈ x :: xs
  | [], x => by simp [bestD]
  | y :: xs, x => by
    have := best_mem f xs (if f y.py x.py then y else x)
    show bestD f (if f y.py x.py then y else x) xs ∈ _
    rcases List.mem_cons.mp this with h | h
    · rw [h]
      split
      · exact List.mem_cons_of_mem _ List.mem_cons_self
      · exact List.mem_cons_self
    · exact List.mem_cons_of_mem _ (List.mem_cons_of_mem _ h)
theorem minL_pairs (q : Int × Int) (l : List (Int × Int)) : ∃ b, gMinD [.lst ((q :: l).map en2)] = some (en2 b) := by
  have e1 : ∀ q : Int × Int, (en2 q).py = .tuple [.int q.1, .int q.2] := fun q => by simp [en2, Dt.py, Dt.pyA]
  have hal : AlikeAll (Dt.pyA ((q :: l).map en2)) := by
    rw [pyA_map]
    constructor
    · intro a ha b hb
      obtain ⟨a', ha1, rfl⟩ := List.mem_map.mp ha
      obtain ⟨a'', _, rfl⟩ := List.mem_map.mp ha1
      obtain ⟨b', hb1, rfl⟩ := List.mem_map.mp hb
      obtain ⟨b'', _, rfl⟩ := List.mem_map.mp hb1
      rw [e1, e1]
      simp [alike, alikeAll]
    · intro a ha
      obtain ⟨a', ha1, rfl⟩ := List.mem_map.mp ha
      obtain ⟨a'', _, rfl⟩ := List.mem_map.mp ha1
      rw [e1]
      simp
  have hdep : ∀ l : List (Int × Int), PyData.depthAll (Dt.pyA (l.map en2)) ≤ 5 := by
    intro l
    induction l with
    | nil => simp [Dt.pyA, PyData.depthAll]
    | cons x l ih =>
      simp only [List.map_cons, Dt.pyA, e1, PyData.depthAll, PyData.depth]
      omega
  have hlay : ∀ l : List (Int × Int), PyData.canLayAll0 (Dt.pyA (l.map en2)) = true := by
    intro l
    induction l with
    | nil => simp [Dt.pyA, PyData.canLayAll0]
    | cons x l ih =>
      simp [Dt.pyA, e1, PyData.canLayAll0, PyData.canLay0, ih]
  have hc : cdc (AlikeAll (Dt.pyA ((q :: l).map en2)) ∧ PyData.canLayAll0 (Dt.pyA ((q :: l).map en2)) = true ∧ PyData.depthAll (Dt.pyA ((q :: l).map en2)) ≤ 60) = true :=
    cdc_t ⟨hal, hlay _, Nat.le_trans (hdep _) (by omega)⟩
  have hb := best_mem dataLt (l.map en2) (en2 q)
  rw [← List.map_cons] at hb
  obtain ⟨b, _, eb⟩ := List.mem_map.mp hb
  refine ⟨b, ?_⟩
  show (if cdc (AlikeAll (Dt.pyA (en2 q :: l.map en2)) ∧ PyData.canLayAll0 (Dt.pyA (en2 q :: l.map en2)) = true ∧ PyData.depthAll (Dt.pyA (en2 q :: l.map en2)) ≤ 60) = true then some (bestD dataLt (en2 q) (l.map en2)) else none) = _
  rw [List.map_cons] at hc
  rw [if_pos hc, eb]
theorem is_int' (i : Int) : R_f_law_is [.int i, .int i] = some (.bl true) := is_int 5 i
theorem is_non' : R_f_law_is [.non, .non] = some (.bl true) := is_non 5
theorem is_bl' (b : Bool) : R_f_law_is [.bl b, .bl b] = some (.bl true) := is_bl 5 b
theorem is_en2 (q : Int × Int) : R_f_law_is [en2 q, en2 q] = some (.bl true) := is_tup 5 _ (by simp) (by
  intro d hd
  rcases List.mem_cons.mp hd with rfl | hd
  · exact is_int 4 _
  · rw [List.mem_singleton.mp hd]; exact is_int 4 _)
end LK
end

section
set_option Elab.async false
set_option maxRecDepth 100000
namespace LK
open PySem EL
theorem turn_nx {gf : Dt → Rho → Option Rho} {mk : List Bool} {F : FnS} {d : Dt} {ρ ρ1 ρ2 : Rho} (h1 : gf d ρ = some ρ1) (h2 : F ρ1 = some (.nx ρ2)) : turn gf mk F d ρ = some (.nx (clr mk ρ2)) := by
  unfold turn
  rw [h1, Option.bind_some, h2]
  rfl
theorem turn_bk {gf : Dt → Rho → Option Rho} {mk : List Bool} {F : FnS} {d : Dt} {ρ ρ1 ρ2 : Rho} (h1 : gf d ρ = some ρ1) (h2 : F ρ1 = some (.bk ρ2)) : turn gf mk F d ρ = some (.bk (clr mk ρ2)) := by
  unfold turn
  rw [h1, Option.bind_some, h2]
  rfl
theorem sWhile_a (c : FnB) (mk : List Bool) (F : FnS) (ρ : Rho) : sWhile c mk F ρ = itO (whStep c mk F) (clr mk ρ) := rfl
theorem ix0 (q : Int × Int) : gIx (en2 q) (.int 0) = some (.int q.1) := by simp [en2]
theorem ix1 (q : Int × Int) : gIx (en2 q) (.int 1) = some (.int q.2) := by simp [en2]
def lateD (J : List Jb) : Dt := match late J with | some d => .int d | none => .non
theorem late_ok (J : List Jb) (hJ : J.length ≤ 1000) (d : Dt) (hd : gItems d = some (J.map en2)) : R_late_lot [d] = some (lateD J) := by
  unfold R_late_lot
  rw [runF_a]
  unfold F_late_lot
  have hf := for_find (gf := (hName 2)) (mk := [true, false, false, false, false]) (F := (sIf (fCmp (gII bGt) (fN gSum (fAc (fLst (fComp (f1L gItems (fV 0)) (hTup 2 (hCons (hName 3) (hCons (hName 4) hNil))) (fCmp (gII bLe) (fV 4) (fV 2)) (fV 3) [3, 4])) fA0)) (fV 2)) (sRet (fV 2)) sNil)) Dt.int [.im d, .un, .un, .un, .un] (fun e => decide (e < load J e)) (fun e => .int e) (sortI (J.map (·.2))) (fun e he => by
    have hc : (fComp (f1L gItems (fV 0)) (hTup 2 (hCons (hName 3) (hCons (hName 4) hNil))) (fCmp (gII bLe) (fV 4) (fV 2)) (fV 3) [3, 4]) [.im d, .un, .im (.int e), .un, .un] = some (((J.filter fun j => decide (j.2 ≤ e)).map (·.1)).map Dt.int) := by
      refine fComp_of (ds := J.map en2) (by simp [hd]) rfl (by rw [List.length_map]; omega) ?_
      rw [List.map_map]
      refine comp_map en2 _ _ _ fun j hj => ⟨[.im d, .un, .im (.int e), .im (.int j.1), .im (.int j.2)], ?_, ?_, fun _ => ?_⟩
      · simp [en2]
      · simp
      · simp
    unfold turn
    rw [hName_a, Option.bind_some]
    simp only [setS_s, setS_z]
    rw [sIf_a, fCmp_a, fN_a, fAc_a, fLst_a, hc]
    simp only [Option.bind_some, fA0_a, gSum_l, fV_a, getS_s, getS_z, gII_i, bGt_a]
    show _ = some (if decide (e < load J e) = true then _ else _)
    unfold load
    by_cases hz : e < ((J.filter fun j => decide (j.2 ≤ e)).map (·.1)).sum
    · simp [hz]
    · simp [hz])
  have hr : (fNL gSorted (fAc (fLst (fComp (f1L gItems (fV 0)) (hName 1) fYes (f2 gIx (fV 1) (fC (.int 1))) [1])) fA0)) [.im d, .un, .un, .un, .un] = some ((sortI (J.map (·.2))).map Dt.int) := by
    have hc : (fComp (f1L gItems (fV 0)) (hName 1) fYes (f2 gIx (fV 1) (fC (.int 1))) [1]) [.im d, .un, .un, .un, .un] = some ((J.map (·.2)).map Dt.int) := by
      refine fComp_of (ds := J.map en2) (by simp [hd]) rfl (by rw [List.length_map]; omega) ?_
      rw [List.map_map]
      refine comp_all en2 _ _ fun j hj => ⟨_, rfl, rfl, ?_⟩
      simp [ix1]
    rw [fNL_a, fAc_a, fLst_a, hc]
    simp only [Option.bind_some, fA0_a, gSorted_l]
  show Option.bind (sSeq _ _ [.im d, .un, .un, .un, .un]) endOf = _
  rw [sSeq_a, sFor_a, hr, Option.bind_some]
  simp only [clr_t, clr_f, clr_n]
  rw [hf]
  unfold lateD late
  cases (sortI (J.map (·.2))).find? fun e => decide (e < load J e) <;> simp
theorem lateD_isn (J : List Jb) : gIsN (lateD J) .non = some (decide (NoLate J)) := by
  have := late_none J
  unfold lateD
  cases h : late J with
  | none => rw [h] at this; simp [this.mp rfl]
  | some d =>
    rw [h] at this
    have hn : ¬ NoLate J := fun hn => by have := this.mpr hn; cases this
    simp [hn]
theorem lateD_not (J : List Jb) : gNotN (lateD J) .non = some (!decide (NoLate J)) := by
  have := late_none J
  unfold lateD
  cases h : late J with
  | none => rw [h] at this; simp [this.mp rfl]
  | some d =>
    rw [h] at this
    have hn : ¬ NoLate J := fun hn => by have := this.mpr hn; cases this
    simp [hn]
theorem jb_at {J : List Jb} {i : Int} (hi : i ∈ items J) : L2.atI (J.map en2) i = some (en2 (jb J i)) := by
  unfold items at hi
  rw [mem_rgI] at hi
  have h2 : i.toNat < J.length := by omega
  rw [atI_mapf en2 hi.1 h2]
  unfold jb
  simp [List.getD, h2]
instance (J : List Jb) (row : List Int) (i : Int) : Decidable (next J row i) := inferInstanceAs (Decidable (_ ∧ _))
def rowD (row : List Int) : Dt := .tup (row.map Dt.int)
/-- one place looked at -/
theorem told_turn (J : List Jb) (hJ : J.length ≤ 1000) (row : List Int) (i : Int) (hi : i ∈ left J row) (s4 s6 s7 : Sl) :
    ∃ fl, (sSeq (sSet 6 (fLst (fComp (f1L gItems (fV 3)) (hName 5) (fCmp gNe (fV 5) (fV 4)) (fV 5) [5])))
  (sSeq (sSet 7 (f2 gAdd (fV 2) (f2 gIx (f2 gIx (fV 0) (fV 4)) (fC (.int 0)))))
  (sIf (fAnd (fCmp (gII bLe) (fV 7) (f2 gIx (f2 gIx (fV 0) (fV 4)) (fC (.int 1)))) (fCmp gIsN (fFn 1 R_late_lot (fAc (fLst (fComp (f1L gItems (fV 6)) (hName 5) fYes (fTup (fAc (f2 gIx (f2 gIx (fV 0) (fV 5)) (fC (.int 0))) (fAc (f2 gMinus (f2 gIx (f2 gIx (fV 0) (fV 5)) (fC (.int 1))) (fV 7)) fA0))) [5])) fA0)) (fC .non))) (fun ρ => some (.bk ρ)) sNil))) [.im (.tup (J.map en2)), .im (rowD row), .im (.int (spent J row)), .im (.lst ((left J row).map Dt.int)), .im (.int i), .un, s6, s7] = some fl ∧ ((next J row i ∧ fl = .bk [.im (.tup (J.map en2)), .im (rowD row), .im (.int (spent J row)), .im (.lst ((left J row).map Dt.int)), .im (.int i), .un, .im (.lst ((left J (row ++ [i])).map Dt.int)), .im (.int (spent J (row ++ [i])))]) ∨ (¬ next J row i ∧ ∃ t6 t7, fl = .nx [.im (.tup (J.map en2)), .im (rowD row), .im (.int (spent J row)), .im (.lst ((left J row).map Dt.int)), .im (.int i), .un, t6, t7])) := by
  have hl : (left J row).length ≤ J.length := by unfold left; refine Nat.le_trans (List.length_filter_le _ _) ?_; unfold items; rw [rgI_length]; omega
  have hc : (fComp (f1L gItems (fV 3)) (hName 5) (fCmp gNe (fV 5) (fV 4)) (fV 5) [5]) [.im (.tup (J.map en2)), .im (rowD row), .im (.int (spent J row)), .im (.lst ((left J row).map Dt.int)), .im (.int i), .un, s6, s7] = some ((left J (row ++ [i])).map Dt.int) := by
    rw [left_snoc]
    refine fComp_of (ds := (left J row).map Dt.int) (by simp) rfl (by rw [List.length_map]; omega) ?_
    refine comp_map Dt.int _ _ _ fun o ho => ⟨_, rfl, ?_, fun _ => rfl⟩
    by_cases h : o = i <;> simp [h]
  rw [sSeq_nx (ρ' := [.im (.tup (J.map en2)), .im (rowD row), .im (.int (spent J row)), .im (.lst ((left J row).map Dt.int)), .im (.int i), .un, .im (.lst ((left J (row ++ [i])).map Dt.int)), s7]) (by
    rw [sSet_a, fLst_a, hc]
    simp only [Option.bind_some, setS_s, setS_z])]
  have hj := jb_at (left_items hi)
  rw [sSeq_nx (ρ' := [.im (.tup (J.map en2)), .im (rowD row), .im (.int (spent J row)), .im (.lst ((left J row).map Dt.int)), .im (.int i), .un, .im (.lst ((left J (row ++ [i])).map Dt.int)), .im (.int (spent J (row ++ [i])))]) (by
    simp [hj, ix0, spent_snoc])]
  have hl2 : (left J (row ++ [i])).length ≤ J.length := by have := left_len J row i hi; omega
  have hc2 : (fComp (f1L gItems (fV 6)) (hName 5) fYes (fTup (fAc (f2 gIx (f2 gIx (fV 0) (fV 5)) (fC (.int 0))) (fAc (f2 gMinus (f2 gIx (f2 gIx (fV 0) (fV 5)) (fC (.int 1))) (fV 7)) fA0))) [5]) [.im (.tup (J.map en2)), .im (rowD row), .im (.int (spent J row)), .im (.lst ((left J row).map Dt.int)), .im (.int i), .un, .im (.lst ((left J (row ++ [i])).map Dt.int)), .im (.int (spent J (row ++ [i])))] = some ((shift (spent J (row ++ [i])) (js J (left J (row ++ [i])))).map en2) := by
    refine fComp_of (ds := (left J (row ++ [i])).map Dt.int) (by simp) rfl (by rw [List.length_map]; omega) ?_
    unfold shift js
    rw [List.map_map, List.map_map]
    refine comp_all Dt.int _ _ fun o ho => ⟨_, rfl, rfl, ?_⟩
    have ho' := jb_at (left_items ho)
    simp [ho', ix0, ix1]
    rfl
  have hlen : (shift (spent J (row ++ [i])) (js J (left J (row ++ [i])))).length ≤ 1000 := by unfold shift js; rw [List.length_map, List.length_map]; omega
  have hlate := late_ok (shift (spent J (row ++ [i])) (js J (left J (row ++ [i])))) hlen (.lst ((shift (spent J (row ++ [i])) (js J (left J (row ++ [i])))).map en2)) rfl
  have hnx : next J row i ↔ (spent J (row ++ [i]) ≤ (jb J i).2 ∧ NoLate (shift (spent J (row ++ [i])) (js J (left J (row ++ [i]))))) := by
    rw [spent_snoc]; exact Iff.rfl
  generalize spent J (row ++ [i]) = now at *
  by_cases h1 : now ≤ (jb J i).2
  · by_cases h2 : NoLate (shift now (js J (left J (row ++ [i]))))
    · refine ⟨_, ?_, .inl ⟨hnx.mpr ⟨h1, h2⟩, rfl⟩⟩
      rw [sIf_a, fAnd_a]
      simp [hj, ix1, h1, -fComp_a, hc2, hlate, lateD_isn, h2]
    · refine ⟨_, ?_, .inr ⟨fun h => h2 (hnx.mp h).2, .im (.lst ((left J (row ++ [i])).map Dt.int)), .im (.int now), rfl⟩⟩
      rw [sIf_a, fAnd_a]
      simp [hj, ix1, h1, -fComp_a, hc2, hlate, lateD_isn, h2]
  · refine ⟨_, ?_, .inr ⟨fun h => h1 (hnx.mp h).1, .im (.lst ((left J (row ++ [i])).map Dt.int)), .im (.int now), rfl⟩⟩
    rw [sIf_a, fAnd_a]
    simp [hj, ix1, h1]
/-- the next place is found -/
theorem told_for (J : List Jb) (hJ : J.length ≤ 1000) (hp : Pos J) (k : Nat) (row : List Int) (hk : (left J row).length = k + 1) (hr : Runs (js J row) 0) (hn : NoLate (shift (spent J row) (js J (left J row)))) (s4 s6 s7 : Sl) :
    ∃ i, i ∈ left J row ∧ next J row i ∧ headF J (k + 1) row = headF J k (row ++ [i]) ∧ forGo (hName 4) [true, true, true, true, true, false, true, true] (sSeq (sSet 6 (fLst (fComp (f1L gItems (fV 3)) (hName 5) (fCmp gNe (fV 5) (fV 4)) (fV 5) [5])))
  (sSeq (sSet 7 (f2 gAdd (fV 2) (f2 gIx (f2 gIx (fV 0) (fV 4)) (fC (.int 0)))))
  (sIf (fAnd (fCmp (gII bLe) (fV 7) (f2 gIx (f2 gIx (fV 0) (fV 4)) (fC (.int 1)))) (fCmp gIsN (fFn 1 R_late_lot (fAc (fLst (fComp (f1L gItems (fV 6)) (hName 5) fYes (fTup (fAc (f2 gIx (f2 gIx (fV 0) (fV 5)) (fC (.int 0))) (fAc (f2 gMinus (f2 gIx (f2 gIx (fV 0) (fV 5)) (fC (.int 1))) (fV 7)) fA0))) [5])) fA0)) (fC .non))) (fun ρ => some (.bk ρ)) sNil))) ((left J row).map Dt.int) [.im (.tup (J.map en2)), .im (rowD row), .im (.int (spent J row)), .im (.lst ((left J row).map Dt.int)), s4, .un, s6, s7] = some (.nx [.im (.tup (J.map en2)), .im (rowD row), .im (.int (spent J row)), .im (.lst ((left J row).map Dt.int)), .im (.int i), .un, .im (.lst ((left J (row ++ [i])).map Dt.int)), .im (.int (spent J (row ++ [i])))]) := by
  obtain ⟨i, hf, hi, hnx, hh⟩ := headF_next J hp k row hk hr hn (fun i => decide (next J row i)) fun i _ => decide_eq_true_iff
  refine ⟨i, hi, hnx, hh, ?_⟩
  have key : ∀ (xs : List Int) (s4 s6 s7 : Sl), (∀ x ∈ xs, x ∈ left J row) → xs.find? (fun i => decide (next J row i)) = some i → forGo (hName 4) [true, true, true, true, true, false, true, true] (sSeq (sSet 6 (fLst (fComp (f1L gItems (fV 3)) (hName 5) (fCmp gNe (fV 5) (fV 4)) (fV 5) [5])))
  (sSeq (sSet 7 (f2 gAdd (fV 2) (f2 gIx (f2 gIx (fV 0) (fV 4)) (fC (.int 0)))))
  (sIf (fAnd (fCmp (gII bLe) (fV 7) (f2 gIx (f2 gIx (fV 0) (fV 4)) (fC (.int 1)))) (fCmp gIsN (fFn 1 R_late_lot (fAc (fLst (fComp (f1L gItems (fV 6)) (hName 5) fYes (fTup (fAc (f2 gIx (f2 gIx (fV 0) (fV 5)) (fC (.int 0))) (fAc (f2 gMinus (f2 gIx (f2 gIx (fV 0) (fV 5)) (fC (.int 1))) (fV 7)) fA0))) [5])) fA0)) (fC .non))) (fun ρ => some (.bk ρ)) sNil))) (xs.map Dt.int) [.im (.tup (J.map en2)), .im (rowD row), .im (.int (spent J row)), .im (.lst ((left J row).map Dt.int)), s4, .un, s6, s7] = some (.nx [.im (.tup (J.map en2)), .im (rowD row), .im (.int (spent J row)), .im (.lst ((left J row).map Dt.int)), .im (.int i), .un, .im (.lst ((left J (row ++ [i])).map Dt.int)), .im (.int (spent J (row ++ [i])))]) := by
    intro xs
    induction xs with
    | nil => intro _ _ _ _ h; cases h
    | cons x xs ih =>
      intro s4 s6 s7 hx h
      obtain ⟨fl, e1, e2⟩ := told_turn J hJ row x (hx x List.mem_cons_self) s4 s6 s7
      rw [List.map_cons, forGo_cons]
      rcases e2 with ⟨a, rfl⟩ | ⟨a, t6, t7, rfl⟩
      · rw [List.find?_cons_of_pos (by simpa using a)] at h
        cases h
        rw [turn_bk (hName_a 4 _ _) e1]
        rfl
      · rw [List.find?_cons_of_neg (by simpa using a)] at h
        rw [turn_nx (hName_a 4 _ _) e1]
        exact ih _ _ _ (fun y hy => hx y (List.mem_cons_of_mem _ hy)) h
  exact key _ _ _ _ (fun x hx => hx) hf
theorem told_seq_some (J : List Jb) (hJ : J.length ≤ 900) (hp : Pos J) (hn : NoLate J) : ∃ row, headF J J.length [] = some row ∧ R_told_sequence [.tup (J.map en2)] = some (rowD row) := by
  have hk0 : (left J []).length = J.length := by rw [left_nil]; unfold items; rw [rgI_length]; omega
  have hs0 : shift (spent J []) (js J (left J [])) = J := by
    rw [left_nil, js_items]; unfold shift spent js; simp
  have hw := while_inv (c := (fTru (fV 3))) (mk := [true, true, true, true, true, false, true, true]) (F := (sSeq (sFor (f1L gItems (fV 3)) (hName 4) [true, true, true, true, true, false, true, true]
   (sSeq (sSet 6 (fLst (fComp (f1L gItems (fV 3)) (hName 5) (fCmp gNe (fV 5) (fV 4)) (fV 5) [5])))
  (sSeq (sSet 7 (f2 gAdd (fV 2) (f2 gIx (f2 gIx (fV 0) (fV 4)) (fC (.int 0)))))
  (sIf (fAnd (fCmp (gII bLe) (fV 7) (f2 gIx (f2 gIx (fV 0) (fV 4)) (fC (.int 1)))) (fCmp gIsN (fFn 1 R_late_lot (fAc (fLst (fComp (f1L gItems (fV 6)) (hName 5) fYes (fTup (fAc (f2 gIx (f2 gIx (fV 0) (fV 5)) (fC (.int 0))) (fAc (f2 gMinus (f2 gIx (f2 gIx (fV 0) (fV 5)) (fC (.int 1))) (fV 7)) fA0))) [5])) fA0)) (fC .non))) (fun ρ => some (.bk ρ)) sNil))))
  (sSeq (sSet 1 (f2 gAdd (fV 1) (fTup (fAc (fV 4) fA0))))
  (sSeq (sSet 2 (fV 7))
  (sSet 3 (fV 6))))))
    (fun ρ => ∃ (row : List Int) (s4 s6 s7 : Sl), Runs (js J row) 0 ∧ NoLate (shift (spent J row) (js J (left J row))) ∧ row.length + (left J row).length = J.length ∧ headF J (left J row).length row = headF J J.length [] ∧ ρ = [.im (.tup (J.map en2)), .im (rowD row), .im (.int (spent J row)), .im (.lst ((left J row).map Dt.int)), s4, .un, s6, s7])
    (fun ρ => match ρ with | [_, _, _, .im (.lst l), _, _, _, _] => l.length | _ => 0)
    (fun fl => ∃ (row : List Int) (ρ : Rho), fl = .nx ρ ∧ getS ρ 1 = .im (rowD row) ∧ headF J J.length [] = some row)
    (by
      rintro ρ ⟨row, s4, s6, s7, h1, h2, h4, h3, rfl⟩
      cases hk : (left J row).length with
      | zero =>
        have hl : left J row = [] := List.length_eq_zero_iff.mp hk
        refine ⟨.inr (.nx [.im (.tup (J.map en2)), .im (rowD row), .im (.int (spent J row)), .im (.lst ((left J row).map Dt.int)), s4, .un, s6, s7]), ?_, row, _, rfl, rfl, ?_⟩
        · simp [whStep, hl]
        · rw [← h3, hk]
          show (([row] : List (List Int)).filter (ok J)).head? = some row
          simp [ok, h1]
      | succ k =>
        obtain ⟨i, hi, hnx, hh, hf⟩ := told_for J (by omega) hp k row hk h1 h2 s4 s6 s7
        have hll := left_len J row i hi
        refine ⟨.inl [.im (.tup (J.map en2)), .im (rowD (row ++ [i])), .im (.int (spent J (row ++ [i]))), .im (.lst ((left J (row ++ [i])).map Dt.int)), .im (.int i), .un, .im (.lst ((left J (row ++ [i])).map Dt.int)), .im (.int (spent J (row ++ [i])))], ?_, ⟨row ++ [i], _, _, _, (runs_snoc J row i).mpr ⟨h1, hnx.1⟩, by have := hnx.2; rw [spent_snoc]; exact this, by rw [List.length_append, List.length_singleton]; omega, ?_, rfl⟩, ?_⟩
        · have hne : (left J row).isEmpty = false := by
            cases hq : left J row with
            | nil => rw [hq] at hk; cases hk
            | cons _ _ => rfl
          unfold whStep
          rw [fTru_a]
          simp only [fV_a, getS_s, getS_z, Option.bind_some, tru_l, List.isEmpty_map, hne, Bool.not_false, if_true]
          rw [sSeq_nx (ρ' := [.im (.tup (J.map en2)), .im (rowD row), .im (.int (spent J row)), .im (.lst ((left J row).map Dt.int)), .im (.int i), .un, .im (.lst ((left J (row ++ [i])).map Dt.int)), .im (.int (spent J (row ++ [i])))]) (by
            rw [sFor_a]
            simp only [f1L_a, fV_a, getS_s, getS_z, Option.bind_some, gItems_l, clr_t, clr_f, clr_n]
            exact hf)]
          have hcat : gAdd (rowD row) (.tup [.int i]) = some (rowD (row ++ [i])) := by
            unfold rowD
            rw [gAdd_tt (by rw [List.length_map]; omega) (by simp), List.map_append]; rfl
          simp [hcat]
        · rw [← h3, hk, hh, show (left J (row ++ [i])).length = k by omega]
        · show ((left J (row ++ [i])).map Dt.int).length < ((left J row).map Dt.int).length
          rw [List.length_map, List.length_map]; omega)
    [.im (.tup (J.map en2)), .im (rowD []), .im (.int (spent J [])), .im (.lst ((left J []).map Dt.int)), .un, .un, .un, .un] ⟨[], .un, .un, .un, trivial, by rw [hs0]; exact hn, by rw [hk0]; simp, by rw [hk0], rfl⟩
  obtain ⟨fl, e1, row, ρ, rfl, e2, e3⟩ := hw
  refine ⟨row, e3, ?_⟩
  unfold R_told_sequence
  rw [runF_a]
  unfold F_told_sequence
  have hlate := late_ok J (by omega) (.tup (J.map en2)) rfl
  have hlr : (fLR (fR1 (fN gLen (fAc (fV 0) fA0)))) [.im (.tup (J.map en2)), .im (rowD []), .im (.int 0), .un, .un, .un, .un, .un] = some ((left J []).map Dt.int) := by
    have ho : okRg (0, (J.length : Int)) = true := by
      unfold okRg
      exact cdc_t ⟨by show -(2 ^ 62) ≤ (0 : Int); omega, by show (0 : Int) < 2 ^ 62; omega, by show -(2 ^ 62) ≤ (J.length : Int); omega, by show (J.length : Int) < 2 ^ 62; omega, by show ((J.length : Int) - 0).toNat ≤ 2 ^ 24; omega⟩
    simp [ho, rngD_eq, left_nil, items]
  show Option.bind (sSeq _ _ [.im (.tup (J.map en2)), .un, .un, .un, .un, .un, .un, .un]) endOf = _
  rw [sSeq_nx (ρ' := [.im (.tup (J.map en2)), .un, .un, .un, .un, .un, .un, .un]) (by simp [hlate, lateD_not, hn])]
  rw [sSeq_nx (ρ' := [.im (.tup (J.map en2)), .im (rowD []), .un, .un, .un, .un, .un, .un]) (by simp [rowD])]
  rw [sSeq_nx (ρ' := [.im (.tup (J.map en2)), .im (rowD []), .im (.int 0), .un, .un, .un, .un, .un]) (by simp)]
  rw [sSeq_nx (ρ' := [.im (.tup (J.map en2)), .im (rowD []), .im (.int (spent J [])), .im (.lst ((left J []).map Dt.int)), .un, .un, .un, .un]) (by
    rw [sSet_a, fLst_a, hlr]
    simp [spent, js])]
  rw [sSeq_nx (ρ' := ρ) (by rw [sWhile_a]; exact e1)]
  simp [e2]
theorem told_seq_non (J : List Jb) (hJ : J.length ≤ 900) (hn : ¬ NoLate J) : R_told_sequence [.tup (J.map en2)] = some .non := by
  unfold R_told_sequence
  rw [runF_a]
  unfold F_told_sequence
  have hlate := late_ok J (by omega) (.tup (J.map en2)) rfl
  simp [hlate, lateD_not, hn]
end LK
end

section
set_option Elab.async false
set_option maxRecDepth 100000
namespace LK
open PySem EL
/-! sameness of ints and of lists of ints -/
theorem ok_int (i : Int) : (Dt.int i).ok = true := by simp [Dt.ok, Dt.py, SeqAt.shaped, PyData.canLay0, PyData.depth]
theorem ok_lints (l : List Int) : (Dt.lst (l.map Dt.int)).ok = true := by
  have h1 := lay_ints l
  have h2 := depth_ints l
  unfold Dt.ok SeqAt.shaped
  rw [Dt.py, PyData.canLay0, h1, PyData.depth]
  simp
  omega
theorem ok_tints (l : List Int) : (Dt.tup (l.map Dt.int)).ok = true := by
  have h1 := lay_ints l
  have h2 := depth_ints l
  unfold Dt.ok SeqAt.shaped
  rw [Dt.py, PyData.canLay0, h1, PyData.depth]
  simp
  omega
theorem any_ints (i : Int) (l : List Int) : anyEq (.int i) (l.map Dt.int) = decide (i ∈ l) := by
  unfold anyEq
  rw [pyA_ints, List.any_map]
  induction l with
  | nil => rfl
  | cons x l ih =>
    rw [List.any_cons, ih]
    simp only [Function.comp, Dt.py, PyData.eqv]
    by_cases h : x = i
    · subst h; simp
    · have h' : ¬ i = x := fun e => h e.symm
      simp [h, h']
theorem in_tints (i : Int) (l : List Int) : gIn (.int i) (.tup (l.map Dt.int)) = some (decide (i ∈ l)) := by
  show (if (Dt.int i).ok = true ∧ okA (l.map Dt.int) = true then some (anyEq (.int i) (l.map Dt.int)) else none) = _
  rw [if_pos ⟨ok_int i, ok_lints l⟩, any_ints]
theorem in_lints (i : Int) (l : List Int) : gIn (.int i) (.lst (l.map Dt.int)) = some (decide (i ∈ l)) := by
  show (if (Dt.int i).ok = true ∧ okA (l.map Dt.int) = true then some (anyEq (.int i) (l.map Dt.int)) else none) = _
  rw [if_pos ⟨ok_int i, ok_lints l⟩, any_ints]
theorem notin_tints (i : Int) (l : List Int) : gNotIn (.int i) (.tup (l.map Dt.int)) = some (decide (i ∉ l)) := by
  unfold gNotIn
  rw [in_tints]
  by_cases h : i ∈ l <;> simp [h]
theorem eqvAll_ints : ∀ a b : List Int, PyData.eqvAll (Dt.pyA (a.map Dt.int)) (Dt.pyA (b.map Dt.int)) = decide (a = b)
  | [], [] => by simp [Dt.pyA, PyData.eqvAll]
  | [], y :: ys => by simp [Dt.pyA, PyData.eqvAll]
  | x :: xs, [] => by simp [Dt.pyA, PyData.eqvAll]
  | x :: xs, y :: ys => by
    have ih := eqvAll_ints xs ys
    simp only [List.map_cons, Dt.pyA, Dt.py, PyData.eqvAll, PyData.eqv, ih]
    by_cases h1 : x = y <;> by_cases h2 : xs = ys <;> simp [h1, h2]
theorem ne_lints (a b : List Int) : gNe (.lst (a.map Dt.int)) (.lst (b.map Dt.int)) = some (!decide (a = b)) := by
  unfold gNe
  rw [if_pos ⟨ok_lints a, ok_lints b⟩, Dt.py, Dt.py, PyData.eqv, eqvAll_ints]
theorem eq_lints (a b : List Int) : gEq (.lst (a.map Dt.int)) (.lst (b.map Dt.int)) = some (decide (a = b)) := by
  unfold gEq
  rw [if_pos ⟨ok_lints a, ok_lints b⟩, Dt.py, Dt.py, PyData.eqv, eqvAll_ints]
theorem ne_tints (a b : List Int) : gNe (.tup (a.map Dt.int)) (.tup (b.map Dt.int)) = some (!decide (a = b)) := by
  unfold gNe
  rw [if_pos ⟨ok_tints a, ok_tints b⟩, Dt.py, Dt.py, PyData.eqv, eqvAll_ints]
theorem eq_tints (a b : List Int) : gEq (.tup (a.map Dt.int)) (.tup (b.map Dt.int)) = some (decide (a = b)) := by
  unfold gEq
  rw [if_pos ⟨ok_tints a, ok_tints b⟩, Dt.py, Dt.py, PyData.eqv, eqvAll_ints]
end LK
end

section
set_option Elab.async false
set_option maxRecDepth 100000
namespace LK
open PySem EL
theorem fold_app {α β : Type} (f : α → List β) : ∀ (xs : List α) (a : List β), xs.foldl (fun s x => s ++ f x) a = a ++ xs.flatMap f
  | [], a => by simp
  | x :: xs, a => by rw [List.foldl_cons, fold_app f xs]; simp
def lng (it row : List Int) : List (List Int) := (it.filter fun i => decide (i ∉ row)).map fun i => row ++ [i]
theorem lng_len (it row : List Int) : (lng it row).length ≤ it.length := by unfold lng; rw [List.length_map]; exact List.length_filter_le _ _
theorem longer_eq (it : List Int) (L : List (List Int)) : longer it L = L.flatMap (lng it) := rfl
theorem flat_len (it : List Int) : ∀ L : List (List Int), (L.flatMap (lng it)).length ≤ it.length * L.length
  | [] => by simp
  | r :: L => by
    rw [List.flatMap_cons, List.length_append, List.length_cons, Nat.mul_succ]
    have := flat_len it L
    have := lng_len it r
    omega
theorem orders_inner (it : List Int) (hit : it.length ≤ 5) (L : List (List Int)) (hL : L.length ≤ 625) (hr : ∀ row ∈ L, row.length ≤ 100) (s1 : Sl) :
    forGo (hName 4) [true, false, false, true, false, false] (sSet 3 (f2 gAdd (fV 3) (fLst (fComp (f1L gItems (fV 0)) (hName 5) (fCmp gNotIn (fV 5) (fV 4)) (f2 gAdd (fV 4) (fTup (fAc (fV 5) fA0))) [5])))) (L.map rowD) [.im (rowD it), .un, .un, .im (.lst (([] : List (List Int)).map rowD)), .un, .un] = some (.nx [.im (rowD it), .un, .un, .im (.lst ((longer it L).map rowD)), .un, .un]) := by
  have := for_fold (gf := (hName 4)) (mk := [true, false, false, true, false, false]) (F := (sSet 3 (f2 gAdd (fV 3) (fLst (fComp (f1L gItems (fV 0)) (hName 5) (fCmp gNotIn (fV 5) (fV 4)) (f2 gAdd (fV 4) (fTup (fAc (fV 5) fA0))) [5]))))) rowD (fun acc : List (List Int) => [.im (rowD it), .un, .un, .im (.lst (acc.map rowD)), .un, .un]) (fun s row => s ++ lng it row) (fun s xs => s.length + 5 * xs.length ≤ 3200 ∧ ∀ row ∈ xs, row.length ≤ 100) L [] ⟨by simp; omega, hr⟩ (by
    rintro s row r ⟨h1, h2⟩
    have hrow := h2 row List.mem_cons_self
    simp only [List.length_cons] at h1
    have hl := lng_len it row
    refine ⟨?_, by rw [List.length_append]; omega, fun q hq => h2 q (List.mem_cons_of_mem _ hq)⟩
    have hc : (fComp (f1L gItems (fV 0)) (hName 5) (fCmp gNotIn (fV 5) (fV 4)) (f2 gAdd (fV 4) (fTup (fAc (fV 5) fA0))) [5]) [.im (rowD it), .un, .un, .im (.lst (s.map rowD)), .im (rowD row), .un] = some ((lng it row).map rowD) := by
      refine fComp_of (ds := it.map Dt.int) (by simp [rowD]) rfl (by rw [List.length_map]; omega) ?_
      unfold lng
      rw [List.map_map]
      refine comp_map Dt.int _ _ _ fun i hi => ⟨_, rfl, ?_, fun _ => ?_⟩
      · simp [rowD, notin_tints]
      · have : gAdd (rowD row) (.tup [.int i]) = some (rowD (row ++ [i])) := by
          unfold rowD
          rw [gAdd_tt (by rw [List.length_map]; omega) (by simp), List.map_append]; rfl
        simp [this]
    rw [turn_nx (ρ2 := [.im (rowD it), .un, .un, .im (.lst ((s ++ lng it row).map rowD)), .im (rowD row), .un]) (hName_a 4 _ _) (by
      rw [sSet_a, f2_a, fLst_a]
      simp only [setS_s, setS_z]
      rw [hc]
      simp only [fV_a, getS_s, getS_z, Option.bind_some]
      rw [gAdd_ll (by rw [List.length_map]; omega) (by rw [List.length_map]; omega), List.map_append]
      rfl)]
    rfl)
  rw [fold_app, List.nil_append] at this
  exact this
theorem orders_ok (it : List Int) (hit : it.length ≤ 5) : R_f_law_orders [rowD it] = some (.lst ((ext it it.length []).map rowD)) := by
  have outer := for_fold (gf := (hName 2)) (mk := [true, true, false, false, false, false]) (F := (sSeq (sSet 3 (fLst (fLstL fA0)))
  (sSeq (sFor (f1L gItems (fV 1)) (hName 4) [true, false, false, true, false, false]
   (sSet 3 (f2 gAdd (fV 3) (fLst (fComp (f1L gItems (fV 0)) (hName 5) (fCmp gNotIn (fV 5) (fV 4)) (f2 gAdd (fV 4) (fTup (fAc (fV 5) fA0))) [5])))))
  (sSet 1 (fV 3))))) Dt.int (fun L : List (List Int) => [.im (rowD it), .im (.lst (L.map rowD)), .un, .un, .un, .un]) (fun L _ => longer it L) (fun L xs => L.length * 5 ^ xs.length ≤ 3125 ∧ ∀ row ∈ L, row.length + xs.length ≤ 10) (rgI 0 it.length) [[]] ⟨by
      rw [rgI_length]
      have : 5 ^ ((it.length : Int) - 0).toNat ≤ 5 ^ 5 := Nat.pow_le_pow_right (by omega) (by omega)
      simp at this ⊢
      omega, fun row hrow => by rw [List.mem_singleton.mp hrow, rgI_length]; simp; omega⟩ (by
    rintro L x r ⟨h1, h2⟩
    rw [List.length_cons, Nat.pow_succ] at h1
    have hp : 1 ≤ 5 ^ r.length := Nat.one_le_pow _ _ (by omega)
    have hL5 : L.length * 5 ≤ 3125 := by
      have h3 : L.length * (1 * 5) ≤ L.length * (5 ^ r.length * 5) := Nat.mul_le_mul_left _ (Nat.mul_le_mul_right _ hp)
      omega
    have hin := orders_inner it hit L (by omega) (fun row hrow => by have := h2 row hrow; simp at this; omega) .un
    refine ⟨?_, ?_, ?_⟩
    · rw [turn_nx (ρ2 := [.im (rowD it), .im (.lst ((longer it L).map rowD)), .un, .im (.lst ((longer it L).map rowD)), .un, .un]) (hName_a 2 _ _) (by
        simp only [setS_s, setS_z]
        rw [sSeq_nx (ρ' := [.im (rowD it), .im (.lst (L.map rowD)), .im (.int x), .im (.lst (([] : List (List Int)).map rowD)), .un, .un]) (by simp)]
        rw [sSeq_nx (ρ' := [.im (rowD it), .un, .un, .im (.lst ((longer it L).map rowD)), .un, .un]) (by
          rw [sFor_a]
          simp only [f1L_a, fV_a, getS_s, getS_z, Option.bind_some, gItems_l, clr_t, clr_f, clr_n]
          exact hin)]
        simp)]
      rfl
    · have := flat_len it L
      rw [longer_eq]
      have h4 : (L.flatMap (lng it)).length ≤ 5 * L.length := Nat.le_trans this (Nat.mul_le_mul_right _ hit)
      have h5 : (L.flatMap (lng it)).length * 5 ^ r.length ≤ 5 * L.length * 5 ^ r.length := Nat.mul_le_mul_right _ h4
      have h6 : 5 * L.length * 5 ^ r.length = L.length * (5 ^ r.length * 5) := by simp only [Nat.mul_comm, Nat.mul_left_comm, Nat.mul_assoc]
      omega
    · intro row hrow
      rw [longer_eq] at hrow
      obtain ⟨q, hq, hrow⟩ := List.mem_flatMap.mp hrow
      unfold lng at hrow
      obtain ⟨i, _, rfl⟩ := List.mem_map.mp hrow
      have := h2 q hq
      simp at this ⊢
      omega)
  have hfold : (rgI 0 (it.length : Int)).foldl (fun L _ => longer it L) [[]] = ext it it.length [] := by
    have h1 : ∀ (xs : List Int) (L : List (List Int)), xs.foldl (fun L _ => longer it L) L = (List.range xs.length).foldl (fun L _ => longer it L) L := by
      intro xs L
      rw [ext_turns]
      induction xs generalizing L with
      | nil => simp [ext]
      | cons x xs ih => rw [List.foldl_cons, ih, ← ext_turns, ← ext_turns, List.length_cons, List.range_succ_eq_map, List.foldl_cons, List.foldl_map]
    rw [h1, ext_turns, rgI_length]
    simp
  rw [hfold] at outer
  unfold R_f_law_orders
  rw [runF_a]
  unfold F_f_law_orders
  show Option.bind (sSeq _ _ [.im (rowD it), .un, .un, .un, .un, .un]) endOf = _
  rw [sSeq_nx (ρ' := [.im (rowD it), .im (.lst (([[]] : List (List Int)).map rowD)), .un, .un, .un, .un]) (by simp [rowD])]
  have hr : (fNL gRng1 (fAc (fN gLen (fAc (fV 0) fA0)) fA0)) [.im (rowD it), .im (.lst (([[]] : List (List Int)).map rowD)), .un, .un, .un, .un] = some ((rgI 0 it.length).map Dt.int) := by
    simp [rowD, rng1_of (show (-1000000000 : Int) ≤ (it.length : Int) by omega) (show (it.length : Int) ≤ 1000000000 by omega)]
  rw [sSeq_a, sFor_a, hr, Option.bind_some]
  simp only [clr_t, clr_f, clr_n]
  rw [outer]
  simp
end LK
end

section
set_option Elab.async false
set_option maxRecDepth 100000
namespace LK
open PySem EL
/-- no place twice, none outside -/
def Valid (J : List Jb) (o : List Int) : Prop := (∀ x ∈ o, x ∈ items J) ∧ o.Nodup
instance (J : List Jb) (o : List Int) : Decidable (Valid J o) := inferInstanceAs (Decidable (_ ∧ _))
theorem valid_snoc (J : List Jb) (o : List Int) (x : Int) : Valid J (o ++ [x]) ↔ Valid J o ∧ x ∈ items J ∧ x ∉ o := by
  unfold Valid
  rw [List.nodup_append]
  constructor
  · rintro ⟨h1, h2, _, h3⟩
    exact ⟨⟨fun y hy => h1 y (List.mem_append_left _ hy), h2⟩, h1 x (List.mem_append_right _ List.mem_cons_self), fun hx => h3 x hx x List.mem_cons_self rfl⟩
  · rintro ⟨⟨h1, h2⟩, h3, h4⟩
    refine ⟨fun y hy => ?_, h2, by simp, fun a ha b hb e => ?_⟩
    · rcases List.mem_append.mp hy with hy | hy
      · exact h1 y hy
      · rw [List.mem_singleton.mp hy]; exact h3
    · rw [List.mem_singleton.mp hb] at e; rw [e] at ha; exact h4 ha
theorem perm_of {it : List Int} : ∀ (o : List Int), (∀ x ∈ o, x ∈ it) → o.Nodup → o.length = it.length → o.Perm it := by
  intro o
  induction o generalizing it with
  | nil => intro _ _ h; rw [List.length_eq_zero_iff.mp h.symm]
  | cons x o ih =>
    intro h1 h2 h3
    have hx := h1 x List.mem_cons_self
    have hpe := List.perm_cons_erase hx
    rw [List.nodup_cons] at h2
    refine (List.Perm.cons x (ih (it := it.erase x) (fun y hy => ?_) h2.2 ?_)).trans hpe.symm
    · have hyx : y ≠ x := fun e => h2.1 (e ▸ hy)
      exact (List.mem_erase_of_ne hyx).mpr (h1 y (List.mem_cons_of_mem _ hy))
    · have := hpe.length_eq
      simp only [List.length_cons] at this h3
      omega
theorem sorted_items (J : List Jb) : (items J).Pairwise (· ≤ ·) := by
  unfold items rgI
  rw [List.pairwise_map]
  exact List.pairwise_lt_range.imp fun h => by omega
theorem sort_iff (J : List Jb) (o : List Int) : sortI o = items J ↔ Valid J o ∧ o.length = J.length := by
  have hl : (items J).length = J.length := by unfold items; rw [rgI_length]; omega
  constructor
  · intro h
    have hp := sortI_perm o
    rw [h] at hp
    exact ⟨⟨fun x hx => hp.mem_iff.mpr hx, hp.nodup_iff.mp (nodup_items J)⟩, by rw [← hp.length_eq, hl]⟩
  · rintro ⟨⟨h1, h2⟩, h3⟩
    exact (sortI_one (perm_of o h1 h2 (by rw [h3, hl])).symm (sorted_items J)).symm
theorem rgI_cons {a b : Int} (h : a < b) : rgI a b = a :: rgI (a + 1) b := by
  unfold rgI
  have : (b - a).toNat = (b - (a + 1)).toNat + 1 := by omega
  rw [this, List.range_succ_eq_map, List.map_cons, List.map_map]
  congr 1
  · omega
  · refine List.map_congr_left fun i _ => ?_
    show a + ((i + 1 : Nat) : Int) = a + 1 + (i : Int)
    omega
theorem rgI_nil {a b : Int} (h : b ≤ a) : rgI a b = [] := by
  unfold rgI
  rw [show (b - a).toNat = 0 by omega]
  rfl
theorem cut_pre (pre post : List Int) : cutL ((pre ++ post).map Dt.int) none (some (pre.length : Int)) = pre.map Dt.int := by
  unfold cutL
  rw [HT.sIx_nat]
  simp [HT.sIx]
theorem valid_prefix {J : List Jb} {a b : List Int} (h : Valid J (a ++ b)) : Valid J a := by
  obtain ⟨h1, h2⟩ := h
  exact ⟨fun x hx => h1 x (List.mem_append_left _ hx), (List.nodup_append.mp h2).1⟩
theorem js_append (J : List Jb) (a b : List Int) : js J (a ++ b) = js J a ++ js J b := List.map_append
theorem lseq_ok (J : List Jb) (hJ : J.length ≤ 1000) (o : List Int) (ho : o.length ≤ 1000) : R_f_law_sequence [.tup (J.map en2), rowD o] = some (.bl (decide (Valid J o ∧ Runs (js J o) 0 ∧ o.length = J.length))) := by
  have hf := for_inv (gf := (hName 3)) (mk := [true, true, true, false]) (F := (sSeq (sIf (fOr (fNot (fChain (gII bLe) (gII bLt) (fC (.int 0)) (f2 gIx (fV 1) (fV 3)) (fN gLen (fAc (fV 0) fA0)))) (fCmp gIn (f2 gIx (fV 1) (fV 3)) (fSl (fV 1) fNoP (fPart (fV 3))))) (sRet (fC (.bl false))) sNil)
  (sSeq (sSet 2 (f2 gAdd (fV 2) (f2 gIx (f2 gIx (fV 0) (f2 gIx (fV 1) (fV 3))) (fC (.int 0)))))
  (sIf (fCmp (gII bLt) (f2 gIx (f2 gIx (fV 0) (f2 gIx (fV 1) (fV 3))) (fC (.int 1))) (fV 2)) (sRet (fC (.bl false))) sNil))))
    (fun rem ρ => ∃ pre post : List Int, o = pre ++ post ∧ rem = (rgI pre.length o.length).map Dt.int ∧ Valid J pre ∧ Runs (js J pre) 0 ∧ ρ = [.im (.tup (J.map en2)), .im (rowD o), .im (.int (spent J pre)), .un])
    (fun fl => (fl = .rt (.bl false) ∧ ¬ (Valid J o ∧ Runs (js J o) 0)) ∨ ((Valid J o ∧ Runs (js J o) 0) ∧ fl = .nx [.im (.tup (J.map en2)), .im (rowD o), .im (.int (spent J o)), .un]))
    (by
      rintro d ds ρ ⟨pre, post, e0, e1, h1, h2, rfl⟩
      cases post with
      | nil =>
        rw [List.append_nil] at e0
        rw [e0, rgI_nil (Int.le_refl _)] at e1
        cases e1
      | cons x post =>
        have hlen : o.length = pre.length + (post.length + 1) := by rw [e0, List.length_append, List.length_cons]
        rw [rgI_cons (by omega), List.map_cons] at e1
        simp only [List.cons.injEq] at e1
        obtain ⟨rfl, rfl⟩ := e1
        have hat : L2.atI (o.map Dt.int) (pre.length : Int) = some (.int x) := by
          rw [e0, atI_mapf Dt.int (by omega) (by simp)]
          simp
        have hcut : cutL (o.map Dt.int) none (some (pre.length : Int)) = pre.map Dt.int := by rw [e0]; exact cut_pre pre (x :: post)
        have hpre : o = (pre ++ [x]) ++ post := by rw [e0]; simp
        by_cases hx : x ∈ items J ∧ x ∉ pre
        · have hxr := hx.1
          unfold items at hxr
          rw [mem_rgI] at hxr
          have hj := jb_at hx.1
          by_cases hd : spent J pre + (jb J x).1 ≤ (jb J x).2
          · refine ⟨.nx [.im (.tup (J.map en2)), .im (rowD o), .im (.int (spent J (pre ++ [x]))), .un], ?_, pre ++ [x], post, hpre, ?_, (valid_snoc J pre x).mpr ⟨h1, hx⟩, (runs_snoc J pre x).mpr ⟨h2, hd⟩, rfl⟩
            · have hd' : ¬ (jb J x).2 < spent J pre + (jb J x).1 := by omega
              simp [turn, rowD, hat, hcut, hxr.1, hxr.2, in_tints, hx.2, hj, ix0, ix1, spent_snoc, hd']
            · rw [List.length_append, List.length_singleton, Int.natCast_add]; rfl
          · refine ⟨.rt (.bl false), ?_, .inl ⟨rfl, fun hh => ?_⟩⟩
            · have hd' : (jb J x).2 < spent J pre + (jb J x).1 := by omega
              simp [turn, rowD, hat, hcut, hxr.1, hxr.2, in_tints, hx.2, hj, ix0, ix1, hd']
            · have hr := hh.2
              rw [hpre, js_append] at hr
              exact hd ((runs_snoc J pre x).mp (runs_append.mp hr).1).2
        · refine ⟨.rt (.bl false), ?_, .inl ⟨rfl, fun hh => ?_⟩⟩
          · by_cases h0 : 0 ≤ x
            · by_cases h3 : x < J.length
              · have hxi : x ∈ items J := by unfold items; rw [mem_rgI]; exact ⟨h0, h3⟩
                have hxp : x ∈ pre := by
                  by_cases hxp : x ∈ pre
                  · exact hxp
                  · exact absurd ⟨hxi, hxp⟩ hx
                simp [turn, rowD, hat, hcut, h0, h3, in_tints, hxp]
              · simp [turn, rowD, hat, h0, h3]
            · simp [turn, rowD, hat, h0]
          · have hv := hh.1
            rw [hpre] at hv
            exact hx ((valid_snoc J pre x).mp (valid_prefix hv)).2)
    (by
      rintro ρ ⟨pre, post, e0, e1, h1, h2, rfl⟩
      have hz : (rgI pre.length o.length).length = 0 := by
        have := congrArg List.length e1
        rw [List.length_map] at this
        exact this.symm
      rw [rgI_length] at hz
      have hlen : o.length = pre.length + post.length := by rw [e0, List.length_append]
      have hp : post = [] := List.length_eq_zero_iff.mp (by omega)
      subst hp
      rw [List.append_nil] at e0
      subst e0
      exact .inr ⟨⟨h1, h2⟩, rfl⟩)
    ((rgI 0 o.length).map Dt.int) [.im (.tup (J.map en2)), .im (rowD o), .im (.int 0), .un] ⟨[], o, rfl, rfl, ⟨(fun x hx => nomatch hx), List.nodup_nil⟩, trivial, rfl⟩
  obtain ⟨fl, e, hq⟩ := hf
  unfold R_f_law_sequence
  rw [runF_a]
  unfold F_f_law_sequence
  have hr : (fNL gRng1 (fAc (fN gLen (fAc (fV 1) fA0)) fA0)) [.im (.tup (J.map en2)), .im (rowD o), .im (.int 0), .un] = some ((rgI 0 o.length).map Dt.int) := by
    simp [rowD, rng1_of (show (-1000000000 : Int) ≤ (o.length : Int) by omega) (show (o.length : Int) ≤ 1000000000 by omega)]
  show Option.bind (sSeq _ _ [.im (.tup (J.map en2)), .im (rowD o), .un, .un]) endOf = _
  rw [sSeq_nx (ρ' := [.im (.tup (J.map en2)), .im (rowD o), .im (.int 0), .un]) (by simp)]
  rw [sSeq_a, sFor_a, hr, Option.bind_some]
  simp only [clr_t, clr_f, clr_n]
  rw [e]
  rcases hq with ⟨rfl, hn⟩ | ⟨hy, rfl⟩
  · have : ¬ (Valid J o ∧ Runs (js J o) 0 ∧ o.length = J.length) := fun h => hn ⟨h.1, h.2.1⟩
    simp [this]
  · by_cases hl : o.length = J.length
    · have : (Valid J o ∧ Runs (js J o) 0 ∧ o.length = J.length) := ⟨hy.1, hy.2, hl⟩
      simp [rowD, this, hl]
    · have : ¬ (Valid J o ∧ Runs (js J o) 0 ∧ o.length = J.length) := fun h => hl h.2.2
      have hl' : ¬ ((o.length : Int) = J.length) := by omega
      simp [rowD, this, hl']
theorem iseq_ok (J : List Jb) (hJ : J.length ≤ 900) (o : List Int) (ho : o.length ≤ 900) : R_is_sequence [.tup (J.map en2), rowD o] = some (.bl (decide (Valid J o ∧ Runs (js J o) 0 ∧ o.length = J.length))) := by
  unfold R_is_sequence
  rw [runF_a]
  unfold F_is_sequence
  have hgl : (fLst (fLR (fR1 (fN gLen (fAc (fV 0) fA0))))) [.im (.tup (J.map en2)), .im (rowD o), .un, .un] = some (.lst ((items J).map Dt.int)) := by
    have hok : okRg (0, (J.length : Int)) = true := by
      unfold okRg
      exact cdc_t ⟨by show -(2 ^ 62) ≤ (0 : Int); omega, by show (0 : Int) < 2 ^ 62; omega, by show -(2 ^ 62) ≤ (J.length : Int); omega, by show (J.length : Int) < 2 ^ 62; omega, by show ((J.length : Int) - 0).toNat ≤ 2 ^ 24; omega⟩
    simp [hok, rngD_eq, items]
  have hgs : (fLst (fNL gSortedA (fAc (fV 1) fA0))) [.im (.tup (J.map en2)), .im (rowD o), .un, .un] = some (.lst ((sortI o).map Dt.int)) := by
    have : gSortedA [.tup (o.map Dt.int)] = some ((sortI o).map Dt.int) := gSortedA_t o
    simp [rowD, this]
  show Option.bind (sSeq _ _ [.im (.tup (J.map en2)), .im (rowD o), .un, .un]) endOf = _
  by_cases hs : sortI o = items J
  · rw [sSeq_nx (ρ' := [.im (.tup (J.map en2)), .im (rowD o), .un, .un]) (by
      rw [sIf_a, fCmp_a, hgs, hgl]
      simp only [Option.bind_some, ne_lints, hs]
      simp)]
    rw [sSeq_nx (ρ' := [.im (.tup (J.map en2)), .im (rowD o), .im (.int 0), .un]) (by simp)]
    have hv := (sort_iff J o).mp hs
    have hf := for_inv (gf := (hName 3)) (mk := [true, false, true, false]) (F := (sSeq (sAug 2 (gI (fun _ _ => true) fun i j => i + j) (f2 gIx (f2 gIx (fV 0) (fV 3)) (fC (.int 0))))
  (sIf (fCmp (gII bGt) (fV 2) (f2 gIx (f2 gIx (fV 0) (fV 3)) (fC (.int 1)))) (sRet (fC (.bl false))) sNil)))
      (fun rem ρ => ∃ pre post : List Int, o = pre ++ post ∧ rem = post.map Dt.int ∧ Runs (js J pre) 0 ∧ ρ = [.im (.tup (J.map en2)), .un, .im (.int (spent J pre)), .un])
      (fun fl => (fl = .rt (.bl false) ∧ ¬ Runs (js J o) 0) ∨ (Runs (js J o) 0 ∧ fl = .nx [.im (.tup (J.map en2)), .un, .im (.int (spent J o)), .un]))
      (by
        rintro d ds ρ ⟨pre, post, e0, e1, h2, rfl⟩
        cases post with
        | nil => cases e1
        | cons x post =>
          simp only [List.map_cons, List.cons.injEq] at e1
          obtain ⟨rfl, rfl⟩ := e1
          have hpre : o = (pre ++ [x]) ++ post := by rw [e0]; simp
          have hxi : x ∈ items J := hv.1.1 x (by rw [e0]; simp)
          have hj := jb_at hxi
          by_cases hd : spent J pre + (jb J x).1 ≤ (jb J x).2
          · refine ⟨.nx [.im (.tup (J.map en2)), .un, .im (.int (spent J (pre ++ [x]))), .un], ?_, pre ++ [x], post, hpre, rfl, (runs_snoc J pre x).mpr ⟨h2, hd⟩, rfl⟩
            have hd' : ¬ (jb J x).2 < spent J pre + (jb J x).1 := by omega
            simp [turn, hj, ix0, ix1, spent_snoc, hd']
          · refine ⟨.rt (.bl false), ?_, .inl ⟨rfl, fun hr => ?_⟩⟩
            · have hd' : (jb J x).2 < spent J pre + (jb J x).1 := by omega
              simp [turn, hj, ix0, ix1, hd']
            · rw [hpre, js_append] at hr
              exact hd ((runs_snoc J pre x).mp (runs_append.mp hr).1).2)
      (by
        rintro ρ ⟨pre, post, e0, e1, h2, rfl⟩
        have hp : post = [] := by cases post with | nil => rfl | cons _ _ => cases e1
        subst hp
        rw [List.append_nil] at e0
        subst e0
        exact .inr ⟨h2, rfl⟩)
      (o.map Dt.int) [.im (.tup (J.map en2)), .un, .im (.int 0), .un] ⟨[], o, rfl, rfl, trivial, rfl⟩
    obtain ⟨fl, e, hq⟩ := hf
    rw [sSeq_a, sFor_a]
    simp only [f1L_a, fV_a, getS_s, getS_z, Option.bind_some, rowD, gItems_t, clr_t, clr_f, clr_n]
    rw [e]
    rcases hq with ⟨rfl, hn⟩ | ⟨hy, rfl⟩
    · have : ¬ (Valid J o ∧ Runs (js J o) 0 ∧ o.length = J.length) := fun h => hn h.2.1
      simp [this]
    · have : (Valid J o ∧ Runs (js J o) 0 ∧ o.length = J.length) := ⟨hv.1, hy, hv.2⟩
      simp [this]
  · have hv := mt (sort_iff J o).mpr hs
    have : ¬ (Valid J o ∧ Runs (js J o) 0 ∧ o.length = J.length) := fun h => hv ⟨h.1, h.2.2⟩
    have hfirst : ((sIf (fCmp gNe (fLst (fNL gSortedA (fAc (fV 1) fA0))) (fLst (fLR (fR1 (fN gLen (fAc (fV 0) fA0)))))) (sRet (fC (.bl false))) sNil) : FnS) [.im (.tup (J.map en2)), .im (rowD o), .un, .un] = some (.rt (.bl false)) := by
      rw [sIf_a, fCmp_a, hgs, hgl]
      simp only [Option.bind_some, ne_lints]
      simp [hs]
    rw [sSeq_rt hfirst]
    simp [this]
/-- the rows of the law are all valid -/
theorem ext_valid (J : List Jb) : ∀ (k : Nat) (row : List Int), Valid J row → ∀ o ∈ ext (items J) k row, Valid J o ∧ o.length = row.length + k
  | 0, row, h, o, ho => by rw [List.mem_singleton.mp ho]; exact ⟨h, rfl⟩
  | k + 1, row, h, o, ho => by
    obtain ⟨i, hi, ho⟩ := List.mem_flatMap.mp ho
    rw [List.mem_filter] at hi
    have := ext_valid J k (row ++ [i]) ((valid_snoc J row i).mpr ⟨h, hi.1, of_decide_eq_true hi.2⟩) o ho
    rw [List.length_append, List.length_singleton] at this
    exact ⟨this.1, by omega⟩
end LK
end

section
set_option Elab.async false
set_option maxRecDepth 100000
namespace LK
open PySem EL
/-- the jobs of lengths and dues -/
def zj (ls dd : List Int) : List Jb := (rgI 0 ls.length).map fun i => (ls.getD i.toNat 0, dd.getD i.toNat 0)
theorem zj_len (ls dd : List Int) : (zj ls dd).length = ls.length := by unfold zj; rw [List.length_map, rgI_length]; omega
theorem zj_at (ls dd : List Int) {i : Int} (h0 : 0 ≤ i) (h : i < ls.length) : jb (zj ls dd) i = (ls.getD i.toNat 0, dd.getD i.toNat 0) := by
  unfold jb zj rgI
  have h2 : i.toNat < ls.length := by omega
  have h3 : ((i.toNat : Nat) : Int) = i := by omega
  simp [List.getD, h2, h3]
theorem zj_items (ls dd : List Int) : items (zj ls dd) = rgI 0 ls.length := by unfold items; rw [zj_len]
theorem zj_pos {ls dd : List Int} (h : ∀ x ∈ ls, 1 ≤ x ∧ x ≤ 7) : Pos (zj ls dd) := fun j hj => by
  unfold zj at hj
  obtain ⟨i, hi, rfl⟩ := List.mem_map.mp hj
  rw [mem_rgI] at hi
  have h2 : i.toNat < ls.length := by omega
  have : ls.getD i.toNat 0 ∈ ls := by simp [List.getD, h2]
  have := (h _ this).1
  show 0 < ls.getD i.toNat 0
  omega
/-- insertion keeps the places -/
theorem ins_perm (l : List Int) (k : Nat) (x : Int) : (l.take k ++ [x] ++ l.drop k).Perm (l ++ [x]) := by
  have h1 : (l.take k ++ [x] ++ l.drop k).Perm (l.take k ++ (l.drop k ++ [x])) := by
    rw [List.append_assoc]
    exact List.Perm.append_left _ List.perm_append_comm
  rw [← List.append_assoc, List.take_append_drop] at h1
  exact h1
theorem rgI_snoc (n : Nat) : rgI 0 ((n : Int) + 1) = rgI 0 n ++ [(n : Int)] := by
  unfold rgI
  have h1 : ((n : Int) + 1 - 0).toNat = n + 1 := by omega
  have h2 : ((n : Int) - 0).toNat = n := by omega
  rw [h1, h2, List.range_succ, List.map_append]
  simp
/-- the work of places taken once each is small -/
theorem spent_le {ls dd : List Int} (h : ∀ x ∈ ls, 1 ≤ x ∧ x ≤ 7) (o : List Int) (ho : ∀ x ∈ o, x ∈ items (zj ls dd)) : spent (zj ls dd) o ≤ 7 * o.length := by
  unfold spent js
  induction o with
  | nil => simp
  | cons x o ih =>
    have ih := ih fun y hy => ho y (List.mem_cons_of_mem _ hy)
    have hx := ho x List.mem_cons_self
    rw [zj_items, mem_rgI] at hx
    have h2 : x.toNat < ls.length := by omega
    have h3 : ls.getD x.toNat 0 ∈ ls := by simp [List.getD, h2]
    have := (h _ h3).2
    rw [List.map_cons, List.map_cons, List.sum_cons, zj_at ls dd hx.1 hx.2, List.length_cons]
    show ls.getD x.toNat 0 + _ ≤ _
    omega
/-- a due is set: other places keep theirs -/
theorem zj_set {ls dd : List Int} (hl : dd.length = ls.length) {x : Int} (hx0 : 0 ≤ x) (hx : x < ls.length) (v : Int) (i : Int) (h0 : 0 ≤ i) (h : i < ls.length) : jb (zj ls (dd.set x.toNat v)) i = if i = x then (ls.getD i.toNat 0, v) else jb (zj ls dd) i := by
  rw [zj_at _ _ h0 h, zj_at _ _ h0 h]
  by_cases e : i = x
  · subst e
    have h2 : i.toNat < dd.length := by omega
    simp [List.getD, h2]
  · have h3 : x.toNat ≠ i.toNat := by omega
    rw [if_neg e]
    simp [List.getD, List.getElem?_set, h3]
theorem js_set {ls dd : List Int} (hl : dd.length = ls.length) {x : Int} (hx0 : 0 ≤ x) (hx : x < ls.length) (v : Int) (o : List Int) (ho : ∀ y ∈ o, y ∈ items (zj ls dd)) (hxo : x ∉ o) : js (zj ls (dd.set x.toNat v)) o = js (zj ls dd) o := by
  unfold js
  refine List.map_congr_left fun y hy => ?_
  have hyi := ho y hy
  rw [zj_items, mem_rgI] at hyi
  have e : ¬ y = x := fun e => hxo (by rw [← e]; exact hy)
  rw [zj_set hl hx0 hx v y hyi.1 hyi.2, if_neg e]
/-- a lot whose work is more than its greatest due -/
theorem late_of {ls dd : List Int} (h : ∀ x ∈ ls, 1 ≤ x ∧ x ≤ 7) (k : Nat) (k0 : 0 < k) (hk : k ≤ ls.length) (hd : ∀ i : Nat, i < k → dd.getD i 0 < (ls.take k).sum) : ¬ NoLate (zj ls dd) := by
  intro hn
  have hne : (zj ls dd).take k ≠ [] := by
    intro e
    have := congrArg List.length e
    rw [List.length_take, zj_len] at this
    have h0 : min k ls.length = 0 := this
    omega
  obtain ⟨j, hj, hmax⟩ := exists_max hne
  have hjz : j ∈ zj ls dd := List.mem_of_mem_take hj
  have h1 := hn j.2 (List.mem_map_of_mem hjz)
  have hsplit : zj ls dd = (zj ls dd).take k ++ (zj ls dd).drop k := (List.take_append_drop k _).symm
  have hpos := zj_pos (dd := dd) h
  rw [hsplit, load_append, load_all hmax] at h1
  have hd0 := load_nonneg (l := (zj ls dd).drop k) (fun x hx => hpos x (List.mem_of_mem_drop hx)) j.2
  have hs : (((zj ls dd).take k).map (·.1)).sum = (ls.take k).sum := by
    congr 1
    refine List.ext_getElem (by rw [List.length_map, List.length_take, List.length_take, zj_len]) fun n h1 h2 => ?_
    rw [List.length_take] at h2
    simp [zj, rgI, List.getD, show n < ls.length by omega]
  have hj2 : j.2 < (ls.take k).sum := by
    obtain ⟨n, hn1, hn2⟩ := List.getElem_of_mem hj
    rw [List.length_take, zj_len] at hn1
    have : j = (ls.getD n 0, dd.getD n 0) := by
      rw [← hn2]
      simp [zj, rgI]
    rw [this]
    exact hd n (by omega)
  omega
/-- the hidden order is made -/
theorem jobs_hidden (dn : List Nat) (hd : dn.length = 18) (w : Int) (n : Nat) (hn : n ≤ 5) (ls dd : List Int) :
    ∃ hs : List Int, hs.Perm (rgI 0 n) ∧ forGo (hName 3) [true, true, true, false, true, true, true, false, false, false] (sMut 6 gInsert (fAc (f2 (gI cMod Int.fmod) (fN gInt (fAc (f2 gIx (fV 0) (f2 gAdd (fC (.int 12)) (fV 3))) fA0)) (f2 gAdd (fV 3) (fC (.int 1)))) (fAc (fV 3) fA0))) ((rgI 0 n).map Dt.int) [.im (.lst (dl dn)), .im (.int w), .im (.int (n : Nat)), .un, .im (.lst (ls.map Dt.int)), .ow (dd.map Dt.int), .ow [], .un, .un, .un] = some (.nx [.im (.lst (dl dn)), .im (.int w), .im (.int (n : Nat)), .un, .im (.lst (ls.map Dt.int)), .ow (dd.map Dt.int), .ow (hs.map Dt.int), .un, .un, .un]) := by
  have hf := for_inv (gf := (hName 3)) (mk := [true, true, true, false, true, true, true, false, false, false]) (F := (sMut 6 gInsert (fAc (f2 (gI cMod Int.fmod) (fN gInt (fAc (f2 gIx (fV 0) (f2 gAdd (fC (.int 12)) (fV 3))) fA0)) (f2 gAdd (fV 3) (fC (.int 1)))) (fAc (fV 3) fA0))))
    (fun rem ρ => ∃ (k : Nat) (hs : List Int), k ≤ n ∧ rem = (rgI k n).map Dt.int ∧ hs.Perm (rgI 0 k) ∧ ρ = [.im (.lst (dl dn)), .im (.int w), .im (.int (n : Nat)), .un, .im (.lst (ls.map Dt.int)), .ow (dd.map Dt.int), .ow (hs.map Dt.int), .un, .un, .un])
    (fun fl => ∃ hs : List Int, hs.Perm (rgI 0 n) ∧ fl = .nx [.im (.lst (dl dn)), .im (.int w), .im (.int (n : Nat)), .un, .im (.lst (ls.map Dt.int)), .ow (dd.map Dt.int), .ow (hs.map Dt.int), .un, .un, .un])
    (by
      rintro d ds ρ ⟨k, hs, hk, e1, h1, rfl⟩
      by_cases hkn : k < n
      · rw [rgI_cons (by omega), List.map_cons] at e1
        simp only [List.cons.injEq] at e1
        obtain ⟨rfl, rfl⟩ := e1
        have hl : hs.length = k := by rw [h1.length_eq, rgI_length]; omega
        have hsz : hs.length < sizeLine := size_gt (by omega)
        have a := dl_at (dn := dn) (12 + (k : Int)) (by omega) (by omega)
        generalize dn.getD (12 + (k : Int)).toNat 0 = x at a
        have m : cMod x ((k : Int) + 1) = true := cMod_of (by omega)
        have f : Int.fmod (x : Int) ((k : Int) + 1) = ((x % (k + 1) : Nat) : Int) := nm x (k + 1)
        have hlt := Nat.mod_lt x (show 0 < k + 1 by omega)
        generalize x % (k + 1) = p at f hlt
        have hp63 : (p : Int) < 2 ^ 63 := by omega
        refine ⟨.nx [.im (.lst (dl dn)), .im (.int w), .im (.int (n : Nat)), .un, .im (.lst (ls.map Dt.int)), .ow (dd.map Dt.int), .ow ((hs.take p ++ [(k : Int)] ++ hs.drop p).map Dt.int), .un, .un, .un], ?_, k + 1, hs.take p ++ [(k : Int)] ++ hs.drop p, hkn, by rw [Int.natCast_add]; rfl, ?_, rfl⟩
        · have hgi : gInsert (hs.map Dt.int) [.int (p : Int), .int (k : Int)] = some ((hs.take p ++ [(k : Int)] ++ hs.drop p).map Dt.int) := by
            rw [gInsert_a, if_pos ⟨by rw [List.length_map]; exact hsz, by omega, hp63⟩]
            simp
          rw [turn_nx (ρ2 := [.im (.lst (dl dn)), .im (.int w), .im (.int (n : Nat)), .im (.int (k : Int)), .im (.lst (ls.map Dt.int)), .ow (dd.map Dt.int), .ow ((hs.take p ++ [(k : Int)] ++ hs.drop p).map Dt.int), .un, .un, .un]) (hName_a 3 _ _) (by
            simp only [setS_s, setS_z, sMut_a, owned_def, getS_s, getS_z, Option.bind_some, fAc_a, f2_a, fN_a, fV_a, fC_a, gAdd_i, gIx_l, a, fA0_a, gInt_i, gI_i, m, if_true, f, hgi])]
          rfl
        · refine (ins_perm hs p k).trans ?_
          have e2 : rgI 0 ((k + 1 : Nat) : Int) = rgI 0 k ++ [(k : Int)] := rgI_snoc k
          rw [e2]
          exact List.Perm.append_right _ h1
      · have : k = n := by omega
        subst this
        rw [rgI_nil (Int.le_refl _)] at e1
        cases e1)
    (by
      rintro ρ ⟨k, hs, hk, e1, h1, rfl⟩
      have hz := congrArg List.length e1
      rw [List.length_map, rgI_length] at hz
      have h0 : 0 = ((n : Int) - k).toNat := hz
      have : k = n := by omega
      subst this
      exact ⟨hs, h1, rfl⟩)
    ((rgI 0 n).map Dt.int) [.im (.lst (dl dn)), .im (.int w), .im (.int (n : Nat)), .un, .im (.lst (ls.map Dt.int)), .ow (dd.map Dt.int), .ow [], .un, .un, .un] ⟨0, [], by omega, rfl, List.Perm.refl _, rfl⟩
  obtain ⟨fl, e, hs, h1, rfl⟩ := hf
  exact ⟨hs, h1, e⟩
theorem getD_at {ls : List Int} {i : Int} (h0 : 0 ≤ i) (h : i < ls.length) : L2.atI (ls.map Dt.int) i = some (.int (ls.getD i.toNat 0)) := atI_map_int h0 (by omega)
theorem put_at {dd : List Int} {x : Int} (h0 : 0 ≤ x) (h : x < dd.length) : L2.ixN dd.length x = some x.toNat := by
  unfold L2.ixN
  rw [if_pos h0, if_pos (by omega)]
/-- the dues behind the hidden order -/
theorem jobs_dues (dn : List Nat) (hd : dn.length = 18) (w : Int) (hw0 : 0 ≤ w) (hw : w ≤ 2) (n : Nat) (hn : n ≤ 5) (ls dd : List Int) (hls : ls.length = n) (hdd : dd.length = n) (h7 : ∀ x ∈ ls, 1 ≤ x ∧ x ≤ 7) (hs : List Int) (hp : hs.Perm (rgI 0 n)) :
    ∃ (d' : List Int) (s7 : Sl), d'.length = n ∧ (w = 0 → Runs (js (zj ls d') hs) 0) ∧ forGo (hName 8) [true, true, true, false, true, true, true, true, false, false] (sSeq (sSet 7 (f2 gAdd (fV 7) (f2 gIx (fV 4) (fV 8))))
  (sSeq (sIf (fCmp gEq (fV 1) (fC (.int 0))) (sPut 5 (fV 8) (fN gMin2 (fAc (fC (.int 40)) (fAc (f2 gAdd (fV 7) (f2 gMul (f2 (gI cMod Int.fmod) (fN gInt (fAc (f2 gIx (fV 0) (f2 gAdd (fC (.int 7)) (fV 8))) fA0)) (fC (.int 3))) (f2 (gI cMod Int.fmod) (f2 (gI cDiv Int.fdiv) (fN gInt (fAc (f2 gIx (fV 0) (f2 gAdd (fC (.int 7)) (fV 8))) fA0)) (fC (.int 3))) (fC (.int 5))))) fA0)))) sNil)
  (sIf (fAnd (fCmp gEq (fV 1) (fC (.int 2))) (fCmp (gII bGt) (f2 (gI cMod Int.fmod) (fN gInt (fAc (f2 gIx (fV 0) (f2 gAdd (fC (.int 7)) (fV 8))) fA0)) (fC (.int 5))) (fC (.int 1)))) (sPut 5 (fV 8) (fN gMin2 (fAc (fC (.int 40)) (fAc (f2 gAdd (fV 7) (f2 (gI cMod Int.fmod) (f2 (gI cDiv Int.fdiv) (fN gInt (fAc (f2 gIx (fV 0) (f2 gAdd (fC (.int 7)) (fV 8))) fA0)) (fC (.int 5))) (fC (.int 3)))) fA0)))) sNil))) (hs.map Dt.int) [.im (.lst (dl dn)), .im (.int w), .im (.int (n : Nat)), .un, .im (.lst (ls.map Dt.int)), .ow (dd.map Dt.int), .im (.lst (hs.map Dt.int)), .im (.int 0), .un, .un] = some (.nx [.im (.lst (dl dn)), .im (.int w), .im (.int (n : Nat)), .un, .im (.lst (ls.map Dt.int)), .ow (d'.map Dt.int), .im (.lst (hs.map Dt.int)), s7, .un, .un]) := by
  have hnd : hs.Nodup := by
    have := nodup_items (zj ls dd)
    rw [zj_items, hls] at this
    exact hp.nodup_iff.mpr this
  have hf := for_inv (gf := (hName 8)) (mk := [true, true, true, false, true, true, true, true, false, false]) (F := (sSeq (sSet 7 (f2 gAdd (fV 7) (f2 gIx (fV 4) (fV 8))))
  (sSeq (sIf (fCmp gEq (fV 1) (fC (.int 0))) (sPut 5 (fV 8) (fN gMin2 (fAc (fC (.int 40)) (fAc (f2 gAdd (fV 7) (f2 gMul (f2 (gI cMod Int.fmod) (fN gInt (fAc (f2 gIx (fV 0) (f2 gAdd (fC (.int 7)) (fV 8))) fA0)) (fC (.int 3))) (f2 (gI cMod Int.fmod) (f2 (gI cDiv Int.fdiv) (fN gInt (fAc (f2 gIx (fV 0) (f2 gAdd (fC (.int 7)) (fV 8))) fA0)) (fC (.int 3))) (fC (.int 5))))) fA0)))) sNil)
  (sIf (fAnd (fCmp gEq (fV 1) (fC (.int 2))) (fCmp (gII bGt) (f2 (gI cMod Int.fmod) (fN gInt (fAc (f2 gIx (fV 0) (f2 gAdd (fC (.int 7)) (fV 8))) fA0)) (fC (.int 5))) (fC (.int 1)))) (sPut 5 (fV 8) (fN gMin2 (fAc (fC (.int 40)) (fAc (f2 gAdd (fV 7) (f2 (gI cMod Int.fmod) (f2 (gI cDiv Int.fdiv) (fN gInt (fAc (f2 gIx (fV 0) (f2 gAdd (fC (.int 7)) (fV 8))) fA0)) (fC (.int 5))) (fC (.int 3)))) fA0)))) sNil))))
    (fun rem ρ => ∃ (pre post d' : List Int), hs = pre ++ post ∧ rem = post.map Dt.int ∧ d'.length = n ∧ (w = 0 → Runs (js (zj ls d') pre) 0) ∧ ρ = [.im (.lst (dl dn)), .im (.int w), .im (.int (n : Nat)), .un, .im (.lst (ls.map Dt.int)), .ow (d'.map Dt.int), .im (.lst (hs.map Dt.int)), .im (.int (spent (zj ls d') pre)), .un, .un])
    (fun fl => ∃ (d' : List Int) (s7 : Sl), d'.length = n ∧ (w = 0 → Runs (js (zj ls d') hs) 0) ∧ fl = .nx [.im (.lst (dl dn)), .im (.int w), .im (.int (n : Nat)), .un, .im (.lst (ls.map Dt.int)), .ow (d'.map Dt.int), .im (.lst (hs.map Dt.int)), s7, .un, .un])
    (by
      rintro d ds ρ ⟨pre, post, d', e0, e1, h1, h2, rfl⟩
      cases post with
      | nil => cases e1
      | cons x post =>
        simp only [List.map_cons, List.cons.injEq] at e1
        obtain ⟨rfl, rfl⟩ := e1
        have hpre : hs = (pre ++ [x]) ++ post := by rw [e0]; simp
        have hx : x ∈ rgI 0 n := hp.mem_iff.mp (by rw [e0]; simp)
        rw [mem_rgI] at hx
        have hpi : ∀ y ∈ pre, y ∈ items (zj ls d') := fun y hy => by
          rw [zj_items, hls]
          exact hp.mem_iff.mp (by rw [e0]; exact List.mem_append_left _ hy)
        have hxp : x ∉ pre := by
          rw [e0, List.nodup_append] at hnd
          exact fun hm => hnd.2.2 x hm x List.mem_cons_self rfl
        have hplen : pre.length + (post.length + 1) = n := by
          have := hp.length_eq
          rw [e0, rgI_length, List.length_append, List.length_cons] at this
          omega
        have hax := getD_at (ls := ls) hx.1 (by omega)
        have hlx := zj_at ls d' hx.1 (show x < ls.length by omega)
        have hsn : spent (zj ls d') (pre ++ [x]) = spent (zj ls d') pre + ls.getD x.toNat 0 := by rw [spent_snoc, hlx]
        have hle : spent (zj ls d') (pre ++ [x]) ≤ 35 := by
          have := spent_le (dd := d') h7 (pre ++ [x]) fun y hy => by
            rcases List.mem_append.mp hy with hy | hy
            · exact hpi y hy
            · rw [List.mem_singleton.mp hy, zj_items, hls, mem_rgI]; exact hx
          rw [List.length_append, List.length_singleton] at this
          omega
        have a := dl_at (dn := dn) (7 + x) (by omega) (by omega)
        generalize dn.getD (7 + x).toNat 0 = z at a
        have hput := put_at (dd := d') hx.1 (by omega)
        have hset : ∀ v, spent (zj ls (d'.set x.toNat v)) (pre ++ [x]) = spent (zj ls d') (pre ++ [x]) := fun v => by
          rw [spent_snoc, spent_snoc]
          have e1 : js (zj ls (d'.set x.toNat v)) pre = js (zj ls d') pre := js_set (by omega) hx.1 (by omega) v pre hpi hxp
          unfold spent
          rw [e1, zj_at _ _ hx.1 (show x < ls.length by omega), hlx]
        have hfin : ∀ d2 : List Int, d2.length = n → (w = 0 → Runs (js (zj ls d2) (pre ++ [x])) 0) → spent (zj ls d2) (pre ++ [x]) = spent (zj ls d') (pre ++ [x]) → ∃ pre post d' : List Int, hs = pre ++ post ∧ post.map Dt.int = post.map Dt.int ∧ True := fun _ _ _ _ => ⟨pre, x :: post, d', e0, rfl, trivial⟩
        have m3 : cMod z 3 = true := cMod_of (by omega)
        have m5 : cMod z 5 = true := cMod_of (by omega)
        have q3 : cDiv z 3 = true := cDiv_of (by omega) (by omega) (by omega)
        have q5 : cDiv z 5 = true := cDiv_of (by omega) (by omega) (by omega)
        have f3 : Int.fmod (z : Int) 3 = ((z % 3 : Nat) : Int) := nm z 3
        have f5 : Int.fmod (z : Int) 5 = ((z % 5 : Nat) : Int) := nm z 5
        have g3 : Int.fdiv (z : Int) 3 = ((z / 3 : Nat) : Int) := nq z 3
        have g5 : Int.fdiv (z : Int) 5 = ((z / 5 : Nat) : Int) := nq z 5
        have m35 : cMod ((z / 3 : Nat) : Int) 5 = true := cMod_of (by omega)
        have m53 : cMod ((z / 5 : Nat) : Int) 3 = true := cMod_of (by omega)
        have f35 : Int.fmod ((z / 3 : Nat) : Int) 5 = ((z / 3 % 5 : Nat) : Int) := nm _ 5
        have f53 : Int.fmod ((z / 5 : Nat) : Int) 3 = ((z / 5 % 3 : Nat) : Int) := nm _ 3
        have mm : cMul ((z % 3 : Nat) : Int) ((z / 3 % 5 : Nat) : Int) = true := cMul_l (by omega) (by omega)
        generalize hN : spent (zj ls d') pre + ls.getD x.toNat 0 = now at hsn
        have s1 : (sSet 7 (f2 gAdd (fV 7) (f2 gIx (fV 4) (fV 8)))) [.im (.lst (dl dn)), .im (.int w), .im (.int (n : Nat)), .un, .im (.lst (ls.map Dt.int)), .ow (d'.map Dt.int), .im (.lst (hs.map Dt.int)), .im (.int (spent (zj ls d') pre)), .im (.int x), .un] = some (.nx [.im (.lst (dl dn)), .im (.int w), .im (.int (n : Nat)), .un, .im (.lst (ls.map Dt.int)), .ow (d'.map Dt.int), .im (.lst (hs.map Dt.int)), .im (.int now), .im (.int x), .un]) := by
          simp only [sSet_a, f2_a, fV_a, getS_s, getS_z, Option.bind_some, gIx_l, hax, gAdd_i, hN, setS_s, setS_z]
        -- what the two branches do to the dues
        have s2 : ∃ d2 : List Int, d2.length = n ∧ (w = 0 → Runs (js (zj ls d2) (pre ++ [x])) 0) ∧ spent (zj ls d2) (pre ++ [x]) = now ∧ (sSeq (sIf (fCmp gEq (fV 1) (fC (.int 0))) (sPut 5 (fV 8) (fN gMin2 (fAc (fC (.int 40)) (fAc (f2 gAdd (fV 7) (f2 gMul (f2 (gI cMod Int.fmod) (fN gInt (fAc (f2 gIx (fV 0) (f2 gAdd (fC (.int 7)) (fV 8))) fA0)) (fC (.int 3))) (f2 (gI cMod Int.fmod) (f2 (gI cDiv Int.fdiv) (fN gInt (fAc (f2 gIx (fV 0) (f2 gAdd (fC (.int 7)) (fV 8))) fA0)) (fC (.int 3))) (fC (.int 5))))) fA0)))) sNil) (sIf (fAnd (fCmp gEq (fV 1) (fC (.int 2))) (fCmp (gII bGt) (f2 (gI cMod Int.fmod) (fN gInt (fAc (f2 gIx (fV 0) (f2 gAdd (fC (.int 7)) (fV 8))) fA0)) (fC (.int 5))) (fC (.int 1)))) (sPut 5 (fV 8) (fN gMin2 (fAc (fC (.int 40)) (fAc (f2 gAdd (fV 7) (f2 (gI cMod Int.fmod) (f2 (gI cDiv Int.fdiv) (fN gInt (fAc (f2 gIx (fV 0) (f2 gAdd (fC (.int 7)) (fV 8))) fA0)) (fC (.int 5))) (fC (.int 3)))) fA0)))) sNil)) [.im (.lst (dl dn)), .im (.int w), .im (.int (n : Nat)), .un, .im (.lst (ls.map Dt.int)), .ow (d'.map Dt.int), .im (.lst (hs.map Dt.int)), .im (.int now), .im (.int x), .un] = some (.nx [.im (.lst (dl dn)), .im (.int w), .im (.int (n : Nat)), .un, .im (.lst (ls.map Dt.int)), .ow (d2.map Dt.int), .im (.lst (hs.map Dt.int)), .im (.int now), .im (.int x), .un]) := by
          by_cases hw00 : w = 0
          · subst hw00
            have he : 0 ≤ ((z % 3 : Nat) : Int) * ((z / 3 % 5 : Nat) : Int) := Int.mul_nonneg (by omega) (by omega)
            generalize hE : ((z % 3 : Nat) : Int) * ((z / 3 % 5 : Nat) : Int) = ee at he
            have hgm : gMin2 [.int 40, .int (now + ee)] = some (.int (if now + ee < 40 then now + ee else 40)) := rfl
            generalize hV : (if now + ee < 40 then now + ee else 40) = v at hgm
            have hv : now ≤ v := by rw [← hV]; split <;> omega
            refine ⟨d'.set x.toNat v, by rw [List.length_set]; exact h1, fun _ => ?_, by rw [hset, hsn], ?_⟩
            · rw [runs_snoc]
              have e1 : js (zj ls (d'.set x.toNat v)) pre = js (zj ls d') pre := js_set (by omega) hx.1 (by omega) v pre hpi hxp
              refine ⟨by rw [e1]; exact h2 rfl, ?_⟩
              have e2 := hset v
              rw [spent_snoc, hsn] at e2
              rw [e2, zj_set (by omega) hx.1 (by omega) v x hx.1 (by omega), if_pos rfl]
              exact hv
            · rw [sSeq_nx (ρ' := [.im (.lst (dl dn)), .im (.int 0), .im (.int (n : Nat)), .un, .im (.lst (ls.map Dt.int)), .ow ((d'.set x.toNat v).map Dt.int), .im (.lst (hs.map Dt.int)), .im (.int now), .im (.int x), .un]) (by
                simp only [sIf_a, fCmp_a, fV_a, getS_s, getS_z, fC_a, Option.bind_some, gEq_i, decide_true, if_true, sPut_a, fN_a, fAc_a, f2_a, gIx_l, gAdd_i, a, fA0_a, gInt_i, gI_i, m3, q3, m35, f3, g3, f35, gMul_i, mm, hE, hgm, owned_def, List.length_map, hput, setS_s, setS_z, List.map_set])]
              simp
          · have first : ((sIf (fCmp gEq (fV 1) (fC (.int 0))) (sPut 5 (fV 8) (fN gMin2 (fAc (fC (.int 40)) (fAc (f2 gAdd (fV 7) (f2 gMul (f2 (gI cMod Int.fmod) (fN gInt (fAc (f2 gIx (fV 0) (f2 gAdd (fC (.int 7)) (fV 8))) fA0)) (fC (.int 3))) (f2 (gI cMod Int.fmod) (f2 (gI cDiv Int.fdiv) (fN gInt (fAc (f2 gIx (fV 0) (f2 gAdd (fC (.int 7)) (fV 8))) fA0)) (fC (.int 3))) (fC (.int 5))))) fA0)))) sNil) : FnS) [.im (.lst (dl dn)), .im (.int w), .im (.int (n : Nat)), .un, .im (.lst (ls.map Dt.int)), .ow (d'.map Dt.int), .im (.lst (hs.map Dt.int)), .im (.int now), .im (.int x), .un] = some (.nx [.im (.lst (dl dn)), .im (.int w), .im (.int (n : Nat)), .un, .im (.lst (ls.map Dt.int)), .ow (d'.map Dt.int), .im (.lst (hs.map Dt.int)), .im (.int now), .im (.int x), .un]) := by
              simp [hw00]
            by_cases hc : w = 2 ∧ 1 < z % 5
            · obtain ⟨hw2, hz⟩ := hc
              have hz' : (1 : Int) < ((z % 5 : Nat) : Int) := by omega
              have hgm : gMin2 [.int 40, .int (now + ((z / 5 % 3 : Nat) : Int))] = some (.int (if now + ((z / 5 % 3 : Nat) : Int) < 40 then now + ((z / 5 % 3 : Nat) : Int) else 40)) := rfl
              generalize hV : (if now + ((z / 5 % 3 : Nat) : Int) < 40 then now + ((z / 5 % 3 : Nat) : Int) else 40) = v at hgm
              refine ⟨d'.set x.toNat v, by rw [List.length_set]; exact h1, fun h => absurd h hw00, by rw [hset, hsn], ?_⟩
              rw [sSeq_nx first]
              subst hw2
              simp only [sIf_a, fAnd_a, fCmp_a, fV_a, getS_s, getS_z, fC_a, Option.bind_some, gEq_i, decide_true, if_true, sPut_a, fN_a, fAc_a, f2_a, gIx_l, gAdd_i, a, fA0_a, gInt_i, gI_i, gII_i, bGt_a, m5, q5, m53, f5, g5, f53, decide_eq_true hz', hgm, owned_def, List.length_map, hput, setS_s, setS_z, List.map_set]
            · refine ⟨d', h1, fun h => absurd h hw00, hsn, ?_⟩
              rw [sSeq_nx first]
              by_cases hw2 : w = 2
              · have hz : ¬ 1 < z % 5 := fun h => hc ⟨hw2, h⟩
                have hz' : ¬ (1 : Int) < ((z % 5 : Nat) : Int) := by omega
                subst hw2
                simp only [sIf_a, fAnd_a, fCmp_a, fV_a, getS_s, getS_z, fC_a, Option.bind_some, gEq_i, decide_true, if_true, fN_a, fAc_a, f2_a, gIx_l, gAdd_i, a, fA0_a, gInt_i, gI_i, gII_i, bGt_a, m5, f5, decide_eq_false hz', Bool.false_eq_true, if_false, sNil_a]
              · simp [hw2]
        obtain ⟨d2, k1, k2, k3, k4⟩ := s2
        refine ⟨.nx [.im (.lst (dl dn)), .im (.int w), .im (.int (n : Nat)), .un, .im (.lst (ls.map Dt.int)), .ow (d2.map Dt.int), .im (.lst (hs.map Dt.int)), .im (.int now), .un, .un], ?_, pre ++ [x], post, d2, hpre, rfl, k1, k2, by rw [k3]⟩
        rw [turn_nx (ρ2 := [.im (.lst (dl dn)), .im (.int w), .im (.int (n : Nat)), .un, .im (.lst (ls.map Dt.int)), .ow (d2.map Dt.int), .im (.lst (hs.map Dt.int)), .im (.int now), .im (.int x), .un]) (hName_a 8 _ _) (by
          simp only [setS_s, setS_z]
          rw [sSeq_nx s1]
          exact k4)]
        rfl)
    (by
      rintro ρ ⟨pre, post, d', e0, e1, h1, h2, rfl⟩
      have hpo : post = [] := by cases post with | nil => rfl | cons _ _ => cases e1
      subst hpo
      rw [List.append_nil] at e0
      subst e0
      exact ⟨d', _, h1, h2, rfl⟩)
    (hs.map Dt.int) [.im (.lst (dl dn)), .im (.int w), .im (.int (n : Nat)), .un, .im (.lst (ls.map Dt.int)), .ow (dd.map Dt.int), .im (.lst (hs.map Dt.int)), .im (.int 0), .un, .un] ⟨[], hs, dd, rfl, rfl, hdd, fun _ => trivial, rfl⟩
  obtain ⟨fl, e, d', s7, h1, h2, rfl⟩ := hf
  exact ⟨d', s7, h1, h2, e⟩
end LK
end

section
set_option Elab.async false
set_option maxRecDepth 100000
namespace LK
open PySem EL
theorem cut_take {ls : List Int} {k : Nat} (hk : k ≤ ls.length) : cutL (ls.map Dt.int) none (some (k : Int)) = (ls.take k).map Dt.int := by
  have := cut_pre (ls.take k) (ls.drop k)
  rw [List.take_append_drop, List.length_take, Nat.min_eq_left hk] at this
  exact this
theorem sum_nonneg {ls : List Int} (h7 : ∀ x ∈ ls, 1 ≤ x ∧ x ≤ 7) : 0 ≤ ls.sum := by
  induction ls with
  | nil => simp
  | cons x ls ih =>
    have := (h7 x List.mem_cons_self).1
    have := ih fun y hy => h7 y (List.mem_cons_of_mem _ hy)
    rw [List.sum_cons]; omega
theorem take_sum {ls : List Int} (h7 : ∀ x ∈ ls, 1 ≤ x ∧ x ≤ 7) {k : Nat} (k0 : 0 < k) (hk : k ≤ ls.length) : 1 ≤ (ls.take k).sum := by
  cases ls with
  | nil => simp at hk; omega
  | cons x ls =>
    obtain ⟨k', rfl⟩ : ∃ k', k = k' + 1 := ⟨k - 1, by omega⟩
    rw [List.take_succ_cons, List.sum_cons]
    have := (h7 x List.mem_cons_self).1
    have := sum_nonneg (ls := ls.take k') fun y hy => h7 y (List.mem_cons_of_mem _ (List.mem_of_mem_take hy))
    omega
/-- the lot that is late -/
theorem jobs_lot (dn : List Nat) (hd : dn.length = 18) (n : Nat) (n0 : 0 < n) (hn : n ≤ 5) (ls dd : List Int) (hls : ls.length = n) (hdd : dd.length = n) (h7 : ∀ x ∈ ls, 1 ≤ x ∧ x ≤ 7) (a6 a7 : Sl) :
    ∃ (d' : List Int) (a9 : Sl), d'.length = n ∧ ¬ NoLate (zj ls d') ∧ (sIf (fCmp gEq (fV 1) (fC (.int 1))) (sSeq (sSet 9 (f2 gMinus (fN gSum (fAc (fSl (fV 4) fNoP (fPart (f2 gAdd (fC (.int 1)) (f2 (gI cMod Int.fmod) (fN gInt (fAc (f2 gIx (fV 0) (fC (.int 17))) fA0)) (fV 2))))) fA0)) (fC (.int 1))))
  (sFor (fNL gRng1 (fAc (f2 gAdd (fC (.int 1)) (f2 (gI cMod Int.fmod) (fN gInt (fAc (f2 gIx (fV 0) (fC (.int 17))) fA0)) (fV 2))) fA0)) (hName 3) [true, false, true, false, true, true, false, false, false, true]
   (sPut 5 (fV 3) (f2 gMinus (fV 9) (f2 gMul (f2 (gI cMod Int.fmod) (fN gInt (fAc (f2 gIx (fV 0) (f2 gAdd (fC (.int 7)) (fV 3))) fA0)) (fC (.int 2))) (f2 (gI cMod Int.fmod) (f2 (gI cDiv Int.fdiv) (fN gInt (fAc (f2 gIx (fV 0) (fC (.int 17))) fA0)) (fC (.int 5))) (f2 gAdd (fV 9) (fC (.int 1))))))))) sNil) [.im (.lst (dl dn)), .im (.int 1), .im (.int (n : Nat)), .un, .im (.lst (ls.map Dt.int)), .ow (dd.map Dt.int), a6, a7, .un, .un] = some (.nx [.im (.lst (dl dn)), .un, .im (.int (n : Nat)), .un, .im (.lst (ls.map Dt.int)), .ow (d'.map Dt.int), .un, .un, .un, a9]) := by
  have a17 := dl_at (dn := dn) 17 (by omega) (by omega)
  generalize dn.getD (17 : Int).toNat 0 = z at a17
  have m1 : cMod z n = true := cMod_of (by omega)
  have f1 := nm z n
  have hlt := Nat.mod_lt z n0
  have hk : (1 : Int) + ((z % n : Nat) : Int) = ((1 + z % n : Nat) : Int) := by rw [Int.natCast_add]; rfl
  generalize hK : 1 + z % n = k at hk
  have hcut := cut_take (ls := ls) (k := k) (by omega)
  have hsum := take_sum h7 (k := k) (by omega) (by omega)
  generalize hS : (ls.take k).sum = S at hsum
  have q5 : cDiv z 5 = true := cDiv_of (by omega) (by omega) (by omega)
  have g5 : Int.fdiv (z : Int) 5 = ((z / 5 : Nat) : Int) := nq z 5
  have hmS : cMod ((z / 5 : Nat) : Int) (S - 1 + 1) = true := cMod_of (by omega)
  have fS : Int.fmod ((z / 5 : Nat) : Int) (S - 1 + 1) = ((z / 5 : Nat) : Int) % (S - 1 + 1) := Int.fmod_eq_emod_of_nonneg _ (by omega)
  have r0 := Int.emod_nonneg ((z / 5 : Nat) : Int) (show S - 1 + 1 ≠ 0 by omega)
  have r1 := Int.emod_lt_of_pos ((z / 5 : Nat) : Int) (show 0 < S - 1 + 1 by omega)
  generalize ((z / 5 : Nat) : Int) % (S - 1 + 1) = r at fS r0 r1
  have hf := for_inv (gf := (hName 3)) (mk := [true, false, true, false, true, true, false, false, false, true]) (F := (sPut 5 (fV 3) (f2 gMinus (fV 9) (f2 gMul (f2 (gI cMod Int.fmod) (fN gInt (fAc (f2 gIx (fV 0) (f2 gAdd (fC (.int 7)) (fV 3))) fA0)) (fC (.int 2))) (f2 (gI cMod Int.fmod) (f2 (gI cDiv Int.fdiv) (fN gInt (fAc (f2 gIx (fV 0) (fC (.int 17))) fA0)) (fC (.int 5))) (f2 gAdd (fV 9) (fC (.int 1))))))))
    (fun rem ρ => ∃ (j : Nat) (d' : List Int), j ≤ k ∧ rem = (rgI j k).map Dt.int ∧ d'.length = n ∧ (∀ i : Nat, i < j → d'.getD i 0 < S) ∧ ρ = [.im (.lst (dl dn)), .un, .im (.int (n : Nat)), .un, .im (.lst (ls.map Dt.int)), .ow (d'.map Dt.int), .un, .un, .un, .im (.int (S - 1))])
    (fun fl => ∃ d' : List Int, d'.length = n ∧ (∀ i : Nat, i < k → d'.getD i 0 < S) ∧ fl = .nx [.im (.lst (dl dn)), .un, .im (.int (n : Nat)), .un, .im (.lst (ls.map Dt.int)), .ow (d'.map Dt.int), .un, .un, .un, .im (.int (S - 1))])
    (by
      rintro d ds ρ ⟨j, d', hj, e1, h1, h2, rfl⟩
      by_cases hjk : j < k
      · rw [rgI_cons (by omega), List.map_cons] at e1
        simp only [List.cons.injEq] at e1
        obtain ⟨rfl, rfl⟩ := e1
        have a := dl_at (dn := dn) (7 + (j : Int)) (by omega) (by omega)
        generalize dn.getD (7 + (j : Int)).toNat 0 = y at a
        have m2 : cMod y 2 = true := cMod_of (by omega)
        have f2' : Int.fmod (y : Int) 2 = ((y % 2 : Nat) : Int) := nm y 2
        have mm : cMul ((y % 2 : Nat) : Int) r = true := cMul_l (by omega) (by omega)
        have hge : 0 ≤ ((y % 2 : Nat) : Int) * r := Int.mul_nonneg (by omega) r0
        generalize hE : ((y % 2 : Nat) : Int) * r = ee at hge
        have hput := put_at (dd := d') (x := (j : Int)) (by omega) (by omega)
        rw [Int.toNat_natCast] at hput
        refine ⟨.nx [.im (.lst (dl dn)), .un, .im (.int (n : Nat)), .un, .im (.lst (ls.map Dt.int)), .ow ((d'.set j (S - 1 - ee)).map Dt.int), .un, .un, .un, .im (.int (S - 1))], ?_, j + 1, d'.set j (S - 1 - ee), hjk, by rw [Int.natCast_add]; rfl, by rw [List.length_set]; exact h1, ?_, rfl⟩
        · rw [turn_nx (ρ2 := [.im (.lst (dl dn)), .un, .im (.int (n : Nat)), .im (.int (j : Int)), .im (.lst (ls.map Dt.int)), .ow ((d'.set j (S - 1 - ee)).map Dt.int), .un, .un, .un, .im (.int (S - 1))]) (hName_a 3 _ _) (by
            simp only [setS_s, setS_z, sPut_a, f2_a, fN_a, fAc_a, fV_a, getS_s, getS_z, fC_a, Option.bind_some, gAdd_i, gIx_l, a, a17, fA0_a, gInt_i, gI_i, m2, q5, if_true, f2', g5, hmS, fS, gMul_i, mm, hE, gMinus_i, owned_def, List.length_map, hput, List.map_set])]
          rfl
        · intro i hi
          by_cases hij : i = j
          · subst hij
            have : i < d'.length := by omega
            simp [List.getD, this]
            omega
          · have hji : ¬ j = i := fun h => hij h.symm
            have := h2 i (by omega)
            simpa [List.getD, List.getElem?_set, hji] using this
      · have : j = k := by omega
        subst this
        rw [rgI_nil (Int.le_refl _)] at e1
        cases e1)
    (by
      rintro ρ ⟨j, d', hj, e1, h1, h2, rfl⟩
      have hz := congrArg List.length e1
      rw [List.length_map, rgI_length] at hz
      have h0 : 0 = ((k : Int) - j).toNat := hz
      have : j = k := by omega
      subst this
      exact ⟨d', h1, h2, rfl⟩)
    ((rgI 0 k).map Dt.int) [.im (.lst (dl dn)), .un, .im (.int (n : Nat)), .un, .im (.lst (ls.map Dt.int)), .ow (dd.map Dt.int), .un, .un, .un, .im (.int (S - 1))] ⟨0, dd, by omega, rfl, hdd, fun i hi => absurd hi (by omega), rfl⟩
  obtain ⟨fl, e, d', h1, h2, rfl⟩ := hf
  refine ⟨d', .im (.int (S - 1)), h1, late_of h7 k (by omega) (by omega) (by rw [hS]; exact h2), ?_⟩
  simp only [sIf_a, fCmp_a, fV_a, getS_s, getS_z, fC_a, Option.bind_some, gEq_i, decide_true, if_true]
  rw [sSeq_nx (ρ' := [.im (.lst (dl dn)), .im (.int 1), .im (.int (n : Nat)), .un, .im (.lst (ls.map Dt.int)), .ow (dd.map Dt.int), a6, a7, .un, .im (.int (S - 1))]) (by
    simp only [sSet_a, f2_a, fN_a, fAc_a, fSl_a, fNoP_a, fPart_a, fV_a, getS_s, getS_z, fC_a, Option.bind_some, gIx_l, a17, fA0_a, gInt_i, gI_i, m1, if_true, f1, gAdd_i, hk, gSl_l, hcut, gSum_l, hS, gMinus_i, setS_s, setS_z])]
  rw [sFor_a]
  simp only [fNL_a, f2_a, fN_a, fAc_a, fV_a, getS_s, getS_z, fC_a, Option.bind_some, gIx_l, a17, fA0_a, gInt_i, gI_i, m1, if_true, f1, gAdd_i, hk]
  rw [rng1_of (show (-1000000000 : Int) ≤ (k : Int) by omega) (show (k : Int) ≤ 1000000000 by omega), Option.bind_some]
  simp only [clr_t, clr_f, clr_n]
  exact e
/-- the jobs of the draws -/
theorem jobs_ok (dn : List Nat) (hd : dn.length = 18) (w : Int) (hw0 : 0 ≤ w) (hw : w ≤ 2) : ∃ J : List Jb, J.length ≤ 5 ∧ Pos J ∧ (w = 0 → NoLate J) ∧ (w = 1 → ¬ NoLate J) ∧ R_f_law_jobs [.lst (dl dn), .int w] = some (.tup (J.map en2)) := by
  have a0 := dl_at (dn := dn) 0 (by omega) (by omega)
  have a6 := dl_at (dn := dn) 6 (by omega) (by omega)
  generalize dn.getD (0 : Int).toNat 0 = x0 at a0
  generalize dn.getD (6 : Int).toNat 0 = x6 at a6
  have m6 : cMod x0 6 = true := cMod_of (by omega)
  have m5 : cMod x0 5 = true := cMod_of (by omega)
  have f6 : Int.fmod (x0 : Int) 6 = ((x0 % 6 : Nat) : Int) := nm x0 6
  have f5 : Int.fmod (x0 : Int) 5 = ((x0 % 5 : Nat) : Int) := nm x0 5
  obtain ⟨n, hn5, hn1, en⟩ : ∃ n : Nat, n ≤ 5 ∧ (w = 1 → 0 < n) ∧ (sSet 2 (fIf (fCmp gNe (fV 1) (fC (.int 1))) (f2 (gI cMod Int.fmod) (fN gInt (fAc (f2 gIx (fV 0) (fC (.int 0))) fA0)) (fC (.int 6))) (f2 gAdd (fC (.int 1)) (f2 (gI cMod Int.fmod) (fN gInt (fAc (f2 gIx (fV 0) (fC (.int 0))) fA0)) (fC (.int 5)))))) [.im (.lst (dl dn)), .im (.int w), .un, .un, .un, .un, .un, .un, .un, .un] = some (.nx [.im (.lst (dl dn)), .im (.int w), .im (.int (n : Nat)), .un, .un, .un, .un, .un, .un, .un]) := by
    by_cases h1 : w = 1
    · refine ⟨1 + x0 % 5, by omega, fun _ => by omega, ?_⟩
      subst h1
      simp [a0, m5, f5, -Int.natCast_emod]
    · refine ⟨x0 % 6, by omega, fun h => absurd h h1, ?_⟩
      simp [h1, a0, m6, f6, -Int.natCast_emod]
  have m2 : cMod x6 2 = true := cMod_of (by omega)
  have f2' : Int.fmod (x6 : Int) 2 = ((x6 % 2 : Nat) : Int) := nm x6 2
  obtain ⟨b, b1, b2, eb⟩ : ∃ b : Nat, 1 ≤ b ∧ b ≤ 7 ∧ L2.atI [.int 3, .int 7] ((x6 % 2 : Nat) : Int) = some (Dt.int b) := by
    have h : x6 % 2 = 0 ∨ x6 % 2 = 1 := by omega
    rcases h with h | h <;> rw [h]
    · exact ⟨3, by omega, by omega, rfl⟩
    · exact ⟨7, by omega, by omega, rfl⟩
  have hc4 : (fComp (fNL gRng1 (fAc (fV 2) fA0)) (hName 3) fYes (f2 gAdd (fC (.int 1)) (f2 (gI cMod Int.fmod) (fN gInt (fAc (f2 gIx (fV 0) (f2 gAdd (fC (.int 1)) (fV 3))) fA0)) (f2 gIx (fTup (fAc (fC (.int 3)) (fAc (fC (.int 7)) fA0))) (f2 (gI cMod Int.fmod) (fN gInt (fAc (f2 gIx (fV 0) (fC (.int 6))) fA0)) (fC (.int 2)))))) [3]) [.im (.lst (dl dn)), .im (.int w), .im (.int (n : Nat)), .un, .un, .un, .un, .un, .un, .un] = some (((rgI 0 n).map fun i => 1 + (((dn.getD (1 + i).toNat 0) % b : Nat) : Int)).map Dt.int) := by
    refine fComp_of (ds := (rgI 0 n).map Dt.int) ?_ rfl (by rw [List.length_map, rgI_length]; omega) ?_
    · simp [rng1_of (show (-1000000000 : Int) ≤ (n : Int) by omega) (show (n : Int) ≤ 1000000000 by omega)]
    · rw [List.map_map]
      refine comp_all Dt.int _ _ fun i hi => ⟨_, rfl, rfl, ?_⟩
      rw [mem_rgI] at hi
      have a := dl_at (dn := dn) (1 + i) (by omega) (by omega)
      show _ = some (Dt.int (1 + (((dn.getD (1 + i).toNat 0) % b : Nat) : Int)))
      generalize dn.getD (1 + i).toNat 0 = y at a
      have mb : cMod y b = true := cMod_of (by omega)
      simp [a, a6, m2, f2', eb, mb, nm, -atI_c0, -atI_c1, -Int.natCast_emod]
  generalize hls : ((rgI 0 n).map fun i => 1 + (((dn.getD (1 + i).toNat 0) % b : Nat) : Int)) = ls at hc4
  have hlsn : ls.length = n := by rw [← hls, List.length_map, rgI_length]; omega
  have h7 : ∀ x ∈ ls, 1 ≤ x ∧ x ≤ 7 := fun x hx => by
    rw [← hls] at hx
    obtain ⟨i, _, rfl⟩ := List.mem_map.mp hx
    have := Nat.mod_lt (dn.getD (1 + i).toNat 0) (show 0 < b by omega)
    omega
  have hsum := sum_nonneg h7
  have hc5 : (fComp (fNL gRng1 (fAc (fV 2) fA0)) (hName 3) fYes (f2 (gI cMod Int.fmod) (fN gInt (fAc (f2 gIx (fV 0) (f2 gAdd (fC (.int 7)) (fV 3))) fA0)) (f2 gAdd (fN gSum (fAc (fV 4) fA0)) (fC (.int 4)))) [3]) [.im (.lst (dl dn)), .im (.int w), .im (.int (n : Nat)), .un, .im (.lst (ls.map Dt.int)), .un, .un, .un, .un, .un] = some (((rgI 0 n).map fun i => Int.fmod ((dn.getD (7 + i).toNat 0 : Nat) : Int) (ls.sum + 4)).map Dt.int) := by
    refine fComp_of (ds := (rgI 0 n).map Dt.int) ?_ rfl (by rw [List.length_map, rgI_length]; omega) ?_
    · simp [rng1_of (show (-1000000000 : Int) ≤ (n : Int) by omega) (show (n : Int) ≤ 1000000000 by omega)]
    · rw [List.map_map]
      refine comp_all Dt.int _ _ fun i hi => ⟨_, rfl, rfl, ?_⟩
      rw [mem_rgI] at hi
      have a := dl_at (dn := dn) (7 + i) (by omega) (by omega)
      show _ = some (Dt.int (Int.fmod ((dn.getD (7 + i).toNat 0 : Nat) : Int) (ls.sum + 4)))
      generalize dn.getD (7 + i).toNat 0 = y at a
      have mb : cMod y (ls.sum + 4) = true := cMod_of (by omega)
      simp [a, mb]
  generalize hdd : ((rgI 0 n).map fun i => Int.fmod ((dn.getD (7 + i).toNat 0 : Nat) : Int) (ls.sum + 4)) = dd at hc5
  have hddn : dd.length = n := by rw [← hdd, List.length_map, rgI_length]; omega
  obtain ⟨hs, hp, eh⟩ := jobs_hidden dn hd w n hn5 ls dd
  obtain ⟨d1, s7, hd1, hr1, e1⟩ := jobs_dues dn hd w hw0 hw n hn5 ls dd hlsn hddn h7 hs hp
  -- the late lot, if any
  obtain ⟨d', t1, t6, t7, t9, k1, k2, k3, k4⟩ : ∃ (d' : List Int) (t1 t6 t7 t9 : Sl), d'.length = n ∧ (w = 0 → NoLate (zj ls d')) ∧ (w = 1 → ¬ NoLate (zj ls d')) ∧ (sIf (fCmp gEq (fV 1) (fC (.int 1))) (sSeq (sSet 9 (f2 gMinus (fN gSum (fAc (fSl (fV 4) fNoP (fPart (f2 gAdd (fC (.int 1)) (f2 (gI cMod Int.fmod) (fN gInt (fAc (f2 gIx (fV 0) (fC (.int 17))) fA0)) (fV 2))))) fA0)) (fC (.int 1))))
  (sFor (fNL gRng1 (fAc (f2 gAdd (fC (.int 1)) (f2 (gI cMod Int.fmod) (fN gInt (fAc (f2 gIx (fV 0) (fC (.int 17))) fA0)) (fV 2))) fA0)) (hName 3) [true, false, true, false, true, true, false, false, false, true]
   (sPut 5 (fV 3) (f2 gMinus (fV 9) (f2 gMul (f2 (gI cMod Int.fmod) (fN gInt (fAc (f2 gIx (fV 0) (f2 gAdd (fC (.int 7)) (fV 3))) fA0)) (fC (.int 2))) (f2 (gI cMod Int.fmod) (f2 (gI cDiv Int.fdiv) (fN gInt (fAc (f2 gIx (fV 0) (fC (.int 17))) fA0)) (fC (.int 5))) (f2 gAdd (fV 9) (fC (.int 1))))))))) sNil) [.im (.lst (dl dn)), .im (.int w), .im (.int (n : Nat)), .un, .im (.lst (ls.map Dt.int)), .ow (d1.map Dt.int), .im (.lst (hs.map Dt.int)), s7, .un, .un] = some (.nx [.im (.lst (dl dn)), t1, .im (.int (n : Nat)), .un, .im (.lst (ls.map Dt.int)), .ow (d'.map Dt.int), t6, t7, .un, t9]) := by
    by_cases h1 : w = 1
    · subst h1
      obtain ⟨d', a9, g1, g2, g3⟩ := jobs_lot dn hd n (hn1 rfl) hn5 ls d1 hlsn hd1 h7 (.im (.lst (hs.map Dt.int))) s7
      exact ⟨d', _, _, _, a9, g1, fun h => absurd h (by omega), fun _ => g2, g3⟩
    · refine ⟨d1, .im (.int w), .im (.lst (hs.map Dt.int)), s7, .un, hd1, fun h0 => ?_, fun h => absurd h h1, by simp [h1]⟩
      have hz := hr1 h0
      have hpos : Pos (js (zj ls d1) hs) := pos_js (zj_pos h7) fun i hi => by rw [zj_items, hlsn]; exact hp.mem_iff.mp hi
      refine NoLate_perm ?_ (noLate_of_runs hpos hz)
      have := hp.map (jb (zj ls d1))
      have hit : rgI 0 (n : Int) = items (zj ls d1) := by rw [zj_items, hlsn]
      rw [hit] at this
      have h3 := js_items (zj ls d1)
      unfold js at h3 ⊢
      rw [h3] at this
      exact this
  refine ⟨zj ls d', by rw [zj_len]; omega, zj_pos h7, k2, k3, ?_⟩
  unfold R_f_law_jobs
  rw [runF_a]
  unfold F_f_law_jobs
  show Option.bind (sSeq _ _ [.im (.lst (dl dn)), .im (.int w), .un, .un, .un, .un, .un, .un, .un, .un]) endOf = _
  rw [sSeq_nx en]
  rw [sSeq_nx (ρ' := [.im (.lst (dl dn)), .im (.int w), .im (.int (n : Nat)), .un, .im (.lst (ls.map Dt.int)), .un, .un, .un, .un, .un]) (by
    rw [sSet_a, fLst_a, hc4]
    simp only [Option.bind_some, setS_s, setS_z])]
  rw [sSeq_nx (ρ' := [.im (.lst (dl dn)), .im (.int w), .im (.int (n : Nat)), .un, .im (.lst (ls.map Dt.int)), .ow (dd.map Dt.int), .un, .un, .un, .un]) (by
    rw [sSetF_a, hc5]
    simp only [Option.bind_some, setS_s, setS_z])]
  rw [sSeq_nx (ρ' := [.im (.lst (dl dn)), .im (.int w), .im (.int (n : Nat)), .un, .im (.lst (ls.map Dt.int)), .ow (dd.map Dt.int), .ow [], .un, .un, .un]) (by simp)]
  rw [sSeq_nx (ρ' := [.im (.lst (dl dn)), .im (.int w), .im (.int (n : Nat)), .un, .im (.lst (ls.map Dt.int)), .ow (dd.map Dt.int), .ow (hs.map Dt.int), .un, .un, .un]) (by
    rw [sFor_a]
    simp only [fNL_a, fAc_a, fV_a, getS_s, getS_z, Option.bind_some, fA0_a]
    rw [rng1_of (show (-1000000000 : Int) ≤ (n : Int) by omega) (show (n : Int) ≤ 1000000000 by omega), Option.bind_some]
    simp only [clr_t, clr_f, clr_n]
    exact eh)]
  rw [sSeq_nx (ρ' := [.im (.lst (dl dn)), .im (.int w), .im (.int (n : Nat)), .un, .im (.lst (ls.map Dt.int)), .ow (dd.map Dt.int), .ow (hs.map Dt.int), .im (.int 0), .un, .un]) (by simp)]
  rw [sSeq_nx (ρ' := [.im (.lst (dl dn)), .im (.int w), .im (.int (n : Nat)), .un, .im (.lst (ls.map Dt.int)), .ow (d1.map Dt.int), .im (.lst (hs.map Dt.int)), s7, .un, .un]) (by
    rw [sFrz_a]
    simp only [frzs_c, frzs_n, frz, getS_s, getS_z, setS_s, setS_z]
    rw [sFor_a]
    simp only [f1L_a, fV_a, getS_s, getS_z, Option.bind_some, gItems_l, clr_t, clr_f, clr_n]
    exact e1)]
  rw [sSeq_nx k4]
  have hc9 : (fComp (fNL gRng1 (fAc (fV 2) fA0)) (hName 3) fYes (fTup (fAc (f2 gIx (fV 4) (fV 3)) (fAc (f2 gIx (fV 5) (fV 3)) fA0))) [3]) [.im (.lst (dl dn)), t1, .im (.int (n : Nat)), .un, .im (.lst (ls.map Dt.int)), .im (.lst (d'.map Dt.int)), t6, t7, .un, t9] = some ((zj ls d').map en2) := by
    refine fComp_of (ds := (rgI 0 n).map Dt.int) ?_ rfl (by rw [List.length_map, rgI_length]; omega) ?_
    · simp [rng1_of (show (-1000000000 : Int) ≤ (n : Int) by omega) (show (n : Int) ≤ 1000000000 by omega)]
    · unfold zj
      rw [List.map_map, hlsn]
      refine comp_all Dt.int _ _ fun i hi => ⟨_, rfl, rfl, ?_⟩
      rw [mem_rgI] at hi
      have q1 := getD_at (ls := ls) hi.1 (by omega)
      have q2 := getD_at (ls := d') hi.1 (by omega)
      show _ = some (en2 (ls.getD i.toNat 0, d'.getD i.toNat 0))
      generalize ls.getD i.toNat 0 = u1 at q1
      generalize d'.getD i.toNat 0 = u2 at q2
      simp [q1, q2, en2]
  rw [sFrz_a]
  simp only [frzs_c, frzs_n, frz, getS_s, getS_z, setS_s, setS_z]
  rw [sRet_a, fN_a, fAc_a, fLst_a, hc9]
  simp only [Option.bind_some, fA0_a, gTuple_l, endOf_rt]
end LK
end

section
set_option Elab.async false
set_option maxRecDepth 100000
namespace LK
open PySem EL
open PySem.W (AlikeAll dataLt)
theorem draws_dl (ns : List Int) (k n : Int) (h0 : 0 ≤ k) (h1 : k ≤ 1000) (n0 : 0 ≤ n) (n1 : n ≤ 1000) : ∃ (c : Int) (dn : List Nat), R_f_law_cell [.scr ns, .int k] = some (.int c) ∧ R_f_law_draws [.int c, .int n] = some (.lst (dl dn)) ∧ dn.length = n.toNat := by
  obtain ⟨c, hc⟩ := cell_ok ns k h0 h1
  obtain ⟨ds, e1, e2, e3⟩ := draws_ok c n n0 n1
  have e4 : ds.map Dt.int = dl (ds.map Int.toNat) := by
    unfold dl
    rw [List.map_map]
    refine List.map_congr_left fun x hx => ?_
    show Dt.int x = Dt.int (x.toNat : Int)
    rw [Int.toNat_of_nonneg (e3 x hx).1]
  rw [e4] at e1
  exact ⟨c, ds.map Int.toNat, hc, e1, by rw [List.length_map, e2]⟩
theorem cut_dl (dn : List Nat) (a b : Nat) (h : a ≤ b) (hb : b ≤ dn.length) : cutL (dl dn) (some (a : Int)) (some (b : Int)) = dl ((dn.drop a).take (b - a)) := by
  unfold cutL dl
  rw [List.length_map, HT.sIx_nat, HT.sIx_nat, Nat.min_eq_left hb, Nat.min_eq_left (by omega), List.map_take, List.map_drop]
theorem minLL_ints (x : Int) (l : List Int) : gMinD [.lst ((x :: l).map Dt.int)] = some (.int (l.foldl min x)) := minT_ints x l
theorem foldl_min_is : ∀ (l : List Int) (x k : Int), k ∈ x :: l → (∀ y ∈ x :: l, k ≤ y) → l.foldl min x = k
  | [], x, k, h, _ => (List.mem_singleton.mp h).symm
  | y :: l, x, k, h, hle => by
    rw [List.foldl_cons]
    refine foldl_min_is l (min x y) k ?_ fun z hz => ?_
    · have hx := hle x List.mem_cons_self
      have hy := hle y (List.mem_cons_of_mem _ List.mem_cons_self)
      rcases List.mem_cons.mp h with e | e
      · rw [List.mem_cons]; left; omega
      · rcases List.mem_cons.mp e with e | e
        · rw [List.mem_cons]; left; omega
        · exact List.mem_cons_of_mem _ e
    · rcases List.mem_cons.mp hz with e | e
      · have hx := hle x List.mem_cons_self
        have hy := hle y (List.mem_cons_of_mem _ List.mem_cons_self)
        omega
      · exact hle z (List.mem_cons_of_mem _ (List.mem_cons_of_mem _ e))
theorem is_row (o : List Int) (ho : o.length ≤ 1000) : R_f_law_is [rowD o, rowD o] = some (.bl true) := is_tup 5 _ (by rw [List.length_map]; exact ho) fun d hd => by
  obtain ⟨i, _, rfl⟩ := List.mem_map.mp hd
  exact is_int 4 i
theorem ext_ne (J : List Jb) : ∀ (k : Nat) (row : List Int), (left J row).length = k → ext (items J) k row ≠ []
  | 0, row, _ => by simp [ext]
  | k + 1, row, hk => by
    intro h
    have hl : left J row ≠ [] := fun e => by rw [e] at hk; cases hk
    obtain ⟨i, hi⟩ := List.exists_mem_of_ne_nil _ hl
    have h2 := (List.flatMap_eq_nil_iff.mp h) i hi
    exact ext_ne J k (row ++ [i]) (by have := left_len J row i hi; omega) h2
def every (J : List Jb) : List (List Int) := ext (items J) J.length []
def good (J : List Jb) : List (List Int) := (every J).filter (ok J)
def lots (J : List Jb) : List Int := (J.map (·.2)).filter fun d => decide (d < load J d)
theorem every_row {J : List Jb} {o : List Int} (h : o ∈ every J) : Valid J o ∧ o.length = J.length := by
  have := ext_valid J J.length [] ⟨(fun x hx => nomatch hx), List.nodup_nil⟩ o h
  simpa using this
theorem good_some {J : List Jb} (hp : Pos J) : (good J).head?.isSome = true ↔ NoLate J := headF_law J hp
theorem lots_nil (J : List Jb) : lots J = [] ↔ NoLate J := by
  unfold lots NoLate
  rw [List.filter_eq_nil_iff]
  constructor
  · intro h d hd
    have := h d hd
    simpa using this
  · intro h d hd
    have := h d hd
    simpa using this
theorem row_ix (L : List (List Int)) (hL : L ≠ []) (z : Nat) (o0 : ∀ o ∈ L, o.length ≤ 5) : ∃ o, o ∈ L ∧ cMod z L.length = true ∧ L2.atI (L.map rowD) ((z % L.length : Nat) : Int) = some (rowD o) := by
  have h0 : 0 < L.length := List.length_pos_iff.mpr hL
  have h1 := Nat.mod_lt z h0
  refine ⟨L[z % L.length], List.getElem_mem _, cMod_of (by omega), ?_⟩
  rw [atI_mapf rowD (by omega) (by omega)]
  simp only [Int.toNat_natCast]
/-- one asked row -/
theorem law_turn8 (ns : List Int) (J : List Jb) (hJ : J.length ≤ 5) (mn : List Nat) (hm : mn.length = 16) (t : Int) (ht0 : 0 ≤ t) (ht : t < 8) :
    turn (hName 11) [true, false, true, true, false, true, false, false, false, false, true, false, false, false] (sSeq (sSet 12 (f2 gIx (fV 3) (f2 (gI cMod Int.fmod) (fN gInt (fAc (f2 gIx (fV 10) (fV 11)) fA0)) (fN gLen (fAc (fV 3) fA0)))))
  (sSeq (sIf (fAnd (fCmp (gII bLt) (fV 11) (fC (.int 5))) (fCmp (gII bGt) (fN gLen (fAc (fV 5) fA0)) (fC (.int 0)))) (sSet 12 (f2 gIx (fV 5) (f2 (gI cMod Int.fmod) (fN gInt (fAc (f2 gIx (fV 10) (fV 11)) fA0)) (fN gLen (fAc (fV 5) fA0))))) sNil)
  (sSeq (sSet 13 (fIf (fCmp (gII bLt) (fV 11) (fC (.int 3))) (fV 12) (fFn 3 R_f_law_bent (fAc (fV 12) (fAc (fSl (fV 10) (fPart (f2 gMinus (f2 gAdd (fC (.int 8)) (fV 11)) (fC (.int 3)))) (fPart (f2 gMinus (f2 gAdd (fC (.int 11)) (fV 11)) (fC (.int 3))))) (fAc (fN gLen (fAc (fV 2) fA0)) fA0))))))
  (sIf (fNot (fTru (fFn 2 R_f_law_is (fAc (fFn 2 R_is_sequence (fAc (fV 2) (fAc (fV 13) fA0))) (fAc (fFn 2 R_f_law_sequence (fAc (fV 2) (fAc (fV 13) fA0))) fA0))))) (sRet (fC (.bl false))) sNil)))) (.int t) [.im (.scr ns), .un, .im (.tup (J.map en2)), .im (.lst ((every J).map rowD)), .un, .im (.lst ((good J).map rowD)), .un, .un, .un, .un, .im (.lst (dl mn)), .un, .un, .un] = some (.nx [.im (.scr ns), .un, .im (.tup (J.map en2)), .im (.lst ((every J).map rowD)), .un, .im (.lst ((good J).map rowD)), .un, .un, .un, .un, .im (.lst (dl mn)), .un, .un, .un]) := by
  have hne : every J ≠ [] := ext_ne J J.length [] (by rw [left_nil]; unfold items; rw [rgI_length]; omega)
  have hrow : ∀ o ∈ every J, o.length ≤ 5 := fun o ho => by rw [(every_row ho).2]; exact hJ
  have a := dl_at (dn := mn) t ht0 (by omega)
  generalize mn.getD t.toNat 0 = z at a
  obtain ⟨o1, h1, m1, e1⟩ := row_ix (every J) hne z hrow
  have f1 := nm z (every J).length
  have s0 : ((sSet 12 (f2 gIx (fV 3) (f2 (gI cMod Int.fmod) (fN gInt (fAc (f2 gIx (fV 10) (fV 11)) fA0)) (fN gLen (fAc (fV 3) fA0))))) : FnS) [.im (.scr ns), .un, .im (.tup (J.map en2)), .im (.lst ((every J).map rowD)), .un, .im (.lst ((good J).map rowD)), .un, .un, .un, .un, .im (.lst (dl mn)), .im (.int t), .un, .un] = some (.nx [.im (.scr ns), .un, .im (.tup (J.map en2)), .im (.lst ((every J).map rowD)), .un, .im (.lst ((good J).map rowD)), .un, .un, .un, .un, .im (.lst (dl mn)), .im (.int t), .im (rowD o1), .un]) := by
    simp only [sSet_a, f2_a, fN_a, fAc_a, fV_a, getS_s, getS_z, Option.bind_some, gIx_l, a, fA0_a, gInt_i, gLen_l, List.length_map, gI_i, m1, if_true, f1, e1, setS_s, setS_z]
  have s1 : ∃ o, o.length ≤ 5 ∧ ((sIf (fAnd (fCmp (gII bLt) (fV 11) (fC (.int 5))) (fCmp (gII bGt) (fN gLen (fAc (fV 5) fA0)) (fC (.int 0)))) (sSet 12 (f2 gIx (fV 5) (f2 (gI cMod Int.fmod) (fN gInt (fAc (f2 gIx (fV 10) (fV 11)) fA0)) (fN gLen (fAc (fV 5) fA0))))) sNil) : FnS) [.im (.scr ns), .un, .im (.tup (J.map en2)), .im (.lst ((every J).map rowD)), .un, .im (.lst ((good J).map rowD)), .un, .un, .un, .un, .im (.lst (dl mn)), .im (.int t), .im (rowD o1), .un] = some (.nx [.im (.scr ns), .un, .im (.tup (J.map en2)), .im (.lst ((every J).map rowD)), .un, .im (.lst ((good J).map rowD)), .un, .un, .un, .un, .im (.lst (dl mn)), .im (.int t), .im (rowD o), .un]) := by
    by_cases hc : t < 5 ∧ good J ≠ []
    · obtain ⟨o2, h2, m2, e2⟩ := row_ix (good J) hc.2 z fun o ho => hrow o (List.mem_filter.mp ho).1
      have f2' := nm z (good J).length
      have hg : (0 : Int) < (good J).length := by have := List.length_pos_iff.mpr hc.2; omega
      refine ⟨o2, hrow o2 (List.mem_filter.mp h2).1, ?_⟩
      simp only [sIf_a, fAnd_a, fCmp_a, fV_a, getS_s, getS_z, fC_a, Option.bind_some, gII_i, bLt_a, decide_eq_true hc.1, if_true, fN_a, fAc_a, fA0_a, gLen_l, List.length_map, bGt_a, decide_eq_true hg, sSet_a, f2_a, gIx_l, a, gInt_i, gI_i, m2, f2', e2, setS_s, setS_z]
    · refine ⟨o1, hrow o1 h1, ?_⟩
      by_cases h5 : t < 5
      · have hg : good J = [] := by
          by_cases hg : good J = []
          · exact hg
          · exact absurd ⟨h5, hg⟩ hc
        simp [h5, hg]
      · simp [h5]
  obtain ⟨o, ho, s1⟩ := s1
  have s2 : ∃ o', o'.length ≤ 100 ∧ ((sSet 13 (fIf (fCmp (gII bLt) (fV 11) (fC (.int 3))) (fV 12) (fFn 3 R_f_law_bent (fAc (fV 12) (fAc (fSl (fV 10) (fPart (f2 gMinus (f2 gAdd (fC (.int 8)) (fV 11)) (fC (.int 3)))) (fPart (f2 gMinus (f2 gAdd (fC (.int 11)) (fV 11)) (fC (.int 3))))) (fAc (fN gLen (fAc (fV 2) fA0)) fA0)))))) : FnS) [.im (.scr ns), .un, .im (.tup (J.map en2)), .im (.lst ((every J).map rowD)), .un, .im (.lst ((good J).map rowD)), .un, .un, .un, .un, .im (.lst (dl mn)), .im (.int t), .im (rowD o), .un] = some (.nx [.im (.scr ns), .un, .im (.tup (J.map en2)), .im (.lst ((every J).map rowD)), .un, .im (.lst ((good J).map rowD)), .un, .un, .un, .un, .im (.lst (dl mn)), .im (.int t), .im (rowD o), .im (rowD o')]) := by
    by_cases h3 : t < 3
    · exact ⟨o, by omega, by simp [h3]⟩
    · obtain ⟨u, hu⟩ : ∃ u : Nat, t = u + 3 := ⟨(t - 3).toNat, by omega⟩
      have hc := cut_dl mn (8 + u) (11 + u) (by omega) (by omega)
      obtain ⟨l', b1, b2, b3⟩ := bent_ok (o.map Dt.int) (by rw [List.length_map]; omega) ((mn.drop (8 + u)).take (11 + u - (8 + u))) (by rw [List.length_take, List.length_drop, hm]; omega) J.length (by omega)
      have hl : ∃ l : List Int, l' = l.map Dt.int := by
        have key : ∀ l' : List Dt, (∀ d ∈ l', d ∈ o.map Dt.int ∨ ∃ i, d = .int i) → ∃ l : List Int, l' = l.map Dt.int := by
          intro l'
          induction l' with
          | nil => intro _; exact ⟨[], rfl⟩
          | cons d l' ih =>
            intro hh
            obtain ⟨l, el⟩ := ih fun d hd => hh d (List.mem_cons_of_mem _ hd)
            have : ∃ i, d = Dt.int i := by
              rcases hh d List.mem_cons_self with h | h
              · obtain ⟨i, _, rfl⟩ := List.mem_map.mp h
                exact ⟨i, rfl⟩
              · exact h
            obtain ⟨i, rfl⟩ := this
            exact ⟨i :: l, by rw [el]; rfl⟩
        exact key l' b2
      obtain ⟨l, rfl⟩ := hl
      have e8 : (8 : Int) + t - 3 = ((8 + u : Nat) : Int) := by omega
      have e11 : (11 : Int) + t - 3 = ((11 + u : Nat) : Int) := by omega
      have b1' : R_f_law_bent [rowD o, .lst (dl ((mn.drop (8 + u)).take (11 + u - (8 + u)))), .int (J.length : Nat)] = some (rowD l) := b1
      refine ⟨l, by rw [List.length_map, List.length_map] at b3; omega, ?_⟩
      simp only [sSet_a, fIf_a, fCmp_a, fV_a, getS_s, getS_z, fC_a, Option.bind_some, gII_i, bLt_a, decide_eq_false h3, Bool.false_eq_true, if_false, fFn_a, fAc_a, fSl_a, fPart_a, f2_a, gAdd_i, gMinus_i, e8, e11, gSl_l, hc, fN_a, fA0_a, gLen_t, List.length_map, List.length_cons, List.length_nil, if_true, b1', setS_s, setS_z]
  obtain ⟨o', ho', s2⟩ := s2
  have s3 : ((sIf (fNot (fTru (fFn 2 R_f_law_is (fAc (fFn 2 R_is_sequence (fAc (fV 2) (fAc (fV 13) fA0))) (fAc (fFn 2 R_f_law_sequence (fAc (fV 2) (fAc (fV 13) fA0))) fA0))))) (sRet (fC (.bl false))) sNil) : FnS) [.im (.scr ns), .un, .im (.tup (J.map en2)), .im (.lst ((every J).map rowD)), .un, .im (.lst ((good J).map rowD)), .un, .un, .un, .un, .im (.lst (dl mn)), .im (.int t), .im (rowD o), .im (rowD o')] = some (.nx [.im (.scr ns), .un, .im (.tup (J.map en2)), .im (.lst ((every J).map rowD)), .un, .im (.lst ((good J).map rowD)), .un, .un, .un, .un, .im (.lst (dl mn)), .im (.int t), .im (rowD o), .im (rowD o')]) := by
    have q1 := iseq_ok J (by omega) o' (by omega)
    have q2 := lseq_ok J (by omega) o' (by omega)
    simp only [sIf_a, fNot_a, fTru_a, fFn_a, fAc_a, fV_a, getS_s, getS_z, fA0_a, Option.bind_some, List.length_cons, List.length_nil, if_true, q1, q2, is_bl', tru_b, Bool.not_true, Bool.false_eq_true, if_false, sNil_a]
  rw [turn_nx (ρ2 := [.im (.scr ns), .un, .im (.tup (J.map en2)), .im (.lst ((every J).map rowD)), .un, .im (.lst ((good J).map rowD)), .un, .un, .un, .un, .im (.lst (dl mn)), .im (.int t), .im (rowD o), .im (rowD o')]) (hName_a 11 _ _) (by
    simp only [setS_s, setS_z]
    rw [sSeq_nx s0, sSeq_nx s1, sSeq_nx s2]
    exact s3)]
  rfl
end LK
end

section
set_option Elab.async false
set_option maxRecDepth 100000
namespace LK
open PySem EL
theorem law_turn (ns : List Int) (w : Int) (hw0 : 0 ≤ w) (hw : w < 3) : turn (hName 1) [true, false, false, false, false, false, false, false, false, false, false, false, false, false] (sSeq (sSet 2 (fFn 2 R_f_law_jobs (fAc (fFn 2 R_f_law_draws (fAc (fFn 2 R_f_law_cell (fAc (fV 0) (fAc (fV 1) fA0))) (fAc (fC (.int 18)) fA0))) (fAc (fV 1) fA0))))
  (sSeq (sSet 3 (fFn 1 R_f_law_orders (fAc (fTR (fR1 (fN gLen (fAc (fV 2) fA0)))) fA0)))
  (sSeq (sSet 5 (fLst (fComp (f1L gItems (fV 3)) (hName 4) (fTru (fFn 2 R_f_law_sequence (fAc (fV 2) (fAc (fV 4) fA0)))) (fV 4) [4])))
  (sSeq (sSetF 6 (fLstL fA0))
  (sSeq (sFor (f1L gItems (fV 2)) (hTup 2 (hCons (hName 7) (hCons (hName 8) hNil))) [true, true, true, true, false, true, true, false, false, false, false, false, false, false]
   (sIf (fCmp (gII bGt) (fN gSum (fAc (fLst (fComp (f1L gItems (fV 2)) (hName 9) (fCmp (gII bLe) (f2 gIx (fV 9) (fC (.int 1))) (fV 8)) (f2 gIx (fV 9) (fC (.int 0))) [9])) fA0)) (fV 8)) (sMut 6 gAppend (fAc (fV 8) fA0)) sNil))
  (sSeq (sIf (fOr (fCmp gNe (fOfB (fCmp (gII bGt) (fN gLen (fAc (fV 5) fA0)) (fC (.int 0)))) (fOfB (fCmp gEq (fN gLen (fAc (fVb 6) fA0)) (fC (.int 0))))) (fAnd (fCmp (gII bLt) (fV 1) (fC (.int 2))) (fCmp gNe (fOfB (fCmp (gII bGt) (fN gLen (fAc (fV 5) fA0)) (fC (.int 0)))) (fOfB (fCmp gEq (fV 1) (fC (.int 0))))))) (sRet (fC (.bl false))) sNil)
  (sSeq (sIf (fNot (fTru (fFn 2 R_f_law_is (fAc (fFn 1 R_told_sequence (fAc (fV 2) fA0)) (fAc (fIf (fCmp (gII bGt) (fN gLen (fAc (fV 5) fA0)) (fC (.int 0))) (f2 gIx (fV 5) (fC (.int 0))) (fC .non)) fA0))))) (sRet (fC (.bl false))) sNil)
  (sSeq (sIf (fNot (fTru (fFn 2 R_f_law_is (fAc (fFn 1 R_late_lot (fAc (fV 2) fA0)) (fAc (fIf (fCmp (gII bGt) (fN gLen (fAc (fVb 6) fA0)) (fC (.int 0))) (fN gMinD (fAc (fVb 6) fA0)) (fC .non)) fA0))))) (sRet (fC (.bl false))) sNil)
  (sSeq (sSet 10 (fFn 2 R_f_law_draws (fAc (fFn 2 R_f_law_cell (fAc (fV 0) (fAc (f2 gAdd (fC (.int 3)) (fV 1)) fA0))) (fAc (fC (.int 16)) fA0))))
  (sFor (fNL gRng1 (fAc (fC (.int 8)) fA0)) (hName 11) [true, false, true, true, false, true, false, false, false, false, true, false, false, false]
   (sSeq (sSet 12 (f2 gIx (fV 3) (f2 (gI cMod Int.fmod) (fN gInt (fAc (f2 gIx (fV 10) (fV 11)) fA0)) (fN gLen (fAc (fV 3) fA0)))))
  (sSeq (sIf (fAnd (fCmp (gII bLt) (fV 11) (fC (.int 5))) (fCmp (gII bGt) (fN gLen (fAc (fV 5) fA0)) (fC (.int 0)))) (sSet 12 (f2 gIx (fV 5) (f2 (gI cMod Int.fmod) (fN gInt (fAc (f2 gIx (fV 10) (fV 11)) fA0)) (fN gLen (fAc (fV 5) fA0))))) sNil)
  (sSeq (sSet 13 (fIf (fCmp (gII bLt) (fV 11) (fC (.int 3))) (fV 12) (fFn 3 R_f_law_bent (fAc (fV 12) (fAc (fSl (fV 10) (fPart (f2 gMinus (f2 gAdd (fC (.int 8)) (fV 11)) (fC (.int 3)))) (fPart (f2 gMinus (f2 gAdd (fC (.int 11)) (fV 11)) (fC (.int 3))))) (fAc (fN gLen (fAc (fV 2) fA0)) fA0))))))
  (sIf (fNot (fTru (fFn 2 R_f_law_is (fAc (fFn 2 R_is_sequence (fAc (fV 2) (fAc (fV 13) fA0))) (fAc (fFn 2 R_f_law_sequence (fAc (fV 2) (fAc (fV 13) fA0))) fA0))))) (sRet (fC (.bl false))) sNil)))))))))))))) (.int w) [.im (.scr ns), .un, .un, .un, .un, .un, .un, .un, .un, .un, .un, .un, .un, .un] = some (.nx [.im (.scr ns), .un, .un, .un, .un, .un, .un, .un, .un, .un, .un, .un, .un, .un]) := by
  obtain ⟨c, dn, c1, c2, c3⟩ := draws_dl ns w 18 hw0 (by omega) (by omega) (by omega)
  have c3' : dn.length = 18 := c3
  obtain ⟨J, hJ, hp, hz0, hz1, ej⟩ := jobs_ok dn c3' w hw0 (by omega)
  obtain ⟨c', mn, d1, d2, d3⟩ := draws_dl ns (3 + w) 16 (by omega) (by omega) (by omega) (by omega)
  have d3' : mn.length = 16 := d3
  have hil : (items J).length = J.length := by unfold items; rw [rgI_length]; omega
  have s0 : ((sSet 2 (fFn 2 R_f_law_jobs (fAc (fFn 2 R_f_law_draws (fAc (fFn 2 R_f_law_cell (fAc (fV 0) (fAc (fV 1) fA0))) (fAc (fC (.int 18)) fA0))) (fAc (fV 1) fA0)))) : FnS) [.im (.scr ns), .im (.int w), .un, .un, .un, .un, .un, .un, .un, .un, .un, .un, .un, .un] = some (.nx [.im (.scr ns), .im (.int w), .im (.tup (J.map en2)), .un, .un, .un, .un, .un, .un, .un, .un, .un, .un, .un]) := by simp [c1, c2, ej]
  have s1 : ((sSet 3 (fFn 1 R_f_law_orders (fAc (fTR (fR1 (fN gLen (fAc (fV 2) fA0)))) fA0))) : FnS) [.im (.scr ns), .im (.int w), .im (.tup (J.map en2)), .un, .un, .un, .un, .un, .un, .un, .un, .un, .un, .un] = some (.nx [.im (.scr ns), .im (.int w), .im (.tup (J.map en2)), .im (.lst ((every J).map rowD)), .un, .un, .un, .un, .un, .un, .un, .un, .un, .un]) := by
    have ho := orders_ok (items J) (by omega)
    rw [hil] at ho
    have hok : okRg (0, (J.length : Int)) = true := by
      unfold okRg
      exact cdc_t ⟨by show -(2 ^ 62) ≤ (0 : Int); omega, by show (0 : Int) < 2 ^ 62; omega, by show -(2 ^ 62) ≤ (J.length : Int); omega, by show (J.length : Int) < 2 ^ 62; omega, by show ((J.length : Int) - 0).toNat ≤ 2 ^ 24; omega⟩
    have ho' : R_f_law_orders [.tup ((rgI 0 J.length).map Dt.int)] = some (.lst ((every J).map rowD)) := ho
    simp [hok, rngD_eq, ho']
  have hel : (every J).length ≤ 100000 := by
    have h1 := ext_turns (items J) J.length [[]]
    have h2 : (every J) = (List.range J.length).foldl (fun L _ => longer (items J) L) [[]] := by rw [h1]; unfold every; simp
    rw [h2]
    have key : ∀ k : Nat, ((List.range k).foldl (fun L _ => longer (items J) L) [[]]).length ≤ 5 ^ k := by
      intro k
      induction k with
      | zero => simp
      | succ k ih =>
        rw [List.range_succ, List.foldl_append, List.foldl_cons, List.foldl_nil, longer_eq]
        refine Nat.le_trans (flat_len _ _) ?_
        rw [Nat.pow_succ, Nat.mul_comm]
        exact Nat.mul_le_mul ih (by omega)
    have h5 := key J.length
    have h6 : 5 ^ J.length ≤ 5 ^ 5 := Nat.pow_le_pow_right (by omega) hJ
    omega
  have hgc : (fComp (f1L gItems (fV 3)) (hName 4) (fTru (fFn 2 R_f_law_sequence (fAc (fV 2) (fAc (fV 4) fA0)))) (fV 4) [4]) [.im (.scr ns), .im (.int w), .im (.tup (J.map en2)), .im (.lst ((every J).map rowD)), .un, .un, .un, .un, .un, .un, .un, .un, .un, .un] = some ((good J).map rowD) := by
    refine fComp_of (ds := (every J).map rowD) (by simp) rfl (by rw [List.length_map]; omega) ?_
    refine comp_map rowD (ok J) rowD _ fun o ho => ⟨_, rfl, ?_, fun _ => rfl⟩
    have hv := every_row ho
    have hl := lseq_ok J (by omega) o (by omega)
    have hd : decide (Valid J o ∧ Runs (js J o) 0 ∧ o.length = J.length) = ok J o := by
      unfold ok
      by_cases hr : Runs (js J o) 0
      · have : (Valid J o ∧ Runs (js J o) 0 ∧ o.length = J.length) := ⟨hv.1, hr, hv.2⟩
        simp [this, hr]
      · have : ¬ (Valid J o ∧ Runs (js J o) 0 ∧ o.length = J.length) := fun h => hr h.2.1
        simp [this, hr]
    rw [hd] at hl
    simp [hl]
  have s2 : ((sSet 5 (fLst (fComp (f1L gItems (fV 3)) (hName 4) (fTru (fFn 2 R_f_law_sequence (fAc (fV 2) (fAc (fV 4) fA0)))) (fV 4) [4]))) : FnS) [.im (.scr ns), .im (.int w), .im (.tup (J.map en2)), .im (.lst ((every J).map rowD)), .un, .un, .un, .un, .un, .un, .un, .un, .un, .un] = some (.nx [.im (.scr ns), .im (.int w), .im (.tup (J.map en2)), .im (.lst ((every J).map rowD)), .un, .im (.lst ((good J).map rowD)), .un, .un, .un, .un, .un, .un, .un, .un]) := by
    rw [sSet_a, fLst_a, hgc]
    simp only [Option.bind_some, setS_s, setS_z]
  have hf := for_fold (gf := (hTup 2 (hCons (hName 7) (hCons (hName 8) hNil)))) (mk := [true, true, true, true, false, true, true, false, false, false, false, false, false, false]) (F := (sIf (fCmp (gII bGt) (fN gSum (fAc (fLst (fComp (f1L gItems (fV 2)) (hName 9) (fCmp (gII bLe) (f2 gIx (fV 9) (fC (.int 1))) (fV 8)) (f2 gIx (fV 9) (fC (.int 0))) [9])) fA0)) (fV 8)) (sMut 6 gAppend (fAc (fV 8) fA0)) sNil)) en2 (fun s : List Int => [.im (.scr ns), .im (.int w), .im (.tup (J.map en2)), .im (.lst ((every J).map rowD)), .un, .im (.lst ((good J).map rowD)), .ow (s.map Dt.int), .un, .un, .un, .un, .un, .un, .un]) (fun s j => if decide (j.2 < load J j.2) = true then s ++ [j.2] else s) (fun s xs => s.length + xs.length ≤ 1000) J [] (by simp; omega) (by
    rintro s j r h
    simp only [List.length_cons] at h
    refine ⟨?_, by
      split
      · rw [List.length_append, List.length_singleton]; omega
      · omega⟩
    have hsz : s.length < sizeLine := size_gt (by omega)
    have hc : (fComp (f1L gItems (fV 2)) (hName 9) (fCmp (gII bLe) (f2 gIx (fV 9) (fC (.int 1))) (fV 8)) (f2 gIx (fV 9) (fC (.int 0))) [9]) [.im (.scr ns), .im (.int w), .im (.tup (J.map en2)), .im (.lst ((every J).map rowD)), .un, .im (.lst ((good J).map rowD)), .ow (s.map Dt.int), .im (.int j.1), .im (.int j.2), .un, .un, .un, .un, .un] = some (((J.filter fun i => decide (i.2 ≤ j.2)).map (·.1)).map Dt.int) := by
      refine fComp_of (ds := J.map en2) (by simp) rfl (by rw [List.length_map]; omega) ?_
      rw [List.map_map]
      refine comp_map en2 _ _ _ fun i hi => ⟨_, rfl, ?_, fun _ => ?_⟩
      · simp [ix1]
      · simp [ix0]
    have hb : ((sIf (fCmp (gII bGt) (fN gSum (fAc (fLst (fComp (f1L gItems (fV 2)) (hName 9) (fCmp (gII bLe) (f2 gIx (fV 9) (fC (.int 1))) (fV 8)) (f2 gIx (fV 9) (fC (.int 0))) [9])) fA0)) (fV 8)) (sMut 6 gAppend (fAc (fV 8) fA0)) sNil) : FnS) [.im (.scr ns), .im (.int w), .im (.tup (J.map en2)), .im (.lst ((every J).map rowD)), .un, .im (.lst ((good J).map rowD)), .ow (s.map Dt.int), .im (.int j.1), .im (.int j.2), .un, .un, .un, .un, .un] = some (.nx [.im (.scr ns), .im (.int w), .im (.tup (J.map en2)), .im (.lst ((every J).map rowD)), .un, .im (.lst ((good J).map rowD)), .ow ((if decide (j.2 < load J j.2) = true then s ++ [j.2] else s).map Dt.int), .im (.int j.1), .im (.int j.2), .un, .un, .un, .un, .un]) := by
      rw [sIf_a, fCmp_a, fN_a, fAc_a, fLst_a, hc]
      simp only [Option.bind_some, fA0_a, gSum_l, fV_a, getS_s, getS_z, gII_i, bGt_a]
      show _ = some (Fl.nx [_, _, _, _, _, _, .ow ((if decide (j.2 < ((J.filter fun i => decide (i.2 ≤ j.2)).map (·.1)).sum) = true then s ++ [j.2] else s).map Dt.int), _, _, _, _, _, _, _])
      by_cases hl : j.2 < ((J.filter fun i => decide (i.2 ≤ j.2)).map (·.1)).sum
      · simp [hl, hsz]
      · simp [hl]
    rw [turn_nx (ρ1 := [.im (.scr ns), .im (.int w), .im (.tup (J.map en2)), .im (.lst ((every J).map rowD)), .un, .im (.lst ((good J).map rowD)), .ow (s.map Dt.int), .im (.int j.1), .im (.int j.2), .un, .un, .un, .un, .un]) (by simp [en2]) hb]
    rfl)
  have hfl : ∀ (l : List Jb) (s : List Int), l.foldl (fun s j => if decide (j.2 < load J j.2) = true then s ++ [j.2] else s) s = s ++ (l.map (·.2)).filter fun d => decide (d < load J d) := by
    intro l
    induction l with
    | nil => intro s; simp
    | cons j l ih =>
      intro s
      rw [List.foldl_cons, ih, List.map_cons]
      by_cases hl : j.2 < load J j.2
      · rw [List.filter_cons_of_pos (by simpa using hl)]
        simp [hl]
      · rw [List.filter_cons_of_neg (by simpa using hl)]
        simp [hl]
  rw [hfl, List.nil_append] at hf
  have s4 : ((sFor (f1L gItems (fV 2)) (hTup 2 (hCons (hName 7) (hCons (hName 8) hNil))) [true, true, true, true, false, true, true, false, false, false, false, false, false, false]
   (sIf (fCmp (gII bGt) (fN gSum (fAc (fLst (fComp (f1L gItems (fV 2)) (hName 9) (fCmp (gII bLe) (f2 gIx (fV 9) (fC (.int 1))) (fV 8)) (f2 gIx (fV 9) (fC (.int 0))) [9])) fA0)) (fV 8)) (sMut 6 gAppend (fAc (fV 8) fA0)) sNil)) : FnS) [.im (.scr ns), .im (.int w), .im (.tup (J.map en2)), .im (.lst ((every J).map rowD)), .un, .im (.lst ((good J).map rowD)), .ow (([] : List Int).map Dt.int), .un, .un, .un, .un, .un, .un, .un] = some (.nx [.im (.scr ns), .im (.int w), .im (.tup (J.map en2)), .im (.lst ((every J).map rowD)), .un, .im (.lst ((good J).map rowD)), .ow ((lots J).map Dt.int), .un, .un, .un, .un, .un, .un, .un]) := by
    rw [sFor_a]
    simp only [f1L_a, fV_a, getS_s, getS_z, Option.bind_some, gItems_t, clr_t, clr_f, clr_n]
    exact hf
  have hgn : (good J ≠ []) ↔ NoLate J := by
    rw [← good_some hp]
    cases good J <;> simp
  have hln := lots_nil J
  have hgl : (decide ((0 : Int) < (good J).length)) = decide (NoLate J) := by
    refine decide_eq_decide.mpr ?_
    rw [← hgn]
    constructor
    · intro h e; rw [e] at h; simp at h
    · intro h; have := List.length_pos_iff.mpr h; omega
  have hll : (decide (((lots J).length : Int) = 0)) = decide (NoLate J) := by
    refine decide_eq_decide.mpr ?_
    rw [← hln]
    constructor
    · intro h; exact List.length_eq_zero_iff.mp (by omega)
    · intro h; rw [h]; rfl
  have s5 : ((sIf (fOr (fCmp gNe (fOfB (fCmp (gII bGt) (fN gLen (fAc (fV 5) fA0)) (fC (.int 0)))) (fOfB (fCmp gEq (fN gLen (fAc (fVb 6) fA0)) (fC (.int 0))))) (fAnd (fCmp (gII bLt) (fV 1) (fC (.int 2))) (fCmp gNe (fOfB (fCmp (gII bGt) (fN gLen (fAc (fV 5) fA0)) (fC (.int 0)))) (fOfB (fCmp gEq (fV 1) (fC (.int 0))))))) (sRet (fC (.bl false))) sNil) : FnS) [.im (.scr ns), .im (.int w), .im (.tup (J.map en2)), .im (.lst ((every J).map rowD)), .un, .im (.lst ((good J).map rowD)), .ow ((lots J).map Dt.int), .un, .un, .un, .un, .un, .un, .un] = some (.nx [.im (.scr ns), .im (.int w), .im (.tup (J.map en2)), .im (.lst ((every J).map rowD)), .un, .im (.lst ((good J).map rowD)), .ow ((lots J).map Dt.int), .un, .un, .un, .un, .un, .un, .un]) := by
    simp only [sIf_a, fOr_a, fCmp_a, fOfB_a, fN_a, fAc_a, fV_a, fVb_a, getS_s, getS_z, Option.bind_some, fA0_a, gLen_l, List.length_map, gII_i, bGt_a, fC_a, hgl, gEq_i, hll, gNe_b, beq_self_eq_true, Bool.not_true, Bool.false_eq_true, if_false, fAnd_a, bLt_a]
    by_cases h2 : w < 2
    · by_cases h0 : w = 0
      · have := hz0 h0
        simp [h2, h0, this]
      · have := hz1 (by omega)
        simp [h2, h0, this]
    · simp [h2]
  have s6 : ((sIf (fNot (fTru (fFn 2 R_f_law_is (fAc (fFn 1 R_told_sequence (fAc (fV 2) fA0)) (fAc (fIf (fCmp (gII bGt) (fN gLen (fAc (fV 5) fA0)) (fC (.int 0))) (f2 gIx (fV 5) (fC (.int 0))) (fC .non)) fA0))))) (sRet (fC (.bl false))) sNil) : FnS) [.im (.scr ns), .im (.int w), .im (.tup (J.map en2)), .im (.lst ((every J).map rowD)), .un, .im (.lst ((good J).map rowD)), .ow ((lots J).map Dt.int), .un, .un, .un, .un, .un, .un, .un] = some (.nx [.im (.scr ns), .im (.int w), .im (.tup (J.map en2)), .im (.lst ((every J).map rowD)), .un, .im (.lst ((good J).map rowD)), .ow ((lots J).map Dt.int), .un, .un, .un, .un, .un, .un, .un]) := by
    by_cases hn : NoLate J
    · obtain ⟨row, r1, r2⟩ := told_seq_some J (by omega) hp hn
      have hg : ∃ r, good J = row :: r := by
        have : (good J).head? = some row := r1
        cases hq : good J with
        | nil => rw [hq] at this; cases this
        | cons x r => rw [hq] at this; cases this; exact ⟨r, rfl⟩
      obtain ⟨r, hg⟩ := hg
      have hrl : row.length ≤ 1000 := by
        have hm : row ∈ every J := (List.mem_filter.mp (show row ∈ good J by rw [hg]; exact List.mem_cons_self)).1
        rw [(every_row hm).2]; omega
      have hdn := decide_eq_true hn
      simp only [sIf_a, fNot_a, fTru_a, fFn_a, fAc_a, fV_a, getS_s, getS_z, Option.bind_some, fA0_a, List.length_cons, List.length_nil, if_true, r2, fIf_a, fCmp_a, fN_a, gLen_l, List.length_map, fC_a, gII_i, bGt_a, hgl, hdn, f2_a, gIx_l]
      rw [hg]
      simp [is_row row hrl]
    · have r2 := told_seq_non J (by omega) hn
      have hdn := decide_eq_false hn
      simp only [sIf_a, fNot_a, fTru_a, fFn_a, fAc_a, fV_a, getS_s, getS_z, Option.bind_some, fA0_a, List.length_cons, List.length_nil, if_true, r2, fIf_a, fCmp_a, fN_a, gLen_l, List.length_map, fC_a, gII_i, bGt_a, hgl, hdn, Bool.false_eq_true, if_false, is_non', tru_b, Bool.not_true, sNil_a]
  have s7 : ((sIf (fNot (fTru (fFn 2 R_f_law_is (fAc (fFn 1 R_late_lot (fAc (fV 2) fA0)) (fAc (fIf (fCmp (gII bGt) (fN gLen (fAc (fVb 6) fA0)) (fC (.int 0))) (fN gMinD (fAc (fVb 6) fA0)) (fC .non)) fA0))))) (sRet (fC (.bl false))) sNil) : FnS) [.im (.scr ns), .im (.int w), .im (.tup (J.map en2)), .im (.lst ((every J).map rowD)), .un, .im (.lst ((good J).map rowD)), .ow ((lots J).map Dt.int), .un, .un, .un, .un, .un, .un, .un] = some (.nx [.im (.scr ns), .im (.int w), .im (.tup (J.map en2)), .im (.lst ((every J).map rowD)), .un, .im (.lst ((good J).map rowD)), .ow ((lots J).map Dt.int), .un, .un, .un, .un, .un, .un, .un]) := by
    have hl := late_ok J (by omega) (.tup (J.map en2)) rfl
    cases hq : late J with
    | none =>
      have hn := (late_none J).mp hq
      have h0 := hln.mpr hn
      have hD : lateD J = .non := by unfold lateD; rw [hq]
      rw [hD] at hl
      rw [h0]
      simp [hl, is_non']
    | some d =>
      obtain ⟨m1, m2⟩ := late_min J d hq
      have hD : lateD J = .int d := by unfold lateD; rw [hq]
      rw [hD] at hl
      have hm1 : d ∈ lots J := m1
      have hm2 : ∀ y ∈ lots J, d ≤ y := m2
      cases hL : lots J with
      | nil => rw [hL] at hm1; cases hm1
      | cons x l =>
        rw [hL] at hm1 hm2
        have hmin := minLL_ints x l
        rw [foldl_min_is l x d hm1 hm2] at hmin
        simp only [sIf_a, fNot_a, fTru_a, fFn_a, fAc_a, fV_a, fVb_a, getS_s, getS_z, Option.bind_some, fA0_a, List.length_cons, List.length_nil, if_true, hl, fIf_a, fCmp_a, fN_a, gLen_l, List.length_map, fC_a, gII_i, bGt_a]
        have hpos' : decide ((0 : Int) < ((l.length + 1 : Nat) : Int)) = true := decide_eq_true (by omega)
        simp only [hpos', if_true, hmin, Option.bind_some, List.length_cons, List.length_nil, is_int', tru_b, Bool.not_true, Bool.false_eq_true, if_false, sNil_a]
  have s8 : ((sSet 10 (fFn 2 R_f_law_draws (fAc (fFn 2 R_f_law_cell (fAc (fV 0) (fAc (f2 gAdd (fC (.int 3)) (fV 1)) fA0))) (fAc (fC (.int 16)) fA0)))) : FnS) [.im (.scr ns), .im (.int w), .im (.tup (J.map en2)), .im (.lst ((every J).map rowD)), .un, .im (.lst ((good J).map rowD)), .ow ((lots J).map Dt.int), .un, .un, .un, .un, .un, .un, .un] = some (.nx [.im (.scr ns), .im (.int w), .im (.tup (J.map en2)), .im (.lst ((every J).map rowD)), .un, .im (.lst ((good J).map rowD)), .ow ((lots J).map Dt.int), .un, .un, .un, .im (.lst (dl mn)), .un, .un, .un]) := by simp [d1, d2]
  have hg8 := for_fold (gf := (hName 11)) (mk := [true, false, true, true, false, true, false, false, false, false, true, false, false, false]) (F := (sSeq (sSet 12 (f2 gIx (fV 3) (f2 (gI cMod Int.fmod) (fN gInt (fAc (f2 gIx (fV 10) (fV 11)) fA0)) (fN gLen (fAc (fV 3) fA0)))))
  (sSeq (sIf (fAnd (fCmp (gII bLt) (fV 11) (fC (.int 5))) (fCmp (gII bGt) (fN gLen (fAc (fV 5) fA0)) (fC (.int 0)))) (sSet 12 (f2 gIx (fV 5) (f2 (gI cMod Int.fmod) (fN gInt (fAc (f2 gIx (fV 10) (fV 11)) fA0)) (fN gLen (fAc (fV 5) fA0))))) sNil)
  (sSeq (sSet 13 (fIf (fCmp (gII bLt) (fV 11) (fC (.int 3))) (fV 12) (fFn 3 R_f_law_bent (fAc (fV 12) (fAc (fSl (fV 10) (fPart (f2 gMinus (f2 gAdd (fC (.int 8)) (fV 11)) (fC (.int 3)))) (fPart (f2 gMinus (f2 gAdd (fC (.int 11)) (fV 11)) (fC (.int 3))))) (fAc (fN gLen (fAc (fV 2) fA0)) fA0))))))
  (sIf (fNot (fTru (fFn 2 R_f_law_is (fAc (fFn 2 R_is_sequence (fAc (fV 2) (fAc (fV 13) fA0))) (fAc (fFn 2 R_f_law_sequence (fAc (fV 2) (fAc (fV 13) fA0))) fA0))))) (sRet (fC (.bl false))) sNil))))) Dt.int (fun _ : Unit => [.im (.scr ns), .un, .im (.tup (J.map en2)), .im (.lst ((every J).map rowD)), .un, .im (.lst ((good J).map rowD)), .un, .un, .un, .un, .im (.lst (dl mn)), .un, .un, .un]) (fun _ _ => ()) (fun _ xs => ∀ j ∈ xs, 0 ≤ j ∧ j < 8) (rgI 0 8) () (fun j hj => by rw [mem_rgI] at hj; omega) (fun _ t r hh => by
    have ht := hh t List.mem_cons_self
    exact ⟨law_turn8 ns J hJ mn d3' t ht.1 ht.2, fun j hj => hh j (List.mem_cons_of_mem _ hj)⟩)
  have s9 : ((sFor (fNL gRng1 (fAc (fC (.int 8)) fA0)) (hName 11) [true, false, true, true, false, true, false, false, false, false, true, false, false, false]
   (sSeq (sSet 12 (f2 gIx (fV 3) (f2 (gI cMod Int.fmod) (fN gInt (fAc (f2 gIx (fV 10) (fV 11)) fA0)) (fN gLen (fAc (fV 3) fA0)))))
  (sSeq (sIf (fAnd (fCmp (gII bLt) (fV 11) (fC (.int 5))) (fCmp (gII bGt) (fN gLen (fAc (fV 5) fA0)) (fC (.int 0)))) (sSet 12 (f2 gIx (fV 5) (f2 (gI cMod Int.fmod) (fN gInt (fAc (f2 gIx (fV 10) (fV 11)) fA0)) (fN gLen (fAc (fV 5) fA0))))) sNil)
  (sSeq (sSet 13 (fIf (fCmp (gII bLt) (fV 11) (fC (.int 3))) (fV 12) (fFn 3 R_f_law_bent (fAc (fV 12) (fAc (fSl (fV 10) (fPart (f2 gMinus (f2 gAdd (fC (.int 8)) (fV 11)) (fC (.int 3)))) (fPart (f2 gMinus (f2 gAdd (fC (.int 11)) (fV 11)) (fC (.int 3))))) (fAc (fN gLen (fAc (fV 2) fA0)) fA0))))))
  (sIf (fNot (fTru (fFn 2 R_f_law_is (fAc (fFn 2 R_is_sequence (fAc (fV 2) (fAc (fV 13) fA0))) (fAc (fFn 2 R_f_law_sequence (fAc (fV 2) (fAc (fV 13) fA0))) fA0))))) (sRet (fC (.bl false))) sNil))))) : FnS) [.im (.scr ns), .im (.int w), .im (.tup (J.map en2)), .im (.lst ((every J).map rowD)), .un, .im (.lst ((good J).map rowD)), .ow ((lots J).map Dt.int), .un, .un, .un, .im (.lst (dl mn)), .un, .un, .un] = some (.nx [.im (.scr ns), .un, .im (.tup (J.map en2)), .im (.lst ((every J).map rowD)), .un, .im (.lst ((good J).map rowD)), .un, .un, .un, .un, .im (.lst (dl mn)), .un, .un, .un]) := by
    have hr : (fNL gRng1 (fAc (fC (.int 8)) fA0)) [.im (.scr ns), .im (.int w), .im (.tup (J.map en2)), .im (.lst ((every J).map rowD)), .un, .im (.lst ((good J).map rowD)), .ow ((lots J).map Dt.int), .un, .un, .un, .im (.lst (dl mn)), .un, .un, .un] = some ((rgI 0 8).map Dt.int) := by
      simp [rng1_of (j := 8) (by omega) (by omega)]
    rw [sFor_a, hr, Option.bind_some]
    simp only [clr_t, clr_f, clr_n]
    exact hg8
  rw [turn_nx (ρ2 := [.im (.scr ns), .un, .im (.tup (J.map en2)), .im (.lst ((every J).map rowD)), .un, .im (.lst ((good J).map rowD)), .un, .un, .un, .un, .im (.lst (dl mn)), .un, .un, .un]) (hName_a 1 _ _) (by
    simp only [setS_s, setS_z]
    rw [sSeq_nx s0, sSeq_nx s1, sSeq_nx s2, sSeq_nx (ρ' := [.im (.scr ns), .im (.int w), .im (.tup (J.map en2)), .im (.lst ((every J).map rowD)), .un, .im (.lst ((good J).map rowD)), .ow (([] : List Int).map Dt.int), .un, .un, .un, .un, .un, .un, .un]) (by simp), sSeq_nx s4, sSeq_nx s5, sSeq_nx s6, sSeq_nx s7, sSeq_nx s8]
    exact s9)]
  rfl
theorem law_true (ns : List Int) (hl : ns.length ≤ 63) : R_law [.scr ns] = some (.bl true) := by
  unfold R_law
  rw [runF_a]
  unfold F_law
  have loop := for_fold (gf := (hName 1)) (mk := [true, false, false, false, false, false, false, false, false, false, false, false, false, false]) (F := (sSeq (sSet 2 (fFn 2 R_f_law_jobs (fAc (fFn 2 R_f_law_draws (fAc (fFn 2 R_f_law_cell (fAc (fV 0) (fAc (fV 1) fA0))) (fAc (fC (.int 18)) fA0))) (fAc (fV 1) fA0))))
  (sSeq (sSet 3 (fFn 1 R_f_law_orders (fAc (fTR (fR1 (fN gLen (fAc (fV 2) fA0)))) fA0)))
  (sSeq (sSet 5 (fLst (fComp (f1L gItems (fV 3)) (hName 4) (fTru (fFn 2 R_f_law_sequence (fAc (fV 2) (fAc (fV 4) fA0)))) (fV 4) [4])))
  (sSeq (sSetF 6 (fLstL fA0))
  (sSeq (sFor (f1L gItems (fV 2)) (hTup 2 (hCons (hName 7) (hCons (hName 8) hNil))) [true, true, true, true, false, true, true, false, false, false, false, false, false, false]
   (sIf (fCmp (gII bGt) (fN gSum (fAc (fLst (fComp (f1L gItems (fV 2)) (hName 9) (fCmp (gII bLe) (f2 gIx (fV 9) (fC (.int 1))) (fV 8)) (f2 gIx (fV 9) (fC (.int 0))) [9])) fA0)) (fV 8)) (sMut 6 gAppend (fAc (fV 8) fA0)) sNil))
  (sSeq (sIf (fOr (fCmp gNe (fOfB (fCmp (gII bGt) (fN gLen (fAc (fV 5) fA0)) (fC (.int 0)))) (fOfB (fCmp gEq (fN gLen (fAc (fVb 6) fA0)) (fC (.int 0))))) (fAnd (fCmp (gII bLt) (fV 1) (fC (.int 2))) (fCmp gNe (fOfB (fCmp (gII bGt) (fN gLen (fAc (fV 5) fA0)) (fC (.int 0)))) (fOfB (fCmp gEq (fV 1) (fC (.int 0))))))) (sRet (fC (.bl false))) sNil)
  (sSeq (sIf (fNot (fTru (fFn 2 R_f_law_is (fAc (fFn 1 R_told_sequence (fAc (fV 2) fA0)) (fAc (fIf (fCmp (gII bGt) (fN gLen (fAc (fV 5) fA0)) (fC (.int 0))) (f2 gIx (fV 5) (fC (.int 0))) (fC .non)) fA0))))) (sRet (fC (.bl false))) sNil)
  (sSeq (sIf (fNot (fTru (fFn 2 R_f_law_is (fAc (fFn 1 R_late_lot (fAc (fV 2) fA0)) (fAc (fIf (fCmp (gII bGt) (fN gLen (fAc (fVb 6) fA0)) (fC (.int 0))) (fN gMinD (fAc (fVb 6) fA0)) (fC .non)) fA0))))) (sRet (fC (.bl false))) sNil)
  (sSeq (sSet 10 (fFn 2 R_f_law_draws (fAc (fFn 2 R_f_law_cell (fAc (fV 0) (fAc (f2 gAdd (fC (.int 3)) (fV 1)) fA0))) (fAc (fC (.int 16)) fA0))))
  (sFor (fNL gRng1 (fAc (fC (.int 8)) fA0)) (hName 11) [true, false, true, true, false, true, false, false, false, false, true, false, false, false]
   (sSeq (sSet 12 (f2 gIx (fV 3) (f2 (gI cMod Int.fmod) (fN gInt (fAc (f2 gIx (fV 10) (fV 11)) fA0)) (fN gLen (fAc (fV 3) fA0)))))
  (sSeq (sIf (fAnd (fCmp (gII bLt) (fV 11) (fC (.int 5))) (fCmp (gII bGt) (fN gLen (fAc (fV 5) fA0)) (fC (.int 0)))) (sSet 12 (f2 gIx (fV 5) (f2 (gI cMod Int.fmod) (fN gInt (fAc (f2 gIx (fV 10) (fV 11)) fA0)) (fN gLen (fAc (fV 5) fA0))))) sNil)
  (sSeq (sSet 13 (fIf (fCmp (gII bLt) (fV 11) (fC (.int 3))) (fV 12) (fFn 3 R_f_law_bent (fAc (fV 12) (fAc (fSl (fV 10) (fPart (f2 gMinus (f2 gAdd (fC (.int 8)) (fV 11)) (fC (.int 3)))) (fPart (f2 gMinus (f2 gAdd (fC (.int 11)) (fV 11)) (fC (.int 3))))) (fAc (fN gLen (fAc (fV 2) fA0)) fA0))))))
  (sIf (fNot (fTru (fFn 2 R_f_law_is (fAc (fFn 2 R_is_sequence (fAc (fV 2) (fAc (fV 13) fA0))) (fAc (fFn 2 R_f_law_sequence (fAc (fV 2) (fAc (fV 13) fA0))) fA0))))) (sRet (fC (.bl false))) sNil))))))))))))))) Dt.int (fun _ : Unit => [.im (.scr ns), .un, .un, .un, .un, .un, .un, .un, .un, .un, .un, .un, .un, .un]) (fun _ _ => ()) (fun _ xs => ∀ k ∈ xs, 0 ≤ k ∧ k < 3) (rgI 0 3) () (fun j hj => by rw [mem_rgI] at hj; omega) (fun _ k r h => by
    have hk := h k List.mem_cons_self
    exact ⟨law_turn ns k hk.1 hk.2, fun j hj => h j (List.mem_cons_of_mem _ hj)⟩)
  have hr : (fNL gRng1 (fAc (fC (.int 3)) fA0)) [.im (.scr ns), .un, .un, .un, .un, .un, .un, .un, .un, .un, .un, .un, .un, .un] = some ((rgI 0 3).map Dt.int) := by
    simp [rng1_of (j := 3) (by omega) (by omega)]
  show Option.bind (sSeq _ _ [.im (.scr ns), .un, .un, .un, .un, .un, .un, .un, .un, .un, .un, .un, .un, .un]) endOf = _
  rw [sSeq_nx (ρ' := [.im (.scr ns), .un, .un, .un, .un, .un, .un, .un, .un, .un, .un, .un, .un, .un]) (by
    rw [sFor_a, hr, Option.bind_some]
    simp only [clr_t, clr_f, clr_n]
    exact loop)]
  rfl
end LK
end

section
set_option Elab.async false
set_option maxRecDepth 100000
open PySem PySem.W PyProof.Rows
set_option maxHeartbeats 0 in
theorem PySem.Challenge.cw_breadward_k32_whole_sequences_or_a_late_holds : PySem.Challenge.rw_breadward_k32_whole_sequences_or_a_late.Holds := by
  w_on; o_law; k_head; (case hw => w_witness2)
  k_fill
  refine L2.walk_of (l := PySem.Challenge.rw_breadward_k32_whole_sequences_or_a_late) (n := 63) (k := 8) (x := "script") (CX := fun _ => L2.CX0) (sp := fun w => EL.spOf [] _ 1 LK.R_law) rfl (by decide) rfl ⟨rfl, by decide, by decide⟩ (fun w h Y => PySem.W.kIn_of Y) ?F (fun _ _ a ns hl hO hS => EL.sp_end hO hS (LK.law_true ns hl)) (fun _ _ _ _ _ h => h)
  case F =>
    intro w mg fa h KX G hmg
    refine' LK.law_end KX G hmg ?a0 ?l0 ?c0 ?k0 ?a1 ?l1 ?c1 ?k1 ?a2 ?l2 ?c2 ?k2 ?a3 ?l3 ?c3 ?k3 ?a4 ?l4 ?c4 ?k4 ?a5 ?l5 ?c5 ?k5 ?a6 ?l6 ?c6 ?k6 ?a7 ?l7 ?c7 ?k7 ?a8 ?l8 ?c8 ?k8 ?a9 ?l9 ?c9 ?k9 ?a10 ?l10 ?c10 ?k10 ?a11 ?l11 ?c11 ?k11 ?z0 ?z1 ?z2 ?z3 ?z4 ?z5 ?z6 ?z7 ?z8 ?z9 ?z10 ?z11 ?z12 ?z13
    (case a0 => k_is)
    (case l0 => k_is)
    (case c0 => k_is)
    (case k0 => k_is)
    (case a1 => k_is)
    (case l1 => k_is)
    (case c1 => k_is)
    (case k1 => k_is)
    (case a2 => k_is)
    (case l2 => k_is)
    (case c2 => k_is)
    (case k2 => k_is)
    (case a3 => k_is)
    (case l3 => k_is)
    (case c3 => k_is)
    (case k3 => k_is)
    (case a4 => k_is)
    (case l4 => k_is)
    (case c4 => k_is)
    (case k4 => k_is)
    (case a5 => k_is)
    (case l5 => k_is)
    (case c5 => k_is)
    (case k5 => k_is)
    (case a6 => k_is)
    (case l6 => k_is)
    (case c6 => k_is)
    (case k6 => k_is)
    (case a7 => k_is)
    (case l7 => k_is)
    (case c7 => k_is)
    (case k7 => k_is)
    (case a8 => k_is)
    (case l8 => k_is)
    (case c8 => k_is)
    (case k8 => k_is)
    (case a9 => k_is)
    (case l9 => k_is)
    (case c9 => k_is)
    (case k9 => k_is)
    (case a10 => k_is)
    (case l10 => k_is)
    (case c10 => k_is)
    (case k10 => k_is)
    (case a11 => k_is)
    (case l11 => k_is)
    (case c11 => k_is)
    (case k11 => k_is)
    (case z0 => k_is)
    (case z1 => k_is)
    (case z2 => k_is)
    (case z3 => k_is)
    (case z4 => k_is)
    (case z5 => k_is)
    (case z6 => k_is)
    (case z7 => k_is)
    (case z8 => k_is)
    (case z9 => k_is)
    (case z10 => k_is)
    (case z11 => k_is)
    (case z12 => k_is)
    (case z13 => k_is)
end
