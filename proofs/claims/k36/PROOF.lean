import PyProof.Rows.All
import HandS.ForMost
import HandS.AnyAll
import HandS.TupAny
import HandS.IsInst
import HandS.Deep
import HandS.TupMul
import HandS.TupLe
import KE.LtData
import KE.DataCmp
import HandS.SortInts
import HandS.Conv
import HandS.Zip
import HandS.Rev
import HandS.RevRange
import HandS.Comp
import HandS.More
import HandS.Gcd
import HandS.Style
import KE.DataMinMax
import PyProof.Rows.RowBridgeK
import PyProof.TupleOfSeq
import HandS.SetFor
import HandS.Strs
import HandS.GenList
import HandS.Nested
import HandS.EndOwn
import KE.GoesMore
import KE.GoesEnum
import HandS.Iter
import HandS.SortKw
import HandS.TupSets
import KE.DatumOrd
import HandS.Dict
import KE.SortData
import KE.KOwnCellsLaws
import HandS.WordsDict
import PySem.Challenge.RW_breadward_k36_whole_floors_that_are_turn
set_option linter.all false
section
set_option Elab.async false
set_option maxRecDepth 100000
/-! EL base: data, what stands for data in an abstract heap, slots. -/
namespace EL
open PySem PySem.Spec PyProof.Rows L2

/-- plain data -/
inductive Dt where
  | non | bl (b : Bool) | int (i : Int) | str (s : Str) | tup (xs : List Dt) | lst (xs : List Dt) | scr (ns : List Int)
  /-- dicts: keys ints and texts, or tuples of these; the values -/
  | dcK (ks : List Key) (xs : List Dt) | dcT (ks : List (List Key)) (xs : List Dt)
  deriving Inhabited

abbrev NoW : Addr → Prop := fun _ => False

/-- the script: locked, or of the written part -/
def Scr (K : PySem.W.Frag) (H : Hp) (a : Addr) (ns : List Int) : Prop :=
  (∃ o, H a = some (.frz o (.lst (ns.map V.int)))) ∨
  ∃ (o : Obj) (its : Array Value) (n : Nat), K.lookup a = some o ∧ o.cls = .type "list" ∧ o.dict = none ∧ o.data = .seq its n ∧ its.size ≤ sizeLine ∧ Vals (ns.map V.int) its.toList
theorem Scr.sq {K : PySem.W.Frag} {H : Hp} {a : Addr} {ns : List Int} (h : Scr K H a ns) : SqL K H a (ns.map V.int) := by
  rcases h with ⟨o, h⟩ | h
  · exact .inl (.inr ⟨o, h⟩)
  · exact .inr h

/-- what may change: lists and dicts -/
def isMu : HO → Bool
  | .lst _ => true
  | .dK _ => true
  | .dT _ => true
  | _ => false
abbrev MuH := { o : HO // isMu o = true }
abbrev muL (xs : List V) : MuH := ⟨.lst xs, rfl⟩
theorem MuH.ntup (x : MuH) {o : Option HO} (h : o = some x.1) {xs : List V} (e : o = some (.tup xs)) : False := by
  rw [h] at e; have := x.2; rw [Option.some.inj e] at this; exact Bool.noConfusion this
theorem MuH.nfrz (x : MuH) {o : Option HO} (h : o = some x.1) {p : Obj} {u : HO} (e : o = some (.frz p u)) : False := by
  rw [h] at e; have := x.2; rw [Option.some.inj e] at this; exact Bool.noConfusion this
mutual
/-- v stands for d; the lists that it goes through are none of W -/
inductive Rep (K : PySem.W.Frag) (H : Hp) (W : Addr → Prop) : V → Dt → Prop
  | non : Rep K H W .non .non
  | bl (b : Bool) : Rep K H W (.bl b) (.bl b)
  | int (i : Int) : Rep K H W (.int i) (.int i)
  | str (x : Str) : Rep K H W (.str x) (.str x)
  | tup {a : Addr} {xs : List V} {ds : List Dt} : H a = some (.tup xs) → RepA K H W xs ds → Rep K H W (.ref a) (.tup ds)
  | lst {a : Addr} {xs : List V} {ds : List Dt} : H a = some (.lst xs) → ¬ W a → RepA K H W xs ds → Rep K H W (.ref a) (.lst ds)
  | scr {a : Addr} {ns : List Int} : Scr K H a ns → Rep K H W (.ref a) (.scr ns)
  | dcK {a : Addr} {ks : List Key} {xs : List V} {ds : List Dt} : H a = some (.dK (ks.zip xs)) → ¬ W a → ks.length = xs.length → RepA K H W xs ds → Rep K H W (.ref a) (.dcK ks ds)
  | dcT {a : Addr} {ks : List (List Key)} {xs : List V} {ds : List Dt} : H a = some (.dT (ks.zip xs)) → ¬ W a → ks.length = xs.length → RepA K H W xs ds → Rep K H W (.ref a) (.dcT ks ds)
inductive RepA (K : PySem.W.Frag) (H : Hp) (W : Addr → Prop) : List V → List Dt → Prop
  | nil : RepA K H W [] []
  | cons {v : V} {d : Dt} {vs : List V} {ds : List Dt} : Rep K H W v d → RepA K H W vs ds → RepA K H W (v :: vs) (d :: ds)
end

def nt : HO → Bool
  | .tbl _ => false
  | _ => true
theorem nt_mu (x : MuH) : nt x.1 = true := by
  obtain ⟨o, h⟩ := x
  cases o <;> first | rfl | cases h
/-- all that stood stands (tables of code objects may grow) -/
structure Ext (H H' : Hp) : Prop where
  keep : ∀ b o, H b = some o → nt o = true → H' b = some o
  there : ∀ b, H' b = none → H b = none
theorem Ext.refl (H : Hp) : Ext H H := ⟨fun _ _ h _ => h, fun _ h => h⟩
theorem Ext.trans {H H1 H2 : Hp} (a : Ext H H1) (b : Ext H1 H2) : Ext H H2 := ⟨fun c o h n => b.keep c o (a.keep c o h n) n, fun c h => a.there c (b.there c h)⟩
theorem Ext.new {H : Hp} {p : Addr} {o : HO} (h : H p = none) : Ext H (upd H p o) := ⟨fun b u e _ => by
  rw [upd_ne (ne_of_none e h)]; exact e, fun b e => by
  by_cases hb : b = p
  · rw [hb]; exact h
  · rw [upd_ne hb] at e; exact e⟩

/-- lists outside W, tuples and what is locked stand as they stood -/
structure KeepW (W : Addr → Prop) (H H' : Hp) : Prop where
  tup : ∀ b xs, H b = some (.tup xs) → H' b = some (.tup xs)
  frz : ∀ b o u, H b = some (.frz o u) → H' b = some (.frz o u)
  mu : ∀ b (o : MuH), H b = some o.1 → ¬ W b → H' b = some o.1
theorem Ext.kw {W : Addr → Prop} {H H' : Hp} (e : Ext H H') : KeepW W H H' := ⟨fun b xs h => e.keep b _ h rfl, fun b o u h => e.keep b _ h rfl, fun b xs h _ => e.keep b _ h (nt_mu xs)⟩
/-- a list of W is changed -/
theorem KeepW.set {W : Addr → Prop} {H : Hp} {p : Addr} {o : HO} {vs : MuH} (h : H p = some vs.1) (w : W p) : KeepW W H (upd H p o) :=
  ⟨fun b xs e => by rw [upd_ne (fun z => by subst z; exact vs.ntup h e)]; exact e, fun b o u e => by rw [upd_ne (fun z => by subst z; exact vs.nfrz h e)]; exact e,
   fun b xs e n => by rw [upd_ne (fun z => n (by rw [z]; exact w))]; exact e⟩

section
variable {K : PySem.W.Frag} {H H' : Hp} {W W' : Addr → Prop}
theorem Scr.keep {a : Addr} {ns : List Int} (k : KeepW W H H') (h : Scr K H a ns) : Scr K H' a ns := by
  rcases h with ⟨o, h⟩ | h
  · exact .inl ⟨o, k.frz _ _ _ h⟩
  · exact .inr h
mutual
theorem Rep.keep (k : KeepW W H H') (hw : ∀ a (xs : MuH), H a = some xs.1 → W' a → W a) : ∀ {v : V} {d : Dt}, Rep K H W v d → Rep K H' W' v d
  | _, _, .non => .non
  | _, _, .bl b => .bl b
  | _, _, .int i => .int i
  | _, _, .str x => .str x
  | _, _, .tup h r => .tup (k.tup _ _ h) (RepA.keep k hw r)
  | _, _, .lst h n r => .lst (k.mu _ ⟨.lst _, rfl⟩ h n) (fun z => n (hw _ ⟨.lst _, rfl⟩ h z)) (RepA.keep k hw r)
  | _, _, .scr h => .scr (h.keep k)
  | _, _, .dcK h n l r => .dcK (k.mu _ ⟨.dK _, rfl⟩ h n) (fun z => n (hw _ ⟨.dK _, rfl⟩ h z)) l (RepA.keep k hw r)
  | _, _, .dcT h n l r => .dcT (k.mu _ ⟨.dT _, rfl⟩ h n) (fun z => n (hw _ ⟨.dT _, rfl⟩ h z)) l (RepA.keep k hw r)
theorem RepA.keep (k : KeepW W H H') (hw : ∀ a (xs : MuH), H a = some xs.1 → W' a → W a) : ∀ {vs : List V} {ds : List Dt}, RepA K H W vs ds → RepA K H' W' vs ds
  | _, _, .nil => .nil
  | _, _, .cons h r => .cons (Rep.keep k hw h) (RepA.keep k hw r)
end
theorem Rep.ext {v : V} {d : Dt} (h : Rep K H W v d) (e : Ext H H') : Rep K H' W v d := h.keep e.kw fun _ _ _ z => z
theorem RepA.ext {vs : List V} {ds : List Dt} (h : RepA K H W vs ds) (e : Ext H H') : RepA K H' W vs ds := h.keep e.kw fun _ _ _ z => z
theorem Rep.sub {v : V} {d : Dt} (h : Rep K H W v d) (hw : ∀ a (xs : MuH), H a = some xs.1 → W' a → W a) : Rep K H W' v d := h.keep (Ext.refl H).kw hw
theorem RepA.sub {vs : List V} {ds : List Dt} (h : RepA K H W vs ds) (hw : ∀ a (xs : MuH), H a = some xs.1 → W' a → W a) : RepA K H W' vs ds := h.keep (Ext.refl H).kw hw
theorem Rep.loose {v : V} {d : Dt} (h : Rep K H W v d) : Rep K H NoW v d := h.sub fun _ _ _ z => z.elim
theorem RepA.loose {vs : List V} {ds : List Dt} (h : RepA K H W vs ds) : RepA K H NoW vs ds := h.sub fun _ _ _ z => z.elim
theorem RepA.newp {p : Addr} {o : HO} {vs : List V} {ds : List Dt} (h : RepA K H W vs ds) (hp : H p = none) : RepA K (upd H p o) (fun a => W a ∨ a = p) vs ds := h.keep (Ext.new hp).kw fun a xs e z => by
  rcases z with z | z
  · exact z
  · rw [z, hp] at e; cases e
theorem RepA.length : ∀ {vs : List V} {ds : List Dt}, RepA K H W vs ds → vs.length = ds.length
  | _, _, .nil => rfl
  | _, _, .cons _ r => by rw [List.length_cons, List.length_cons, RepA.length r]
theorem RepA.get : ∀ {vs : List V} {ds : List Dt} {i : Nat} {d : Dt}, RepA K H W vs ds → ds[i]? = some d → ∃ v, vs[i]? = some v ∧ Rep K H W v d
  | _, _, _, _, .nil, e => by simp at e
  | _, _, 0, _, .cons h _, e => by simp at e; subst e; exact ⟨_, rfl, h⟩
  | _, _, i + 1, d, .cons _ r, e => by
    obtain ⟨v, h1, h2⟩ := RepA.get (i := i) (d := d) r (by simpa using e)
    exact ⟨v, by simpa using h1, h2⟩
theorem RepA.append : ∀ {vs ws : List V} {ds es : List Dt}, RepA K H W vs ds → RepA K H W ws es → RepA K H W (vs ++ ws) (ds ++ es)
  | _, _, _, _, .nil, s => s
  | _, _, _, _, .cons h r, s => .cons h (RepA.append r s)
theorem RepA.take : ∀ {vs : List V} {ds : List Dt} (n : Nat), RepA K H W vs ds → RepA K H W (vs.take n) (ds.take n)
  | _, _, 0, _ => .nil
  | _, _, _ + 1, .nil => .nil
  | _, _, n + 1, .cons h r => .cons h (RepA.take n r)
theorem RepA.drop : ∀ {vs : List V} {ds : List Dt} (n : Nat), RepA K H W vs ds → RepA K H W (vs.drop n) (ds.drop n)
  | _, _, 0, r => r
  | _, _, _ + 1, .nil => .nil
  | _, _, n + 1, .cons _ r => RepA.drop n r
theorem RepA.set {v : V} {d : Dt} (h : Rep K H W v d) : ∀ {vs : List V} {ds : List Dt} (i : Nat), RepA K H W vs ds → RepA K H W (vs.set i v) (ds.set i d)
  | _, _, _, .nil => .nil
  | _, _, 0, .cons _ r => .cons h r
  | _, _, i + 1, .cons q r => .cons q (RepA.set h i r)
theorem RepA.reverse {vs : List V} {ds : List Dt} (h : RepA K H W vs ds) : RepA K H W vs.reverse ds.reverse := by
  induction vs generalizing ds with
  | nil => cases h; exact .nil
  | cons v vs ih =>
    cases h with
    | cons h r =>
      rw [List.reverse_cons, List.reverse_cons]
      exact (ih r).append (.cons h .nil)
theorem RepA.one {v : V} {d : Dt} (h : Rep K H W v d) : RepA K H W [v] [d] := .cons h .nil
theorem RepA.ints : ∀ {vs : List V} {ns : List Int}, RepA K H W vs (ns.map Dt.int) → vs = ns.map V.int
  | _, [], h => by cases h; rfl
  | _, n :: ns, h => by
    cases h with
    | cons h r => cases h; rw [RepA.ints r]; rfl
theorem repA_ints : ∀ (ns : List Int), RepA K H W (ns.map V.int) (ns.map Dt.int)
  | [] => .nil
  | n :: ns => .cons (.int n) (repA_ints ns)
end

/-! data in which no list stands -/
mutual
def Dt.free : Dt → Bool
  | .tup xs => Dt.freeA xs
  | .lst _ => false
  | .dcK _ _ => false
  | .dcT _ _ => false
  | _ => true
def Dt.freeA : List Dt → Bool
  | [] => true
  | x :: xs => x.free && Dt.freeA xs
end
section
variable {K : PySem.W.Frag} {H : Hp} {W W' : Addr → Prop}
mutual
theorem Rep.free : ∀ {d : Dt} {v : V}, Rep K H W v d → d.free = true → Rep K H W' v d
  | _, _, .non, _ => .non
  | _, _, .bl b, _ => .bl b
  | _, _, .int i, _ => .int i
  | _, _, .str x, _ => .str x
  | _, _, .tup h r, e => .tup h (RepA.free r (by simpa [Dt.free] using e))
  | _, _, .lst h n r, e => by simp [Dt.free] at e
  | _, _, .dcK h n l r, e => by simp [Dt.free] at e
  | _, _, .dcT h n l r, e => by simp [Dt.free] at e
  | _, _, .scr h, _ => .scr h
theorem RepA.free : ∀ {ds : List Dt} {vs : List V}, RepA K H W vs ds → Dt.freeA ds = true → RepA K H W' vs ds
  | _, _, .nil, _ => .nil
  | _, _, .cons h r, e => by
    have e' := Bool.and_eq_true_iff.mp (show (_ && _) = true from by simpa [Dt.freeA] using e)
    exact .cons (Rep.free h e'.1) (RepA.free r e'.2)
end
end

/-- what holds of every heap here: no list or tuple is too long, the tables at T are there -/
def Gd (T : List Addr) (H : Hp) : Prop := (∀ a xs, H a = some (.lst xs) ∨ H a = some (.tup xs) → xs.length ≤ sizeLine) ∧ ∀ P ∈ T, GxR.TabG H P
section
variable {T : List Addr} {H : Hp} {p : Addr}
theorem Gd.put {o : HO} (g : Gd T H) (hp : ∀ ps, H p ≠ some (.tbl ps)) (ho : ∀ xs, o = .lst xs ∨ o = .tup xs → xs.length ≤ sizeLine) : Gd T (upd H p o) := by
  refine ⟨fun a xs h => ?_, fun P hP => ?_⟩
  · by_cases e : a = p
    · subst e
      rw [upd_same] at h
      refine ho xs ?_
      rcases h with h | h
      · exact .inl (Option.some.inj h)
      · exact .inr (Option.some.inj h)
    · rw [upd_ne e] at h
      exact g.1 a xs h
  · obtain ⟨ps, e, t⟩ := g.2 P hP
    refine ⟨ps, ?_, t⟩
    rw [upd_ne (fun z => by rw [z] at e; exact hp ps e)]
    exact e
theorem Gd.newL {xs : List V} (g : Gd T H) (hp : H p = none) (hx : xs.length ≤ sizeLine) : Gd T (upd H p (.lst xs)) := g.put (fun ps e => by rw [hp] at e; cases e) fun ys h => by
  rcases h with h | h
  · cases h; exact hx
  · cases h
theorem Gd.newT {xs : List V} (g : Gd T H) (hp : H p = none) (hx : xs.length ≤ sizeLine) : Gd T (upd H p (.tup xs)) := g.put (fun ps e => by rw [hp] at e; cases e) fun ys h => by
  rcases h with h | h
  · cases h
  · cases h; exact hx
theorem Gd.setL {xs ys : List V} (g : Gd T H) (hp : H p = some (.lst ys)) (hx : xs.length ≤ sizeLine) : Gd T (upd H p (.lst xs)) := g.put (fun ps e => by rw [hp] at e; cases e) fun ys h => by
  rcases h with h | h
  · cases h; exact hx
  · cases h
end

/-! ### slots -/
inductive Sl where
  | un | im (d : Dt) | ow (ds : List Dt) | od (d : Dt)
  deriving Inhabited
abbrev Rho := List Sl
def getS : Rho → Nat → Sl
  | [], _ => .un
  | s :: _, 0 => s
  | _ :: r, n + 1 => getS r n
def setS : Rho → Nat → Sl → Rho
  | [], _, _ => []
  | _ :: r, 0, x => x :: r
  | s :: r, n + 1, x => s :: setS r n x
theorem setS_length : ∀ (ρ : Rho) (i : Nat) (x : Sl), (setS ρ i x).length = ρ.length
  | [], _, _ => rfl
  | _ :: _, 0, _ => rfl
  | _ :: r, n + 1, x => by show (setS r n x).length + 1 = r.length + 1; rw [setS_length r n x]
theorem getS_set_same : ∀ {ρ : Rho} {i : Nat} {x : Sl}, i < ρ.length → getS (setS ρ i x) i = x
  | [], _, _, h => by simp at h
  | _ :: _, 0, _, _ => rfl
  | _ :: r, n + 1, x, h => getS_set_same (ρ := r) (i := n) (by simpa using h)
theorem getS_set_ne : ∀ {ρ : Rho} {i j : Nat} {x : Sl}, j ≠ i → getS (setS ρ i x) j = getS ρ j
  | [], _, _, _, _ => rfl
  | _ :: _, 0, 0, _, h => absurd rfl h
  | _ :: _, 0, _ + 1, _, _ => rfl
  | _ :: _, _ + 1, 0, _, _ => rfl
  | _ :: r, n + 1, j + 1, x, h => getS_set_ne (ρ := r) (i := n) (j := j) (by omega)
theorem getS_out : ∀ {ρ : Rho} {i : Nat}, ρ.length ≤ i → getS ρ i = .un
  | [], _, _ => rfl
  | _ :: _, 0, h => by simp at h
  | _ :: r, n + 1, h => getS_out (ρ := r) (by simpa using h)
theorem getS_lt {ρ : Rho} {i : Nat} (h : getS ρ i ≠ .un) : i < ρ.length := by
  rcases Nat.lt_or_ge i ρ.length with q | q
  · exact q
  · exact absurd (getS_out q) h

/-- what an owning slot owns -/
def ownd : Sl → Option Dt
  | .ow ds => some (.lst ds)
  | .od d => some d
  | _ => none
theorem ownd_ow {ρ : Rho} {i : Nat} {ds : List Dt} (h : getS ρ i = .ow ds) : ownd (getS ρ i) = some (.lst ds) := by rw [h]; rfl
theorem ownd_od {ρ : Rho} {i : Nat} {d : Dt} (h : getS ρ i = .od d) : ownd (getS ρ i) = some d := by rw [h]; rfl
theorem ownd_lt {ρ : Rho} {i : Nat} {d : Dt} (h : ownd (getS ρ i) = some d) : i < ρ.length := getS_lt fun z => by rw [z] at h; cases h
/-- the thing at a stands for d (a list, a dict) -/
def ORep (K : PySem.W.Frag) (H : Hp) (W : Addr → Prop) (a : Addr) : Dt → Prop
  | .lst ds => ∃ vs, H a = some (.lst vs) ∧ RepA K H W vs ds
  | .dcK ks ds => ∃ vs, H a = some (.dK (ks.zip vs)) ∧ ks.length = vs.length ∧ RepA K H W vs ds
  | .dcT ks ds => ∃ vs, H a = some (.dT (ks.zip vs)) ∧ ks.length = vs.length ∧ RepA K H W vs ds
  | _ => False
theorem ORep.mu {K : PySem.W.Frag} {H : Hp} {W : Addr → Prop} {a : Addr} {d : Dt} (h : ORep K H W a d) : ∃ x : MuH, H a = some x.1 := by
  cases d with
  | lst ds => obtain ⟨vs, h, _⟩ := h; exact ⟨⟨_, rfl⟩, h⟩
  | dcK ks ds => obtain ⟨vs, h, _⟩ := h; exact ⟨⟨_, rfl⟩, h⟩
  | dcT ks ds => obtain ⟨vs, h, _⟩ := h; exact ⟨⟨_, rfl⟩, h⟩
  | _ => exact h.elim
/-- what stands at a is kept -/
theorem ORep.keep {K : PySem.W.Frag} {H H' : Hp} {W W' : Addr → Prop} {a : Addr} {d : Dt} (h : ORep K H W a d) (ha : H' a = H a) (k : KeepW W H H') (hw : ∀ a (xs : MuH), H a = some xs.1 → W' a → W a) : ORep K H' W' a d := by
  cases d with
  | lst ds => obtain ⟨vs, h, r⟩ := h; exact ⟨vs, ha.trans h, r.keep k hw⟩
  | dcK ks ds => obtain ⟨vs, h, l, r⟩ := h; exact ⟨vs, ha.trans h, l, r.keep k hw⟩
  | dcT ks ds => obtain ⟨vs, h, l, r⟩ := h; exact ⟨vs, ha.trans h, l, r.keep k hw⟩
  | _ => exact h.elim
theorem ORep.keepE {K : PySem.W.Frag} {H H' : Hp} {W W' : Addr → Prop} {a : Addr} {d : Dt} (h : ORep K H W a d) (e : Ext H H') (hw : ∀ a (xs : MuH), H a = some xs.1 → W' a → W a) : ORep K H' W' a d := by
  obtain ⟨x, hx⟩ := h.mu
  exact h.keep ((e.keep a _ hx (nt_mu x)).trans hx.symm) e.kw hw
theorem ORep.sub {K : PySem.W.Frag} {H : Hp} {W W' : Addr → Prop} {a : Addr} {d : Dt} (h : ORep K H W a d) (hw : ∀ a (xs : MuH), H a = some xs.1 → W' a → W a) : ORep K H W' a d := h.keepE (Ext.refl H) hw
/-- an owned thing, read as a value -/
theorem ORep.rep {K : PySem.W.Frag} {H : Hp} {W : Addr → Prop} {a : Addr} {d : Dt} (h : ORep K H W a d) (n : ¬ W a) : Rep K H W (.ref a) d := by
  cases d with
  | lst ds => obtain ⟨vs, h, r⟩ := h; exact .lst h n r
  | dcK ks ds => obtain ⟨vs, h, l, r⟩ := h; exact .dcK h n l r
  | dcT ks ds => obtain ⟨vs, h, l, r⟩ := h; exact .dcT h n l r
  | _ => exact h.elim
/-- W and the owned things -/
def Wd (W : Addr → Prop) (ρ : Rho) (σ : L2.St) : Addr → Prop := fun a => W a ∨ ∃ i d, ownd (getS ρ i) = some d ∧ σ[i]? = some (some (.ref a))
/-- the slots stand for ρ -/
structure Rp (K : PySem.W.Frag) (H : Hp) (W : Addr → Prop) (ρ : Rho) (σ : L2.St) : Prop where
  len : ρ.length = σ.length
  im : ∀ i d, getS ρ i = .im d → ∃ v, σ[i]? = some (some v) ∧ Rep K H (Wd W ρ σ) v d
  own : ∀ i d, ownd (getS ρ i) = some d → ∃ a, σ[i]? = some (some (.ref a)) ∧ ¬ W a ∧ ORep K H (Wd W ρ σ) a d
  inj : ∀ i j di dj a, ownd (getS ρ i) = some di → ownd (getS ρ j) = some dj → σ[i]? = some (some (.ref a)) → σ[j]? = some (some (.ref a)) → i = j
  wl : ∀ a, W a → ∃ xs : MuH, H a = some xs.1
section
variable {K : PySem.W.Frag} {H H' : Hp} {W : Addr → Prop} {ρ : Rho} {σ : L2.St}
/-- an owned list -/
theorem Rp.ow (r : Rp K H W ρ σ) (i : Nat) (ds : List Dt) (h : getS ρ i = .ow ds) : ∃ a vs, σ[i]? = some (some (.ref a)) ∧ H a = some (.lst vs) ∧ ¬ W a ∧ RepA K H (Wd W ρ σ) vs ds := by
  obtain ⟨a, h1, h2, vs, h3, h4⟩ := r.own i _ (ownd_ow h)
  exact ⟨a, vs, h1, h3, h2, h4⟩
theorem Rp.ext (r : Rp K H W ρ σ) (e : Ext H H') : Rp K H' W ρ σ where
  len := r.len
  im := fun i d h => by obtain ⟨v, h1, h2⟩ := r.im i d h; exact ⟨v, h1, h2.ext e⟩
  own := fun i d h => by obtain ⟨a, h1, h2, h3⟩ := r.own i d h; exact ⟨a, h1, h2, h3.keepE e fun _ _ _ z => z⟩
  inj := r.inj
  wl := fun a h => by obtain ⟨xs, q⟩ := r.wl a h; exact ⟨xs, e.keep _ _ q (nt_mu xs)⟩
theorem Rp.wd (r : Rp K H W ρ σ) {a : Addr} (h : Wd W ρ σ a) : ∃ xs : MuH, H a = some xs.1 := by
  rcases h with h | ⟨i, d, h1, h2⟩
  · exact r.wl a h
  · obtain ⟨b, h3, _, h4⟩ := r.own i d h1
    rw [h2] at h3
    cases h3
    exact h4.mu
/-- the set W with a new list D -/
theorem Rp.addW (r : Rp K H W ρ σ) {D : Addr} {zs : List V} (hD : H D = none) : Rp K (upd H D (.lst zs)) (fun a => W a ∨ a = D) ρ σ := by
  have e : Ext H (upd H D (.lst zs)) := Ext.new hD
  have sub : ∀ a (xs : MuH), H a = some xs.1 → Wd (fun a => W a ∨ a = D) ρ σ a → Wd W ρ σ a := fun a xs h z => by
    rcases z with (z | z) | z
    · exact .inl z
    · rw [z, hD] at h; cases h
    · exact .inr z
  refine ⟨r.len, fun i d h => ?_, fun i ds h => ?_, r.inj, fun a h => ?_⟩
  · obtain ⟨v, h1, h2⟩ := r.im i d h
    exact ⟨v, h1, h2.keep e.kw sub⟩
  · obtain ⟨a, h1, h2, h3⟩ := r.own i ds h
    refine ⟨a, h1, fun z => ?_, h3.keepE e sub⟩
    rcases z with z | z
    · exact h2 z
    · obtain ⟨x, hx⟩ := h3.mu
      rw [z, hD] at hx; cases hx
  · rcases h with h | h
    · obtain ⟨xs, q⟩ := r.wl a h
      exact ⟨xs, e.keep _ _ q (nt_mu xs)⟩
    · exact ⟨⟨.lst zs, rfl⟩, by rw [h, upd_same]⟩
end
/-- m: frozen for good (none of W, none of the owned ones); else borrowed -/
def wOf (m : Bool) (W : Addr → Prop) (ρ : Rho) (σ : L2.St) : Addr → Prop := fun a => m = true ∧ Wd W ρ σ a
theorem Rp.wo {K : PySem.W.Frag} {H : Hp} {W : Addr → Prop} {ρ : Rho} {σ : L2.St} (r : Rp K H W ρ σ) {m : Bool} {a : Addr} (h : wOf m W ρ σ a) : ∃ xs : MuH, H a = some xs.1 := r.wd h.2
theorem Rep.wo {K : PySem.W.Frag} {H : Hp} {W : Addr → Prop} {ρ : Rho} {σ : L2.St} {m : Bool} {v : V} {d : Dt} (h : Rep K H (Wd W ρ σ) v d) : Rep K H (wOf m W ρ σ) v d := h.sub fun _ _ _ z => z.2
theorem RepA.wo {K : PySem.W.Frag} {H : Hp} {W : Addr → Prop} {ρ : Rho} {σ : L2.St} {m : Bool} {v : List V} {d : List Dt} (h : RepA K H (Wd W ρ σ) v d) : RepA K H (wOf m W ρ σ) v d := h.sub fun _ _ _ z => z.2
theorem Rep.wt {K : PySem.W.Frag} {H : Hp} {W : Addr → Prop} {ρ : Rho} {σ : L2.St} {v : V} {d : Dt} (h : Rep K H (wOf true W ρ σ) v d) : Rep K H (Wd W ρ σ) v d := h.sub fun _ _ _ z => ⟨rfl, z⟩
theorem RepA.wt {K : PySem.W.Frag} {H : Hp} {W : Addr → Prop} {ρ : Rho} {σ : L2.St} {v : List V} {d : List Dt} (h : RepA K H (wOf true W ρ σ) v d) : RepA K H (Wd W ρ σ) v d := h.sub fun _ _ _ z => ⟨rfl, z⟩
end EL
end

section
set_option Elab.async false
set_option maxRecDepth 100000
/-! EL expressions: a reading and the function of the slots that it gives. -/
namespace EL
open PySem PySem.Spec PyProof.Rows L2

abbrev Fn := Rho → Option Dt
abbrev FnL := Rho → Option (List Dt)
abbrev FnB := Rho → Option Bool

/-- what is wanted of a value: it stands for d -/
def Sd (m : Bool) (T : List Addr) (K : PySem.W.Frag) (t : TE) (f : Fn) : Prop :=
  ∀ (W : Addr → Prop) (ρ : Rho) (σ : L2.St) (H : Hp) (d : Dt) (Q : VK), Gd T H → Rp K H W ρ σ → f ρ = some d →
    (∀ v H', Ext H H' → Gd T H' → Rep K H' (wOf m W ρ σ) v d → Q v H') → t σ H Q
/-- a new list -/
def SdF (T : List Addr) (K : PySem.W.Frag) (t : TE) (f : FnL) : Prop :=
  ∀ (W : Addr → Prop) (ρ : Rho) (σ : L2.St) (H : Hp) (ds : List Dt) (Q : VK), Gd T H → Rp K H W ρ σ → f ρ = some ds →
    (∀ p vs H', Ext H H' → Gd T H' → H p = none → H' p = some (.lst vs) → RepA K H' (fun a => Wd W ρ σ a ∨ a = p) vs ds → Q (.ref p) H') → t σ H Q
def SdA (m : Bool) (T : List Addr) (K : PySem.W.Frag) (t : TA) (f : FnL) : Prop :=
  ∀ (W : Addr → Prop) (ρ : Rho) (σ : L2.St) (H : Hp) (ds : List Dt) (Q : List V → Hp → Prop), Gd T H → Rp K H W ρ σ → f ρ = some ds →
    (∀ vs H', Ext H H' → Gd T H' → RepA K H' (wOf m W ρ σ) vs ds → Q vs H') → t σ H Q
def SdT (T : List Addr) (K : PySem.W.Frag) (t : TT) (f : FnB) : Prop :=
  ∀ (W : Addr → Prop) (ρ : Rho) (σ : L2.St) (H : Hp) (b : Bool) (Q : Bool → Hp → Prop), Gd T H → Rp K H W ρ σ → f ρ = some b →
    (∀ H', Ext H H' → Gd T H' → Q b H') → t σ H Q

structure DE (m : Bool) (T : List Addr) (K : PySem.W.Frag) (X : Cx) (e : Expr) (t : TE) (f : Fn) : Prop where
  pe : PE X e t
  sd : Sd m T K t f
structure DF (T : List Addr) (K : PySem.W.Frag) (X : Cx) (e : Expr) (t : TE) (f : FnL) : Prop where
  pe : PE X e t
  sd : SdF T K t f
structure DA (m : Bool) (T : List Addr) (K : PySem.W.Frag) (X : Cx) (es : List Expr) (t : TA) (f : FnL) : Prop where
  pa : PA X es t
  sd : SdA m T K t f
structure DT (T : List Addr) (K : PySem.W.Frag) (X : Cx) (e : Expr) (t : TT) (f : FnB) : Prop where
  pt : PT X e t
  sd : SdT T K t f
structure DW (T : List Addr) (K : PySem.W.Frag) (X : Cx) (e : Expr) (t : TT) (f : FnB) : Prop where
  pw : PW X e t
  sd : SdT T K t f

/-! ### functions of the slots -/
def fC (d : Dt) : Fn := fun _ => some d
def fV (i : Nat) : Fn := fun ρ => match getS ρ i with | .im d => some d | _ => none
def fVb (i : Nat) : Fn := fun ρ => match getS ρ i with | .im d => some d | .ow ds => some (.lst ds) | .od d => some d | .un => none
def f1 (g : Dt → Option Dt) (a : Fn) : Fn := fun ρ => (a ρ).bind g
def f2 (g : Dt → Dt → Option Dt) (a b : Fn) : Fn := fun ρ => (a ρ).bind fun x => (b ρ).bind fun y => g x y
def fA0 : FnL := fun _ => some []
def fAc (a : Fn) (r : FnL) : FnL := fun ρ => (a ρ).bind fun x => (r ρ).bind fun xs => some (x :: xs)
def fN (g : List Dt → Option Dt) (a : FnL) : Fn := fun ρ => (a ρ).bind g
def fIf (c : FnB) (a b : Fn) : Fn := fun ρ => (c ρ).bind fun k => if k = true then a ρ else b ρ
def fIfL (c : FnB) (a b : FnL) : FnL := fun ρ => (c ρ).bind fun k => if k = true then a ρ else b ρ
def fB (a : Fn) : FnB := fun ρ => (a ρ).bind fun d => match d with | .bl b => some b | _ => none
def Dt.tru : Dt → Option Bool
  | .non => some false
  | .bl b => some b
  | .int i => some (i != 0)
  | .str x => if x.length ≤ sizeLine then some (x.length != 0) else none
  | .tup xs => some (!xs.isEmpty)
  | .lst xs => some (!xs.isEmpty)
  | .scr _ => none
  | .dcK _ _ => none
  | .dcT _ _ => none
def fTru (a : Fn) : FnB := fun ρ => (a ρ).bind Dt.tru
def fAnd (a b : FnB) : FnB := fun ρ => (a ρ).bind fun k => if k = true then b ρ else some false
def fOr (a b : FnB) : FnB := fun ρ => (a ρ).bind fun k => if k = true then some true else b ρ
def fNot (a : FnB) : FnB := fun ρ => (a ρ).bind fun k => some (!k)
def fOfB (a : FnB) : Fn := fun ρ => (a ρ).bind fun k => some (.bl k)

section
variable {m : Bool} {T : List Addr} {X : Cx} {K : PySem.W.Frag} {a b c e : Expr} {es : List Expr} {ta tb tc t : TE} {tr : TA} {fa fb : Fn} {fr : FnL} {pos : Pos}

theorem sd_const {v : V} {d : Dt} (h : ∀ (H : Hp) (W : Addr → Prop), Rep K H W v d) : Sd m T K (tC v) (fC d) := fun W ρ σ H d' Q g r e q => by
  cases e
  exact q v H (Ext.refl H) g (h H _)
theorem de_int {i : Int} {j : Nat} : DE m T K X (.Constant (.int i) j pos) (tC (.int i)) (fC (.int i)) := ⟨pe_int, sd_const fun _ _ => .int i⟩
theorem de_bl {i : Bool} {j : Nat} : DE m T K X (.Constant (.bool i) j pos) (tC (.bl i)) (fC (.bl i)) := ⟨pe_bl, sd_const fun _ _ => .bl i⟩
theorem de_non {j : Nat} : DE m T K X (.Constant .none j pos) (tC .non) (fC .non) := ⟨pe_non, sd_const fun _ _ => .non⟩
theorem de_str {x : Str} {j : Nat} : DE m T K X (.Constant (.str x) j pos) (tC (.str x)) (fC (.str x)) := ⟨pe_str, sd_const fun _ _ => .str x⟩

theorem sd_var {i : Nat} : Sd m T K (tVar i) (fV i) := fun W ρ σ H d Q g r e q => by
  unfold fV at e
  cases h : getS ρ i with
  | un => rw [h] at e; cases e
  | ow ds => rw [h] at e; cases e
  | od ds => rw [h] at e; cases e
  | im d' =>
    rw [h] at e
    cases e
    obtain ⟨v, h1, h2⟩ := r.im i d h
    exact ⟨v, h1, q v H (Ext.refl H) g h2.wo⟩
theorem de_var (i : Nat) {x : Str} {pos : Pos} (hN : X.N[i]? = some x := by rfl) (hv : Vis X.env.scope x := by first | exact Or.inl rfl | exact Or.inr (Or.inl rfl) | exact Or.inr (Or.inr rfl)) (hd : (x == ("__debug__" : Str)) = false := by decide)
    (hcd : (x == ("__classdict__" : Str)) = false := by decide) : DE m T K X (.Name x pos) (tVar i) (fV i) := ⟨pe_var hN hv hd hcd, sd_var⟩
theorem sd_varb {i : Nat} : Sd false T K (tVar i) (fVb i) := fun W ρ σ H d Q g r e q => by
  unfold fVb at e
  cases h : getS ρ i with
  | un => rw [h] at e; cases e
  | ow ds =>
    rw [h] at e
    cases e
    obtain ⟨p, vs, h1, h2, h3, h4⟩ := r.ow i ds h
    exact ⟨_, h1, q _ H (Ext.refl H) g (.lst h2 (fun z => Bool.noConfusion z.1) h4.wo)⟩
  | od d' =>
    rw [h] at e
    cases e
    obtain ⟨p, h1, h2, h3⟩ := r.own i d (ownd_od h)
    exact ⟨_, h1, q _ H (Ext.refl H) g ((h3.sub fun _ _ _ z => z.2).rep fun z => Bool.noConfusion z.1)⟩
  | im d' =>
    rw [h] at e
    cases e
    obtain ⟨v, h1, h2⟩ := r.im i d h
    exact ⟨v, h1, q v H (Ext.refl H) g h2.wo⟩
theorem dp_var (i : Nat) {x : Str} {pos : Pos} (hN : X.N[i]? = some x := by rfl) (hv : Vis X.env.scope x := by first | exact Or.inl rfl | exact Or.inr (Or.inl rfl) | exact Or.inr (Or.inr rfl)) (hd : (x == ("__debug__" : Str)) = false := by decide)
    (hcd : (x == ("__classdict__" : Str)) = false := by decide) : DE false T K X (.Name x pos) (tVar i) (fVb i) := ⟨pe_var hN hv hd hcd, sd_varb⟩

/-- a frozen value may be taken as a borrowed one -/
theorem DE.loose {f : Fn} (h : DE true T K X e t f) : DE false T K X e t f := ⟨h.pe, fun W ρ σ H d Q g r e q => h.sd W ρ σ H d Q g r e fun v H' e1 g1 r1 => q v H' e1 g1 (r1.sub fun _ _ _ z => Bool.noConfusion z.1)⟩
def fFree (a : Fn) : Fn := fun ρ => (a ρ).bind fun d => if d.free = true then some d else none
/-- a borrowed value without lists is frozen -/
theorem DE.free {f : Fn} (h : DE false T K X e t f) : DE m T K X e t (fFree f) := ⟨h.pe, fun W ρ σ H d Q g r e q => by
  unfold fFree at e
  cases hf : f ρ with
  | none => rw [hf] at e; cases e
  | some d' =>
    rw [hf] at e
    have e2 : (if d'.free = true then some d' else none) = some d := e
    by_cases hz : d'.free = true
    · rw [if_pos hz] at e2
      cases e2
      exact h.sd W ρ σ H d Q g r hf fun v H' e1 g1 r1 => q v H' e1 g1 (r1.free hz)
    · rw [if_neg hz] at e2
      cases e2⟩
def fLst (a : FnL) : Fn := fun ρ => (a ρ).bind fun ds => some (.lst ds)
/-- a new list as a value -/
theorem DF.de {f : FnL} (h : DF T K X e t f) : DE m T K X e t (fLst f) := ⟨h.pe, fun W ρ σ H d Q g r e q => by
  unfold fLst at e
  cases hf : f ρ with
  | none => rw [hf] at e; cases e
  | some ds =>
    rw [hf] at e
    cases e
    refine h.sd W ρ σ H ds Q g r hf fun p vs H' e1 g1 hp hp' ra => q _ H' e1 g1 (.lst hp' (fun z => ?_) (ra.sub fun _ _ _ z => .inl z.2))
    obtain ⟨xs, hx⟩ := r.wd z.2
    rw [hp] at hx
    cases hx⟩

/-! ### operators -/
def OpD (T : List Addr) (K : PySem.W.Frag) (r : R2) (g : Dt → Dt → Option Dt) : Prop :=
  ∀ (W : Addr → Prop) (H : Hp) (x y : V) (d e c : Dt) (Q : VK), Gd T H → (∀ a, W a → ∃ xs : MuH, H a = some xs.1) → Rep K H W x d → Rep K H W y e → g d e = some c →
    (∀ v H', Ext H H' → Gd T H' → Rep K H' W v c → Q v H') → r x y H Q
theorem sd_op {r : R2} {g : Dt → Dt → Option Dt} (h : OpD T K r g) (ha : Sd m T K ta fa) (hb : Sd m T K tb fb) : Sd m T K (tOp r ta tb) (f2 g fa fb) := fun W ρ σ H d Q gd rp e q => by
  unfold f2 at e
  cases ea : fa ρ with
  | none => rw [ea] at e; cases e
  | some x =>
    rw [ea] at e
    cases eb : fb ρ with
    | none => rw [eb] at e; cases e
    | some y =>
      rw [eb] at e
      refine ha W ρ σ H x _ gd rp ea fun v H1 e1 g1 r1 => ?_
      refine hb W ρ σ H1 y _ g1 (rp.ext e1) eb fun u H2 e2 g2 r2 => ?_
      exact h (wOf m W ρ σ) H2 v u x y d Q g2 (fun p z => (rp.ext (e1.trans e2)).wo z) (r1.ext e2) r2 e fun w' H3 e3 g3 r3 => q w' H3 ((e1.trans e2).trans e3) g3 r3
theorem de_op {op : Operator} {r : R2} {g : Dt → Dt → Option Dt} (ho : OpR X (binaryOp op) r ∧ OpD T K r g) (ha : DE m T K X a ta fa) (hb : DE m T K X b tb fb) : DE m T K X (.BinOp a op b pos) (tOp r ta tb) (f2 g fa fb) :=
  ⟨pe_op ho.1 ha.pe hb.pe, sd_op ho.2 ha.sd hb.sd⟩
theorem obind {α β : Type} {o : Option α} {f : α → Option β} {c : β} (h : o.bind f = some c) : ∃ x, o = some x ∧ f x = some c := Option.bind_eq_some_iff.mp h
/-- a comparison: its value holds no list, whatever is compared -/
def CmpD (T : List Addr) (K : PySem.W.Frag) (r : R2) (g : Dt → Dt → Option Bool) : Prop :=
  ∀ (H : Hp) (x y : V) (d e : Dt) (k : Bool) (Q : VK), Gd T H → Rep K H NoW x d → Rep K H NoW y e → g d e = some k → (∀ H', Ext H H' → Gd T H' → Q (.bl k) H') → r x y H Q
def fCmp (g : Dt → Dt → Option Bool) (a b : Fn) : FnB := fun ρ => (a ρ).bind fun x => (b ρ).bind fun y => g x y
theorem sd_cmp0 {r : R2} {g : Dt → Dt → Option Bool} (h : CmpD T K r g) (ha : Sd false T K ta fa) (hb : Sd false T K tb fb) {W : Addr → Prop} {ρ : Rho} {σ : L2.St} {H : Hp} {k : Bool} {Q : VK} (gd : Gd T H) (rp : Rp K H W ρ σ) (e : fCmp g fa fb ρ = some k)
    (q : ∀ H', Ext H H' → Gd T H' → Q (.bl k) H') : tOp r ta tb σ H Q := by
  obtain ⟨x, ea, e⟩ := obind e
  obtain ⟨y, eb, e⟩ := obind e
  refine ha W ρ σ H x _ gd rp ea fun v H1 e1 g1 r1 => ?_
  refine hb W ρ σ H1 y _ g1 (rp.ext e1) eb fun u H2 e2 g2 r2 => ?_
  exact h H2 v u x y k _ g2 (r1.loose.ext e2) r2.loose e fun H3 e3 g3 => q H3 ((e1.trans e2).trans e3) g3
theorem dt_cmp {op : CmpOp} {r : R2} {g : Dt → Dt → Option Bool} (h : OpR X (compareOp op) r ∧ CmpD T K r g) (ha : DE false T K X a ta fa) (hb : DE false T K X b tb fb) (hm : behindInMarks op b = false := by first | exact nomark _ | rfl) :
    DT T K X (.Compare a [op] [b] pos) (tTest (tOp r ta tb)) (fCmp g fa fb) :=
  ⟨pt_cmpR h.1 ha.pe hb.pe hm, fun _ _ _ _ k _ gd rp e q => sd_cmp0 h.2 ha.sd hb.sd gd rp e fun H' e1 g1 => ⟨k, rfl, q H' e1 g1⟩⟩
theorem de_cmp {op : CmpOp} {r : R2} {g : Dt → Dt → Option Bool} (h : OpR X (compareOp op) r ∧ CmpD T K r g) (ha : DE false T K X a ta fa) (hb : DE false T K X b tb fb) (hm : behindInMarks op b = false := by first | exact nomark _ | rfl) :
    DE m T K X (.Compare a [op] [b] pos) (tOp r ta tb) (fOfB (fCmp g fa fb)) :=
  ⟨pe_cmpR h.1 ha.pe hb.pe hm, fun _ _ _ _ d _ gd rp e q => by
    obtain ⟨k, ek, e2⟩ := obind e
    cases e2
    exact sd_cmp0 h.2 ha.sd hb.sd gd rp ek fun H' e1 g1 => q _ H' e1 g1 (.bl k)⟩
/-- a < b < c -/
def fChain (g g' : Dt → Dt → Option Bool) (a b c : Fn) : FnB := fun ρ => (a ρ).bind fun x => (b ρ).bind fun y => (g x y).bind fun k => if k = true then (c ρ).bind fun z => g' y z else some false
theorem sd_chain {fc : Fn} {r r' : R2} {g g' : Dt → Dt → Option Bool} (h : CmpD T K r g) (h' : CmpD T K r' g') (ha : Sd false T K ta fa) (hb : Sd false T K tb fb) (hc : Sd false T K tc fc) {W : Addr → Prop} {ρ : Rho} {σ : L2.St} {H : Hp} {k : Bool} {Q : VK} (gd : Gd T H) (rp : Rp K H W ρ σ)
    (e : fChain g g' fa fb fc ρ = some k) (q : ∀ H', Ext H H' → Gd T H' → Q (.bl k) H') : tChain r r' ta tb tc σ H Q := by
  obtain ⟨x, ea, e⟩ := obind e
  obtain ⟨y, eb, e⟩ := obind e
  obtain ⟨k1, e1', e⟩ := obind e
  refine ha W ρ σ H x _ gd rp ea fun v H1 e1 g1 r1 => ?_
  refine hb W ρ σ H1 y _ g1 (rp.ext e1) eb fun u H2 e2 g2 r2 => ?_
  refine h H2 v u x y k1 _ g2 (r1.loose.ext e2) r2.loose e1' fun H3 e3 g3 => ⟨k1, rfl, ?_⟩
  cases k1 with
  | false =>
    rw [if_neg Bool.false_ne_true] at e ⊢
    cases e
    exact q H3 ((e1.trans e2).trans e3) g3
  | true =>
    rw [if_pos rfl] at e ⊢
    obtain ⟨z, ec, e⟩ := obind e
    refine hc W ρ σ H3 z _ g3 (rp.ext ((e1.trans e2).trans e3)) ec fun w' H4 e4 g4 r4 => ?_
    exact h' H4 u w' y z k _ g4 (r2.loose.ext (e3.trans e4)) r4.loose e fun H5 e5 g5 => q H5 ((((e1.trans e2).trans e3).trans e4).trans e5) g5
theorem dt_chain {fc : Fn} {op op' : CmpOp} {r r' : R2} {g g' : Dt → Dt → Option Bool} (h : OpR X (compareOp op) r ∧ CmpD T K r g) (h' : OpR X (compareOp op') r' ∧ CmpD T K r' g') (ha : DE false T K X a ta fa) (hb : DE false T K X b tb fb) (hc : DE false T K X c tc fc)
    (hm : lastMarks [op, op'] [b, c] = false := by with_unfolding_all rfl) : DT T K X (.Compare a [op, op'] [b, c] pos) (tTest (tChain r r' ta tb tc)) (fChain g g' fa fb fc) :=
  ⟨pt_chain h.1 h'.1 ha.pe hb.pe hc.pe hm, fun _ _ _ _ k _ gd rp e q => sd_chain h.2 h'.2 ha.sd hb.sd hc.sd gd rp e fun H' e1 g1 => ⟨k, rfl, q H' e1 g1⟩⟩
theorem de_chain {fc : Fn} {op op' : CmpOp} {r r' : R2} {g g' : Dt → Dt → Option Bool} (h : OpR X (compareOp op) r ∧ CmpD T K r g) (h' : OpR X (compareOp op') r' ∧ CmpD T K r' g') (ha : DE false T K X a ta fa) (hb : DE false T K X b tb fb) (hc : DE false T K X c tc fc)
    (hm : lastMarks [op, op'] [b, c] = false := by with_unfolding_all rfl) : DE m T K X (.Compare a [op, op'] [b, c] pos) (tChain r r' ta tb tc) (fOfB (fChain g g' fa fb fc)) :=
  ⟨pe_chain h.1 h'.1 ha.pe hb.pe hc.pe hm, fun _ _ _ _ d _ gd rp e q => by
    obtain ⟨k, ek, e2⟩ := obind e
    cases e2
    exact sd_chain h.2 h'.2 ha.sd hb.sd hc.sd gd rp ek fun H' e1 g1 => q _ H' e1 g1 (.bl k)⟩

/-! ### tests -/
/-- a value by its truth -/
theorem dt_tru (ha : DE false T K X a ta fa) (he : ∀ whole, isTrue a X.env whole = (do let v ← whole; standAt a.pos; holding [v] (truthy v)) := by intro _; rfl) (hk : X.K = K := by rfl) :
    DT T K X a (fun σ H Q => ta σ H fun x H' => ∃ k, TruV K x H' k ∧ Q k H') (fTru fa) := by
  subst hk
  exact ⟨pt_truth ha.pe he, fun W ρ σ H k Q gd rp e q => by
    obtain ⟨d, ea, e⟩ := obind e
    refine ha.sd W ρ σ H d _ gd rp ea fun v H1 e1 g1 r1 => ⟨k, ?_, q H1 e1 g1⟩
    cases r1 with
    | non => cases e; rfl
    | bl b => cases e; rfl
    | int i => cases e; rfl
    | str x =>
      dsimp only [Dt.tru] at e
      by_cases hx : x.length ≤ sizeLine
      · rw [if_pos hx] at e
        cases e
        exact ⟨hx, by cases x.length <;> rfl⟩
      · rw [if_neg hx] at e
        cases e
    | tup h r =>
      cases e
      refine .inr (.inl ⟨_, .of h, ?_⟩)
      cases r <;> rfl
    | lst h n r =>
      cases e
      refine .inl ⟨_, .of h, ?_⟩
      cases r <;> rfl
    | scr h => cases e
    | dcK h => cases e
    | dcT h => cases e⟩
section
variable {tA uA : TT} {ga gb : FnB} {rest : List Expr}
theorem dw_and1 (ha : DT T K X a tA ga) : DW T K X (.BoolOp .And [a] pos) tA ga := ⟨pw_and1 ha.pt, ha.sd⟩
theorem dw_or1 (ha : DT T K X a tA ga) : DW T K X (.BoolOp .Or [a] pos) tA ga := ⟨pw_or1 ha.pt, ha.sd⟩
theorem sd_and {t u : TT} (ha : SdT T K t ga) (hb : SdT T K u gb) : SdT T K (L2.tAnd t u) (fAnd ga gb) := fun W ρ σ H k Q gd rp e q => by
  obtain ⟨k1, ea, e⟩ := obind e
  refine ha W ρ σ H k1 _ gd rp ea fun H1 e1 g1 => ?_
  cases k1 with
  | true =>
    rw [if_pos rfl] at e ⊢
    exact hb W ρ σ H1 k Q g1 (rp.ext e1) e fun H2 e2 g2 => q H2 (e1.trans e2) g2
  | false =>
    rw [if_neg Bool.false_ne_true] at e ⊢
    cases e
    exact q H1 e1 g1
theorem sd_or {t u : TT} (ha : SdT T K t ga) (hb : SdT T K u gb) : SdT T K (L2.tOr t u) (fOr ga gb) := fun W ρ σ H k Q gd rp e q => by
  obtain ⟨k1, ea, e⟩ := obind e
  refine ha W ρ σ H k1 _ gd rp ea fun H1 e1 g1 => ?_
  cases k1 with
  | true =>
    rw [if_pos rfl] at e ⊢
    cases e
    exact q H1 e1 g1
  | false =>
    rw [if_neg Bool.false_ne_true] at e ⊢
    exact hb W ρ σ H1 k Q g1 (rp.ext e1) e fun H2 e2 g2 => q H2 (e1.trans e2) g2
theorem dw_and (ha : DT T K X a tA ga) (hb : DW T K X (.BoolOp .And (b :: rest) pos) uA gb) : DW T K X (.BoolOp .And (a :: b :: rest) pos) (L2.tAnd tA uA) (fAnd ga gb) := ⟨pw_and ha.pt hb.pw, sd_and ha.sd hb.sd⟩
theorem dw_or (ha : DT T K X a tA ga) (hb : DW T K X (.BoolOp .Or (b :: rest) pos) uA gb) : DW T K X (.BoolOp .Or (a :: b :: rest) pos) (L2.tOr tA uA) (fOr ga gb) := ⟨pw_or ha.pt hb.pw, sd_or ha.sd hb.sd⟩
theorem DW.dt (h : DW T K X e tA ga) : DT T K X e tA ga := ⟨h.pw.pt, h.sd⟩
theorem dt_not (ha : DT T K X a tA ga) : DT T K X (.UnaryOp .Not a pos) (L2.tNot tA) (fNot ga) := ⟨pt_not ha.pt, fun W ρ σ H k Q gd rp e q => by
  obtain ⟨k1, ea, e⟩ := obind e
  cases e
  exact ha.sd W ρ σ H k1 _ gd rp ea fun H1 e1 g1 => q H1 e1 g1⟩
/-! and, or, not as values -/
theorem de_not (ha : DE false T K X a ta fa) : DE m T K X (.UnaryOp .Not a pos) (tNotV ta) (fOfB (fNot (fB fa))) := ⟨pe_not ha.pe, fun W ρ σ H d Q gd rp e q => by
  obtain ⟨k1, ek, e2⟩ := obind e
  obtain ⟨k2, ek2, e3⟩ := obind ek
  obtain ⟨x, ea, ek3⟩ := obind ek2
  cases e2
  cases e3
  refine ha.sd W ρ σ H x _ gd rp ea fun v H1 e1 g1 r1 => ?_
  cases r1 with
  | bl b => cases ek3; exact ⟨_, rfl, q _ H1 e1 g1 (.bl _)⟩
  | _ => cases ek3⟩
theorem de_one {op : BoolOp} {f : Fn} (h : DE m T K X a t f) : DE m T K X (.BoolOp op [a] pos) t f := ⟨pe_one h.pe, h.sd⟩
def fAndV (a b : Fn) : Fn := fun ρ => (fB a ρ).bind fun k => if k = true then b ρ else some (.bl false)
def fOrV (a b : Fn) : Fn := fun ρ => (fB a ρ).bind fun k => if k = true then some (.bl true) else b ρ
theorem de_and (ha : DE m T K X a ta fa) (hb : DE m T K X (.BoolOp .And (b :: rest) pos) tb fb) : DE m T K X (.BoolOp .And (a :: b :: rest) pos) (tAndV ta tb) (fAndV fa fb) := ⟨pe_and ha.pe hb.pe, fun W ρ σ H d Q gd rp e q => by
  obtain ⟨k, ek, e⟩ := obind e
  obtain ⟨x, ea, ek⟩ := obind ek
  refine ha.sd W ρ σ H x _ gd rp ea fun v H1 e1 g1 r1 => ?_
  cases r1 with
  | bl b' =>
    have hk : b' = k := Option.some.inj ek
    subst hk
    refine ⟨_, rfl, ?_⟩
    cases b' with
    | true =>
      rw [if_pos rfl] at e ⊢
      exact hb.sd W ρ σ H1 d Q g1 (rp.ext e1) e fun v H2 e2 g2 r2 => q v H2 (e1.trans e2) g2 r2
    | false =>
      rw [if_neg Bool.false_ne_true] at e ⊢
      cases e
      exact q _ H1 e1 g1 (.bl _)
  | _ => cases ek⟩
theorem de_or (ha : DE m T K X a ta fa) (hb : DE m T K X (.BoolOp .Or (b :: rest) pos) tb fb) : DE m T K X (.BoolOp .Or (a :: b :: rest) pos) (tOrV ta tb) (fOrV fa fb) := ⟨pe_or ha.pe hb.pe, fun W ρ σ H d Q gd rp e q => by
  obtain ⟨k, ek, e⟩ := obind e
  obtain ⟨x, ea, ek⟩ := obind ek
  refine ha.sd W ρ σ H x _ gd rp ea fun v H1 e1 g1 r1 => ?_
  cases r1 with
  | bl b' =>
    have hk : b' = k := Option.some.inj ek
    subst hk
    refine ⟨_, rfl, ?_⟩
    cases b' with
    | false =>
      rw [if_neg Bool.false_ne_true] at e ⊢
      exact hb.sd W ρ σ H1 d Q g1 (rp.ext e1) e fun v H2 e2 g2 r2 => q v H2 (e1.trans e2) g2 r2
    | true =>
      rw [if_pos rfl] at e ⊢
      cases e
      exact q _ H1 e1 g1 (.bl _)
  | _ => cases ek⟩
theorem de_ifExp {tk : TT} {gc : FnB} (hc : DT T K X c tk gc) (ha : DE m T K X a ta fa) (hb : DE m T K X b tb fb) : DE m T K X (.IfExp c a b pos) (tIf tk ta tb) (fIf gc fa fb) := ⟨pe_ifExp hc.pt ha.pe hb.pe, fun W ρ σ H d Q gd rp e q => by
  obtain ⟨k, ek, e⟩ := obind e
  refine hc.sd W ρ σ H k _ gd rp ek fun H1 e1 g1 => ?_
  cases k with
  | true =>
    rw [if_pos rfl] at e ⊢
    exact ha.sd W ρ σ H1 d Q g1 (rp.ext e1) e fun v H2 e2 g2 r2 => q v H2 (e1.trans e2) g2 r2
  | false =>
    rw [if_neg Bool.false_ne_true] at e ⊢
    exact hb.sd W ρ σ H1 d Q g1 (rp.ext e1) e fun v H2 e2 g2 r2 => q v H2 (e1.trans e2) g2 r2⟩
end

/-! ### lists of expressions -/
theorem da_nil : DA m T K X [] tNil fA0 := ⟨pa_nil, fun W ρ σ H ds Q gd rp e q => by
  cases e
  exact q [] H (Ext.refl H) gd .nil⟩
theorem da_cons (ha : DE m T K X e ta fa) (hr : DA m T K X es tr fr) (hs : starEach (e :: es) X.env = (false, eval e X.env) :: starEach es X.env := by rfl) : DA m T K X (e :: es) (tCons ta tr) (fAc fa fr) := ⟨pa_cons ha.pe hr.pa hs, fun W ρ σ H ds Q gd rp e q => by
  obtain ⟨x, ea, e⟩ := obind e
  obtain ⟨xs, er, e⟩ := obind e
  cases e
  refine ha.sd W ρ σ H x _ gd rp ea fun v H1 e1 g1 r1 => ?_
  exact hr.sd W ρ σ H1 xs _ g1 (rp.ext e1) er fun vs H2 e2 g2 r2 => q (v :: vs) H2 (e1.trans e2) g2 (.cons (r1.ext e2) r2)⟩
def fTup (a : FnL) : Fn := fun ρ => (a ρ).bind fun ds => if ds.length ≤ 1000 then some (.tup ds) else none
theorem le1000 {n : Nat} (h : n ≤ 1000) : n ≤ sizeLine := Nat.le_of_lt (small1000 h)
theorem de_tup {k : Nat} (ha : DA m T K X es tr fr) : DE m T K X (.Tuple es k pos) (tTup tr) (fTup fr) := ⟨pe_tup ha.pa, fun W ρ σ H d Q gd rp e q => by
  obtain ⟨ds, ea, e⟩ := obind e
  by_cases hl : ds.length ≤ 1000
  · rw [if_pos hl] at e
    cases e
    refine ha.sd W ρ σ H ds _ gd rp ea fun vs H1 e1 g1 r1 => ?_
    have hn : vs.length ≤ sizeLine := by rw [r1.length]; exact le1000 hl
    refine ⟨hn, fun p hp => q _ _ (e1.trans (Ext.new hp)) (g1.newT hp hn) (.tup upd_same (r1.ext (Ext.new hp)))⟩
  · rw [if_neg hl] at e
    cases e⟩
def fLstL (a : FnL) : FnL := fun ρ => (a ρ).bind fun ds => if ds.length ≤ 1000 then some ds else none
theorem df_lst (ha : DA true T K X es tr fr) : DF T K X (.List es pos) (tLst tr) (fLstL fr) := ⟨pe_lst ha.pa, fun W ρ σ H d Q gd rp e q => by
  obtain ⟨ds, ea, e⟩ := obind e
  by_cases hl : ds.length ≤ 1000
  · rw [if_pos hl] at e
    cases e
    refine ha.sd W ρ σ H d _ gd rp ea fun vs H1 e1 g1 r1 => ?_
    have hn : vs.length ≤ sizeLine := by rw [r1.length]; exact le1000 hl
    refine ⟨hn, fun p hp => q p vs _ (e1.trans (Ext.new hp)) (g1.newL hp hn) ?_ upd_same (r1.wt.newp hp)⟩
    exact e1.there p hp
  · rw [if_neg hl] at e
    cases e⟩
end
end EL
end

section
set_option Elab.async false
set_option maxRecDepth 100000
/-! EL operators, comparisons, subscripts, slices. -/
namespace EL
open PySem PySem.Spec PyProof.Rows L2

/-! ### as the library's data -/
mutual
def Dt.py : Dt → PyData
  | .non => .none
  | .bl b => .bool b
  | .int i => .int i
  | .str x => .str x
  | .tup xs => .tuple (Dt.pyA xs)
  | .lst xs => .list (Dt.pyA xs)
  | .scr _ => .dict []
  | .dcK _ _ => .dict []
  | .dcT _ _ => .dict []
def Dt.pyA : List Dt → List PyData
  | [] => []
  | x :: xs => x.py :: Dt.pyA xs
end
theorem pyA_map : ∀ xs : List Dt, Dt.pyA xs = xs.map Dt.py
  | [] => by simp [Dt.pyA]
  | x :: xs => by simp [Dt.pyA, pyA_map xs]
section
variable {K : PySem.W.Frag} {H : Hp} {W : Addr → Prop}
mutual
theorem Rep.dp : ∀ {d : Dt} {v : V}, Rep K H W v d → d.py.canLay0 = true → Dp K H v d.py
  | _, _, .non, _ => by rw [Dt.py]; exact .non
  | _, _, .bl b, _ => by rw [Dt.py]; exact .bl b
  | _, _, .int i, _ => by rw [Dt.py]; exact .int i
  | _, _, .str x, _ => by rw [Dt.py]; exact .str x
  | _, _, .tup h r, e => by
    rw [Dt.py] at e ⊢
    exact .tup (.of h) (RepA.dp r (by simpa [PyData.canLay0] using e))
  | _, _, .lst h n r, e => by
    rw [Dt.py] at e ⊢
    exact .lst (.of h) (RepA.dp r (by simpa [PyData.canLay0] using e))
  | _, _, .scr h, e => by simp [Dt.py, PyData.canLay0] at e
  | _, _, .dcK h n l r, e => by simp [Dt.py, PyData.canLay0] at e
  | _, _, .dcT h n l r, e => by simp [Dt.py, PyData.canLay0] at e
theorem RepA.dp : ∀ {ds : List Dt} {vs : List V}, RepA K H W vs ds → PyData.canLayAll0 (Dt.pyA ds) = true → DpAll K H vs (Dt.pyA ds)
  | _, _, .nil, _ => by rw [Dt.pyA]; exact .nil
  | _, _, .cons h r, e => by
    rw [Dt.pyA] at e ⊢
    have e' := Bool.and_eq_true_iff.mp (show (_ && _) = true from by simpa [PyData.canLayAll0] using e)
    exact .cons (Rep.dp h e'.1) (RepA.dp r e'.2)
end
end
def Dt.ok (d : Dt) : Bool := SeqAt.shaped d.py
theorem Rep.dps {K : PySem.W.Frag} {H : Hp} {W : Addr → Prop} {d : Dt} {v : V} (r : Rep K H W v d) (h : d.ok = true) : Dp K H v d.py := r.dp (SeqAt.canLay_of_shaped h)

section
variable {T : List Addr} {X : Cx} {K : PySem.W.Frag}
/-! ### + - * // % ** -/
def gAdd : Dt → Dt → Option Dt
  | .int i, .int j => some (.int (i + j))
  | .str x, .str y => if x.length + y.length ≤ sizeLine then some (.str (x ++ y)) else none
  | .tup xs, .tup ys => if xs.length + ys.length ≤ sizeLine then some (.tup (xs ++ ys)) else none
  | .lst xs, .lst ys => if xs.length + ys.length ≤ sizeLine then some (.lst (xs ++ ys)) else none
  | _, _ => none
theorem oAdd (hk : X.K = K) : OpR X (binaryOp .Add) (fun x y H Q => rI0 (fun i j => .int (i + j)) x y H Q ∨ (∃ i j, x = .str i ∧ y = .str j ∧ i.length + j.length ≤ sizeLine ∧ Q (.str (i ++ j)) H) ∨ rCatA K x y H Q ∨ rCat x y H Q) ∧
    OpD T K (fun x y H Q => rI0 (fun i j => .int (i + j)) x y H Q ∨ (∃ i j, x = .str i ∧ y = .str j ∧ i.length + j.length ≤ sizeLine ∧ Q (.str (i ++ j)) H) ∨ rCatA K x y H Q ∨ rCat x y H Q) gAdd := by
  subst hk
  refine ⟨OpR.or op_add (OpR.or op_add_str (OpR.or op_catA op_cat)), fun W H x y d e c Q g wl r1 r2 h q => ?_⟩
  cases r1 with
  | int i =>
    cases r2 with
    | int j => cases h; exact .inl ⟨i, j, rfl, rfl, q _ H (Ext.refl H) g (.int _)⟩
    | _ => cases h
  | str i =>
    cases r2 with
    | str j =>
      dsimp only [gAdd] at h
      by_cases hz : i.length + j.length ≤ sizeLine
      · rw [if_pos hz] at h
        cases h
        exact .inr (.inl ⟨i, j, rfl, rfl, hz, q _ H (Ext.refl H) g (.str _)⟩)
      · rw [if_neg hz] at h; cases h
    | _ => cases h
  | @tup a xs ds h1 ra =>
    cases r2 with
    | @tup b ys es h2 rb =>
      dsimp only [gAdd] at h
      by_cases hz : ds.length + es.length ≤ sizeLine
      · rw [if_pos hz] at h
        cases h
        have hl : xs.length + ys.length ≤ sizeLine := by rw [ra.length, rb.length]; exact hz
        refine .inr (.inr (.inl ⟨a, b, xs, ys, rfl, rfl, .of h1, .of h2, hl, fun e => ?_, fun _ e => ?_, fun _ _ p hp => ?_⟩))
        · subst e; cases ra; exact q _ H (Ext.refl H) g (.tup h2 rb)
        · subst e; cases rb; exact q _ H (Ext.refl H) g (by rw [List.append_nil]; exact .tup h1 ra)
        · exact q _ _ (Ext.new hp) (g.newT hp (by rw [List.length_append]; exact hl)) (.tup upd_same ((ra.append rb).ext (Ext.new hp)))
      · rw [if_neg hz] at h; cases h
    | _ => cases h
  | @lst a xs ds h1 n1 ra =>
    cases r2 with
    | @lst b ys es h2 n2 rb =>
      dsimp only [gAdd] at h
      by_cases hz : ds.length + es.length ≤ sizeLine
      · rw [if_pos hz] at h
        cases h
        have hl : xs.length + ys.length ≤ sizeLine := by rw [ra.length, rb.length]; exact hz
        refine .inr (.inr (.inr ⟨a, b, xs, ys, rfl, rfl, h1, h2, hl, fun p hp => ?_⟩))
        exact q _ _ (Ext.new hp) (g.newL hp (by rw [List.length_append]; exact hl)) (.lst upd_same (fun z => by obtain ⟨zs, hz⟩ := wl p z; rw [hp] at hz; cases hz) ((ra.append rb).ext (Ext.new hp)))
      · rw [if_neg hz] at h; cases h
    | _ => cases h
  | _ => cases h
def gI (C : Int → Int → Bool) (f : Int → Int → Int) : Dt → Dt → Option Dt
  | .int i, .int j => if C i j = true then some (.int (f i j)) else none
  | _, _ => none
theorem opD_int {C : Int → Int → Prop} {D : Int → Int → Bool} {f : Int → Int → Int} (h : ∀ i j, D i j = true → C i j) : OpD T K (rI C fun i j => .int (f i j)) (gI D f) := fun W H x y d e c Q g wl r1 r2 h' q => by
  cases r1 with
  | int i =>
    cases r2 with
    | int j =>
      dsimp only [gI] at h'
      by_cases hz : D i j = true
      · rw [if_pos hz] at h'
        cases h'
        exact ⟨i, j, rfl, rfl, h i j hz, q _ H (Ext.refl H) g (.int _)⟩
      · rw [if_neg hz] at h'; cases h'
    | _ => cases h'
  | _ => cases h'
def gMinus : Dt → Dt → Option Dt
  | .int i, .int j => some (.int (i - j))
  | _, _ => none
theorem oSub : OpR X (binaryOp .Sub) (rI0 fun i j => .int (i - j)) ∧ OpD T K (rI0 fun i j => .int (i - j)) gMinus := ⟨op_sub, fun W H x y d e c Q g wl r1 r2 h q => by
  cases r1 with
  | int i =>
    cases r2 with
    | int j => cases h; exact ⟨i, j, rfl, rfl, q _ H (Ext.refl H) g (.int _)⟩
    | _ => cases h
  | _ => cases h⟩
/-- a test that nothing reckons out: the kernel must not unfold comparisons with great numbers -/
noncomputable def cdc (p : Prop) : Bool := @decide p (Classical.propDecidable p)
theorem cdc_t {p : Prop} (h : p) : cdc p = true := by unfold cdc; exact @decide_eq_true p (Classical.propDecidable p) h
theorem cdc_p {p : Prop} (h : cdc p = true) : p := by unfold cdc at h; exact @of_decide_eq_true p (Classical.propDecidable p) h
noncomputable def cMul (i j : Int) : Bool := cdc (-(2 ^ 64) < i ∧ i < 2 ^ 64) || cdc (-(2 ^ 64) < j ∧ j < 2 ^ 64)
noncomputable def gMul : Dt → Dt → Option Dt
  | .int i, .int j => if cMul i j = true then some (.int (i * j)) else none
  | .lst xs, .int k => if cdc (-(2 ^ 63) ≤ k ∧ k < 2 ^ 63 ∧ xs.length * k.toNat ≤ sizeLine) = true then some (.lst (List.replicate k.toNat xs).flatten) else none
  | _, _ => none
def cDiv (_ j : Int) : Bool := decide (j ≠ 0 ∧ j.natAbs < 1073741824)
def cMod (_ j : Int) : Bool := decide (j ≠ 0)
def cPow (i j : Int) : Bool := decide (0 ≤ j ∧ j ≤ 1000000 ∧ i.natAbs < 2 ^ 64)
theorem RepA.rep {W : Addr → Prop} {H : Hp} {vs : List V} {ds : List Dt} (h : RepA K H W vs ds) : ∀ k : Nat, RepA K H W (List.replicate k vs).flatten (List.replicate k ds).flatten
  | 0 => .nil
  | k + 1 => by
    rw [List.replicate_succ, List.replicate_succ, List.flatten_cons, List.flatten_cons]
    exact h.append (RepA.rep h k)
theorem len_rep {α : Type} (k : Nat) (xs : List α) : (List.replicate k xs).flatten.length = xs.length * k := by
  induction k with
  | zero => simp
  | succ k ih =>
    rw [List.replicate_succ, List.flatten_cons, List.length_append, ih, Nat.mul_succ]
    omega
theorem oMul : OpR X (binaryOp .Mult) (fun x y H Q => rI CMul (fun i j => .int (i * j)) x y H Q ∨ rRep x y H Q) ∧ OpD T K (fun x y H Q => rI CMul (fun i j => .int (i * j)) x y H Q ∨ rRep x y H Q) gMul := by
  refine ⟨OpR.or op_mul op_rep, fun W H x y d e c Q g wl r1 r2 h q => ?_⟩
  cases r1 with
  | int i =>
    cases r2 with
    | int j =>
      dsimp only [gMul] at h
      by_cases hz : cMul i j = true
      · rw [if_pos hz] at h
        cases h
        refine .inl ⟨i, j, rfl, rfl, ?_, q _ H (Ext.refl H) g (.int _)⟩
        rcases Bool.or_eq_true_iff.mp hz with z | z
        · exact .inl (cdc_p z)
        · exact .inr (cdc_p z)
      · rw [if_neg hz] at h; cases h
    | _ => cases h
  | @lst a xs ds h1 n1 ra =>
    cases r2 with
    | int k =>
      dsimp only [gMul] at h
      by_cases hz : cdc (-(2 ^ 63) ≤ k ∧ k < 2 ^ 63 ∧ ds.length * k.toNat ≤ sizeLine) = true
      · rw [if_pos hz] at h
        have hz := cdc_p hz
        cases h
        have hl : xs.length * k.toNat ≤ sizeLine := by rw [ra.length]; exact hz.2.2
        refine .inr ⟨a, k, xs, rfl, rfl, h1, hz.1, hz.2.1, hl, fun p hp => ?_⟩
        exact q _ _ (Ext.new hp) (g.newL hp (by rw [len_rep]; exact hl)) (.lst upd_same (fun z => by obtain ⟨zs, hz⟩ := wl p z; rw [hp] at hz; cases hz) ((ra.rep _).ext (Ext.new hp)))
      · rw [if_neg hz] at h; cases h
    | _ => cases h
  | _ => cases h
theorem oDiv : OpR X (binaryOp .FloorDiv) (rI CDivN fun i j => .int (i.fdiv j)) ∧ OpD T K (rI CDivN fun i j => .int (i.fdiv j)) (gI cDiv Int.fdiv) := ⟨op_fdivN, opD_int fun _ j h => (of_decide_eq_true h : j ≠ 0 ∧ j.natAbs < 1073741824)⟩
theorem oMod : OpR X (binaryOp .Mod) (rI (fun _ j => j ≠ 0) fun i j => .int (i.fmod j)) ∧ OpD T K (rI (fun _ j => j ≠ 0) fun i j => .int (i.fmod j)) (gI cMod Int.fmod) := ⟨op_modN, opD_int fun _ _ h => of_decide_eq_true h⟩
theorem oPow : OpR X (binaryOp .Pow) (rI CPow fun i j => .int (i ^ j.toNat)) ∧ OpD T K (rI CPow fun i j => .int (i ^ j.toNat)) (gI cPow fun i j => i ^ j.toNat) := ⟨op_pow, opD_int fun i j h => (of_decide_eq_true h : 0 ≤ j ∧ j ≤ 1000000 ∧ i.natAbs < 2 ^ 64)⟩
def gNeg : Dt → Option Dt
  | .int i => some (.int (-i))
  | _ => none
theorem de_neg {m : Bool} {a : Expr} {ta : TE} {fa : Fn} {pos : Pos} (ha : DE m T K X a ta fa) : DE m T K X (.UnaryOp .USub a pos) (tUn (rU fun i => .int (-i)) ta) (f1 gNeg fa) := ⟨pe_un un_neg ha.pe, fun W ρ σ H d Q g r e q => by
  obtain ⟨x, ea, e⟩ := obind e
  refine ha.sd W ρ σ H x _ g r ea fun v H1 e1 g1 r1 => ?_
  cases r1 with
  | int i => cases e; exact ⟨i, rfl, q _ H1 e1 g1 (.int _)⟩
  | _ => cases e⟩

/-! ### comparisons -/
def gEq (d e : Dt) : Option Bool := if d.ok = true ∧ e.ok = true then some (PyData.eqv d.py e.py) else none
def gNe (d e : Dt) : Option Bool := if d.ok = true ∧ e.ok = true then some (!PyData.eqv d.py e.py) else none
theorem cEq (hk : X.K = K) (hu : X.A.units + 64 < cLine) : OpR X (compareOp .Eq) (rEqD K) ∧ CmpD T K (rEqD K) gEq := by subst hk; exact ⟨op_eqD hu, fun H x y d e k Q g r1 r2 h q => by
  unfold gEq at h
  by_cases hz : d.ok = true ∧ e.ok = true
  · rw [if_pos hz] at h
    cases h
    exact ⟨d.py, e.py, r1.dps hz.1, r2.dps hz.2, hz.1, hz.2, q H (Ext.refl H) g⟩
  · rw [if_neg hz] at h; cases h⟩
theorem cNe (hk : X.K = K) (hu : X.A.units + 64 < cLine) : OpR X (compareOp .NotEq) (rNeD K) ∧ CmpD T K (rNeD K) gNe := by subst hk; exact ⟨op_neD hu, fun H x y d e k Q g r1 r2 h q => by
  unfold gNe at h
  by_cases hz : d.ok = true ∧ e.ok = true
  · rw [if_pos hz] at h
    cases h
    exact ⟨d.py, e.py, r1.dps hz.1, r2.dps hz.2, hz.1, hz.2, q H (Ext.refl H) g⟩
  · rw [if_neg hz] at h; cases h⟩
def gIsN : Dt → Dt → Option Bool
  | .non, .non => some true
  | _, .non => some false
  | _, _ => none
def gNotN : Dt → Dt → Option Bool
  | .non, .non => some false
  | _, .non => some true
  | _, _ => none
theorem cIsN : OpR X (compareOp .Is) (fun x y H Q => y = .non ∧ Q (.bl (decide (x = .non))) H) ∧ CmpD T K (fun x y H Q => y = .non ∧ Q (.bl (decide (x = .non))) H) gIsN := ⟨op_isN, fun H x y d e k Q g r1 r2 h q => by
  cases r2 with
  | non =>
    refine ⟨rfl, ?_⟩
    cases r1 <;> cases h <;> exact q H (Ext.refl H) g
  | _ => cases r1 <;> cases h⟩
theorem cNotN : OpR X (compareOp .IsNot) (fun x y H Q => y = .non ∧ Q (.bl (!decide (x = .non))) H) ∧ CmpD T K (fun x y H Q => y = .non ∧ Q (.bl (!decide (x = .non))) H) gNotN := ⟨op_notN, fun H x y d e k Q g r1 r2 h q => by
  cases r2 with
  | non =>
    refine ⟨rfl, ?_⟩
    cases r1 <;> cases h <;> exact q H (Ext.refl H) g
  | _ => cases r1 <;> cases h⟩
/-- order: ints -/
def gII (f : Int → Int → Bool) : Dt → Dt → Option Bool
  | .int i, .int j => some (f i j)
  | _, _ => none
theorem cmpD_int {f : Int → Int → Bool} : CmpD T K (rI0 fun i j => .bl (f i j)) (gII f) := fun H x y d e k Q g r1 r2 h q => by
  cases r1 with
  | int i =>
    cases r2 with
    | int j => cases h; exact ⟨i, j, rfl, rfl, q H (Ext.refl H) g⟩
    | _ => cases h
  | _ => cases h
def bLt (i j : Int) : Bool := decide (i < j)
def bLe (i j : Int) : Bool := decide (i ≤ j)
def bGt (i j : Int) : Bool := decide (j < i)
def bGe (i j : Int) : Bool := decide (j ≤ i)
theorem cLt : OpR X (compareOp .Lt) (rI0 fun i j => .bl (bLt i j)) ∧ CmpD T K (rI0 fun i j => .bl (bLt i j)) (gII bLt) := ⟨op_lt, cmpD_int⟩
theorem cLe : OpR X (compareOp .LtE) (rI0 fun i j => .bl (bLe i j)) ∧ CmpD T K (rI0 fun i j => .bl (bLe i j)) (gII bLe) := ⟨op_le, cmpD_int⟩
theorem cGt : OpR X (compareOp .Gt) (rI0 fun i j => .bl (bGt i j)) ∧ CmpD T K (rI0 fun i j => .bl (bGt i j)) (gII bGt) := ⟨op_gt, cmpD_int⟩
theorem cGe : OpR X (compareOp .GtE) (rI0 fun i j => .bl (bGe i j)) ∧ CmpD T K (rI0 fun i j => .bl (bGe i j)) (gII bGe) := ⟨op_ge, cmpD_int⟩

/-! in, not in: lists and tuples of data; texts -/
def rInS (K : PySem.W.Frag) (neg : Bool) : R2 := fun x y H Q => ∃ d ds, Dp K H x d ∧ (Dp K H y (.list ds) ∨ Dp K H y (.tuple ds)) ∧ SeqAt.shaped d = true ∧ SeqAt.shaped (.list ds) = true ∧ Q (.bl (if neg then !ds.any fun z => PyData.eqv z d else ds.any fun z => PyData.eqv z d)) H
theorem op_inS (hu : X.A.units + 65 < cLine) : OpR X (compareOp .In) (rInS X.K false) := by
  intro pins s σ H x y v u Q I rx ry h
  obtain ⟨d, ds, hd, he, sd, se, q⟩ := h
  obtain ⟨as, r1⟩ := Dp.reads I d x v hd rx
  rcases he with he | he
  · obtain ⟨bs, r2⟩ := Dp.reads I (.list ds) y u he ry
    exact SeqAt.in_list_reads r2 r1 (SeqAt.canLay_of_shaped se) (SeqAt.canLay_of_shaped sd) (room_in_shaped sd hu) ⟨.bl _, H, I, rfl, q⟩
  · obtain ⟨bs, r2⟩ := Dp.reads I (.tuple ds) y u he ry
    exact SeqAt.in_tuple_reads r2 r1 (SeqAt.canLay_of_shaped se) (SeqAt.canLay_of_shaped sd) (room_in_shaped sd hu) ⟨.bl _, H, I, rfl, q⟩
theorem op_notInS (hu : X.A.units + 65 < cLine) : OpR X (compareOp .NotIn) (rInS X.K true) := by
  intro pins s σ H x y v u Q I rx ry h
  obtain ⟨d, ds, hd, he, sd, se, q⟩ := h
  obtain ⟨as, r1⟩ := Dp.reads I d x v hd rx
  rcases he with he | he
  · obtain ⟨bs, r2⟩ := Dp.reads I (.list ds) y u he ry
    exact SeqAt.notIn_list_reads r2 r1 (SeqAt.canLay_of_shaped se) (SeqAt.canLay_of_shaped sd) (room_in_shaped sd hu) ⟨.bl _, H, I, rfl, q⟩
  · obtain ⟨bs, r2⟩ := Dp.reads I (.tuple ds) y u he ry
    exact SeqAt.notIn_tuple_reads r2 r1 (SeqAt.canLay_of_shaped se) (SeqAt.canLay_of_shaped sd) (room_in_shaped sd hu) ⟨.bl _, H, I, rfl, q⟩
def okA (ds : List Dt) : Bool := (Dt.lst ds).ok
def anyEq (d : Dt) (ds : List Dt) : Bool := (Dt.pyA ds).any fun z => PyData.eqv z d.py
def inStr (x y : Str) : Bool := !(Builtin.Str.occurrences y x 0 y.length 1).isEmpty
def gIn : Dt → Dt → Option Bool
  | .str x, .str y => some (inStr x y)
  | d, .lst ds => if d.ok = true ∧ okA ds = true then some (anyEq d ds) else none
  | d, .tup ds => if d.ok = true ∧ okA ds = true then some (anyEq d ds) else none
  | _, _ => none
def gNotIn (d e : Dt) : Option Bool := (gIn d e).map not
theorem shaped_tup {ds : List PyData} (h : SeqAt.shaped (.list ds) = true) : SeqAt.shaped (.tuple ds) = true := by
  unfold SeqAt.shaped at h ⊢
  have h1 := Bool.and_eq_true_iff.mp h
  refine Bool.and_eq_true_iff.mpr ⟨?_, ?_⟩
  · simpa [PyData.canLay0] using h1.1
  · simpa [PyData.depth] using h1.2
theorem in_cases {H : Hp} {x y : V} {d e : Dt} {k : Bool} {P : Bool → Prop} (r1 : Rep K H NoW x d) (r2 : Rep K H NoW y e) (h : gIn d e = some k) (hs : ∀ i j, x = .str i → y = .str j → P (inStr i j))
    (hl : ∀ ds, Dp K H x d.py → (Dp K H y (.list ds) ∨ Dp K H y (.tuple ds)) → SeqAt.shaped d.py = true → SeqAt.shaped (.list ds) = true → P (ds.any fun z => PyData.eqv z d.py)) : P k := by
  have go : ∀ ds : List Dt, (if d.ok = true ∧ okA ds = true then some (anyEq d ds) else none) = some k → (e = .lst ds ∨ e = .tup ds) → P k := fun ds h he => by
    by_cases hz : d.ok = true ∧ okA ds = true
    · rw [if_pos hz] at h
      cases h
      have hz2 : SeqAt.shaped (.list (Dt.pyA ds)) = true := by
        have := hz.2
        unfold okA Dt.ok at this
        rw [Dt.py] at this
        exact this
      refine hl (Dt.pyA ds) (r1.dps hz.1) ?_ hz.1 hz2
      rcases he with he | he
      · subst he
        have := r2.dps hz.2
        rw [Dt.py] at this
        exact .inl this
      · subst he
        have h3 : (Dt.tup ds).ok = true := by unfold Dt.ok; rw [Dt.py]; exact shaped_tup hz2
        have := r2.dps h3
        rw [Dt.py] at this
        exact .inr this
    · rw [if_neg hz] at h; cases h
  cases e with
  | lst ds => cases d <;> exact go ds h (.inl rfl)
  | tup ds => cases d <;> exact go ds h (.inr rfl)
  | str y' =>
    cases d with
    | str x' =>
      cases h
      cases r1
      cases r2
      exact hs _ _ rfl rfl
    | _ => cases h
  | _ => cases d <;> cases h
theorem cIn (hk : X.K = K) (hu : X.A.units + 65 < cLine) : OpR X (compareOp .In) (fun x y H Q => (∃ i j, x = .str i ∧ y = .str j ∧ Q (.bl (!(Builtin.Str.occurrences j i 0 j.length 1).isEmpty)) H) ∨ rInS K false x y H Q) ∧
    CmpD T K (fun x y H Q => (∃ i j, x = .str i ∧ y = .str j ∧ Q (.bl (!(Builtin.Str.occurrences j i 0 j.length 1).isEmpty)) H) ∨ rInS K false x y H Q) gIn := by subst hk; exact ⟨OpR.or op_in_str (op_inS hu), fun H x y d e k Q g r1 r2 h q =>
  in_cases (P := fun k => (∀ H', Ext H H' → Gd T H' → Q (.bl k) H') → _) r1 r2 h (fun i j e1 e2 q => .inl ⟨i, j, e1, e2, q H (Ext.refl H) g⟩) (fun ds h1 h2 h3 h4 q => .inr ⟨_, ds, h1, h2, h3, h4, q H (Ext.refl H) g⟩) q⟩
theorem cNotIn (hk : X.K = K) (hu : X.A.units + 65 < cLine) : OpR X (compareOp .NotIn) (fun x y H Q => (∃ i j, x = .str i ∧ y = .str j ∧ Q (.bl (!(!(Builtin.Str.occurrences j i 0 j.length 1).isEmpty))) H) ∨ rInS K true x y H Q) ∧
    CmpD T K (fun x y H Q => (∃ i j, x = .str i ∧ y = .str j ∧ Q (.bl (!(!(Builtin.Str.occurrences j i 0 j.length 1).isEmpty))) H) ∨ rInS K true x y H Q) gNotIn := by subst hk; exact ⟨OpR.or op_notin_str (op_notInS hu), fun H x y d e k Q g r1 r2 h q => by
  unfold gNotIn at h
  obtain ⟨k', hk, e'⟩ := Option.map_eq_some_iff.mp h
  subst e'
  exact in_cases (P := fun k => (∀ H', Ext H H' → Gd T H' → Q (.bl (!k)) H') → _) r1 r2 hk (fun i j e1 e2 q => .inl ⟨i, j, e1, e2, q H (Ext.refl H) g⟩) (fun ds h1 h2 h3 h4 q => .inr ⟨_, ds, h1, h2, h3, h4, q H (Ext.refl H) g⟩) q⟩
end
end EL
end

section
set_option Elab.async false
set_option maxRecDepth 100000
/-! EL subscripts, slices, calls of built-ins. -/
namespace EL
open PySem PySem.Spec PyProof.Rows L2

section
variable {m : Bool} {T : List Addr} {X : Cx} {K : PySem.W.Frag} {a b c e : Expr} {es : List Expr} {ta tb tc t : TE} {tr : TA} {fa fb : Fn} {fr : FnL} {pos p2 : Pos}
/-! ### x[i] -/
def gIx : Dt → Dt → Option Dt
  | .lst xs, .int i => atI xs i
  | .tup xs, .int i => atI xs i
  | .scr ns, .int i => (atI ns i).map Dt.int
  | .str z, .int i => if z.length ≤ sizeLine then (atI z.cps.toList i).map fun c => .str ⟨#[c]⟩ else none
  | _, _ => none
theorem RepA.atI {H : Hp} {W : Addr → Prop} {vs : List V} {ds : List Dt} {i : Int} {d : Dt} (r : RepA K H W vs ds) (h : L2.atI ds i = some d) : ∃ v, L2.atI vs i = some v ∧ Rep K H W v d := by
  unfold L2.atI at h ⊢
  obtain ⟨j, h1, h2⟩ := obind h
  obtain ⟨v, h3, h4⟩ := r.get h2
  exact ⟨v, by rw [r.length, h1]; exact h3, h4⟩
theorem atI_map {α β : Type} (f : α → β) (xs : List α) (i : Int) : L2.atI (xs.map f) i = (L2.atI xs i).map f := by
  unfold L2.atI
  rw [List.length_map]
  cases ixN xs.length i with
  | none => rfl
  | some j => show (xs.map f)[j]? = (xs[j]?).map f; rw [List.getElem?_map]
theorem opD_ix : OpD T K (rIx K) gIx := fun W H x y d e c Q g wl r1 r2 h q => by
  cases r2 with
  | int i =>
    cases r1 with
    | @lst a xs ds h1 n1 ra =>
      obtain ⟨v, h3, h4⟩ := ra.atI (show L2.atI ds i = some c from h)
      exact .inl ⟨a, xs, i, v, rfl, rfl, .of h1, h3, q v H (Ext.refl H) g h4⟩
    | @tup a xs ds h1 ra =>
      obtain ⟨v, h3, h4⟩ := ra.atI (show L2.atI ds i = some c from h)
      exact .inr (.inl ⟨a, xs, i, v, rfl, rfl, .of h1, h3, q v H (Ext.refl H) g h4⟩)
    | @scr a ns hs =>
      obtain ⟨n, h3, h4⟩ := Option.map_eq_some_iff.mp (show (L2.atI ns i).map Dt.int = some c from h)
      subst h4
      exact .inl ⟨a, ns.map V.int, i, .int n, rfl, rfl, hs.sq, by rw [atI_map, h3]; rfl, q _ H (Ext.refl H) g (.int n)⟩
    | str z =>
      dsimp only [gIx] at h
      by_cases hz : z.length ≤ sizeLine
      · rw [if_pos hz] at h
        obtain ⟨n, h3, h4⟩ := Option.map_eq_some_iff.mp h
        subst h4
        exact .inr (.inr ⟨z, i, n, rfl, rfl, hz, h3, q _ H (Ext.refl H) g (.str _)⟩)
      · rw [if_neg hz] at h; cases h
    | _ => cases h
  | _ => cases r1 <;> cases h
theorem de_ix (ha : DE m T K X a ta fa) (hb : DE m T K X b tb fb) (hs : PlainIx b := by exact fun _ _ => rfl) (hk : X.K = K := by rfl) : DE m T K X (.Subscript a b pos) (tOp (rIx K) ta tb) (f2 gIx fa fb) := by subst hk; exact ⟨pe_ix ix_seq ha.pe hb.pe hs, sd_op opD_ix ha.sd hb.sd⟩

/-! ### x[i:j] -/
abbrev FnO := Rho → Option (Option Int)
def SdO (T : List Addr) (K : PySem.W.Frag) (t : TO) (f : FnO) : Prop :=
  ∀ (W : Addr → Prop) (ρ : Rho) (σ : L2.St) (H : Hp) (i : Option Int) (Q : Option Int → Hp → Prop), Gd T H → Rp K H W ρ σ → f ρ = some i → (∀ H', Ext H H' → Gd T H' → Q i H') → t σ H Q
structure DO (T : List Addr) (K : PySem.W.Frag) (X : Cx) (e : Option Expr) (t : TO) (f : FnO) : Prop where
  po : PO X e t
  sd : SdO T K t f
def fNoP : FnO := fun _ => some none
def fPart (a : Fn) : FnO := fun ρ => (a ρ).bind fun d => match d with | .int i => some (some i) | _ => none
theorem do_none : DO T K X none tNoPart fNoP := ⟨po_none, fun W ρ σ H i Q g r e q => by cases e; exact q H (Ext.refl H) g⟩
theorem do_some (ha : DE false T K X a ta fa) : DO T K X (some a) (tPart ta) (fPart fa) := ⟨po_some ha.pe, fun W ρ σ H i Q g r e q => by
  obtain ⟨d, ea, e⟩ := obind e
  refine ha.sd W ρ σ H d _ g r ea fun v H1 e1 g1 r1 => ?_
  cases r1 with
  | int i' => cases e; exact ⟨i', rfl, q H1 e1 g1⟩
  | _ => cases e⟩
def cutL {α : Type} (xs : List α) (lo hi : Option Int) : List α := (xs.drop (HT.sIx xs.length 0 lo)).take (HT.sIx xs.length xs.length hi - HT.sIx xs.length 0 lo)
theorem cutL_length {α : Type} (xs : List α) (lo hi : Option Int) : (cutL xs lo hi).length ≤ xs.length := by
  unfold cutL
  rw [List.length_take, List.length_drop]
  omega
theorem RepA.cut {H : Hp} {W : Addr → Prop} {vs : List V} {ds : List Dt} (r : RepA K H W vs ds) (lo hi : Option Int) : RepA K H W (cutV vs lo hi) (cutL ds lo hi) := by
  unfold cutV cutL
  rw [r.length]
  exact (r.drop _).take _
def gSl : Dt → Option Int → Option Int → Option Dt
  | .lst xs, lo, hi => some (.lst (cutL xs lo hi))
  | .tup xs, lo, hi => some (.tup (cutL xs lo hi))
  | .str z, lo, hi => if z.length ≤ sizeLine then some (.str (cutS z lo hi)) else none
  | _, _, _ => none
def fSl (a : Fn) (lo hi : FnO) : Fn := fun ρ => (a ρ).bind fun d => (lo ρ).bind fun i => (hi ρ).bind fun j => gSl d i j
def rSl (K : PySem.W.Frag) : V → Option Int → Option Int → Hp → VK → Prop := fun x lo hi H Q => rSlL K x lo hi H Q ∨ rSlA K x lo hi H Q ∨ rSlS x lo hi H Q
theorem sl_any : SlR X (rSl X.K) := SlR.or sl_list (SlR.or sl_tupA sl_str)
theorem cutV_length2 (vs : List V) (lo hi : Option Int) : (cutV vs lo hi).length ≤ vs.length := L2.cutV_length vs lo hi
theorem cut_whole {α : Type} {xs : List α} {lo hi : Option Int} (h : HT.sIx xs.length 0 lo = 0 ∧ HT.sIx xs.length xs.length hi = xs.length) : cutL xs lo hi = xs := by
  unfold cutL
  rw [h.1, h.2, List.drop_zero, Nat.sub_zero, List.take_length]
theorem de_slice {lo hi : Option Expr} {tl th : TO} {fl fh : FnO} (ha : DE m T K X a ta fa) (hl : DO T K X lo tl fl) (hh : DO T K X hi th fh) (hk : X.K = K := by rfl) : DE m T K X (.Subscript a (.Slice lo hi none p2) pos) (tSl (rSl K) ta tl th) (fSl fa fl fh) := by
  subst hk
  exact ⟨pe_slice sl_any ha.pe hl.po hh.po, fun W ρ σ H d Q g r e q => by
  obtain ⟨x, ea, e⟩ := obind e
  obtain ⟨i, el, e⟩ := obind e
  obtain ⟨j, eh, e⟩ := obind e
  refine ha.sd W ρ σ H x _ g r ea fun v H1 e1 g1 r1 => ?_
  refine hl.sd W ρ σ H1 i _ g1 (r.ext e1) el fun H2 e2 g2 => ?_
  refine hh.sd W ρ σ H2 j _ g2 (r.ext (e1.trans e2)) eh fun H3 e3 g3 => ?_
  have r3 := r1.ext (e2.trans e3)
  have e13 := (e1.trans e2).trans e3
  cases r3 with
  | @lst p vs ds h1 n1 ra =>
    cases e
    refine .inl ⟨p, vs, rfl, .of h1, fun l hl => ?_⟩
    exact q _ _ (e13.trans (Ext.new hl)) (g3.newL hl (Nat.le_trans (cutV_length2 vs i j) (g3.1 p vs (.inl h1)))) (.lst upd_same (fun z => by obtain ⟨zs, hz⟩ := (r.ext e13).wo z; rw [hl] at hz; cases hz) ((ra.cut i j).ext (Ext.new hl)))
  | @tup p vs ds h1 ra =>
    cases e
    refine .inr (.inl ⟨p, vs, rfl, .of h1, fun hw => ?_, fun _ l hl => ?_⟩)
    · rw [ra.length] at hw
      rw [cut_whole hw] at q
      exact q _ _ e13 g3 (.tup h1 ra)
    · exact q _ _ (e13.trans (Ext.new hl)) (g3.newT hl (Nat.le_trans (cutV_length2 vs i j) (g3.1 p vs (.inr h1)))) (.tup upd_same ((ra.cut i j).ext (Ext.new hl)))
  | str z =>
    dsimp only [gSl] at e
    by_cases hz : z.length ≤ sizeLine
    · rw [if_pos hz] at e
      cases e
      exact .inr (.inr ⟨z, rfl, hz, q _ _ e13 g3 (.str _)⟩)
    · rw [if_neg hz] at e; cases e
  | _ => cases e⟩

/-! ### calls of built-ins -/
def CallD (T : List Addr) (K : PySem.W.Frag) (r : List V → Hp → VK → Prop) (g : List Dt → Option Dt) : Prop :=
  ∀ (W : Addr → Prop) (H : Hp) (vs : List V) (ds : List Dt) (c : Dt) (Q : VK), Gd T H → (∀ a, W a → ∃ xs : MuH, H a = some xs.1) → RepA K H W vs ds → g ds = some c →
    (∀ v H', Ext H H' → Gd T H' → Rep K H' W v c → Q v H') → r vs H Q
theorem sd_call {r : List V → Hp → VK → Prop} {g : List Dt → Option Dt} (h : CallD T K r g) (ha : SdA m T K tr fr) : Sd m T K (tCB r tr) (fN g fr) := fun W ρ σ H d Q gd rp e q => by
  obtain ⟨ds, ea, e⟩ := obind e
  refine ha W ρ σ H ds _ gd rp ea fun vs H1 e1 g1 r1 => ?_
  exact h (wOf m W ρ σ) H1 vs ds d Q g1 (fun p z => (rp.ext e1).wo z) r1 e fun v H2 e2 g2 r2 => q v H2 (e1.trans e2) g2 r2
theorem de_callB {id : String} {r : List V → Hp → VK → Prop} {g : List Dt → Option Dt} {x : Str} {p : Pos} (h : CallR X (.builtin id) r ∧ CallD T K r g) (hm : X.mg x = none) (hv : bootBuiltins x = some (.builtin id)) (ha : DA m T K X (e :: es) tr fr) (hg : Gl X x := by rfl) (hn : x ≠ "__name__" := by decide)
    (hdb : (x == ("__debug__" : Str)) = false := by decide) (he : starEach (e :: es) X.env = (false, eval e X.env) :: starEach es X.env := by rfl) (hpl : (backTo pos (starEach es X.env)).any (·.1) = false := by rfl) :
    DE m T K X (.Call (.Name x p) (e :: es) [] pos) (tCB r tr) (fN g fr) := ⟨pe_callB h.1 hg hm hv ha.pa hn hdb he hpl, sd_call h.2 ha.sd⟩
theorem de_callT {ty : String} {r : List V → Hp → VK → Prop} {g : List Dt → Option Dt} {x : Str} {p : Pos} (h : CallR X (.type ty) r ∧ CallD T K r g) (hm : X.mg x = none) (hv : bootBuiltins x = some (.type ty)) (ha : DA m T K X (e :: es) tr fr) (hg : Gl X x := by rfl) (hn : x ≠ "__name__" := by decide)
    (hdb : (x == ("__debug__" : Str)) = false := by decide) (he : starEach (e :: es) X.env = (false, eval e X.env) :: starEach es X.env := by rfl) (hpl : (backTo pos (starEach es X.env)).any (·.1) = false := by rfl) :
    DE m T K X (.Call (.Name x p) (e :: es) [] pos) (tCB r tr) (fN g fr) := ⟨pe_callTy h.1 hg hm hv ha.pa hn hdb he hpl, sd_call h.2 ha.sd⟩
/-- len -/
def gLen : List Dt → Option Dt
  | [.lst xs] => some (.int xs.length)
  | [.tup xs] => some (.int xs.length)
  | [.scr ns] => some (.int ns.length)
  | [.str z] => if z.length ≤ sizeLine then some (.int z.length) else none
  | _ => none
theorem repA1 {H : Hp} {W : Addr → Prop} {vs : List V} {d : Dt} (r : RepA K H W vs [d]) : ∃ v, vs = [v] ∧ Rep K H W v d := by
  cases r with
  | cons h r => cases r; exact ⟨_, rfl, h⟩
theorem repA2 {H : Hp} {W : Addr → Prop} {vs : List V} {d d' : Dt} (r : RepA K H W vs [d, d']) : ∃ v v', vs = [v, v'] ∧ Rep K H W v d ∧ Rep K H W v' d' := by
  cases r with
  | cons h r =>
    obtain ⟨v', rfl, h'⟩ := repA1 r
    exact ⟨_, _, rfl, h, h'⟩
theorem kLen (hk : X.K = K) : CallR X (.builtin "len") (fun xs H Q => (∃ p ys, xs = [.ref p] ∧ (SqL K H p ys ∨ SqT K H p ys) ∧ Q (.int ys.length) H) ∨ ∃ z, xs = [.str z] ∧ z.length ≤ sizeLine ∧ Q (.int z.length) H) ∧
    CallD T K (fun xs H Q => (∃ p ys, xs = [.ref p] ∧ (SqL K H p ys ∨ SqT K H p ys) ∧ Q (.int ys.length) H) ∨ ∃ z, xs = [.str z] ∧ z.length ≤ sizeLine ∧ Q (.int z.length) H) gLen := by subst hk; exact ⟨CallR.or call_len_seq call_len_str, fun W H vs ds c Q g wl r h q => by
  match ds, h with
  | x0 :: _ :: _, h => cases x0 <;> cases h
  | [d], h =>
    obtain ⟨v, rfl, r1⟩ := repA1 r
    cases r1 with
    | lst h1 n1 ra => cases h; exact .inl ⟨_, _, rfl, .inl (.of h1), q _ H (Ext.refl H) g (by rw [ra.length]; exact .int _)⟩
    | tup h1 ra => cases h; exact .inl ⟨_, _, rfl, .inr (.of h1), q _ H (Ext.refl H) g (by rw [ra.length]; exact .int _)⟩
    | scr hs => cases h; exact .inl ⟨_, _, rfl, .inl hs.sq, q _ H (Ext.refl H) g (by rw [List.length_map]; exact .int _)⟩
    | str z =>
      dsimp only [gLen] at h
      by_cases hz : z.length ≤ sizeLine
      · rw [if_pos hz] at h
        cases h
        exact .inr ⟨z, rfl, hz, q _ H (Ext.refl H) g (.int _)⟩
      · rw [if_neg hz] at h; cases h
    | _ => cases h⟩
/-- abs -/
def gAbs : List Dt → Option Dt
  | [.int i] => some (.int (if i < 0 then -i else i))
  | _ => none
theorem kAbs : CallR X (.builtin "abs") (fun xs H Q => ∃ i, xs = [.int i] ∧ Q (.int (if i < 0 then -i else i)) H) ∧ CallD T K (fun xs H Q => ∃ i, xs = [.int i] ∧ Q (.int (if i < 0 then -i else i)) H) gAbs := ⟨call_abs, fun W H vs ds c Q g wl r h q => by
  match ds, h with
  | x0 :: _ :: _, h => cases x0 <;> cases h
  | [d], h =>
    obtain ⟨v, rfl, r1⟩ := repA1 r
    cases r1 with
    | int i => cases h; exact ⟨i, rfl, q _ H (Ext.refl H) g (.int _)⟩
    | _ => cases h⟩
/-- int of an int or a truth value -/
def gInt : List Dt → Option Dt
  | [.int i] => some (.int i)
  | [.bl b] => some (.int (if b then 1 else 0))
  | _ => none
theorem kInt : CallR X (.type "int") (fun xs H Q => (∃ i, xs = [.int i] ∧ Q (.int i) H) ∨ ∃ k, xs = [.bl k] ∧ Q (.int (if k then 1 else 0)) H) ∧
    CallD T K (fun xs H Q => (∃ i, xs = [.int i] ∧ Q (.int i) H) ∨ ∃ k, xs = [.bl k] ∧ Q (.int (if k then 1 else 0)) H) gInt := ⟨call_int1, fun W H vs ds c Q g wl r h q => by
  match ds, h with
  | x0 :: _ :: _, h => cases x0 <;> cases h
  | [d], h =>
    obtain ⟨v, rfl, r1⟩ := repA1 r
    cases r1 with
    | int i => cases h; exact .inl ⟨i, rfl, q _ H (Ext.refl H) g (.int _)⟩
    | bl b => cases h; exact .inr ⟨b, rfl, q _ H (Ext.refl H) g (.int _)⟩
    | _ => cases h⟩
/-- max, min of two ints -/
def gMax2 : List Dt → Option Dt
  | [.int i, .int j] => some (.int (if j > i then j else i))
  | _ => none
def gMin2 : List Dt → Option Dt
  | [.int i, .int j] => some (.int (if j < i then j else i))
  | _ => none
theorem kMax2 (hc : X.calm = true) : CallR X (.builtin "max") (fun xs H Q => ∃ i j, xs = [.int i, .int j] ∧ Q (.int (if j > i then j else i)) H) ∧ CallD T K (fun xs H Q => ∃ i j, xs = [.int i, .int j] ∧ Q (.int (if j > i then j else i)) H) gMax2 := ⟨call_max2 hc, fun W H vs ds c Q g wl r h q => by
  match ds, h with
  | [x0], h => cases x0 <;> cases h
  | x0 :: x1 :: _ :: _, h => cases x0 <;> cases x1 <;> cases h
  | [d, d'], h =>
    obtain ⟨v, v', rfl, r1, r2⟩ := repA2 r
    cases r1 with
    | int i =>
      cases r2 with
      | int j => cases h; exact ⟨i, j, rfl, q _ H (Ext.refl H) g (.int _)⟩
      | _ => cases h
    | _ => cases h⟩
theorem kMin2 (hc : X.calm = true) : CallR X (.builtin "min") (fun xs H Q => ∃ i j, xs = [.int i, .int j] ∧ Q (.int (if j < i then j else i)) H) ∧ CallD T K (fun xs H Q => ∃ i j, xs = [.int i, .int j] ∧ Q (.int (if j < i then j else i)) H) gMin2 := ⟨call_min2 hc, fun W H vs ds c Q g wl r h q => by
  match ds, h with
  | [x0], h => cases x0 <;> cases h
  | x0 :: x1 :: _ :: _, h => cases x0 <;> cases x1 <;> cases h
  | [d, d'], h =>
    obtain ⟨v, v', rfl, r1, r2⟩ := repA2 r
    cases r1 with
    | int i =>
      cases r2 with
      | int j => cases h; exact ⟨i, j, rfl, q _ H (Ext.refl H) g (.int _)⟩
      | _ => cases h
    | _ => cases h⟩
/-- the ints of a list of data -/
def ints? : List Dt → Option (List Int)
  | [] => some []
  | .int i :: r => (ints? r).bind fun ns => some (i :: ns)
  | _ :: _ => none
theorem ints?_some : ∀ {ds : List Dt} {ns : List Int}, ints? ds = some ns → ds = ns.map Dt.int
  | [], ns, h => by cases h; rfl
  | .int i :: r, ns, h => by
    obtain ⟨ms, h1, h2⟩ := obind h
    cases h2
    rw [ints?_some h1]
    rfl
  | .non :: _, _, h | .bl _ :: _, _, h | .str _ :: _, _, h | .tup _ :: _, _, h | .lst _ :: _, _, h | .scr _ :: _, _, h | .dcK _ _ :: _, _, h | .dcT _ _ :: _, _, h => by cases h
theorem ints?_map : ∀ ns : List Int, ints? (ns.map Dt.int) = some ns
  | [] => rfl
  | n :: ns => by
    show ((ints? (ns.map Dt.int)).bind fun ns => some (n :: ns)) = _
    rw [ints?_map ns]; rfl
def bools? : List Dt → Option (List Bool)
  | [] => some []
  | .bl i :: r => (bools? r).bind fun ns => some (i :: ns)
  | _ :: _ => none
theorem bools?_some : ∀ {ds : List Dt} {ns : List Bool}, bools? ds = some ns → ds = ns.map Dt.bl
  | [], ns, h => by cases h; rfl
  | .bl i :: r, ns, h => by
    obtain ⟨ms, h1, h2⟩ := obind h
    cases h2
    rw [bools?_some h1]
    rfl
  | .non :: _, _, h | .int _ :: _, _, h | .str _ :: _, _, h | .tup _ :: _, _, h | .lst _ :: _, _, h | .scr _ :: _, _, h | .dcK _ _ :: _, _, h | .dcT _ _ :: _, _, h => by cases h
theorem bools?_map : ∀ ns : List Bool, bools? (ns.map Dt.bl) = some ns
  | [] => rfl
  | n :: ns => by
    show ((bools? (ns.map Dt.bl)).bind fun ns => some (n :: ns)) = _
    rw [bools?_map ns]; rfl
theorem RepA.bools {H : Hp} {W : Addr → Prop} : ∀ {vs : List V} {ns : List Bool}, RepA K H W vs (ns.map Dt.bl) → vs = ns.map V.bl
  | _, [], h => by cases h; rfl
  | _, n :: ns, h => by
    cases h with
    | cons h r => cases h; rw [RepA.bools r]; rfl
def gSum : List Dt → Option Dt
  | [.lst xs] => (ints? xs).bind fun ns => some (.int ns.sum)
  | _ => none
theorem kSum (hk : X.K = K) (hc : X.calm = true) : CallR X (.builtin "sum") (rSum K) ∧ CallD T K (rSum K) gSum := by subst hk; exact ⟨cr_sum hc, fun W H vs ds c Q g wl r h q => by
  match ds, h with
  | x0 :: _ :: _, h => cases x0 <;> cases h
  | [d], h =>
    obtain ⟨v, rfl, r1⟩ := repA1 r
    cases r1 with
    | lst h1 n1 ra =>
      obtain ⟨ns, h2, h3⟩ := obind h
      cases h3
      rw [ints?_some h2] at ra
      rw [ra.ints] at h1
      exact ⟨_, ns, rfl, .of h1, q _ H (Ext.refl H) g (.int _)⟩
    | _ => cases h⟩
def gAll : List Dt → Option Dt
  | [.lst xs] => (bools? xs).bind fun bs => some (.bl (bs.all id))
  | _ => none
def gAny : List Dt → Option Dt
  | [.lst xs] => (bools? xs).bind fun bs => some (.bl (bs.any id))
  | _ => none
theorem kAll (hk : X.K = K) (hc : X.calm = true) : CallR X (.builtin "all") (rAll K) ∧ CallD T K (rAll K) gAll := by subst hk; exact ⟨cr_all hc, fun W H vs ds c Q g wl r h q => by
  match ds, h with
  | x0 :: _ :: _, h => cases x0 <;> cases h
  | [d], h =>
    obtain ⟨v, rfl, r1⟩ := repA1 r
    cases r1 with
    | lst h1 n1 ra =>
      obtain ⟨ns, h2, h3⟩ := obind h
      cases h3
      rw [bools?_some h2] at ra
      rw [ra.bools] at h1
      exact ⟨_, ns, rfl, .of h1, q _ H (Ext.refl H) g (.bl _)⟩
    | _ => cases h⟩
theorem kAny (hk : X.K = K) (hc : X.calm = true) : CallR X (.builtin "any") (rAny K) ∧ CallD T K (rAny K) gAny := by subst hk; exact ⟨cr_any hc, fun W H vs ds c Q g wl r h q => by
  match ds, h with
  | x0 :: _ :: _, h => cases x0 <;> cases h
  | [d], h =>
    obtain ⟨v, rfl, r1⟩ := repA1 r
    cases r1 with
    | lst h1 n1 ra =>
      obtain ⟨ns, h2, h3⟩ := obind h
      cases h3
      rw [bools?_some h2] at ra
      rw [ra.bools] at h1
      exact ⟨_, ns, rfl, .of h1, q _ H (Ext.refl H) g (.bl _)⟩
    | _ => cases h⟩
/-- max, min of a list of ints -/
def maxL : List Int → Option Int
  | [] => none
  | x :: xs => some (xs.foldl (fun a b => if b > a then b else a) x)
def minL : List Int → Option Int
  | [] => none
  | x :: xs => some (xs.foldl (fun a b => if b < a then b else a) x)
theorem foldmax : ∀ (xs : List Int) (x : Int), (xs.foldl (fun a b => if b > a then b else a) x) ∈ x :: xs ∧ x ≤ xs.foldl (fun a b => if b > a then b else a) x ∧ ∀ y ∈ xs, y ≤ xs.foldl (fun a b => if b > a then b else a) x
  | [], x => ⟨by simp, Int.le_refl _, by simp⟩
  | z :: xs, x => by
    obtain ⟨h1, h2, h3⟩ := foldmax xs (if z > x then z else x)
    rw [List.foldl_cons]
    by_cases hz : z > x
    · rw [if_pos hz] at h1 h2 h3 ⊢
      refine ⟨List.mem_cons_of_mem _ h1, by omega, fun y hy => ?_⟩
      rcases List.mem_cons.mp hy with e | hy
      · rw [e]; exact h2
      · exact h3 y hy
    · rw [if_neg hz] at h1 h2 h3 ⊢
      refine ⟨?_, h2, fun y hy => ?_⟩
      · rcases List.mem_cons.mp h1 with e | h
        · rw [e]; exact List.mem_cons_self
        · exact List.mem_cons_of_mem _ (List.mem_cons_of_mem _ h)
      · rcases List.mem_cons.mp hy with e | hy
        · rw [e]; omega
        · exact h3 y hy
theorem foldmin : ∀ (xs : List Int) (x : Int), (xs.foldl (fun a b => if b < a then b else a) x) ∈ x :: xs ∧ xs.foldl (fun a b => if b < a then b else a) x ≤ x ∧ ∀ y ∈ xs, xs.foldl (fun a b => if b < a then b else a) x ≤ y
  | [], x => ⟨by simp, Int.le_refl _, by simp⟩
  | z :: xs, x => by
    obtain ⟨h1, h2, h3⟩ := foldmin xs (if z < x then z else x)
    rw [List.foldl_cons]
    by_cases hz : z < x
    · rw [if_pos hz] at h1 h2 h3 ⊢
      refine ⟨List.mem_cons_of_mem _ h1, by omega, fun y hy => ?_⟩
      rcases List.mem_cons.mp hy with e | hy
      · rw [e]; exact h2
      · exact h3 y hy
    · rw [if_neg hz] at h1 h2 h3 ⊢
      refine ⟨?_, h2, fun y hy => ?_⟩
      · rcases List.mem_cons.mp h1 with e | h
        · rw [e]; exact List.mem_cons_self
        · exact List.mem_cons_of_mem _ (List.mem_cons_of_mem _ h)
      · rcases List.mem_cons.mp hy with e | hy
        · rw [e]; omega
        · exact h3 y hy
theorem maxL_is {ns : List Int} {m' k : Int} (h : maxL ns = some k) (hm : m' ∈ ns) (hle : ∀ y, y ∈ ns → y ≤ m') : m' = k := by
  cases ns with
  | nil => cases hm
  | cons x xs =>
    obtain ⟨h1, h2, h3⟩ := foldmax xs x
    cases h
    refine Int.le_antisymm ?_ (hle _ h1)
    rcases List.mem_cons.mp hm with e | e
    · rw [e]; exact h2
    · exact h3 _ e
theorem minL_is {ns : List Int} {m' k : Int} (h : minL ns = some k) (hm : m' ∈ ns) (hle : ∀ y, y ∈ ns → m' ≤ y) : m' = k := by
  cases ns with
  | nil => cases hm
  | cons x xs =>
    obtain ⟨h1, h2, h3⟩ := foldmin xs x
    cases h
    refine Int.le_antisymm (hle _ h1) ?_
    rcases List.mem_cons.mp hm with e | e
    · rw [e]; exact h2
    · exact h3 _ e
def gMaxL : List Dt → Option Dt
  | [.lst xs] => (ints? xs).bind fun ns => (maxL ns).bind fun k => some (.int k)
  | _ => none
def gMinL : List Dt → Option Dt
  | [.lst xs] => (ints? xs).bind fun ns => (minL ns).bind fun k => some (.int k)
  | _ => none
theorem kMaxL (hk : X.K = K) (hc : X.calm = true) : CallR X (.builtin "max") (rMax K) ∧ CallD T K (rMax K) gMaxL := by subst hk; exact ⟨cr_max hc, fun W H vs ds c Q g wl r h q => by
  match ds, h with
  | x0 :: _ :: _, h => cases x0 <;> cases h
  | [d], h =>
    obtain ⟨v, rfl, r1⟩ := repA1 r
    cases r1 with
    | lst h1 n1 ra =>
      obtain ⟨ns, h2, h3⟩ := obind h
      obtain ⟨k, h4, h5⟩ := obind h3
      cases h5
      rw [ints?_some h2] at ra
      rw [ra.ints] at h1
      refine ⟨_, ns, rfl, .of h1, ?_, fun m' hm hle => ?_⟩
      · cases ns with
        | nil => cases h4
        | cons _ _ => exact Nat.succ_pos _
      · rw [maxL_is h4 hm hle]
        exact q _ H (Ext.refl H) g (.int _)
    | _ => cases h⟩
theorem kMinL (hk : X.K = K) (hc : X.calm = true) : CallR X (.builtin "min") (rMin K) ∧ CallD T K (rMin K) gMinL := by subst hk; exact ⟨cr_min hc, fun W H vs ds c Q g wl r h q => by
  match ds, h with
  | x0 :: _ :: _, h => cases x0 <;> cases h
  | [d], h =>
    obtain ⟨v, rfl, r1⟩ := repA1 r
    cases r1 with
    | lst h1 n1 ra =>
      obtain ⟨ns, h2, h3⟩ := obind h
      obtain ⟨k, h4, h5⟩ := obind h3
      cases h5
      rw [ints?_some h2] at ra
      rw [ra.ints] at h1
      refine ⟨_, ns, rfl, .of h1, ?_, fun m' hm hle => ?_⟩
      · cases ns with
        | nil => cases h4
        | cons _ _ => exact Nat.succ_pos _
      · rw [minL_is h4 hm hle]
        exact q _ H (Ext.refl H) g (.int _)
    | _ => cases h⟩
/-- sorted, ints -/
def sortI (ns : List Int) : List Int := ns.mergeSort fun a b => decide (a ≤ b)
theorem sortI_perm (ns : List Int) : (sortI ns).Perm ns := List.mergeSort_perm ns _
theorem sortI_sorted (ns : List Int) : (sortI ns).Pairwise (· ≤ ·) := by
  have h := List.pairwise_mergeSort (le := fun a b : Int => decide (a ≤ b)) (fun a b c h1 h2 => by simp only [decide_eq_true_eq] at *; omega) (fun a b => by simp only [Bool.or_eq_true, decide_eq_true_eq]; omega) ns
  exact h.imp fun h => of_decide_eq_true h
theorem sortI_one {ns ms : List Int} (hp : ms.Perm ns) (hs : ms.Pairwise (· ≤ ·)) : ms = sortI ns :=
  List.Perm.eq_of_pairwise (le := fun a b : Int => a ≤ b) (fun a b _ _ h1 h2 => Int.le_antisymm h1 h2) hs (sortI_sorted ns) (hp.trans (sortI_perm ns).symm)
def gSorted : List Dt → Option (List Dt)
  | [.lst xs] => (ints? xs).bind fun ns => some ((sortI ns).map Dt.int)
  | _ => none
def fNL (g : List Dt → Option (List Dt)) (a : FnL) : FnL := fun ρ => (a ρ).bind g
/-- a call whose answer is a new list -/
def CallF (T : List Addr) (K : PySem.W.Frag) (r : List V → Hp → VK → Prop) (g : List Dt → Option (List Dt)) : Prop :=
  ∀ (W : Addr → Prop) (H : Hp) (vs : List V) (ds : List Dt) (c : List Dt) (Q : VK), Gd T H → (∀ a, W a → ∃ xs : MuH, H a = some xs.1) → RepA K H W vs ds → g ds = some c →
    (∀ p us H', Ext H H' → Gd T H' → H p = none → H' p = some (.lst us) → RepA K H' (fun a => W a ∨ a = p) us c → Q (.ref p) H') → r vs H Q
theorem sd_callF {r : List V → Hp → VK → Prop} {g : List Dt → Option (List Dt)} (h : CallF T K r g) (ha : SdA true T K tr fr) : SdF T K (tCB r tr) (fNL g fr) := fun W ρ σ H d Q gd rp e q => by
  obtain ⟨ds, ea, e⟩ := obind e
  refine ha W ρ σ H ds _ gd rp ea fun vs H1 e1 g1 r1 => ?_
  exact h (wOf true W ρ σ) H1 vs ds d Q g1 (fun p z => (rp.ext e1).wo z) r1 e fun p us H2 e2 g2 hp hp2 r2 => q p us H2 (e1.trans e2) g2 (e1.there p hp) hp2 (r2.sub fun _ _ _ z => z.imp (fun z => ⟨rfl, z⟩) fun z => z)
/-- .. whose items hold no list -/
theorem sd_callF0 {r : List V → Hp → VK → Prop} {g : List Dt → Option (List Dt)} (h : CallF T K r g) (ha : SdA false T K tr fr) : SdF T K (tCB r tr) (fNL (fun ds => (g ds).bind fun c => if Dt.freeA c = true then some c else none) fr) := fun W ρ σ H d Q gd rp e q => by
  obtain ⟨ds, ea, e⟩ := obind e
  obtain ⟨c, e0, e⟩ := obind e
  by_cases hf : Dt.freeA c = true
  · rw [if_pos hf] at e
    cases e
    refine ha W ρ σ H ds _ gd rp ea fun vs H1 e1 g1 r1 => ?_
    exact h (wOf false W ρ σ) H1 vs ds d Q g1 (fun p z => (rp.ext e1).wo z) r1 e0 fun p us H2 e2 g2 hp hp2 r2 => q p us H2 (e1.trans e2) g2 (e1.there p hp) hp2 (r2.free hf)
  · rw [if_neg hf] at e; cases e
theorem df_callB {id : String} {r : List V → Hp → VK → Prop} {g : List Dt → Option (List Dt)} {x : Str} {p : Pos} (h : CallR X (.builtin id) r ∧ CallF T K r g) (hm : X.mg x = none) (hv : bootBuiltins x = some (.builtin id)) (ha : DA false T K X (e :: es) tr fr) (hg : Gl X x := by rfl) (hn : x ≠ "__name__" := by decide)
    (hdb : (x == ("__debug__" : Str)) = false := by decide) (he : starEach (e :: es) X.env = (false, eval e X.env) :: starEach es X.env := by rfl) (hpl : (backTo pos (starEach es X.env)).any (·.1) = false := by rfl) :
    DF T K X (.Call (.Name x p) (e :: es) [] pos) (tCB r tr) (fNL (fun ds => (g ds).bind fun c => if Dt.freeA c = true then some c else none) fr) := ⟨pe_callB h.1 hg hm hv ha.pa hn hdb he hpl, sd_callF0 h.2 ha.sd⟩
theorem df_callT {ty : String} {r : List V → Hp → VK → Prop} {g : List Dt → Option (List Dt)} {x : Str} {p : Pos} (h : CallR X (.type ty) r ∧ CallF T K r g) (hm : X.mg x = none) (hv : bootBuiltins x = some (.type ty)) (ha : DA false T K X (e :: es) tr fr) (hg : Gl X x := by rfl) (hn : x ≠ "__name__" := by decide)
    (hdb : (x == ("__debug__" : Str)) = false := by decide) (he : starEach (e :: es) X.env = (false, eval e X.env) :: starEach es X.env := by rfl) (hpl : (backTo pos (starEach es X.env)).any (·.1) = false := by rfl) :
    DF T K X (.Call (.Name x p) (e :: es) [] pos) (tCB r tr) (fNL (fun ds => (g ds).bind fun c => if Dt.freeA c = true then some c else none) fr) := ⟨pe_callTy h.1 hg hm hv ha.pa hn hdb he hpl, sd_callF0 h.2 ha.sd⟩
theorem df_callTs {ty : String} {r : List V → Hp → VK → Prop} {g : List Dt → Option (List Dt)} {x : Str} {p : Pos} (h : CallR X (.type ty) r ∧ CallF T K r g) (hm : X.mg x = none) (hv : bootBuiltins x = some (.type ty)) (ha : DA true T K X (e :: es) tr fr) (hg : Gl X x := by rfl) (hn : x ≠ "__name__" := by decide)
    (hdb : (x == ("__debug__" : Str)) = false := by decide) (he : starEach (e :: es) X.env = (false, eval e X.env) :: starEach es X.env := by rfl) (hpl : (backTo pos (starEach es X.env)).any (·.1) = false := by rfl) :
    DF T K X (.Call (.Name x p) (e :: es) [] pos) (tCB r tr) (fNL g fr) := ⟨pe_callTy h.1 hg hm hv ha.pa hn hdb he hpl, sd_callF h.2 ha.sd⟩
theorem kSortedL (hk : X.K = K) : CallR X (.builtin "sorted") (rSortedI K) ∧ CallF T K (rSortedI K) gSorted := by subst hk; exact ⟨cr_sortedI, fun W H vs ds c Q g wl r h q => by
  match ds, h with
  | x0 :: _ :: _, h => cases x0 <;> cases h
  | [d], h =>
    obtain ⟨v, rfl, r1⟩ := repA1 r
    cases r1 with
    | lst h1 n1 ra =>
      obtain ⟨ns, h2, h3⟩ := obind h
      cases h3
      have hd := ints?_some h2
      have hln := ra.length
      rw [hd] at ra
      have hz := g.1 _ _ (.inl h1)
      rw [ra.ints] at h1 hz
      refine ⟨_, ns, rfl, .of h1, fun ms p hp hs hn => ?_⟩
      have e := sortI_one hp hs
      subst e
      refine q p _ _ (Ext.new hn) (g.newL hn ?_) hn upd_same (repA_ints _)
      rw [List.length_map, (sortI_perm ns).length_eq]
      rw [List.length_map] at hz
      exact hz
    | _ => cases h⟩
/-- tuple of a list or tuple -/
def gTuple : List Dt → Option Dt
  | [.lst xs] => some (.tup xs)
  | [.tup xs] => some (.tup xs)
  | _ => none
def rTuple (K : PySem.W.Frag) : List V → Hp → VK → Prop := fun xs H Q => ∃ p ys, xs = [.ref p] ∧ ((SqL K H p ys ∧ ∀ l, H l = none → Q (.ref l) (upd H l (.tup ys))) ∨ (SqT K H p ys ∧ Q (.ref p) H))
theorem kTuple (hk : X.K = K) : CallR X (.type "tuple") (rTuple K) ∧ CallD T K (rTuple K) gTuple := by subst hk; exact ⟨call_tuple_of, fun W H vs ds c Q g wl r h q => by
  match ds, h with
  | x0 :: _ :: _, h => cases x0 <;> cases h
  | [d], h =>
    obtain ⟨v, rfl, r1⟩ := repA1 r
    cases r1 with
    | lst h1 n1 ra => cases h; exact ⟨_, _, rfl, .inl ⟨.of h1, fun l hl => q _ _ (Ext.new hl) (g.newT hl (g.1 _ _ (.inl h1))) (.tup upd_same (ra.ext (Ext.new hl)))⟩⟩
    | tup h1 ra => cases h; exact ⟨_, _, rfl, .inr ⟨.of h1, q _ H (Ext.refl H) g (.tup h1 ra)⟩⟩
    | _ => cases h⟩
/-- list of a list or tuple -/
def gList : List Dt → Option (List Dt)
  | [.lst xs] => some xs
  | [.tup xs] => some xs
  | _ => none
def rList (K : PySem.W.Frag) : List V → Hp → VK → Prop := fun xs H Q => ∃ p ys, xs = [.ref p] ∧ (SqL K H p ys ∨ SqT K H p ys) ∧ ∀ l, H l = none → Q (.ref l) (upd H l (.lst ys))
theorem kList (hk : X.K = K) : CallR X (.type "list") (rList K) ∧ CallF T K (rList K) gList := by subst hk; exact ⟨call_list_of, fun W H vs ds c Q g wl r h q => by
  match ds, h with
  | x0 :: _ :: _, h => cases x0 <;> cases h
  | [d], h =>
    obtain ⟨v, rfl, r1⟩ := repA1 r
    cases r1 with
    | lst h1 n1 ra => cases h; exact ⟨_, _, rfl, .inl (.of h1), fun l hl => q l _ _ (Ext.new hl) (g.newL hl (g.1 _ _ (.inl h1))) hl upd_same (ra.newp hl)⟩
    | tup h1 ra => cases h; exact ⟨_, _, rfl, .inr (.of h1), fun l hl => q l _ _ (Ext.new hl) (g.newL hl (g.1 _ _ (.inr h1))) hl upd_same (ra.newp hl)⟩
    | _ => cases h⟩
end
end EL
end

section
set_option Elab.async false
set_option maxRecDepth 100000
/-! EL what is walked, targets, comprehensions. -/
namespace EL
open PySem PySem.Spec PyProof.Rows L2

def Own (ρ : Rho) (σ : L2.St) : Addr → Prop := fun a => ∃ i d, ownd (getS ρ i) = some d ∧ σ[i]? = some (some (.ref a))
/-- what stood stands, but the lists of O -/
structure Kp (O : Addr → Prop) (H H' : Hp) : Prop where
  keep : ∀ b o, H b = some o → nt o = true → ¬ O b → H' b = some o
  there : ∀ b, H' b = none → H b = none
theorem Kp.refl (O : Addr → Prop) (H : Hp) : Kp O H H := ⟨fun _ _ h _ _ => h, fun _ h => h⟩
theorem Ext.kp {O : Addr → Prop} {H H' : Hp} (e : Ext H H') : Kp O H H' := ⟨fun b o h n _ => e.keep b o h n, e.there⟩
theorem Kp.ext {O : Addr → Prop} {H H' : Hp} (k : Kp O H H') (h : ∀ a, ¬ O a) : Ext H H' := ⟨fun b o e n => k.keep b o e n (h b), k.there⟩
theorem Kp.trans {O O' : Addr → Prop} {H H1 H2 : Hp} (a : Kp O H H1) (b : Kp O' H1 H2) (h : ∀ c, O' c → O c ∨ H c = none) : Kp O H H2 where
  keep := fun c o e n no => b.keep c o (a.keep c o e n no) n fun z => by
    rcases h c z with z | z
    · exact no z
    · rw [e] at z; cases z
  there := fun c e => a.there c (b.there c e)
theorem Kp.sub {O O' : Addr → Prop} {H H' : Hp} (k : Kp O H H') (h : ∀ a, O a → O' a) : Kp O' H H' := ⟨fun b o e n no => k.keep b o e n fun z => no (h b z), k.there⟩

/-- the turns of J hand out ds, while what stood at H1 stands but for O -/
def JOk (O : Addr → Prop) (T : List Addr) (K : PySem.W.Frag) (W : Addr → Prop) (J : It) (H1 : Hp) (ds : List Dt) : Prop :=
  ∀ H, Kp O H1 H → Gd T H → (∀ i d, ds[i]? = some d → J.go i H ∧ ∀ x H', J.yld i H x H' → Ext H H' ∧ Gd T H' ∧ Rep K H' (fun a => W a ∨ H1 a = none) x d) ∧ ∀ i, ds.length ≤ i → J.stop i H
def SdI (k : Bool) (T : List Addr) (K : PySem.W.Frag) (wi : TI) (f : FnL) : Prop :=
  ∀ (W : Addr → Prop) (ρ : Rho) (σ : L2.St) (H : Hp) (ds : List Dt) (R : It → Hp → Prop), Gd T H → Rp K H W ρ σ → f ρ = some ds →
    (∀ J H1, Ext H H1 → Gd T H1 → JOk (fun a => W a ∨ (k = true ∧ Own ρ σ a)) T K (Wd W ρ σ) J H1 ds → R J H1) → wi σ H R
structure DI (k : Bool) (T : List Addr) (K : PySem.W.Frag) (X : Cx) (tg e : Expr) (wi : TI) (f : FnL) : Prop where
  pi : PI X tg e wi
  sd : SdI k T K wi f

section
variable {m k : Bool} {T : List Addr} {X : Cx} {K : PySem.W.Frag} {a b c e tg : Expr} {es : List Expr} {ta tb tc t : TE} {tr : TA} {fa fb : Fn} {fr : FnL} {pos p : Pos}

theorem RepA.age {H1 H : Hp} {O W : Addr → Prop} {vs : List V} {ds : List Dt} (r : RepA K H1 W vs ds) (kp : Kp O H1 H) (ho : ∀ a, O a → W a ∨ ∀ x : MuH, H1 a ≠ some x.1) (hf : ∀ a, O a → ∀ o u, H1 a ≠ some (.frz o u)) (ht : ∀ a, O a → ∀ xs, H1 a ≠ some (.tup xs)) :
    RepA K H (fun a => W a ∨ H1 a = none) vs ds := r.keep ⟨fun b xs e => kp.keep b _ e rfl fun z => ht b z xs e, fun b o u e => kp.keep b _ e rfl fun z => hf b z o u e, fun b xs e n => kp.keep b _ e (nt_mu xs) fun z => by
    rcases ho b z with y | y
    · exact n y
    · exact y xs e⟩ fun a xs e z => by
    rcases z with z | z
    · exact z
    · rw [e] at z; cases z
theorem RepA.aged {H H1 Hc : Hp} {W : Addr → Prop} {ρ : Rho} {σ : L2.St} {vs : List V} {ds : List Dt} (rp : Rp K H1 W ρ σ) (r : RepA K H1 (Wd W ρ σ) vs ds) (kp : Kp (fun a => W a ∨ (k = true ∧ Own ρ σ a)) H1 Hc) :
    RepA K Hc (fun a => Wd W ρ σ a ∨ H1 a = none) vs ds := by
  have there : ∀ a, (W a ∨ (k = true ∧ Own ρ σ a)) → ∃ xs : MuH, H1 a = some xs.1 := fun a z => rp.wd (z.elim .inl fun y => .inr y.2)
  refine r.age kp (fun a z => .inl (z.elim .inl fun y => .inr y.2)) (fun a z o u e => ?_) fun a z xs e => ?_
  · obtain ⟨ys, q⟩ := there a z
    exact ys.nfrz q e
  · obtain ⟨ys, q⟩ := there a z
    exact ys.ntup q e
/-! ### lists, tuples, texts -/
def iSeq (K : PySem.W.Frag) (tl : TE) : TI := fun σ H R => tl σ H fun x H1 => (∃ a xs, x = .ref a ∧ SqL K H1 a xs ∧ R (Itl K a) H1) ∨ (∃ a xs, x = .ref a ∧ SqT K H1 a xs ∧ R (Itt K a) H1) ∨ ∃ z, x = .str z ∧ R (Its z) H1
theorem pi_seq {tl : TE} (hl : PE X e tl) : PI X tg e (iSeq X.K tl) := ⟨fun pins s0 σ0 H0 R I0 h0 => by
  refine thn (hl.run pins s0 σ0 H0 _ I0 h0) fun u s1 ⟨x, H1, I1, r1, cs⟩ => ?_
  have new : ∀ b, b ∈ [s1.heap.objs.size] → FpOk X pins H1 b := fun b hb => by
    rw [List.mem_singleton.mp hb]
    exact I1.fpOk (Nat.le_refl _) (I1.hok.fresh (Nat.le_refl _))
  rcases cs with ⟨a, xs, rfl, hq, q⟩ | ⟨a, xs, rfl, hq, q⟩ | ⟨z, rfl, q⟩
  · cases r1
    obtain ⟨its, rv, pl, _⟩ := I1.list hq
    exact wpAny_pyIter_list pl.isList ⟨s1.heap.objs.size, [s1.heap.objs.size], _, _, H1, rfl, I1.kept (t' := s1.toks) fun b o eb => Heap.get?_push_of_some _ eb, turn_list a _, ⟨_, Heap.get?_push_size _ rfl, rfl, rfl⟩, new, q⟩
  · cases r1
    obtain ⟨its, rv, pl, _⟩ := I1.tuple hq
    exact wpAny_pyIter_tuple (show s1.heap.IsTuple a its.toArray from pl) ⟨s1.heap.objs.size, [s1.heap.objs.size], _, _, H1, rfl, I1.kept (t' := s1.toks) fun b o eb => Heap.get?_push_of_some _ eb, turn_tuple a _, ⟨_, Heap.get?_push_size _ rfl, rfl, rfl⟩, new, q⟩
  · obtain ⟨tk, rfl⟩ := r1
    cases ha : z.cps.all (· < 128) with
    | false => exact wpAny_pyIter_wide ha (pi_one (tk := s1.toks) I1 _ (turn_str _ z tk "str_iterator" (Or.inr rfl)) ⟨_, Heap.get?_push_size _ rfl, rfl, rfl⟩ q)
    | true => exact wpAny_pyIter_ascii ha (pi_one (tk := s1.toks) I1 _ (turn_str _ z tk "str_ascii_iterator" (Or.inl rfl)) ⟨_, Heap.get?_push_size _ rfl, rfl, rfl⟩ q)⟩
/-- the signs of a text -/
def signs (z : Str) : List Dt := z.cps.toList.map fun c => .str ⟨#[c]⟩
def gItems : Dt → Option (List Dt)
  | .lst xs => some xs
  | .tup xs => some xs
  | .str z => some (signs z)
  | _ => none
def f1L (g : Dt → Option (List Dt)) (a : Fn) : FnL := fun ρ => (a ρ).bind g
theorem jok_list {H1 : Hp} {W : Addr → Prop} {ρ : Rho} {σ : L2.St} {q : Addr} {vs : List V} {ds : List Dt} (rp : Rp K H1 W ρ σ) (h : H1 q = some (.lst vs)) (n : ¬ (W q ∨ (k = true ∧ Own ρ σ q))) (r : RepA K H1 (Wd W ρ σ) vs ds) :
    JOk (fun a => W a ∨ (k = true ∧ Own ρ σ a)) T K (Wd W ρ σ) (Itl K q) H1 ds := fun Hc kp g => by
  have hc : Hc q = some (.lst vs) := kp.keep q _ h rfl n
  have rc := r.aged (H := H1) rp kp
  refine ⟨fun i d hd => ?_, fun i hi => ⟨vs, .of hc, by rw [r.length]; exact hi⟩⟩
  obtain ⟨v, hv, rv⟩ := rc.get hd
  refine ⟨⟨vs, v, .of hc, hv⟩, fun x H' y => ?_⟩
  obtain ⟨rfl, y⟩ := y
  have e := y vs (.of hc)
  rw [hv] at e
  cases e
  exact ⟨Ext.refl _, g, rv⟩
theorem jok_tup {H1 : Hp} {W : Addr → Prop} {ρ : Rho} {σ : L2.St} {q : Addr} {vs : List V} {ds : List Dt} (rp : Rp K H1 W ρ σ) (h : H1 q = some (.tup vs)) (r : RepA K H1 (Wd W ρ σ) vs ds) :
    JOk (fun a => W a ∨ (k = true ∧ Own ρ σ a)) T K (Wd W ρ σ) (Itt K q) H1 ds := fun Hc kp g => by
  have hc : Hc q = some (.tup vs) := kp.keep q _ h rfl fun z => by
    obtain ⟨xs, hx⟩ := rp.wd (z.elim .inl fun y => .inr y.2)
    exact xs.ntup hx h
  have rc := r.aged (H := H1) rp kp
  refine ⟨fun i d hd => ?_, fun i hi => ⟨vs, .of hc, by rw [r.length]; exact hi⟩⟩
  obtain ⟨v, hv, rv⟩ := rc.get hd
  refine ⟨⟨vs, v, .of hc, hv⟩, fun x H' y => ?_⟩
  obtain ⟨rfl, y⟩ := y
  have e := y vs (.of hc)
  rw [hv] at e
  cases e
  exact ⟨Ext.refl _, g, rv⟩
theorem jok_str {H1 : Hp} {O W : Addr → Prop} (z : Str) : JOk O T K W (Its z) H1 (signs z) := fun Hc kp g => by
  unfold signs
  refine ⟨fun i d hd => ?_, fun i hi => ?_⟩
  · rw [List.getElem?_map, Array.getElem?_toList] at hd
    obtain ⟨c, hc, rfl⟩ := Option.map_eq_some_iff.mp hd
    refine ⟨(Array.getElem?_eq_some_iff.mp hc).1, fun x H' y => ?_⟩
    obtain ⟨rfl, c', hc', rfl⟩ := y
    rw [hc] at hc'
    cases hc'
    exact ⟨Ext.refl _, g, .str _⟩
  · show z.cps.size ≤ i
    simpa using hi
/-- over a frozen list or tuple, a text -/
theorem di_seq (h : DE true T K X e t fa) (hk : X.K = K := by rfl) : DI k T K X tg e (iSeq K t) (f1L gItems fa) := by subst hk; exact ⟨pi_seq h.pe, fun W ρ σ H ds R g rp e' q => by
  obtain ⟨x, ea, e'⟩ := obind e'
  refine h.sd W ρ σ H x _ g rp ea fun v H1 e1 g1 r1 => ?_
  cases r1.wt with
  | lst h1 n1 ra => cases e'; exact .inl ⟨_, _, rfl, .of h1, q _ H1 e1 g1 (jok_list (rp.ext e1) h1 (fun z => n1 (z.elim .inl fun y => .inr y.2)) ra)⟩
  | tup h1 ra => cases e'; exact .inr (.inl ⟨_, _, rfl, .of h1, q _ H1 e1 g1 (jok_tup (rp.ext e1) h1 ra)⟩)
  | str z => cases e'; exact .inr (.inr ⟨z, rfl, q _ H1 e1 g1 (jok_str z)⟩)
  | _ => cases e'⟩
/-- over a new list -/
theorem di_new {f : FnL} (h : DF T K X e t f) (hk : X.K = K := by rfl) : DI k T K X tg e (iSeq K t) f := by subst hk; exact ⟨pi_seq h.pe, fun W ρ σ H ds R g rp e' q => by
  refine h.sd W ρ σ H ds _ g rp e' fun p vs H1 e1 g1 hp hp1 r1 => ?_
  refine .inl ⟨_, _, rfl, .of hp1, q _ H1 e1 g1 (jok_list (rp.ext e1) hp1 (fun z => ?_) (r1.sub fun _ _ _ z => .inl z))⟩
  obtain ⟨xs, hx⟩ := rp.wd (z.elim .inl fun y => .inr y.2)
  rw [hp] at hx
  cases hx⟩
/-- over an owned list that is let alone meanwhile (in a comprehension) -/
def fOwn (i : Nat) : FnL := fun ρ => match getS ρ i with | .ow ds => some ds | _ => none
theorem di_own {i : Nat} {x : Str} (hN : X.N[i]? = some x := by rfl) (hv : Vis X.env.scope x := by first | exact Or.inl rfl | exact Or.inr (Or.inl rfl) | exact Or.inr (Or.inr rfl)) (hd : (x == ("__debug__" : Str)) = false := by decide)
    (hcd : (x == ("__classdict__" : Str)) = false := by decide) (hk : X.K = K := by rfl) : DI false T K X tg (.Name x p) (iSeq K (tVar i)) (fOwn i) := by subst hk; exact ⟨pi_seq (pe_var hN hv hd hcd), fun W ρ σ H ds R g rp e' q => by
  unfold fOwn at e'
  cases h : getS ρ i with
  | un => rw [h] at e'; cases e'
  | im d => rw [h] at e'; cases e'
  | od d => rw [h] at e'; cases e'
  | ow es =>
    rw [h] at e'
    cases e'
    obtain ⟨q', vs, h1, h2, h3, h4⟩ := rp.ow i ds h
    exact ⟨_, h1, .inl ⟨q', vs, rfl, .of h2, q _ H (Ext.refl H) g (jok_list rp h2 (fun z => z.elim h3 fun y => Bool.noConfusion y.1) h4)⟩⟩⟩
/-! ### ranges -/
def rngD (lo hi : Int) : List Dt := (List.range (hi - lo).toNat).map fun i => .int (lo + (i : Nat))
noncomputable def okR (i : Int) : Bool := cdc (-(2 ^ 62) ≤ i ∧ i < 2 ^ 62)
noncomputable def gRng1 : List Dt → Option (List Dt)
  | [.int j] => if okR j = true then some (rngD 0 j) else none
  | _ => none
noncomputable def gRng2 : List Dt → Option (List Dt)
  | [.int i, .int j] => if okR i = true ∧ okR j = true then some (rngD i j) else none
  | _ => none
theorem jok_rng {H1 : Hp} {O W : Addr → Prop} (lo hi : Int) : JOk O T K W (Itr lo (hi - lo).toNat) H1 (rngD lo hi) := fun Hc kp g => by
  unfold rngD
  refine ⟨fun i d hd => ?_, fun i hi' => ?_⟩
  · rw [List.getElem?_map] at hd
    obtain ⟨j, hj, rfl⟩ := Option.map_eq_some_iff.mp hd
    obtain ⟨hj1, hj2⟩ := List.getElem?_eq_some_iff.mp hj
    rw [List.getElem_range] at hj2
    subst hj2
    rw [List.length_range] at hj1
    refine ⟨hj1, fun x H' y => ?_⟩
    obtain ⟨rfl, rfl⟩ := y
    exact ⟨Ext.refl _, g, .int _⟩
  · show (hi - lo).toNat ≤ i
    simpa using hi'
theorem di_range1 (ha : DA false T K X [a] tr fr) (hm : X.mg "range" = none) (hg : Gl X "range" := by rfl) (hs : starEach [a] X.env = [(false, eval a X.env)] := by rfl) : DI k T K X tg (.Call (.Name "range" p) [a] [] pos) (iRng1 tr) (fNL gRng1 fr) :=
  ⟨pi_range1 hg hm ha.pa hs, fun W ρ σ H ds R g rp e' q => by
  obtain ⟨xs, ea, e'⟩ := obind e'
  refine ha.sd W ρ σ H xs _ g rp ea fun vs H1 e1 g1 r1 => ?_
  match xs, e', r1 with
  | x0 :: _ :: _, e', _ => cases x0 <;> cases e'
  | [d], e', r1 =>
    obtain ⟨v, rfl, r2⟩ := repA1 r1
    cases r2 with
    | int j =>
      dsimp only [gRng1] at e'
      by_cases hz : okR j = true
      · rw [if_pos hz] at e'
        cases e'
        have hb := cdc_p hz
        refine ⟨j, rfl, hb.1, hb.2, q _ H1 e1 g1 ?_⟩
        have := jok_rng (T := T) (K := K) (H1 := H1) (O := fun a => W a ∨ (k = true ∧ Own ρ σ a)) (W := Wd W ρ σ) 0 j
        rw [Int.sub_zero] at this
        exact this
      · rw [if_neg hz] at e'; cases e'
    | _ => cases e'⟩
theorem di_range2 (ha : DA false T K X [a, b] tr fr) (hm : X.mg "range" = none) (hg : Gl X "range" := by rfl) (hs : starEach [a, b] X.env = [(false, eval a X.env), (false, eval b X.env)] := by rfl) (hs2 : starEach [b] X.env = [(false, eval b X.env)] := by rfl) :
    DI k T K X tg (.Call (.Name "range" p) [a, b] [] pos) (iRng2 tr) (fNL gRng2 fr) :=
  ⟨pi_range2 hg hm ha.pa hs hs2, fun W ρ σ H ds R g rp e' q => by
  obtain ⟨xs, ea, e'⟩ := obind e'
  refine ha.sd W ρ σ H xs _ g rp ea fun vs H1 e1 g1 r1 => ?_
  match xs, e', r1 with
  | [x0], e', _ => cases x0 <;> cases e'
  | x0 :: x1 :: _ :: _, e', _ => cases x0 <;> cases x1 <;> cases e'
  | [d, d'], e', r1 =>
    obtain ⟨v, v', rfl, r2, r3⟩ := repA2 r1
    cases r2 with
    | int i =>
      cases r3 with
      | int j =>
        dsimp only [gRng2] at e'
        by_cases hz : okR i = true ∧ okR j = true
        · rw [if_pos hz] at e'
          cases e'
          have hb := cdc_p hz.1
          have hb2 := cdc_p hz.2
          exact ⟨i, j, rfl, ⟨hb.1, hb.2, hb2.1, hb2.2⟩, q _ H1 e1 g1 (jok_rng i j)⟩
        · rw [if_neg hz] at e'; cases e'
      | _ => cases e'
    | _ => cases e'⟩
end
end EL
end

section
set_option Elab.async false
set_option maxRecDepth 100000
/-! EL targets, comprehensions. -/
namespace EL
open PySem PySem.Spec PyProof.Rows L2

theorem setσ_ne {σ : L2.St} {i j : Nat} {x : Option V} (h : j ≠ i) : (σ.set i x)[j]? = σ[j]? := by rw [List.getElem?_set_ne (Ne.symm h)]
section
variable {K : PySem.W.Frag} {H H' : Hp} {W : Addr → Prop} {ρ : Rho} {σ : L2.St}
/-- a slot is given a new content -/
theorem Own.set {i : Nat} {s : Sl} {x : Option V} (hs : ownd s = none) {a : Addr} (h : Own (setS ρ i s) (σ.set i x) a) : Own ρ σ a := by
  obtain ⟨j, ds, h1, h2⟩ := h
  by_cases hj : j = i
  · subst hj
    have hl : j < ρ.length := by rw [← setS_length ρ j s]; exact ownd_lt h1
    rw [getS_set_same hl, hs] at h1
    cases h1
  · rw [getS_set_ne hj] at h1
    rw [setσ_ne hj] at h2
    exact ⟨j, ds, h1, h2⟩
theorem Wd.set {i : Nat} {s : Sl} {x : Option V} (hs : ownd s = none) {a : Addr} (h : Wd W (setS ρ i s) (σ.set i x) a) : Wd W ρ σ a := by
  rcases h with h | h
  · exact .inl h
  · exact .inr (Own.set hs h)
theorem Rp.setIm {i : Nat} {v : V} {d : Dt} (r : Rp K H W ρ σ) (h : Rep K H (Wd W ρ σ) v d) : Rp K H W (setS ρ i (.im d)) (σ.set i (some v)) := by
  have sub : ∀ a (xs : MuH), H a = some xs.1 → Wd W (setS ρ i (.im d)) (σ.set i (some v)) a → Wd W ρ σ a := fun a xs _ z => Wd.set rfl z
  have ne : ∀ l dl, ownd (getS (setS ρ i (.im d)) l) = some dl → l ≠ i := fun l dl e z => by
    subst z
    have hl : l < ρ.length := by rw [← setS_length ρ l (.im d)]; exact ownd_lt e
    rw [getS_set_same hl] at e
    cases e
  refine ⟨by rw [setS_length, List.length_set]; exact r.len, fun j d' e => ?_, fun j ds e => ?_, fun j l dj dl a e1 e2 e3 e4 => ?_, r.wl⟩
  · by_cases hj : j = i
    · subst hj
      have hl : j < ρ.length := by rw [← setS_length ρ j (.im d)]; exact getS_lt (by rw [e]; exact fun z => Sl.noConfusion z)
      rw [getS_set_same hl] at e
      cases e
      exact ⟨v, by rw [List.getElem?_set_self (by rw [← r.len]; exact hl)], h.sub sub⟩
    · rw [getS_set_ne hj] at e
      obtain ⟨u, h1, h2⟩ := r.im j d' e
      exact ⟨u, by rw [setσ_ne hj]; exact h1, h2.sub sub⟩
  · have hj := ne j ds e
    rw [getS_set_ne hj] at e
    obtain ⟨a, h1, h2, h3⟩ := r.own j ds e
    exact ⟨a, by rw [setσ_ne hj]; exact h1, h2, h3.sub sub⟩
  · have n1 := ne j dj e1
    have n2 := ne l dl e2
    rw [getS_set_ne n1] at e1
    rw [getS_set_ne n2] at e2
    rw [setσ_ne n1] at e3
    rw [setσ_ne n2] at e4
    exact r.inj j l dj dl a e1 e2 e3 e4
/-- a slot is forgotten -/
theorem Rp.setUn {i : Nat} {x : Option V} (r : Rp K H W ρ σ) : Rp K H W (setS ρ i .un) (σ.set i x) := by
  have sub : ∀ a (xs : MuH), H a = some xs.1 → Wd W (setS ρ i .un) (σ.set i x) a → Wd W ρ σ a := fun a xs _ z => Wd.set rfl z
  have ne : ∀ l, getS (setS ρ i .un) l ≠ .un → l ≠ i := fun l e z => by
    subst z
    have hl : l < ρ.length := by rw [← setS_length ρ l .un]; exact getS_lt e
    exact e (getS_set_same hl)
  have no : ∀ l d, ownd (getS (setS ρ i .un) l) = some d → l ≠ i := fun l d e => ne l fun z => by rw [z] at e; cases e
  refine ⟨by rw [setS_length, List.length_set]; exact r.len, fun j d' e => ?_, fun j ds e => ?_, fun j l dj dl a e1 e2 e3 e4 => ?_, r.wl⟩
  · have n := ne j (by rw [e]; exact fun z => Sl.noConfusion z)
    rw [getS_set_ne n] at e
    obtain ⟨u, h1, h2⟩ := r.im j d' e
    exact ⟨u, by rw [setσ_ne n]; exact h1, h2.sub sub⟩
  · have n := no j _ e
    rw [getS_set_ne n] at e
    obtain ⟨a, h1, h2, h3⟩ := r.own j ds e
    exact ⟨a, by rw [setσ_ne n]; exact h1, h2, h3.sub sub⟩
  · have n1 := no j _ e1
    have n2 := no l _ e2
    rw [getS_set_ne n1] at e1
    rw [getS_set_ne n2] at e2
    rw [setσ_ne n1] at e3
    rw [setσ_ne n2] at e4
    exact r.inj j l dj dl a e1 e2 e3 e4
/-- a slot takes a new thing of its own -/
theorem Rp.setOwn {i : Nat} {p : Addr} {s : Sl} {d : Dt} (hs : ownd s = some d) (r : Rp K H W ρ σ) (e : Ext H H') (hp : H p = none) (ra : ORep K H' (fun a => Wd W ρ σ a ∨ a = p) p d) :
    Rp K H' W (setS ρ i s) (σ.set i (some (.ref p))) := by
  have sub0 : ∀ a, Wd W (setS ρ i s) (σ.set i (some (.ref p))) a → Wd W ρ σ a ∨ a = p := fun a z => by
    rcases z with z | ⟨j, es, h1, h2⟩
    · exact .inl (.inl z)
    · by_cases hj : j = i
      · subst hj
        have hl : j < ρ.length := by rw [← setS_length ρ j s]; exact ownd_lt h1
        rw [List.getElem?_set_self (by rw [← r.len]; exact hl)] at h2
        cases h2
        exact .inr rfl
      · rw [getS_set_ne hj] at h1
        rw [setσ_ne hj] at h2
        exact .inl (.inr ⟨j, es, h1, h2⟩)
  have sub : ∀ a (xs : MuH), H a = some xs.1 → Wd W (setS ρ i s) (σ.set i (some (.ref p))) a → Wd W ρ σ a := fun a xs ha z => by
    rcases sub0 a z with z | z
    · exact z
    · rw [z, hp] at ha; cases ha
  refine ⟨by rw [setS_length, List.length_set]; exact r.len, fun j d' e' => ?_, fun j es e' => ?_, fun j l dj dl a e1 e2 e3 e4 => ?_, fun a z => ?_⟩
  · by_cases hj : j = i
    · subst hj
      have hl : j < ρ.length := by rw [← setS_length ρ j s]; exact getS_lt (by rw [e']; exact fun z => Sl.noConfusion z)
      rw [getS_set_same hl] at e'
      rw [e'] at hs
      cases hs
    · rw [getS_set_ne hj] at e'
      obtain ⟨u, h1, h2⟩ := r.im j d' e'
      exact ⟨u, by rw [setσ_ne hj]; exact h1, h2.keep e.kw sub⟩
  · by_cases hj : j = i
    · subst hj
      have hl : j < ρ.length := by rw [← setS_length ρ j s]; exact ownd_lt e'
      rw [getS_set_same hl, hs] at e'
      cases e'
      refine ⟨p, by rw [List.getElem?_set_self (by rw [← r.len]; exact hl)], fun z => ?_, ?_⟩
      · obtain ⟨xs, hx⟩ := r.wl p z
        rw [hp] at hx; cases hx
      · exact ra.sub fun a _ _ z => sub0 a z
    · rw [getS_set_ne hj] at e'
      obtain ⟨a, h1, h2, h3⟩ := r.own j es e'
      exact ⟨a, by rw [setσ_ne hj]; exact h1, h2, h3.keepE e sub⟩
  · have old : ∀ l dl, l ≠ i → ownd (getS (setS ρ i s) l) = some dl → (σ.set i (some (V.ref p)))[l]? = some (some (.ref a)) → a ≠ p := fun l dl n e' q z => by
      rw [getS_set_ne n] at e'
      rw [setσ_ne n] at q
      obtain ⟨b, h1, h2, h3⟩ := r.own l dl e'
      rw [q] at h1
      cases h1
      obtain ⟨x, hx⟩ := h3.mu
      rw [z, hp] at hx
      cases hx
    have at_ : ∀ l dl, l = i → ownd (getS (setS ρ i s) l) = some dl → (σ.set i (some (V.ref p)))[l]? = some (some (.ref a)) → a = p := fun l dl n e' q => by
      subst n
      have hl : l < ρ.length := by rw [← setS_length ρ l s]; exact ownd_lt e'
      rw [List.getElem?_set_self (by rw [← r.len]; exact hl)] at q
      cases q
      rfl
    by_cases n1 : j = i
    · by_cases n2 : l = i
      · rw [n1, n2]
      · exact absurd (at_ j dj n1 e1 e3) (old l dl n2 e2 e4)
    · by_cases n2 : l = i
      · exact absurd (at_ l dl n2 e2 e4) (old j dj n1 e1 e3)
      · rw [getS_set_ne n1] at e1
        rw [getS_set_ne n2] at e2
        rw [setσ_ne n1] at e3
        rw [setσ_ne n2] at e4
        exact r.inj j l dj dl a e1 e2 e3 e4
  · obtain ⟨xs, hx⟩ := r.wl a z
    exact ⟨xs, e.keep _ _ hx (nt_mu xs)⟩
/-- a slot takes a new list -/
theorem Rp.setOw {i : Nat} {p : Addr} {vs : List V} {ds : List Dt} (r : Rp K H W ρ σ) (e : Ext H H') (hp : H p = none) (hp' : H' p = some (.lst vs)) (ra : RepA K H' (fun a => Wd W ρ σ a ∨ a = p) vs ds) :
    Rp K H' W (setS ρ i (.ow ds)) (σ.set i (some (.ref p))) := r.setOwn rfl e hp ⟨vs, hp', ra⟩
end
end EL
end

section
set_option Elab.async false
set_option maxRecDepth 100000
/-! EL targets, comprehensions. -/
namespace EL
open PySem PySem.Spec PyProof.Rows L2

/-! ### targets: names, tuples of targets -/
def SdG (T : List Addr) (K : PySem.W.Frag) (g : TG) (gf : Dt → Rho → Option Rho) (is : List Nat) : Prop :=
  ∀ (W : Addr → Prop) (ρ : Rho) (σ : L2.St) (H : Hp) (v : V) (d : Dt) (ρ' : Rho) (Q : L2.St → Hp → Prop), Gd T H → Rp K H W ρ σ → Rep K H (Wd W ρ σ) v d → gf d ρ = some ρ' →
    (∀ σ', Rp K H W ρ' σ' → (∀ j, j ∉ is → σ'[j]? = σ[j]?) → σ'.length = σ.length → (∀ a, Own ρ' σ' a → Own ρ σ a) → (∀ j, j ∉ is → getS ρ' j = getS ρ j) → Q σ' H) → g v σ H Q
def SdGs (T : List Addr) (K : PySem.W.Frag) (g : TGs) (gf : List Dt → Rho → Option Rho) (is : List Nat) : Prop :=
  ∀ (W : Addr → Prop) (ρ : Rho) (σ : L2.St) (H : Hp) (v : List V) (d : List Dt) (ρ' : Rho) (Q : L2.St → Hp → Prop), Gd T H → Rp K H W ρ σ → RepA K H (Wd W ρ σ) v d → gf d ρ = some ρ' →
    (∀ σ', Rp K H W ρ' σ' → (∀ j, j ∉ is → σ'[j]? = σ[j]?) → σ'.length = σ.length → (∀ a, Own ρ' σ' a → Own ρ σ a) → (∀ j, j ∉ is → getS ρ' j = getS ρ j) → Q σ' H) → g v σ H Q
structure DG (T : List Addr) (K : PySem.W.Frag) (X : Cx) (tg : Expr) (g : TG) (gf : Dt → Rho → Option Rho) (is : List Nat) : Prop where
  pg : PG X tg g
  sd : SdG T K g gf is
structure DGs (T : List Addr) (K : PySem.W.Frag) (X : Cx) (tg : List Expr) (g : TGs) (gf : List Dt → Rho → Option Rho) (is : List Nat) : Prop where
  pg : PGs X tg g
  sd : SdGs T K g gf is
def hName (i : Nat) : Dt → Rho → Option Rho := fun d ρ => some (setS ρ i (.im d))
def hNil : List Dt → Rho → Option Rho := fun ds ρ => match ds with | [] => some ρ | _ => none
def hCons (g : Dt → Rho → Option Rho) (gs : List Dt → Rho → Option Rho) : List Dt → Rho → Option Rho := fun ds ρ => match ds with | d :: r => (g d ρ).bind fun ρ' => gs r ρ' | [] => none
def hTup (n : Nat) (gs : List Dt → Rho → Option Rho) : Dt → Rho → Option Rho := fun d ρ => match d with | .tup ds => if ds.length = n then gs ds ρ else none | _ => none
section
variable {T : List Addr} {X : Cx} {K : PySem.W.Frag} {e : Expr} {es : List Expr} {pos : Pos} {g : TG} {gs : TGs} {gf : Dt → Rho → Option Rho} {gfs : List Dt → Rho → Option Rho} {is js : List Nat}
theorem dg_name (i : Nat) {x : Str} (hN : X.N.Nodup) (hi : X.N[i]? = some x := by rfl) (hx : Loc X.env.scope x := by first | exact Or.inl rfl | exact Or.inr rfl) (hf : X.fn x = true ∨ X.env.scope.names.lookup x = some .local := by first | exact .inl rfl | exact .inr rfl) :
    DG T K X (.Name x pos) (gName i) (hName i) [i] := ⟨pg_name hN hi hx hf, fun W ρ σ H v d ρ' Q _ rp r e q => by
  cases e
  refine q _ (rp.setIm r) (fun j hj => setσ_ne fun z => hj (by rw [z]; exact List.mem_singleton.mpr rfl)) (List.length_set ..) (fun a z => Own.set rfl z) fun j hj => getS_set_ne fun z => hj (by rw [z]; exact List.mem_singleton.mpr rfl)⟩
theorem dgs_nil : DGs T K X [] gNil hNil [] := ⟨pgs_nil, fun W ρ σ H v d ρ' Q _ rp r e q => by
  cases r with
  | nil => cases e; exact ⟨rfl, q σ rp (fun _ _ => rfl) rfl (fun _ z => z) fun _ _ => rfl⟩
  | cons _ _ => cases e⟩
theorem dgs_cons (h : DG T K X e g gf is) (h2 : DGs T K X es gs gfs js) (hz : (assignEach (e :: es) X.env).map (·.2) = assign e X.env :: (assignEach es X.env).map (·.2) := by rfl) : DGs T K X (e :: es) (gCons g gs) (hCons gf gfs) (is ++ js) := ⟨pgs_cons h.pg h2.pg hz, fun W ρ σ H v d ρ' Q gd rp r e' q => by
  cases r with
  | nil => cases e'
  | @cons v1 d1 vs ds r1 r2 =>
    obtain ⟨ρ1, e1, e2⟩ := obind e'
    refine ⟨v1, vs, rfl, h.sd W ρ σ H v1 d1 ρ1 _ gd rp r1 e1 fun σ1 rp1 k1 l1 o1 u1 => ?_⟩
    refine h2.sd W ρ1 σ1 H vs ds ρ' Q gd rp1 (r2.sub fun a _ _ z => z.imp (fun z => z) (o1 a)) e2 fun σ2 rp2 k2 l2 o2 u2 => ?_
    refine q σ2 rp2 (fun j hj => ?_) (l2.trans l1) (fun a z => o1 a (o2 a z)) fun j hj => ?_
    · rw [List.mem_append, not_or] at hj
      exact (k2 j hj.2).trans (k1 j hj.1)
    · rw [List.mem_append, not_or] at hj
      exact (u2 j hj.2).trans (u1 j hj.1)⟩
theorem dg_tup {k n : Nat} (hc : X.calm = true) (h : DGs T K X es gs gfs is) (hn : (assignEach es X.env).length = n := by rfl) (hz : (assignEach es X.env).findIdx? (·.1) = none := by rfl) (hk : X.K = K := by rfl) : DG T K X (.Tuple es k pos) (gTup K n gs) (hTup n gfs) is := by subst hk; exact ⟨pg_tup hc h.pg hn hz, fun W ρ σ H v d ρ' Q gd rp r e' q => by
  cases r with
  | @tup a xs ds h1 ra =>
    dsimp only [hTup] at e'
    by_cases hl : ds.length = n
    · rw [if_pos hl] at e'
      exact ⟨a, xs, rfl, .of h1, by rw [ra.length]; exact hl, h.sd W ρ σ H xs ds ρ' Q gd rp ra e' q⟩
    · rw [if_neg hl] at e'; cases e'
  | _ => cases e'⟩
end

/-! ### comprehensions -/
def wipeR (ρ : Rho) : List Nat → Rho
  | [] => ρ
  | v :: vs => setS (wipeR ρ vs) v .un
def noOw (ρ : Rho) : List Nat → Bool
  | [] => true
  | v :: vs => (match getS ρ v with | .ow _ => false | .od _ => false | _ => true) && noOw ρ vs
theorem noOw_at {ρ : Rho} : ∀ {vs : List Nat}, noOw ρ vs = true → ∀ v ∈ vs, ∀ ds, ownd (getS ρ v) ≠ some ds
  | [], _, _, h, _, _ => by cases h
  | v :: vs, h, u, hu, ds, e => by
    have h2 := Bool.and_eq_true_iff.mp (show (_ && _) = true from h)
    rcases List.mem_cons.mp hu with rfl | hu
    · have := h2.1
      cases hg : getS ρ u with
      | ow _ => rw [hg] at this; cases this
      | od _ => rw [hg] at this; cases this
      | un => rw [hg] at e; cases e
      | im _ => rw [hg] at e; cases e
    · exact noOw_at h2.2 u hu ds e
theorem getS_wipe {ρ : Rho} {i : Nat} : ∀ {vs : List Nat}, i ∉ vs → getS (wipeR ρ vs) i = getS ρ i
  | [], _ => rfl
  | v :: vs, h => by
    rw [List.mem_cons, not_or] at h
    show getS (setS (wipeR ρ vs) v .un) i = _
    rw [getS_set_ne h.1, getS_wipe h.2]
theorem wipeσ_ne {σ : L2.St} {i : Nat} : ∀ {vs : List Nat}, i ∉ vs → (wipe σ vs)[i]? = σ[i]?
  | [], _ => rfl
  | v :: vs, h => by
    rw [List.mem_cons, not_or] at h
    show ((wipe σ vs).set v none)[i]? = _
    rw [setσ_ne h.1, wipeσ_ne h.2]
theorem wipe_eq {σ σ' : L2.St} {vs : List Nat} (hl : σ'.length = σ.length) (h : ∀ j, j ∉ vs → σ'[j]? = σ[j]?) : wipe σ' vs = wipe σ vs := by
  apply List.ext_getElem?
  intro i
  by_cases hi : i ∈ vs
  · have key : ∀ (τ : L2.St) (us : List Nat), i ∈ us → (wipe τ us)[i]? = if i < τ.length then some none else none := fun τ us => by
      induction us with
      | nil => intro h; cases h
      | cons u us ih =>
        intro hu
        show ((wipe τ us).set u none)[i]? = _
        by_cases e : i = u
        · subst e
          rw [List.getElem?_set, if_pos rfl, wipe_length]
        · rw [setσ_ne e]
          rcases List.mem_cons.mp hu with z | z
          · exact absurd z e
          · exact ih z
    rw [key σ' vs hi, key σ vs hi, hl]
  · rw [wipeσ_ne hi, wipeσ_ne hi, h i hi]
theorem wipe_wipe {σ : L2.St} {vs : List Nat} : wipe (wipe σ vs) vs = wipe σ vs := wipe_eq (wipe_length σ vs) fun j hj => wipeσ_ne hj
section
variable {K : PySem.W.Frag} {H H' : Hp} {W : Addr → Prop} {ρ : Rho} {σ : L2.St}
theorem Rp.wipe (r : Rp K H W ρ σ) : ∀ vs : List Nat, Rp K H W (wipeR ρ vs) (L2.wipe σ vs)
  | [] => r
  | v :: vs => (Rp.wipe r vs).setUn
theorem Own.wipe {vs : List Nat} (hn : noOw ρ vs = true) {a : Addr} : Own ρ σ a ↔ Own (wipeR ρ vs) (L2.wipe σ vs) a := by
  constructor
  · rintro ⟨i, ds, h1, h2⟩
    have hi : i ∉ vs := fun z => noOw_at hn i z ds h1
    exact ⟨i, ds, by rw [getS_wipe hi]; exact h1, by rw [wipeσ_ne hi]; exact h2⟩
  · rintro ⟨i, ds, h1, h2⟩
    have hi : i ∉ vs := fun z => by
      have key : ∀ us : List Nat, i ∈ us → getS (wipeR ρ us) i = .un := fun us => by
        induction us with
        | nil => intro h; cases h
        | cons u us ih =>
          intro hu
          show getS (setS (wipeR ρ us) u .un) i = _
          by_cases e : i = u
          · subst e
            by_cases hl : i < (wipeR ρ us).length
            · exact getS_set_same hl
            · exact getS_out (by rw [setS_length]; omega)
          · rw [getS_set_ne e]
            rcases List.mem_cons.mp hu with z | z
            · exact absurd z e
            · exact ih z
      rw [key vs z] at h1
      cases h1
    exact ⟨i, ds, by rw [getS_wipe hi] at h1; exact h1, by rw [wipeσ_ne hi] at h2; exact h2⟩
end
def compGo (ρ : Rho) (gf : Dt → Rho → Option Rho) (ft : FnB) (fe : Fn) : List Dt → Option (List Dt)
  | [] => some []
  | d :: ds => (gf d ρ).bind fun ρ' => (ft ρ').bind fun b => if b = true then (fe ρ').bind fun y => (compGo ρ gf ft fe ds).bind fun r => some (y :: r) else compGo ρ gf ft fe ds
def fComp (fi : FnL) (gf : Dt → Rho → Option Rho) (ft : FnB) (fe : Fn) (vs : List Nat) : FnL := fun ρ => (fi ρ).bind fun ds => if noOw ρ vs = true ∧ ds.length ≤ sizeLine then compGo (wipeR ρ vs) gf ft fe ds else none
def fYes : FnB := fun _ => some true
theorem sd_lc {k : Bool} {T : List Addr} {K : PySem.W.Frag} {wi : TI} {g : TG} {tt : TT} {te : TE} {fi : FnL} {gf : Dt → Rho → Option Rho} {is vs : List Nat} {ft : FnB} {fe : Fn} (hi : SdI k T K wi fi) (hg : SdG T K g gf is) (ht : SdT T K tt ft) (he : Sd true T K te fe) (hs : ∀ i ∈ is, i ∈ vs) :
    SdF T K (tLc wi g tt te vs) (fComp fi gf ft fe vs) := fun W ρ σ H ds Q gd rp e q => by
  obtain ⟨src, ei, e⟩ := obind e
  by_cases hz : noOw ρ vs = true ∧ src.length ≤ sizeLine
  · rw [if_pos hz] at e
    obtain ⟨hn, hlen⟩ := hz
    refine hi W ρ σ H src _ gd rp ei fun J H1 e1 g1 jok D hD => ?_
    have rp1 := rp.ext e1
    have rpD : Rp K (upd H1 D (.lst [])) (fun a => W a ∨ a = D) (wipeR ρ vs) (L2.wipe σ vs) := (rp1.addW (zs := []) hD).wipe vs
    have gD : Gd T (upd H1 D (.lst [])) := g1.newL hD (Nat.zero_le _)
    have eD : Ext H1 (upd H1 D (.lst [])) := Ext.new hD
    -- W and D and the owned ones
    have wd : ∀ {ρ' : Rho} {σ' : L2.St}, (∀ a, Own ρ' σ' a → Own (wipeR ρ vs) (L2.wipe σ vs) a) → (∀ a, Own (wipeR ρ vs) (L2.wipe σ vs) a → Own ρ' σ' a) → ∀ a, Wd (fun a => W a ∨ a = D) ρ' σ' a ↔ (Wd W ρ σ a ∨ a = D) := fun o1 o2 a => by
      constructor
      · rintro ((z | z) | z)
        · exact .inl (.inl z)
        · exact .inr z
        · exact .inl (.inr ((Own.wipe hn).mpr (o1 a z)))
      · rintro ((z | z) | z)
        · exact .inl (.inl z)
        · exact .inr (o2 a ((Own.wipe hn).mp z))
        · exact .inl (.inr z)
    refine ⟨fun i m Hc => m = src.length - i ∧ i ≤ src.length ∧ Ext (upd H1 D (.lst [])) (upd Hc D (.lst [])) ∧ Gd T Hc ∧ ∃ acc out rest, Hc D = some (.lst acc) ∧ acc.length ≤ i ∧ RepA K Hc (fun a => Wd W ρ σ a ∨ a = D) acc out ∧ compGo (wipeR ρ vs) gf ft fe (src.drop i) = some rest ∧ out ++ rest = ds,
      ⟨src.length, rfl, Nat.zero_le _, by rw [upd_upd]; exact Ext.refl _, gD, [], [], ds, upd_same, Nat.le_refl _, .nil, e, rfl⟩, fun i m Hc hW => ?_⟩
    obtain ⟨rfl, hile, ex, gc, acc, out, rest, hDc, hacc, racc, ego, eds⟩ := hW
    -- from H1 to Hc
    have e1c : Ext H1 Hc := ⟨fun b o h n => by
      have hb : b ≠ D := ne_of_none h hD
      have := ex.keep b o (by rw [upd_ne hb]; exact h) n
      rw [upd_ne hb] at this
      exact this, fun b h => by
      by_cases hb : b = D
      · rw [hb]; exact hD
      · have := ex.there b (by rw [upd_ne hb]; exact h)
        rw [upd_ne hb] at this
        exact this⟩
    obtain ⟨jgo, jstop⟩ := jok Hc e1c.kp gc
    have rpc : Rp K Hc (fun a => W a ∨ a = D) (wipeR ρ vs) (L2.wipe σ vs) := by
      have base : Rp K (upd Hc D (.lst [])) (fun a => W a ∨ a = D) (wipeR ρ vs) (L2.wipe σ vs) := rpD.ext ex
      have kw : KeepW (Wd (fun a => W a ∨ a = D) (wipeR ρ vs) (L2.wipe σ vs)) (upd Hc D (.lst [])) Hc := by
        have := KeepW.set (vs := muL []) (o := .lst acc) (H := upd Hc D (.lst [])) (W := Wd (fun a => W a ∨ a = D) (wipeR ρ vs) (L2.wipe σ vs)) upd_same (.inl (.inr rfl))
        rw [upd_upd] at this
        have e2 : upd Hc D (.lst acc) = Hc := by
          funext b
          by_cases hb : b = D
          · rw [hb, upd_same, hDc]
          · rw [upd_ne hb]
        rw [e2] at this
        exact this
      refine ⟨base.len, fun j d h => ?_, fun j es h => ?_, base.inj, fun a z => ?_⟩
      · obtain ⟨v, h1, h2⟩ := base.im j d h
        exact ⟨v, h1, h2.keep kw fun _ _ _ z => z⟩
      · obtain ⟨b, h1, h3, h4⟩ := base.own j es h
        have hb : b ≠ D := fun z => h3 (.inr z)
        exact ⟨b, h1, h3, h4.keep (upd_ne hb).symm kw fun _ _ _ z => z⟩
      · by_cases hb : a = D
        · exact ⟨muL acc, by rw [hb]; exact hDc⟩
        · obtain ⟨xs, hx⟩ := base.wl a z
          rw [upd_ne hb] at hx
          exact ⟨xs, hx⟩
    by_cases hlt : i < src.length
    · obtain ⟨d, hd⟩ : ∃ d, src[i]? = some d := ⟨src[i], List.getElem?_eq_getElem hlt⟩
      obtain ⟨go, yl⟩ := jgo i d hd
      have edrop : src.drop i = d :: src.drop (i + 1) := by
        rw [List.drop_eq_getElem_cons hlt]
        rw [List.getElem?_eq_getElem hlt] at hd
        cases hd
        rfl
      rw [edrop] at ego
      obtain ⟨ρ2, eg, ego⟩ := obind ego
      obtain ⟨b, et, ego⟩ := obind ego
      refine .inr ⟨go, fun Hn => Ext (upd H1 D (.lst [])) (upd Hn D (.lst [])) ∧ Gd T Hn ∧ ∃ acc out rest, Hn D = some (.lst acc) ∧ acc.length ≤ i + 1 ∧ RepA K Hn (fun a => Wd W ρ σ a ∨ a = D) acc out ∧ compGo (wipeR ρ vs) gf ft fe (src.drop (i + 1)) = some rest ∧ out ++ rest = ds,
        fun Hn hN => ⟨src.length - (i + 1), by omega, rfl, hlt, hN⟩, fun x H' y => ?_⟩
      obtain ⟨e2, g2, rx⟩ := yl x H' y
      have grow : ∀ {Hn : Hp}, Ext Hc Hn → Ext (upd H1 D (.lst [])) (upd Hn D (.lst [])) := fun {Hn} en => ⟨fun b o h n => by
        by_cases hb : b = D
        · rw [hb, upd_same] at h ⊢
          exact h
        · have h3 := ex.keep b o h n
          rw [upd_ne hb] at h3 ⊢
          exact en.keep b o h3 n, fun b h => by
        by_cases hb : b = D
        · rw [hb, upd_same] at h; cases h
        · rw [upd_ne hb] at h ⊢
          have h3 := ex.there b (by rw [upd_ne hb]; exact en.there b h)
          rw [upd_ne hb] at h3
          exact h3⟩
      have rp2 := rpc.ext e2
      have rx' : Rep K H' (Wd (fun a => W a ∨ a = D) (wipeR ρ vs) (L2.wipe σ vs)) x d := rx.sub fun a xs h z => by
        rcases (wd (fun _ z => z) (fun _ z => z) a).mp z with z | z
        · exact .inl z
        · exact .inr (by rw [z]; exact hD)
      refine hg _ (wipeR ρ vs) (L2.wipe σ vs) H' x d ρ2 _ g2 rp2 rx' eg fun σ2 rp3 k3 l3 o3 u3 => ?_
      have hnis : ∀ j, j ∉ vs → j ∉ is := fun j hj z => hj (hs j z)
      refine ⟨?_, ?_⟩
      · rw [wipe_eq l3 fun j hj => k3 j (hnis j hj), wipe_wipe]
      have o4 : ∀ a, Own (wipeR ρ vs) (L2.wipe σ vs) a → Own ρ2 σ2 a := fun a z => by
        obtain ⟨j, es, h1, h2⟩ := z
        obtain ⟨j0, es0, h10, h20⟩ := (Own.wipe hn).mpr ⟨j, es, h1, h2⟩
        have hj0 : j0 ∉ vs := fun z => noOw_at hn j0 z es0 h10
        exact ⟨j0, es0, by rw [u3 j0 (hnis j0 hj0), getS_wipe hj0]; exact h10, by rw [k3 j0 (hnis j0 hj0), wipeσ_ne hj0]; exact h20⟩
      refine ht _ ρ2 σ2 H' b _ g2 rp3 et fun H3 e3 g3 => ?_
      cases b with
      | true =>
        rw [if_pos rfl] at ego ⊢
        obtain ⟨y', ey, ego⟩ := obind ego
        obtain ⟨r', er, ego⟩ := obind ego
        cases ego
        refine he _ ρ2 σ2 H3 y' _ g3 (rp3.ext e3) ey fun v4 H4 e4 g4 r4 => ?_
        have ec4 : Ext Hc H4 := (e2.trans e3).trans e4
        have hD4 : H4 D = some (.lst acc) := ec4.keep D _ hDc rfl
        have hal : acc.length < sizeLine := by omega
        have r4' : Rep K H4 (fun a => Wd W ρ σ a ∨ a = D) v4 y' := r4.wt.sub fun a _ _ z => (wd o3 o4 a).mpr z
        have kw : KeepW (fun a => Wd W ρ σ a ∨ a = D) H4 (upd H4 D (.lst (acc ++ [v4]))) := KeepW.set (vs := muL acc) hD4 (.inr rfl)
        refine ⟨acc, hD4, hal, by rw [upd_upd]; exact grow ec4, g4.setL hD4 (by rw [List.length_append, List.length_singleton]; omega), acc ++ [v4], out ++ [y'], r', upd_same, by rw [List.length_append, List.length_singleton]; omega, ?_, er, by rw [List.append_assoc]; exact eds⟩
        exact ((racc.ext ec4).keep kw fun _ _ _ z => z).append (.one (r4'.keep kw fun _ _ _ z => z))
      | false =>
        rw [if_neg Bool.false_ne_true] at ego ⊢
        have ec3 : Ext Hc H3 := e2.trans e3
        exact ⟨grow ec3, g3, acc, out, rest, ec3.keep D _ hDc rfl, by omega, racc.ext ec3, ego, eds⟩
    · have hi' : i = src.length := by omega
      subst hi'
      refine .inl ⟨jstop _ (Nat.le_refl _), ?_⟩
      rw [List.drop_length] at ego
      cases ego
      rw [List.append_nil] at eds
      subst eds
      exact q D acc Hc (e1.trans e1c) gc (e1.there D hD) hDc racc
  · rw [if_neg hz] at e; cases e
/-- [elt for tg in iter if ..] -/
theorem df_lc {T : List Addr} {K : PySem.W.Frag} {X : Cx} {elt tg iter : Expr} {ifs : List Expr} {scope : Scope} {own : List (Str × Nat)} {pos : Pos} {wi : TI} {g : TG} {tt : TT} {te : TE} {fi : FnL} {gf : Dt → Rho → Option Rho} {is : List Nat} {ft : FnB} {fe : Fn} (hc : X.calm = true) (hN : X.N.Nodup) (hi : DI false T K X tg iter wi fi) (ok : blkC X.N X.env.scope scope own = true)
    (hg : ∀ (s : Shared) (H : Hp) (C : Addr) (cl : List (Str × Addr)) (fp : List Addr), DG T K (X.blk s H scope (compEnvC scope cl C X.env) fp) tg g gf is)
    (ht : ∀ (s : Shared) (H : Hp) (C : Addr) (cl : List (Str × Addr)) (fp : List Addr), PTs (X.blk s H scope (compEnvC scope cl C X.env) fp) ifs tt ∧ SdT T K tt ft)
    (he : ∀ (s : Shared) (H : Hp) (C : Addr) (cl : List (Str × Addr)) (fp : List Addr), DE true T K (X.blk s H scope (compEnvC scope cl C X.env) fp) elt te fe)
    (hs : is.all (fun i => (own.map (·.2)).contains i) = true := by rfl) (hfs : ∀ x, foldedSetIterable iter X.env x = pure x := by intro _; rfl) :
    DF T K X (.ListComp elt [⟨tg, iter, ifs, 0⟩] scope pos) (tLc wi g tt te (own.map (·.2))) (fComp fi gf ft fe (own.map (·.2))) :=
  ⟨pe_lc hc hN hi.pi (blkOk_by ok) (fun s H C cl fp => (hg s H C cl fp).pg) (fun s H C cl fp => (ht s H C cl fp).1) (fun s H C cl fp => (he s H C cl fp).pe) hfs,
   sd_lc hi.sd (hg { } (fun _ => none) 0 [] []).sd (ht { } (fun _ => none) 0 [] []).2 (he { } (fun _ => none) 0 [] []).sd fun i hi => by
    have := List.all_eq_true.mp hs i hi
    simpa using this⟩
theorem dts_nil {T : List Addr} {K : PySem.W.Frag} {X : Cx} : PTs X [] tYes ∧ SdT T K tYes fYes := ⟨pts_nil, fun W ρ σ H b Q g r e q => by cases e; exact q H (Ext.refl H) g⟩
theorem dts_one {T : List Addr} {K : PySem.W.Frag} {X : Cx} {c : Expr} {t : TT} {f : FnB} (h : DT T K X c t f) : PTs X [c] t ∧ SdT T K t f := ⟨pts_one h.pt, h.sd⟩
end EL
end

section
set_option Elab.async false
set_option maxRecDepth 100000
/-! EL statements. -/
namespace EL
open PySem PySem.Spec PyProof.Rows L2

/-- how a statement ends -/
inductive Fl where
  | nx (ρ : Rho) | rt (d : Dt) | bk (ρ : Rho) | ct (ρ : Rho)
abbrev FnS := Rho → Option Fl
/-- behind a statement -/
structure Aft (T : List Addr) (K : PySem.W.Frag) (W : Addr → Prop) (as : List Nat) (ρ : Rho) (σ : L2.St) (H : Hp) (ρ' : Rho) (σ' : L2.St) (H' : Hp) : Prop where
  rp : Rp K H' W ρ' σ'
  gd : Gd T H'
  kp : Kp (Own ρ σ) H H'
  ow : ∀ a, Own ρ' σ' a → Own ρ σ a ∨ H a = none
  st : ∀ j, j ∉ as → σ'[j]? = σ[j]?
def Post (T : List Addr) (K : PySem.W.Frag) (W : Addr → Prop) (as : List Nat) (ρ : Rho) (σ : L2.St) (H : Hp) (D : Ends) : Fl → Prop
  | .nx ρ' => ∀ σ' H', Aft T K W as ρ σ H ρ' σ' H' → D.nx σ' H'
  | .bk ρ' => ∀ σ' H', Aft T K W as ρ σ H ρ' σ' H' → D.bk σ' H'
  | .ct ρ' => ∀ σ' H', Aft T K W as ρ σ H ρ' σ' H' → D.ct σ' H'
  | .rt d => ∀ v H', Kp (Own ρ σ) H H' → Gd T H' → Rep K H' W v d → D.rt v H'
def SdS (T : List Addr) (K : PySem.W.Frag) (t : TS) (F : FnS) (as : List Nat) : Prop :=
  ∀ (W : Addr → Prop) (ρ : Rho) (σ : L2.St) (H : Hp) (fl : Fl) (D : Ends), Gd T H → Rp K H W ρ σ → F ρ = some fl → Post T K W as ρ σ H D fl → t D σ H
structure DS (T : List Addr) (K : PySem.W.Frag) (X : Cx) (st : Stmt) (t : TS) (F : FnS) (as : List Nat) : Prop where
  ps : PS X st t
  sd : SdS T K t F as
structure DSs (T : List Addr) (K : PySem.W.Frag) (X : Cx) (st : List Stmt) (t : TS) (F : FnS) (as : List Nat) : Prop where
  ps : PSs X st t
  sd : SdS T K t F as

section
variable {T : List Addr} {K : PySem.W.Frag} {W : Addr → Prop} {as bs : List Nat} {ρ ρ1 ρ2 : Rho} {σ σ1 σ2 : L2.St} {H H1 H2 : Hp}
theorem Aft.trans (x : Aft T K W as ρ σ H ρ1 σ1 H1) (y : Aft T K W bs ρ1 σ1 H1 ρ2 σ2 H2) : Aft T K W (as ++ bs) ρ σ H ρ2 σ2 H2 where
  rp := y.rp
  gd := y.gd
  kp := x.kp.trans y.kp x.ow
  ow := fun a z => by
    rcases y.ow a z with z | z
    · exact x.ow a z
    · exact .inr (x.kp.there a z)
  st := fun j hj => by
    rw [List.mem_append, not_or] at hj
    exact (y.st j hj.2).trans (x.st j hj.1)
theorem Aft.sub (x : Aft T K W as ρ σ H ρ1 σ1 H1) (h : ∀ j ∈ as, j ∈ bs) : Aft T K W bs ρ σ H ρ1 σ1 H1 := ⟨x.rp, x.gd, x.kp, x.ow, fun j hj => x.st j fun z => hj (h j z)⟩
theorem Aft.refl (g : Gd T H) (rp : Rp K H W ρ σ) : Aft T K W [] ρ σ H ρ σ H := ⟨rp, g, Kp.refl _ _, fun _ z => .inl z, fun _ _ => rfl⟩
theorem Aft.ext (e : Ext H H1) (g : Gd T H1) (rp : Rp K H W ρ σ) : Aft T K W [] ρ σ H ρ σ H1 := ⟨rp.ext e, g, e.kp, fun _ z => .inl z, fun _ _ => rfl⟩
theorem Post.pre {D : Ends} {fl : Fl} (x : Aft T K W as ρ σ H ρ1 σ1 H1) (h : Post T K W (as ++ bs) ρ σ H D fl) : Post T K W bs ρ1 σ1 H1 D fl := by
  cases fl with
  | nx ρ' => exact fun σ' H' y => h σ' H' (x.trans y)
  | bk ρ' => exact fun σ' H' y => h σ' H' (x.trans y)
  | ct ρ' => exact fun σ' H' y => h σ' H' (x.trans y)
  | rt d => exact fun v H' k g r => h v H' (x.kp.trans k x.ow) g r
theorem Post.sub {D : Ends} {fl : Fl} (h : Post T K W bs ρ σ H D fl) (hs : ∀ j ∈ as, j ∈ bs) : Post T K W as ρ σ H D fl := by
  cases fl with
  | nx ρ' => exact fun σ' H' y => h σ' H' (y.sub hs)
  | bk ρ' => exact fun σ' H' y => h σ' H' (y.sub hs)
  | ct ρ' => exact fun σ' H' y => h σ' H' (y.sub hs)
  | rt d => exact h
end

def sNil : FnS := fun ρ => some (.nx ρ)
def sSeq (F G : FnS) : FnS := fun ρ => (F ρ).bind fun fl => match fl with | .nx ρ' => G ρ' | .rt d => some (.rt d) | .bk ρ' => some (.bk ρ') | .ct ρ' => some (.ct ρ')
def sRet (f : Fn) : FnS := fun ρ => (f ρ).bind fun d => some (.rt d)
def sExpr (f : Fn) : FnS := fun ρ => (f ρ).bind fun _ => some (.nx ρ)
def sSet (i : Nat) (f : Fn) : FnS := fun ρ => (f ρ).bind fun d => some (.nx (setS ρ i (.im d)))
def sSetF (i : Nat) (f : FnL) : FnS := fun ρ => (f ρ).bind fun ds => some (.nx (setS ρ i (.ow ds)))
def sAsg (f : Fn) (gf : Dt → Rho → Option Rho) : FnS := fun ρ => (f ρ).bind fun d => (gf d ρ).bind fun ρ' => some (.nx ρ')
def sIf (c : FnB) (F G : FnS) : FnS := fun ρ => (c ρ).bind fun k => if k = true then F ρ else G ρ

section
variable {m k : Bool} {T : List Addr} {X : Cx} {K : PySem.W.Frag} {a b c e tg : Expr} {es : List Expr} {st : Stmt} {sts rest body : List Stmt} {ta tb tc t : TE} {tr : TA} {u v : TS} {f fa fb : Fn} {fr fl : FnL} {F G : FnS} {as bs is : List Nat} {pos p : Pos}
theorem dss_nil : DSs T K X [] tNext sNil [] := ⟨pss_nil, fun W ρ σ H fl D g r e q => by cases e; exact q σ H (Aft.refl g r)⟩
theorem sd_seq (h1 : SdS T K u F as) (h2 : SdS T K v G bs) : SdS T K (tSeq u v) (sSeq F G) (as ++ bs) := fun W ρ σ H fl D g r e q => by
  obtain ⟨f1, e1, e2⟩ := obind e
  refine h1 W ρ σ H f1 _ g r e1 ?_
  cases f1 with
  | nx ρ1 => exact fun σ1 H1 x => h2 W ρ1 σ1 H1 fl D x.gd x.rp e2 (q.pre x)
  | bk ρ1 => cases e2; exact fun σ1 H1 x => q σ1 H1 (x.sub fun j h => List.mem_append_left _ h)
  | ct ρ1 => cases e2; exact fun σ1 H1 x => q σ1 H1 (x.sub fun j h => List.mem_append_left _ h)
  | rt d => cases e2; exact q
theorem dss_cons (h1 : DS T K X st u F as) (h2 : DSs T K X rest v G bs) : DSs T K X (st :: rest) (tSeq u v) (sSeq F G) (as ++ bs) := ⟨pss_cons h1.ps h2.ps, sd_seq h1.sd h2.sd⟩
theorem dss_one (h1 : DS T K X st u F as) : DSs T K X [st] u F as := ⟨pss_one h1.ps, h1.sd⟩
/-- slots are forgotten, lists that are owned are owned no longer, behind a statement -/

theorem ds_pass : DS T K X (.Pass pos) tNext sNil [] := ⟨ps_pass, fun W ρ σ H fl D g r e q => by cases e; exact q σ H (Aft.refl g r)⟩
theorem ds_break : DS T K X (.Break pos) tBreak (fun ρ => some (.bk ρ)) [] := ⟨ps_break, fun W ρ σ H fl D g r e q => by cases e; exact q σ H (Aft.refl g r)⟩
theorem ds_continue : DS T K X (.Continue pos) tCont (fun ρ => some (.ct ρ)) [] := ⟨ps_continue, fun W ρ σ H fl D g r e q => by cases e; exact q σ H (Aft.refl g r)⟩
theorem ds_never : DS T K X st tNever (fun _ => none) [] := ⟨ps_never, fun W ρ σ H fl D g r e q => by cases e⟩
theorem dss_never : DSs T K X sts tNever (fun _ => none) [] := ⟨pss_never, fun W ρ σ H fl D g r e q => by cases e⟩
theorem ds_ret (h : DE true T K X e t f) : DS T K X (.Return (some e) pos) (tRet t) (sRet f) [] := ⟨ps_ret h.pe, fun W ρ σ H fl D g r e q => by
  obtain ⟨d, ed, e⟩ := obind e
  cases e
  exact h.sd W ρ σ H d _ g r ed fun v H' e1 g1 r1 => q v H' e1.kp g1 (r1.wt.sub fun _ _ _ z => .inl z)⟩
theorem ds_retN : DS T K X (.Return none pos) tRetN (fun _ => some (.rt .non)) [] := ⟨ps_retN, fun W ρ σ H fl D g r e q => by
  cases e
  exact q .non H (Kp.refl _ _) g .non⟩
theorem ds_expr (h : DE m T K X e t f) (hs : swapsWith e none pos.line X.env = pure false := by rfl) : DS T K X (.Expr e pos) (tDrop t) (sExpr f) [] := ⟨ps_expr h.pe hs, fun W ρ σ H fl D g r e q => by
  obtain ⟨d, ed, e⟩ := obind e
  cases e
  exact h.sd W ρ σ H d _ g r ed fun v H' e1 g1 _ => q σ H' (Aft.ext e1 g1 r)⟩
theorem sd_set {i : Nat} (h : Sd true T K t f) : SdS T K (tAsg t (gName i)) (sSet i f) [i] := fun W ρ σ H fl D g r e q => by
  obtain ⟨d, ed, e⟩ := obind e
  cases e
  refine h W ρ σ H d _ g r ed fun v H' e1 g1 r1 => q _ H' ⟨(r.ext e1).setIm r1.wt, g1, e1.kp, fun a z => .inl (Own.set rfl z), fun j hj => setσ_ne fun z => hj (by rw [z]; exact List.mem_singleton.mpr rfl)⟩
theorem Own.setOwn {i : Nat} {s : Sl} {p : Addr} {ρ : Rho} {σ : L2.St} (hl : ρ.length = σ.length) {a : Addr} (z : Own (setS ρ i s) (σ.set i (some (.ref p))) a) : Own ρ σ a ∨ a = p := by
  obtain ⟨j, es, h1, h2⟩ := z
  by_cases hj : j = i
  · subst hj
    have hlt : j < ρ.length := by rw [← setS_length ρ j s]; exact ownd_lt h1
    rw [List.getElem?_set_self (by rw [← hl]; exact hlt)] at h2
    cases h2
    exact .inr rfl
  · rw [getS_set_ne hj] at h1
    rw [setσ_ne hj] at h2
    exact .inl ⟨j, es, h1, h2⟩
theorem Own.setOw {i : Nat} {ds : List Dt} {p : Addr} {ρ : Rho} {σ : L2.St} (hl : ρ.length = σ.length) {a : Addr} (z : Own (setS ρ i (.ow ds)) (σ.set i (some (.ref p))) a) : Own ρ σ a ∨ a = p := Own.setOwn hl z
theorem sd_setF {i : Nat} (h : SdF T K t fl) : SdS T K (tAsg t (gName i)) (sSetF i fl) [i] := fun W ρ σ H fl' D g r e q => by
  obtain ⟨ds, ed, e⟩ := obind e
  cases e
  refine h W ρ σ H ds _ g r ed fun p vs H' e1 g1 hp hp1 r1 => q _ H' ⟨r.setOw e1 hp hp1 r1, g1, e1.kp, fun a z => ?_, fun j hj => setσ_ne fun z => hj (by rw [z]; exact List.mem_singleton.mpr rfl)⟩
  rcases Own.setOw r.len z with z | z
  · exact .inl z
  · exact .inr (by rw [z]; exact hp)
theorem ds_set {i : Nat} {x : Str} {p' : Pos} (hN : X.N.Nodup) (h : DE true T K X e t f) (hi : X.N[i]? = some x := by rfl) (hx : Loc X.env.scope x := by first | exact Or.inl rfl | exact Or.inr rfl) (hs : swapsWith e (some (.Name x p')) pos.line X.env = pure false := by rfl) (hf : X.fn x = true ∨ X.env.scope.names.lookup x = some .local := by first | exact .inl rfl | exact .inr rfl) :
    DS T K X (.Assign [.Name x p'] e pos) (tAsg t (gName i)) (sSet i f) [i] := ⟨ps_set hN hi hx h.pe hs hf, sd_set h.sd⟩
theorem ds_setF {i : Nat} {x : Str} {p' : Pos} (hN : X.N.Nodup) (h : DF T K X e t fl) (hi : X.N[i]? = some x := by rfl) (hx : Loc X.env.scope x := by first | exact Or.inl rfl | exact Or.inr rfl) (hs : swapsWith e (some (.Name x p')) pos.line X.env = pure false := by rfl) (hf : X.fn x = true ∨ X.env.scope.names.lookup x = some .local := by first | exact .inl rfl | exact .inr rfl) :
    DS T K X (.Assign [.Name x p'] e pos) (tAsg t (gName i)) (sSetF i fl) [i] := ⟨ps_set hN hi hx h.pe hs hf, sd_setF h.sd⟩
/-- y = [elt for ..]: y a plain local, on one line -/
theorem ds_setLc {i : Nat} {y : Str} {py : Pos} {elt iter : Expr} {ifs : List Expr} {scope : Scope} {own : List (Str × Nat)} {spos : Pos} {wi : TI} {g : TG} {tt : TT} {te : TE} {fi : FnL} {gf : Dt → Rho → Option Rho} {ft : FnB} {fe : Fn} (hc : X.calm = true) (hN : X.N.Nodup) (hi : DI false T K X tg iter wi fi) (ok : blkC X.N X.env.scope scope own = true)
    (hg : ∀ (s : Shared) (H : Hp) (C : Addr) (cl : List (Str × Addr)) (fp : List Addr), DG T K (X.blk s H scope (compEnvC scope cl C X.env) fp) tg g gf is)
    (ht : ∀ (s : Shared) (H : Hp) (C : Addr) (cl : List (Str × Addr)) (fp : List Addr), PTs (X.blk s H scope (compEnvC scope cl C X.env) fp) ifs tt ∧ SdT T K tt ft)
    (he : ∀ (s : Shared) (H : Hp) (C : Addr) (cl : List (Str × Addr)) (fp : List Addr), DE true T K (X.blk s H scope (compEnvC scope cl C X.env) fp) elt te fe)
    (hy : X.N[i]? = some y := by rfl) (hyl : X.env.scope.names.lookup y = some .local := by rfl)
    (hsw : swapsWith (.ListComp elt [⟨tg, iter, ifs, 0⟩] scope pos) (some (.Name y py)) spos.line X.env = pure true := by exact sw_true rfl rfl rfl (by decide +kernel))
    (hs : is.all (fun i => (own.map (·.2)).contains i) = true := by rfl) (hfs : ∀ x, foldedSetIterable iter X.env x = pure x := by intro _; rfl) :
    DS T K X (.Assign [.Name y py] (.ListComp elt [⟨tg, iter, ifs, 0⟩] scope pos) spos) (tAsg (tLc wi g tt te (own.map (·.2))) (gName i)) (sSetF i (fComp fi gf ft fe (own.map (·.2)))) [i] :=
  ⟨ps_setLc hc hN hy hyl hsw hi.pi (blkOk_by ok) (fun s H C cl fp => (hg s H C cl fp).pg) (fun s H C cl fp => (ht s H C cl fp).1) (fun s H C cl fp => (he s H C cl fp).pe) hfs,
   sd_setF (sd_lc hi.sd (hg { } (fun _ => none) 0 [] []).sd (ht { } (fun _ => none) 0 [] []).2 (he { } (fun _ => none) 0 [] []).sd fun i hi => by
    have := List.all_eq_true.mp hs i hi
    simpa using this)⟩
/-- the same, the list never changed -/
theorem ds_setLcI {i : Nat} {y : Str} {py : Pos} {elt iter : Expr} {ifs : List Expr} {scope : Scope} {own : List (Str × Nat)} {spos : Pos} {wi : TI} {g : TG} {tt : TT} {te : TE} {fi : FnL} {gf : Dt → Rho → Option Rho} {ft : FnB} {fe : Fn} (hc : X.calm = true) (hN : X.N.Nodup) (hi : DI false T K X tg iter wi fi) (ok : blkC X.N X.env.scope scope own = true)
    (hg : ∀ (s : Shared) (H : Hp) (C : Addr) (cl : List (Str × Addr)) (fp : List Addr), DG T K (X.blk s H scope (compEnvC scope cl C X.env) fp) tg g gf is)
    (ht : ∀ (s : Shared) (H : Hp) (C : Addr) (cl : List (Str × Addr)) (fp : List Addr), PTs (X.blk s H scope (compEnvC scope cl C X.env) fp) ifs tt ∧ SdT T K tt ft)
    (he : ∀ (s : Shared) (H : Hp) (C : Addr) (cl : List (Str × Addr)) (fp : List Addr), DE true T K (X.blk s H scope (compEnvC scope cl C X.env) fp) elt te fe)
    (hy : X.N[i]? = some y := by rfl) (hyl : X.env.scope.names.lookup y = some .local := by rfl)
    (hsw : swapsWith (.ListComp elt [⟨tg, iter, ifs, 0⟩] scope pos) (some (.Name y py)) spos.line X.env = pure true := by exact sw_true rfl rfl rfl (by decide +kernel))
    (hs : is.all (fun i => (own.map (·.2)).contains i) = true := by rfl) (hfs : ∀ x, foldedSetIterable iter X.env x = pure x := by intro _; rfl) :
    DS T K X (.Assign [.Name y py] (.ListComp elt [⟨tg, iter, ifs, 0⟩] scope pos) spos) (tAsg (tLc wi g tt te (own.map (·.2))) (gName i)) (sSet i (fLst (fComp fi gf ft fe (own.map (·.2))))) [i] :=
  ⟨(ds_setLc (T := T) hc hN hi ok hg ht he hy hyl hsw hs hfs).ps, sd_set (DF.de (m := true) (df_lc (T := T) (pos := pos) hc hN hi ok hg ht he hs hfs)).sd⟩
/-- a, b = e1, e2: two plain names -/
def sPar (i j : Nat) (fr : FnL) : FnS := fun ρ => (fr ρ).bind fun ds => match ds with | [d, d'] => some (.nx (setS (setS ρ i (.im d)) j (.im d'))) | _ => none
theorem ds_par {i j : Nat} {x y : Str} {px py pt : Pos} {kt k2 : Nat} {pt2 : Pos} (hc : X.calm = true) (hN : X.N.Nodup) (h : DA true T K X [a, b] tr fr) (hij : i ≠ j) (hi : X.N[i]? = some x := by rfl) (hj : X.N[j]? = some y := by rfl)
    (hx : X.env.scope.names.lookup x = some .local := by rfl) (hy : X.env.scope.names.lookup y = some .local := by rfl)
    (hw : swappedStores [.Tuple [.Name x px, .Name y py] kt pt] (.Tuple [a, b] k2 pt2) X.env = pure (some [x, y]) := by rfl)
    (hs : swapsWithSole [.Tuple [.Name x px, .Name y py] kt pt] (.Tuple [a, b] k2 pt2) pos.line X.env = pure false := by rfl) :
    DS T K X (.Assign [.Tuple [.Name x px, .Name y py] kt pt] (.Tuple [a, b] k2 pt2) pos) (tPar i j tr) (sPar i j fr) [i, j] := ⟨ps_par hc hN hi hj hij hx hy h.pa hw hs, fun W ρ σ H fl D g r e q => by
  obtain ⟨ds, ed, e⟩ := obind e
  match ds, e with
  | [d, d'], e =>
    cases e
    refine h.sd W ρ σ H [d, d'] _ g r ed fun vs H' e1 g1 r1 => ?_
    obtain ⟨v, v', rfl, r2, r3⟩ := repA2 r1.wt
    have rp1 := (r.ext e1).setIm (i := i) r2
    have o1 : ∀ a, Own (setS ρ i (.im d)) (σ.set i (some v)) a → Own ρ σ a := fun a z => Own.set rfl z
    have rp2 := rp1.setIm (i := j) (r3.sub fun a _ _ z => z.imp (fun z => z) (o1 a))
    refine ⟨v, v', rfl, q _ H' ⟨rp2, g1, e1.kp, fun a z => .inl (o1 a (Own.set rfl z)), fun l hl => ?_⟩⟩
    rw [List.mem_cons, List.mem_singleton, not_or] at hl
    rw [setσ_ne hl.2, setσ_ne hl.1]⟩
/-- (a, b) = e -/
theorem ds_asg {g : TG} {gf : Dt → Rho → Option Rho} (h : DE true T K X e t f) (hg : DG T K X tg g gf is) (hs : swapsWithSole [tg] e pos.line X.env = pure false := by rfl) (hw : swappedStores [tg] e X.env = pure none := by rfl) (h1 : (assignEach [tg] X.env).map (·.2) = [assign tg X.env] := by rfl) :
    DS T K X (.Assign [tg] e pos) (tAsg t g) (sAsg f gf) is := ⟨ps_asg h.pe hg.pg hs hw h1, fun W ρ σ H fl D gd r e q => by
  obtain ⟨d, ed, e⟩ := obind e
  obtain ⟨ρ', eg, e⟩ := obind e
  cases e
  refine h.sd W ρ σ H d _ gd r ed fun v H' e1 g1 r1 => ?_
  exact hg.sd W ρ σ H' v d ρ' _ g1 (r.ext e1) r1.wt eg fun σ' rp' k' l' o' u' => q σ' H' ⟨rp', g1, e1.kp, fun a z => .inl (o' a z), k'⟩⟩
theorem ds_if {tk : TT} {gc : FnB} (hc : DT T K X c tk gc) (ha : DSs T K X sts u F as) (hb : DSs T K X rest v G bs) : DS T K X (.If c sts rest pos) (tIfS tk u v) (sIf gc F G) (as ++ bs) := ⟨ps_if hc.pt ha.ps hb.ps, fun W ρ σ H fl D g r e q => by
  obtain ⟨k, ek, e⟩ := obind e
  refine hc.sd W ρ σ H k _ g r ek fun H1 e1 g1 => ?_
  have x := Aft.ext e1 g1 r
  cases k with
  | true =>
    rw [if_pos rfl] at e ⊢
    exact ha.sd W ρ σ H1 fl D g1 (r.ext e1) e (Post.pre x (q.sub fun j h => List.mem_append_left _ h))
  | false =>
    rw [if_neg Bool.false_ne_true] at e ⊢
    exact hb.sd W ρ σ H1 fl D g1 (r.ext e1) e (Post.pre x (q.sub fun j h => List.mem_append_right _ h))⟩

/-! ### slots forgotten; lists that are owned no longer -/
def clr : List Bool → Rho → Rho
  | b :: bs, s :: r => (if b = true then s else .un) :: clr bs r
  | _, r => r
theorem clr_length : ∀ (bs : List Bool) (ρ : Rho), (clr bs ρ).length = ρ.length
  | [], _ => rfl
  | _ :: _, [] => rfl
  | b :: bs, s :: r => by show (clr bs r).length + 1 = r.length + 1; rw [clr_length bs r]
theorem getS_clr : ∀ (bs : List Bool) (ρ : Rho) (i : Nat), getS (clr bs ρ) i = getS ρ i ∨ getS (clr bs ρ) i = .un
  | [], _, _ => .inl rfl
  | _ :: _, [], _ => .inl rfl
  | true :: bs, s :: r, 0 => .inl rfl
  | false :: bs, s :: r, 0 => .inr rfl
  | _ :: bs, _ :: r, i + 1 => getS_clr bs r i
theorem Own.clr {bs : List Bool} {ρ : Rho} {σ : L2.St} {a : Addr} (z : Own (clr bs ρ) σ a) : Own ρ σ a := by
  obtain ⟨i, ds, h1, h2⟩ := z
  rcases getS_clr bs ρ i with e | e
  · exact ⟨i, ds, by rw [← e]; exact h1, h2⟩
  · rw [e] at h1; cases h1
theorem Rp.clr {W : Addr → Prop} {H : Hp} {ρ : Rho} {σ : L2.St} (r : Rp K H W ρ σ) (bs : List Bool) : Rp K H W (clr bs ρ) σ := by
  have sub : ∀ a (xs : MuH), H a = some xs.1 → Wd W (EL.clr bs ρ) σ a → Wd W ρ σ a := fun a xs _ z => z.imp (fun z => z) Own.clr
  have at_ : ∀ i s, getS (EL.clr bs ρ) i = s → s ≠ .un → getS ρ i = s := fun i s e n => by
    rcases getS_clr bs ρ i with q | q
    · rw [← q]; exact e
    · rw [q] at e; exact absurd e.symm n
  have ow_ : ∀ i d, ownd (getS (EL.clr bs ρ) i) = some d → ownd (getS ρ i) = some d := fun i d e => by
    rcases getS_clr bs ρ i with q | q
    · rw [← q]; exact e
    · rw [q] at e; cases e
  refine ⟨by rw [clr_length]; exact r.len, fun i d e => ?_, fun i ds e => ?_, fun i j di dj a e1 e2 => r.inj i j di dj a (ow_ i _ e1) (ow_ j _ e2), r.wl⟩
  · obtain ⟨v, h1, h2⟩ := r.im i d (at_ i _ e fun z => Sl.noConfusion z)
    exact ⟨v, h1, h2.sub sub⟩
  · obtain ⟨a, h1, h2, h3⟩ := r.own i ds (ow_ i _ e)
    exact ⟨a, h1, h2, h3.sub sub⟩
theorem Aft.clr {W : Addr → Prop} {H H' : Hp} {ρ ρ' : Rho} {σ σ' : L2.St} (x : Aft T K W as ρ σ H ρ' σ' H') (bs : List Bool) : Aft T K W as ρ σ H (EL.clr bs ρ') σ' H' := ⟨x.rp.clr bs, x.gd, x.kp, fun a z => x.ow a z.clr, x.st⟩
/-- the list (or dict) of slot i is frozen -/
def frz (i : Nat) (ρ : Rho) : Rho := match getS ρ i with
  | .ow ds => setS ρ i (.im (.lst ds))
  | .od d => setS ρ i (.im d)
  | _ => ρ
def frzs : List Nat → Rho → Rho
  | [], ρ => ρ
  | i :: is, ρ => frzs is (frz i ρ)
theorem Own.toIm {i : Nat} {d : Dt} {ρ : Rho} {σ : L2.St} {a : Addr} (hl : i < ρ.length) (z : Own (setS ρ i (.im d)) σ a) : Own ρ σ a := by
  obtain ⟨j, es, h1, h2⟩ := z
  by_cases hj : j = i
  · subst hj
    rw [getS_set_same hl] at h1
    cases h1
  · rw [getS_set_ne hj] at h1
    exact ⟨j, es, h1, h2⟩
theorem Own.frz {i : Nat} {ρ : Rho} {σ : L2.St} {a : Addr} (z : Own (frz i ρ) σ a) : Own ρ σ a := by
  unfold EL.frz at z
  split at z
  · rename_i ds h
    exact z.toIm (ownd_lt (ownd_ow h))
  · rename_i ds h
    exact z.toIm (ownd_lt (ownd_od h))
  · exact z
theorem set_self {σ : L2.St} {i : Nat} {x : Option V} (h : σ[i]? = some x) : σ.set i x = σ := by
  apply List.ext_getElem?
  intro j
  by_cases hj : j = i
  · subst hj
    have hl := (List.getElem?_eq_some_iff.mp h).1
    rw [List.getElem?_set_self hl, h]
  · rw [setσ_ne hj]
theorem Rp.toIm {W : Addr → Prop} {H : Hp} {ρ : Rho} {σ : L2.St} {i : Nat} {d : Dt} (r : Rp K H W ρ σ) (h : ownd (getS ρ i) = some d) : Rp K H W (setS ρ i (.im d)) σ := by
  obtain ⟨a, h1, h3, h4⟩ := r.own i d h
  -- first forget, then hold again
  have r1 : Rp K H W (setS ρ i .un) σ := by
    have := r.setUn (i := i) (x := some (V.ref a))
    rw [set_self h1] at this
    exact this
  have ne : ∀ j es, ownd (getS (setS ρ i .un) j) = some es → j ≠ i := fun j es e1 z => by
    subst z
    rw [getS_set_same (ownd_lt h)] at e1
    cases e1
  have na : ¬ Wd W (setS ρ i .un) σ a := fun z => by
    rcases z with z | ⟨j, es, e1, e2⟩
    · exact h3 z
    · have hj := ne j es e1
      rw [getS_set_ne hj] at e1
      exact hj (r.inj j i es d a e1 h e2 h1)
  have rr : Rep K H (Wd W (setS ρ i .un) σ) (.ref a) d := (h4.sub fun b xs _ z => z.imp (fun z => z) fun z => by
    obtain ⟨j, es, e1, e2⟩ := z
    have hj := ne j es e1
    rw [getS_set_ne hj] at e1
    exact ⟨j, es, e1, e2⟩).rep na
  have r2 := r1.setIm (i := i) rr
  rw [set_self h1] at r2
  have e : ∀ (ρ : Rho) (i : Nat) (s t : Sl), setS (setS ρ i s) i t = setS ρ i t := fun ρ => by
    induction ρ with
    | nil => intros; rfl
    | cons x r ih =>
      intro i s t
      cases i with
      | zero => rfl
      | succ i => show x :: setS (setS r i s) i t = x :: setS r i t; rw [ih]
  rw [e] at r2
  exact r2
theorem Rp.frz {W : Addr → Prop} {H : Hp} {ρ : Rho} {σ : L2.St} (r : Rp K H W ρ σ) (i : Nat) : Rp K H W (frz i ρ) σ := by
  unfold EL.frz
  split
  · rename_i ds h
    exact r.toIm (ownd_ow h)
  · rename_i ds h
    exact r.toIm (ownd_od h)
  · exact r
theorem Rp.frzs {W : Addr → Prop} {H : Hp} {σ : L2.St} : ∀ {is : List Nat} {ρ : Rho}, Rp K H W ρ σ → Rp K H W (frzs is ρ) σ
  | [], _, r => r
  | i :: is, _, r => Rp.frzs (is := is) (r.frz i)
theorem Own.frzs {σ : L2.St} {a : Addr} : ∀ {is : List Nat} {ρ : Rho}, Own (frzs is ρ) σ a → Own ρ σ a
  | [], _, z => z
  | i :: is, _, z => Own.frz (Own.frzs (is := is) z)
theorem Aft.of_own {W : Addr → Prop} {H : Hp} {ρ ρ' : Rho} {σ : L2.St} (g : Gd T H) (r : Rp K H W ρ' σ) (h : ∀ a, Own ρ' σ a → Own ρ σ a) : Aft T K W [] ρ σ H ρ' σ H := ⟨r, g, Kp.refl _ _, fun a z => .inl (h a z), fun _ _ => rfl⟩
def sFrz (is : List Nat) (F : FnS) : FnS := fun ρ => F (frzs is ρ)
def sClr (bs : List Bool) (F : FnS) : FnS := fun ρ => F (clr bs ρ)
/-- ahead of a statement lists are frozen -/
theorem DS.frz (is : List Nat) (h : DS T K X st u F as) : DS T K X st u (sFrz is F) as := ⟨h.ps, fun W ρ σ H fl D g r e q => h.sd W (frzs is ρ) σ H fl D g r.frzs e (Post.pre (Aft.of_own g r.frzs fun _ z => z.frzs) q)⟩
/-- ahead of statements slots are forgotten -/
theorem DSs.clr (bs : List Bool) (h : DSs T K X sts u F as) : DSs T K X sts u (sClr bs F) as := ⟨h.ps, fun W ρ σ H fl D g r e q => h.sd W (EL.clr bs ρ) σ H fl D g (r.clr bs) e (Post.pre (Aft.of_own g (r.clr bs) fun _ z => z.clr) q)⟩
theorem DS.clr (bs : List Bool) (h : DS T K X st u F as) : DS T K X st u (sClr bs F) as := ⟨h.ps, fun W ρ σ H fl D g r e q => h.sd W (EL.clr bs ρ) σ H fl D g (r.clr bs) e (Post.pre (Aft.of_own g (r.clr bs) fun _ z => z.clr) q)⟩

/-! ### for -/
def forGo (gf : Dt → Rho → Option Rho) (mk : List Bool) (F : FnS) : List Dt → Rho → Option Fl
  | [], ρ => some (.nx ρ)
  | d :: ds, ρ => (gf d ρ).bind fun ρ1 => (F ρ1).bind fun fl => match fl with
    | .nx ρ2 => forGo gf mk F ds (clr mk ρ2)
    | .ct ρ2 => forGo gf mk F ds (clr mk ρ2)
    | .bk ρ2 => some (.nx (clr mk ρ2))
    | .rt d => some (.rt d)
def sFor (fi : FnL) (gf : Dt → Rho → Option Rho) (mk : List Bool) (F : FnS) : FnS := fun ρ => (fi ρ).bind fun ds => forGo gf mk F ds (clr mk ρ)
theorem ds_for {wi : TI} {g : TG} {gf : Dt → Rho → Option Rho} (mk : List Bool) (hp : PassesOwn (model X.prog X.w) X.A X.env X.xe) (hc : X.calm = true) (hi : DI true T K X tg e wi fl) (hg : DG T K X tg g gf is) (hb : DSs T K X body u F as)
    (hs : ∀ x, foldedSetIterable e X.env x = pure x := by intro _; rfl) : DS T K X (.For tg e body [] pos) (tFor wi g u) (sFor fl gf mk F) (is ++ as) := ⟨ps_for hp hc hi.pi hg.pg hb.ps hs, fun W ρ σ H fl' D gd r e' q => by
  obtain ⟨src, ei, ego⟩ := obind e'
  refine hi.sd W ρ σ H src _ gd r ei fun J H1 e1 g1 jok => ?_
  have x1 : Aft T K W [] ρ σ H (clr mk ρ) σ H1 := (Aft.ext e1 g1 r).clr mk
  refine ⟨fun i m σc Hc => m = src.length - i ∧ i ≤ src.length ∧ ∃ ρc, Aft T K W (is ++ as) (clr mk ρ) σ H1 ρc σc Hc ∧ forGo gf mk F (src.drop i) ρc = some fl',
    ⟨src.length, rfl, Nat.zero_le _, clr mk ρ, (Aft.refl g1 x1.rp).sub (fun _ h => by cases h), ego⟩, fun i m σc Hc hW => ?_⟩
  obtain ⟨rfl, hile, ρc, xc, ego⟩ := hW
  have kpc : Kp (fun a => W a ∨ (true = true ∧ Own ρ σ a)) H1 Hc := xc.kp.sub fun a z => .inr ⟨rfl, z.clr⟩
  obtain ⟨jgo, jstop⟩ := jok Hc kpc xc.gd
  by_cases hlt : i < src.length
  · obtain ⟨d, hd⟩ : ∃ d, src[i]? = some d := ⟨src[i], List.getElem?_eq_getElem hlt⟩
    obtain ⟨go, yl⟩ := jgo i d hd
    have edrop : src.drop i = d :: src.drop (i + 1) := by
      rw [List.drop_eq_getElem_cons hlt]
      rw [List.getElem?_eq_getElem hlt] at hd
      cases hd
      rfl
    rw [edrop] at ego
    obtain ⟨ρ1, eg, ego⟩ := obind ego
    obtain ⟨f1, ef, ego⟩ := obind ego
    refine .inr ⟨go, fun σn Hn => ∃ ρn, Aft T K W (is ++ as) (clr mk ρ) σ H1 ρn σn Hn ∧ forGo gf mk F (src.drop (i + 1)) ρn = some fl', fun σn Hn hN => ⟨src.length - (i + 1), by omega, rfl, hlt, hN⟩, fun x H' y => ?_⟩
    obtain ⟨e2, g2, rx⟩ := yl x H' y
    have rx' : Rep K H' (Wd W ρc σc) x d := rx.sub fun a xs h z => by
      rcases z with z | z
      · exact .inl (.inl z)
      · rcases xc.ow a z with z | z
        · exact .inl (.inr z.clr)
        · exact .inr z
    have x2 : Aft T K W (is ++ as) (clr mk ρ) σ H1 ρc σc H' := (xc.trans (Aft.ext e2 g2 xc.rp)).sub fun j h => by simpa using h
    refine hg.sd W ρc σc H' x d ρ1 _ g2 (xc.rp.ext e2) rx' eg fun σ1 rp1 k1 l1 o1 u1 => ?_
    have x3 : Aft T K W (is ++ as) (clr mk ρ) σ H1 ρ1 σ1 H' := (x2.trans (bs := is) ⟨rp1, g2, Kp.refl _ _, fun a z => .inl (o1 a z), k1⟩).sub fun j h => by
      rcases List.mem_append.mp h with h | h
      · exact h
      · exact List.mem_append_left _ h
    have fin : ∀ {ρ2 : Rho} {σ2 : L2.St} {H2 : Hp}, Aft T K W as ρ1 σ1 H' ρ2 σ2 H2 → Aft T K W (is ++ as) (clr mk ρ) σ H1 ρ2 σ2 H2 := fun y => (x3.trans y).sub fun j h => by
      rcases List.mem_append.mp h with h | h
      · exact h
      · exact List.mem_append_right _ h
    have whole : ∀ {ρ2 : Rho} {σ2 : L2.St} {H2 : Hp}, Aft T K W (is ++ as) (clr mk ρ) σ H1 ρ2 σ2 H2 → Aft T K W (is ++ as) ρ σ H ρ2 σ2 H2 := fun y => x1.trans y
    refine hb.sd W ρ1 σ1 H' f1 _ g2 rp1 ef ?_
    cases f1 with
    | nx ρ2 => exact fun σ2 H2 y => ⟨clr mk ρ2, (fin y).clr mk, ego⟩
    | ct ρ2 => exact fun σ2 H2 y => ⟨clr mk ρ2, (fin y).clr mk, ego⟩
    | bk ρ2 => cases ego; exact fun σ2 H2 y => q σ2 H2 (whole ((fin y).clr mk))
    | rt d' => cases ego; exact fun v H2 kp2 g3 r3 => q v H2 ((x1.trans x3).kp.trans kp2 (x1.trans x3).ow) g3 r3
  · have hi' : i = src.length := by omega
    subst hi'
    rw [List.drop_length] at ego
    cases ego
    exact .inl ⟨jstop _ (Nat.le_refl _), q σc Hc (x1.trans xc)⟩⟩

/-! ### while -/
/-- turns until an end -/
def itN (step : Nat → Rho → Option (Sum Rho Fl)) : Nat → Nat → Rho → Option Fl
  | 0, _, _ => none
  | n + 1, i, ρ => (step i ρ).bind fun r => match r with
    | .inl ρ' => itN step n (i + 1) ρ'
    | .inr fl => some fl
theorem itN_mono {step : Nat → Rho → Option (Sum Rho Fl)} {fl : Fl} : ∀ (n m i : Nat) (ρ : Rho), itN step n i ρ = some fl → n ≤ m → itN step m i ρ = some fl
  | 0, _, _, _, h, _ => by cases h
  | n + 1, 0, _, _, _, hm => by omega
  | n + 1, m + 1, i, ρ, h, hm => by
    obtain ⟨r, h1, h2⟩ := obind h
    show (step i ρ).bind _ = _
    rw [h1]
    cases r with
    | inl ρ' => exact itN_mono n m (i + 1) ρ' h2 (by omega)
    | inr f => exact h2
open Classical in
noncomputable def itO (step : Nat → Rho → Option (Sum Rho Fl)) (ρ : Rho) : Option Fl := if h : ∃ fl n, itN step n 0 ρ = some fl then some h.choose else none
theorem itO_of {step : Nat → Rho → Option (Sum Rho Fl)} {ρ : Rho} {fl : Fl} {n : Nat} (h : itN step n 0 ρ = some fl) : itO step ρ = some fl := by
  have ex : ∃ fl n, itN step n 0 ρ = some fl := ⟨fl, n, h⟩
  unfold itO
  rw [dif_pos ex]
  obtain ⟨n', h'⟩ := ex.choose_spec
  have h1 := itN_mono n' (n' + n) 0 ρ h' (by omega)
  have h2 := itN_mono n (n' + n) 0 ρ h (by omega)
  rw [h1] at h2
  exact h2
theorem itO_to {step : Nat → Rho → Option (Sum Rho Fl)} {ρ : Rho} {fl : Fl} (h : itO step ρ = some fl) : ∃ n, itN step n 0 ρ = some fl := by
  unfold itO at h
  by_cases ex : ∃ fl n, itN step n 0 ρ = some fl
  · rw [dif_pos ex] at h
    have := ex.choose_spec
    cases h
    exact this
  · rw [dif_neg ex] at h; cases h
def whStep (c : FnB) (mk : List Bool) (F : FnS) : Nat → Rho → Option (Sum Rho Fl) := fun _ ρ => (c ρ).bind fun k => if k = true then (F ρ).bind fun fl => match fl with
    | .nx ρ2 => some (.inl (clr mk ρ2))
    | .ct ρ2 => some (.inl (clr mk ρ2))
    | .bk ρ2 => some (.inr (.nx (clr mk ρ2)))
    | .rt d => some (.inr (.rt d))
  else some (.inr (.nx ρ))
noncomputable def sWhile (c : FnB) (mk : List Bool) (F : FnS) : FnS := fun ρ => itO (whStep c mk F) (clr mk ρ)
theorem ds_while {tk : TT} {gc : FnB} (mk : List Bool) (hp : PassesOwn (model X.prog X.w) X.A X.env X.xe) (hc : DT T K X c tk gc) (hb : DSs T K X body u F as) : DS T K X (.While c body [] pos) (tWhile tk u) (sWhile gc mk F) as := ⟨ps_while hp hc.pt hb.ps, fun W ρ σ H fl' D gd r e' q => by
  obtain ⟨n0, e'⟩ := itO_to e'
  have x0 : Aft T K W as ρ σ H (clr mk ρ) σ H := ((Aft.refl gd r).clr mk).sub fun _ h => by cases h
  refine ⟨fun m σc Hc => ∃ i ρc, Aft T K W as ρ σ H ρc σc Hc ∧ itN (whStep gc mk F) m i ρc = some fl', ⟨n0, 0, clr mk ρ, x0, e'⟩, fun m σc Hc hW => ?_⟩
  obtain ⟨i, ρc, xc, eit⟩ := hW
  cases m with
  | zero => cases eit
  | succ m =>
    obtain ⟨r1, e1, e2⟩ := obind eit
    obtain ⟨k, ek, e1⟩ := obind e1
    refine hc.sd W ρc σc Hc k _ xc.gd xc.rp ek fun H1 x1 g1 => ?_
    have xc1 : Aft T K W as ρ σ H ρc σc H1 := (xc.trans (Aft.ext x1 g1 xc.rp)).sub fun j h => by simpa using h
    cases k with
    | true =>
      rw [if_pos rfl] at e1 ⊢
      obtain ⟨f1, ef, e1⟩ := obind e1
      refine ⟨fun σn Hn => ∃ i ρn, Aft T K W as ρ σ H ρn σn Hn ∧ itN (whStep gc mk F) m i ρn = some fl', fun σn Hn hN => ⟨m, Nat.lt_succ_self m, hN⟩, ?_⟩
      have fin : ∀ {ρ2 : Rho} {σ2 : L2.St} {H2 : Hp}, Aft T K W as ρc σc H1 ρ2 σ2 H2 → Aft T K W as ρ σ H ρ2 σ2 H2 := fun y => (xc1.trans y).sub fun j h => by
        rcases List.mem_append.mp h with h | h <;> exact h
      refine hb.sd W ρc σc H1 f1 _ g1 xc1.rp ef ?_
      cases f1 with
      | nx ρ2 => cases e1; exact fun σ2 H2 y => ⟨i + 1, _, (fin y).clr mk, e2⟩
      | ct ρ2 => cases e1; exact fun σ2 H2 y => ⟨i + 1, _, (fin y).clr mk, e2⟩
      | bk ρ2 => cases e1; cases e2; exact fun σ2 H2 y => q σ2 H2 ((fin y).clr mk)
      | rt d' => cases e1; cases e2; exact fun v H2 kp2 g3 r3 => q v H2 (xc1.kp.trans kp2 xc1.ow) g3 r3
    | false =>
      rw [if_neg Bool.false_ne_true] at e1 ⊢
      cases e1
      cases e2
      exact q σc H1 xc1⟩
end
end EL
end

section
set_option Elab.async false
set_option maxRecDepth 100000
/-! EL owned lists changed; defs and their calls. -/
namespace EL
open PySem PySem.Spec PyProof.Rows L2

section
variable {K : PySem.W.Frag} {T : List Addr} {H : Hp} {W : Addr → Prop} {ρ : Rho} {σ : L2.St}
theorem Own.mutG {i : Nat} {s : Sl} {d d' : Dt} (h : ownd (getS ρ i) = some d) (hs : ownd s = some d') {a : Addr} : Own (setS ρ i s) σ a ↔ Own ρ σ a := by
  have hl : i < ρ.length := ownd_lt h
  constructor
  · rintro ⟨j, fs, h1, h2⟩
    by_cases hj : j = i
    · subst hj; exact ⟨j, d, h, h2⟩
    · rw [getS_set_ne hj] at h1; exact ⟨j, fs, h1, h2⟩
  · rintro ⟨j, fs, h1, h2⟩
    by_cases hj : j = i
    · subst hj; exact ⟨j, d', by rw [getS_set_same hl]; exact hs, h2⟩
    · exact ⟨j, fs, by rw [getS_set_ne hj]; exact h1, h2⟩
theorem Own.mut {i : Nat} {ds es : List Dt} (h : getS ρ i = .ow ds) {a : Addr} : Own (setS ρ i (.ow es)) σ a ↔ Own ρ σ a := Own.mutG (ownd_ow h) rfl
/-- an owned thing is changed -/
theorem Rp.mutG {i : Nat} {p : Addr} {s : Sl} {d d' : Dt} {o : HO} (r : Rp K H W ρ σ) (h : ownd (getS ρ i) = some d) (hs : ownd s = some d') (hp : σ[i]? = some (some (.ref p))) (ra : ORep K (upd H p o) (Wd W ρ σ) p d') :
    Rp K (upd H p o) W (setS ρ i s) σ := by
  obtain ⟨p', h1, h3, h4⟩ := r.own i d h
  rw [hp] at h1
  cases h1
  obtain ⟨x0, h2⟩ := h4.mu
  have hl : i < ρ.length := ownd_lt h
  have wp : Wd W ρ σ p := .inr ⟨i, d, h, hp⟩
  have kw : KeepW (Wd W ρ σ) H (upd H p o) := KeepW.set h2 wp
  have sub : ∀ {H : Hp}, ∀ a (xs : MuH), H a = some xs.1 → Wd W (setS ρ i s) σ a → Wd W ρ σ a := fun a xs _ z => z.imp (fun z => z) (Own.mutG h hs).mp
  refine ⟨by rw [setS_length]; exact r.len, fun j d e => ?_, fun j fs e => ?_, fun j l dj dl a e1 e2 e3 e4 => ?_, fun a z => ?_⟩
  · by_cases hj : j = i
    · subst hj; rw [getS_set_same hl] at e; rw [e] at hs; cases hs
    · rw [getS_set_ne hj] at e
      obtain ⟨v, q1, q2⟩ := r.im j d e
      exact ⟨v, q1, q2.keep kw sub⟩
  · by_cases hj : j = i
    · subst hj
      rw [getS_set_same hl, hs] at e
      cases e
      exact ⟨p, hp, h3, ra.sub sub⟩
    · rw [getS_set_ne hj] at e
      obtain ⟨a, q1, q3, q4⟩ := r.own j fs e
      have ha : a ≠ p := fun z => by
        subst z
        exact hj (r.inj j i fs d a e h q1 hp)
      exact ⟨a, q1, q3, q4.keep (upd_ne ha) kw sub⟩
  · have old : ∀ l dl, ownd (getS (setS ρ i s) l) = some dl → ∃ dl', ownd (getS ρ l) = some dl' := fun l dl e => by
      by_cases hj : l = i
      · subst hj; exact ⟨d, h⟩
      · rw [getS_set_ne hj] at e; exact ⟨dl, e⟩
    obtain ⟨dj', f1⟩ := old j dj e1
    obtain ⟨dl', f2⟩ := old l dl e2
    exact r.inj j l dj' dl' a f1 f2 e3 e4
  · by_cases ha : a = p
    · subst ha; exact ra.mu
    · obtain ⟨xs, q⟩ := r.wl a z
      exact ⟨xs, by rw [upd_ne ha]; exact q⟩
theorem Aft.mutG {i : Nat} {p : Addr} {s : Sl} {d d' : Dt} {o : HO} (r : Rp K H W ρ σ) (h : ownd (getS ρ i) = some d) (hs : ownd s = some d') (hp : σ[i]? = some (some (.ref p))) (ra : ORep K (upd H p o) (Wd W ρ σ) p d') (g : Gd T (upd H p o)) :
    Aft T K W [] ρ σ H (setS ρ i s) σ (upd H p o) where
  rp := r.mutG h hs hp ra
  gd := g
  kp := ⟨fun b o e n no => by
    have hb : b ≠ p := fun z => no (by rw [z]; exact ⟨i, d, h, hp⟩)
    rw [upd_ne hb]; exact e, fun b e => by
    by_cases hb : b = p
    · rw [hb, upd_same] at e; cases e
    · rw [upd_ne hb] at e; exact e⟩
  ow := fun a z => .inl ((Own.mutG h hs).mp z)
  st := fun _ _ => rfl
theorem Aft.mut {i : Nat} {p : Addr} {ds es : List Dt} {vs us : List V} (g : Gd T H) (r : Rp K H W ρ σ) (h : getS ρ i = .ow ds) (hp : σ[i]? = some (some (.ref p))) (h2 : H p = some (.lst vs)) (ra : RepA K H (Wd W ρ σ) us es) (hl : us.length ≤ sizeLine) :
    Aft T K W [] ρ σ H (setS ρ i (.ow es)) σ (upd H p (.lst us)) :=
  Aft.mutG r (ownd_ow h) rfl hp ⟨us, upd_same, ra.keep (KeepW.set (vs := muL vs) h2 (.inr ⟨i, _, ownd_ow h, hp⟩)) fun _ _ _ z => z⟩ (g.setL h2 hl)
end

/-- a slot's own list -/
def owned (ρ : Rho) (i : Nat) : Option (List Dt) := match getS ρ i with | .ow ds => some ds | _ => none
theorem owned_some {ρ : Rho} {i : Nat} {ds : List Dt} (h : owned ρ i = some ds) : getS ρ i = .ow ds := by
  unfold owned at h
  split at h
  · rename_i es e; cases h; exact e
  · cases h
section
variable {m : Bool} {T : List Addr} {X : Cx} {K : PySem.W.Frag} {a b c e : Expr} {es : List Expr} {ta tb t : TE} {tr : TA} {f fa fb : Fn} {fr : FnL} {pos p apos : Pos} {i : Nat} {x : Str}
/-- xs.m(..): a method that changes the list; by what it does to the items -/
def MutD (T : List Addr) (K : PySem.W.Frag) (r : V → List V → Hp → VK → Prop) (g : List Dt → List Dt → Option (List Dt)) : Prop :=
  ∀ (H : Hp) (W : Addr → Prop) (l : Addr) (xs : List V) (xd : List Dt) (vs : List V) (vd : List Dt) (yd : List Dt) (Q : VK), Gd T H → H l = some (.lst xs) → RepA K H W xs xd → RepA K H W vs vd → g xd vd = some yd →
    (∀ z ys, RepA K H W ys yd → ys.length ≤ sizeLine → Q z (upd H l (.lst ys))) → r (.ref l) vs H Q
def sMut (i : Nat) (g : List Dt → List Dt → Option (List Dt)) (fr : FnL) : FnS := fun ρ => (owned ρ i).bind fun xd => (fr ρ).bind fun vd => (g xd vd).bind fun yd => some (.nx (setS ρ i (.ow yd)))
theorem sd_mut {r : V → List V → Hp → VK → Prop} {g : List Dt → List Dt → Option (List Dt)} (h : MutD T K r g) (ha : SdA true T K tr fr) : SdS T K (tDrop (tBM K "list" r (tVar i) tr)) (sMut i g fr) [] := fun W ρ σ H fl D gd rp e' q => by
  obtain ⟨xd, e1, e'⟩ := obind e'
  obtain ⟨vd, e2, e'⟩ := obind e'
  obtain ⟨yd, e3, e'⟩ := obind e'
  cases e'
  have hs := owned_some e1
  obtain ⟨l, xs, h1, h2, h3, h4⟩ := rp.ow i xd hs
  refine ⟨_, h1, .inl ⟨rfl, xs, .of h2⟩, ?_⟩
  refine ha W ρ σ H vd _ gd rp e2 fun vs H1 x1 g1 r1 => ?_
  have h21 := x1.keep _ _ h2 rfl
  refine h H1 (Wd W ρ σ) l xs xd vs vd yd _ g1 h21 (h4.ext x1) r1.wt e3 fun z ys ry hl => ?_
  have x2 := (Aft.ext (W := W) (K := K) x1 g1 rp).trans (Aft.mut g1 (rp.ext x1) hs h1 h21 ry hl)
  exact q σ _ x2
theorem sd_mut0 {r : V → List V → Hp → VK → Prop} {g : List Dt → List Dt → Option (List Dt)} (h : MutD T K r g) : SdS T K (tDrop (tBM0 K "list" r (tVar i))) (sMut i g fA0) [] := fun W ρ σ H fl D gd rp e' q => by
  obtain ⟨xd, e1, e'⟩ := obind e'
  obtain ⟨vd, e2, e'⟩ := obind e'
  obtain ⟨yd, e3, e'⟩ := obind e'
  cases e'
  cases e2
  have hs := owned_some e1
  obtain ⟨l, xs, h1, h2, h3, h4⟩ := rp.ow i xd hs
  refine ⟨_, h1, .inl ⟨rfl, xs, .of h2⟩, ?_⟩
  refine h H (Wd W ρ σ) l xs xd [] [] yd _ gd h2 h4 .nil e3 fun z ys ry hl => ?_
  exact q σ _ (Aft.mut gd rp hs h1 h2 ry hl)
def gAppend : List Dt → List Dt → Option (List Dt)
  | xs, [y] => if xs.length < sizeLine then some (xs ++ [y]) else none
  | _, _ => none
theorem uAppend : MutD T K rAppend gAppend := fun H W l xs xd vs vd yd Q g hl rx rv e q => by
  match vd, e, rv with
  | [y], e, rv =>
    obtain ⟨v, rfl, r1⟩ := repA1 rv
    dsimp only [gAppend] at e
    by_cases hz : xd.length < sizeLine
    · rw [if_pos hz] at e
      cases e
      have hx : xs.length < sizeLine := by rw [rx.length]; exact hz
      exact ⟨l, xs, v, rfl, rfl, hl, hx, q _ _ (rx.append (.one r1)) (by rw [List.length_append, List.length_singleton]; omega)⟩
    · rw [if_neg hz] at e; cases e
def gExtend : List Dt → List Dt → Option (List Dt)
  | xs, [.lst ys] => if xs.length + ys.length ≤ sizeLine then some (xs ++ ys) else none
  | _, _ => none
theorem uExtend : MutD T K rExtend gExtend := fun H W l xs xd vs vd yd Q g hl rx rv e q => by
  match vd, e, rv with
  | x0 :: _ :: _, e, _ => cases x0 <;> cases e
  | [y], e, rv =>
    obtain ⟨v, rfl, r1⟩ := repA1 rv
    cases r1 with
    | @lst b zs es h1 n1 ra =>
      dsimp only [gExtend] at e
      by_cases hz : xd.length + es.length ≤ sizeLine
      · rw [if_pos hz] at e
        cases e
        have hx : xs.length + zs.length ≤ sizeLine := by rw [rx.length, ra.length]; exact hz
        exact ⟨l, b, xs, zs, rfl, rfl, hl, h1, hx, q _ _ (rx.append ra) (by rw [List.length_append]; exact hx)⟩
      · rw [if_neg hz] at e; cases e
    | _ => cases e
def gInsert : List Dt → List Dt → Option (List Dt)
  | xs, [.int i, y] => if xs.length < sizeLine ∧ 0 ≤ i ∧ i < 2 ^ 63 then some (xs.take i.toNat ++ [y] ++ xs.drop i.toNat) else none
  | _, _ => none
def rInsert : V → List V → Hp → VK → Prop := fun x vs H Q => ∃ (l : Addr) (xs : List V) (i : Int) (y : V), x = .ref l ∧ vs = [.int i, y] ∧ H l = some (.lst xs) ∧ xs.length < sizeLine ∧ 0 ≤ i ∧ i < 2 ^ 63 ∧ Q .non (upd H l (.lst (xs.take i.toNat ++ [y] ++ xs.drop i.toNat)))
theorem uInsert : MutD T K rInsert gInsert := fun H W l xs xd vs vd yd Q g hl rx rv e q => by
  match vd, e, rv with
  | [x0], e, _ => cases x0 <;> cases e
  | x0 :: _ :: _ :: _, e, _ => cases x0 <;> cases e
  | [n, y], e, rv =>
    obtain ⟨v, v', rfl, r1, r2⟩ := repA2 rv
    cases r1 with
    | int k =>
      dsimp only [gInsert] at e
      by_cases hz : xd.length < sizeLine ∧ 0 ≤ k ∧ k < 2 ^ 63
      · rw [if_pos hz] at e
        cases e
        have hx : xs.length < sizeLine := by rw [rx.length]; exact hz.1
        refine ⟨l, xs, k, v', rfl, rfl, hl, hx, hz.2.1, hz.2.2, q _ _ (((rx.take _).append (.one r2)).append (rx.drop _)) ?_⟩
        rw [List.length_append, List.length_append, List.length_take, List.length_drop, List.length_singleton]
        omega
      · rw [if_neg hz] at e; cases e
    | _ => cases e
def gPop : List Dt → List Dt → Option (List Dt)
  | xs, [] => if xs = [] then none else some xs.dropLast
  | _, _ => none
section
variable (hN : X.N[i]? = some x) (hv : Vis X.env.scope x)
theorem ds_meth {name : Str} {id : String} {r : V → List V → Hp → VK → Prop} {g : List Dt → List Dt → Option (List Dt)} (pa : PlainAttrs "list") (slot : Slot "list" name id) (hty : typeOf (.builtin id) = pure (.type "method_descriptor")) (hm : MtR X id r) (hg : MutD T K r g) (ha : DA true T K X (e :: es) tr fr)
    (hN : X.N[i]? = some x := by rfl) (hv : Vis X.env.scope x := by first | exact Or.inl rfl | exact Or.inr (Or.inl rfl) | exact Or.inr (Or.inr rfl)) (hd : (x == ("__debug__" : Str)) = false := by decide) (hcd : (x == ("__classdict__" : Str)) = false := by decide)
    (hbase : attributeBase (.Name x p) name X.env (eval (.Name x p) X.env) = eval (.Name x p) X.env := by rfl)
    (hfew : ((backTo pos (starEach (e :: es) X.env)).all (fun x => !x.1) && (backToKw pos (keywordEach [] X.env)).all (fun x => x.1.isSome) && decide ((e :: es).length + ([] : List Keyword).length + (if ([] : List Keyword).isEmpty then 0 else 1) < 30)) = true := by rfl)
    (hline : (apos.endLine == pos.line) = true := by rfl) (hs : starEach (e :: es) X.env = (false, eval e X.env) :: starEach es X.env := by rfl) (hplain : (backTo pos (starEach es X.env)).any (·.1) = false := by rfl) {pos2 : Pos}
    (hsw : swapsWith (.Call (.Attribute (.Name x p) name apos) (e :: es) [] pos) none pos2.line X.env = pure false := by rfl) (hk : X.K = K := by rfl) :
    DS T K X (.Expr (.Call (.Attribute (.Name x p) name apos) (e :: es) [] pos) pos2) (tDrop (tBM K "list" r (tVar i) tr)) (sMut i g fr) [] := by
  subst hk
  exact ⟨ps_expr (pe_bm pa slot hty hm (pe_var hN hv hd hcd) ha.pa hbase hfew hline hs hplain) hsw, sd_mut hg ha.sd⟩
end
/-! ### xs[i] = e -/
def sPut (i : Nat) (fk fe : Fn) : FnS := fun ρ => (fe ρ).bind fun d => (owned ρ i).bind fun xd => (fk ρ).bind fun k => match k with
  | .int n => (ixN xd.length n).bind fun j => some (.nx (setS ρ i (.ow (xd.set j d))))
  | _ => none
theorem ds_put {pos2 : Pos} (hk : DE false T K X b tb fb) (he : DE true T K X e t f) (hN : X.N[i]? = some x := by rfl) (hv : Vis X.env.scope x := by first | exact Or.inl rfl | exact Or.inr (Or.inl rfl) | exact Or.inr (Or.inr rfl)) (hd : (x == ("__debug__" : Str)) = false := by decide) (hcd : (x == ("__classdict__" : Str)) = false := by decide)
    (hz : ∀ u, assign (.Subscript (.Name x p) b pos) X.env u = (do
      let o1 ← holding [u] (eval (.Name x p) X.env)
      let o2 ← holding [u, o1] (eval b X.env)
      standAt pos
      holding [u, o1, o2] (setItem o1 o2 u)
      release [u, o1, o2] []) := by intro _; rfl)
    (hs : swapsWithSole [.Subscript (.Name x p) b pos] e pos2.line X.env = pure false := by rfl) (hw : swappedStores [.Subscript (.Name x p) b pos] e X.env = pure none := by rfl) (h1 : (assignEach [.Subscript (.Name x p) b pos] X.env).map (·.2) = [assign (.Subscript (.Name x p) b pos) X.env] := by rfl) :
    DS T K X (.Assign [.Subscript (.Name x p) b pos] e pos2) (tAsg t (gSub (tVar i) tb rSetL)) (sPut i fb f) [] := ⟨ps_asg he.pe (pg_sub (pe_var hN hv hd hcd) hk.pe set_list hz) hs hw h1, fun W ρ σ H fl D gd rp e' q => by
  obtain ⟨d, e1, e'⟩ := obind e'
  obtain ⟨xd, e2, e'⟩ := obind e'
  obtain ⟨k, e3, e'⟩ := obind e'
  refine he.sd W ρ σ H d _ gd rp e1 fun v H1 x1 g1 r1 => ?_
  have hs := owned_some e2
  obtain ⟨l, xs, h1, h2, h3, h4⟩ := (rp.ext x1).ow i xd hs
  refine ⟨_, h1, ?_⟩
  refine hk.sd W ρ σ H1 k _ g1 (rp.ext x1) e3 fun u H2 x2 g2 r2 => ?_
  cases r2 with
  | int n =>
    obtain ⟨j, e4, e'⟩ := obind e'
    cases e'
    have h22 := x2.keep _ _ h2 rfl
    refine ⟨l, xs, n, j, rfl, rfl, h22, by rw [h4.length]; exact e4, ?_⟩
    have x12 := x1.trans x2
    have y := (Aft.ext (W := W) (K := K) x12 g2 rp).trans (Aft.mut (es := xd.set j d) (us := xs.set j v) g2 (rp.ext x12) hs h1 h22 ((h4.ext x2).set (r1.wt.ext x2) j) (by rw [List.length_set]; exact g2.1 l xs (.inl h22)))
    exact q σ _ y
  | _ => cases e'⟩
/-! ### x op= e -/
def sAug (i : Nat) (g : Dt → Dt → Option Dt) (f : Fn) : FnS := fun ρ => (fV i ρ).bind fun x => (f ρ).bind fun y => (g x y).bind fun z => some (.nx (setS ρ i (.im z)))
theorem ds_aug {op : Operator} {r : R2} {g : Dt → Dt → Option Dt} {p' : Pos} (hN : X.N.Nodup) (ho : PIp X op r ∧ OpD T K r g) (h : DE true T K X e t f) (hi : X.N[i]? = some x := by rfl) (hx : Loc X.env.scope x := by first | exact Or.inl rfl | exact Or.inr rfl) (hf : X.fn x = true ∨ X.env.scope.names.lookup x = some .local := by first | exact .inl rfl | exact .inr rfl) :
    DS T K X (.AugAssign (.Name x p') op e pos) (tAug i t r) (sAug i g f) [i] := ⟨ps_aug hN hi hx h.pe ho.1 hf, fun W ρ σ H fl D gd rp e' q => by
  obtain ⟨d, e1, e'⟩ := obind e'
  obtain ⟨y, e2, e'⟩ := obind e'
  obtain ⟨z, e3, e'⟩ := obind e'
  cases e'
  have hs : getS ρ i = .im d := by
    unfold fV at e1
    split at e1
    · rename_i d' hd'; cases e1; exact hd'
    · cases e1
  obtain ⟨v, h1, h2⟩ := rp.im i d hs
  refine ⟨v, h1, h.sd W ρ σ H y _ gd rp e2 fun u H1 x1 g1 r1 => ?_⟩
  refine ho.2 (wOf true W ρ σ) H1 v u d y z _ g1 (fun a w => (rp.ext x1).wo w) (h2.wo.ext x1) r1 e3 fun w' H2 x2 g2 r2 => ?_
  have x12 := x1.trans x2
  exact q _ H2 ⟨(rp.ext x12).setIm r2.wt, g2, x12.kp, fun a z => .inl (Own.set rfl z), fun j hj => setσ_ne fun z => hj (by rw [z]; exact List.mem_singleton.mpr rfl)⟩⟩
theorem pipAdd : PIp X .Add (rI0 fun i j => .int (i + j)) ∧ OpD T K (rI0 fun i j => .int (i + j)) (gI (fun _ _ => true) fun i j => i + j) := ⟨iop_add, fun W H x y d e c Q g wl r1 r2 h q => by
  cases r1 with
  | int i =>
    cases r2 with
    | int j => cases h; exact ⟨i, j, rfl, rfl, q _ H (Ext.refl H) g (.int _)⟩
    | _ => cases h
  | _ => cases h⟩
theorem pipSub : PIp X .Sub (rI0 fun i j => .int (i - j)) ∧ OpD T K (rI0 fun i j => .int (i - j)) (gI (fun _ _ => true) fun i j => i - j) := ⟨iop_sub, fun W H x y d e c Q g wl r1 r2 h q => by
  cases r1 with
  | int i =>
    cases r2 with
    | int j => cases h; exact ⟨i, j, rfl, rfl, q _ H (Ext.refl H) g (.int _)⟩
    | _ => cases h
  | _ => cases h⟩

/-! ### a def, its call -/
def runF (n : Nat) (F : FnS) : List Dt → Option Dt := fun ds => (F (ds.map Sl.im ++ List.replicate (n - ds.length) .un)).bind fun fl => match fl with
  | .rt d => some d
  | .nx _ => some .non
  | _ => none
def spOf (T : List Addr) (K : PySem.W.Frag) (n : Nat) (run : List Dt → Option Dt) : Sp := fun vs H Q _ => ∃ (W : Addr → Prop) (ds : List Dt) (d : Dt), Gd T H ∧ (∀ a, W a → ∃ xs : MuH, H a = some xs.1) ∧ RepA K H W vs ds ∧ ds.length = n ∧ run ds = some d ∧
  ∀ v H', Ext H H' → Gd T H' → Rep K H' W v d → Q v H'
theorem getS_app : ∀ (ds : List Dt) (k i : Nat), getS (ds.map Sl.im ++ List.replicate k .un) i = (match ds[i]? with | some d => .im d | none => .un)
  | [], k, i => by
    rw [List.map_nil, List.nil_append]
    show _ = Sl.un
    induction k generalizing i with
    | zero => exact getS_out (Nat.zero_le _)
    | succ k ih =>
      rw [List.replicate_succ]
      cases i with
      | zero => rfl
      | succ i => exact ih i
  | d :: ds, k, 0 => rfl
  | d :: ds, k, i + 1 => by
    show getS (ds.map Sl.im ++ List.replicate k .un) i = _
    rw [getS_app ds k i]
    rfl
theorem ok_def {P : Program} {w : World} {mg : Str → Option Value} {base : Heap} {qual : Str} {st : Stmt} {fo : Addr} {fd : FuncData} {N ps : List Str} {k : Nat} {F : FnS} (Fn : Fun K x qual st fo fd) (S : FnScope N ps (defScope st))
    (hbody : ∀ (cdv : Value) (A : Around) (outer : List Env) (s : Shared) (H : Hp) (E : XK), Room k (A.deeper (envOfC qual (defScope st) s.heap.objs.size fo cdv)) →
      ∃ t as, DSs T K (cxOf CX0 P w K mg base N qual (defScope st) fo cdv A outer s H E).nox (defBody st) t F as) (hn : ps.length ≤ N.length := by decide) : FnOk P w K mg base CX0 (k + 1) fo fd ps (spOf T K ps.length (runF N.length F)) := by
  refine Fn.ok S (fun vs H Q E h => ?_) (fun cdv A outer s H vs Q E hr h => ?_)
  · obtain ⟨W, ds, d, _, _, r, hl, _⟩ := h
    rw [r.length, hl]
  · obtain ⟨W, ds, d, g, wl, r, hl, e, q⟩ := h
    obtain ⟨t, as, hb⟩ := hbody cdv A outer s H E hr
    refine ⟨t, hb.ps, ?_⟩
    obtain ⟨fl, e1, e2⟩ := obind e
    have hvl := r.length
    have nown : ∀ a, ¬ Own (ds.map Sl.im ++ List.replicate (N.length - ds.length) .un) (L2.start N vs) a := fun a z => by
      obtain ⟨i, es, h1, _⟩ := z
      rw [getS_app] at h1
      cases hd : ds[i]? with
      | none => rw [hd] at h1; cases h1
      | some d' => rw [hd] at h1; cases h1
    have rp : Rp K H W (ds.map Sl.im ++ List.replicate (N.length - ds.length) .un) (L2.start N vs) := by
      refine ⟨?_, fun i d' h1 => ?_, fun i es h1 => ?_, fun i j di dj a h1 => ?_, wl⟩
      · unfold L2.start
        simp only [List.length_append, List.length_map, List.length_replicate, hvl]
      · rw [getS_app] at h1
        cases hd : ds[i]? with
        | none => rw [hd] at h1; cases h1
        | some d2 =>
          rw [hd] at h1
          cases h1
          obtain ⟨v, hv, rv⟩ := r.get hd
          refine ⟨v, ?_, rv.sub fun a _ _ z => z.elim (fun z => z) fun z => (nown a z).elim⟩
          unfold L2.start
          have hi : i < vs.length := (List.getElem?_eq_some_iff.mp hv).1
          rw [List.getElem?_append_left (by rw [List.length_map]; exact hi), List.getElem?_map, hv]
          rfl
      · rw [getS_app] at h1
        cases hd : ds[i]? with
        | none => rw [hd] at h1; cases h1
        | some d' => rw [hd] at h1; cases h1
      · rw [getS_app] at h1
        cases hd : ds[i]? with
        | none => rw [hd] at h1; cases h1
        | some d' => rw [hd] at h1; cases h1
    refine hb.sd W _ _ H fl _ g rp e1 ?_
    cases fl with
    | rt d' =>
      cases e2
      exact fun v H' kp g1 r1 => q v H' (kp.ext nown) g1 r1
    | nx ρ' =>
      cases e2
      exact fun σ' H' y => q .non H' (y.kp.ext nown) y.gd .non
    | bk ρ' => cases e2
    | ct ρ' => cases e2
theorem sd_fn {n : Nat} {run : List Dt → Option Dt} (ha : SdA m T K tr fr) : Sd m T K (tCall (spOf T K n run) [] E0 tr) (fun ρ => (fr ρ).bind fun ds => if ds.length = n then run ds else none) := fun W ρ σ H d Q g rp e' q => by
  obtain ⟨ds, e1, e'⟩ := obind e'
  by_cases hl : ds.length = n
  · rw [if_pos hl] at e'
    refine ha W ρ σ H ds _ g rp e1 fun vs H1 x1 g1 r1 => ?_
    refine ⟨wOf m W ρ σ, ds, d, g1, fun a z => (rp.ext x1).wo z, by rw [List.append_nil]; exact r1, hl, e', fun v H2 x2 g2 r2 => q v H2 (x1.trans x2) g2 r2⟩
  · rw [if_neg hl] at e'; cases e'
def fFn (n : Nat) (run : List Dt → Option Dt) (fr : FnL) : Fn := fun ρ => (fr ρ).bind fun ds => if ds.length = n then run ds else none
theorem de_call {kk : Nat} {fo : Addr} {fd : FuncData} {ps : List Str} {n : Nat} {run : List Dt → Option Dt} (F : FnOk X.prog X.w X.K X.mg X.base CX0 kk fo fd ps (spOf T K n run)) (hr : Room kk X.A) (hm : X.mg x = some (.ref fo)) (hk : PySem.W.keepIn X.K (.ref fo) = true) (hb : Binds X.K fd ps []) (ha : DA m T K X (e :: es) tr fr)
    (hg : Gl X x := by rfl) (hdb : (x == ("__debug__" : Str)) = false := by decide) (he : starEach (e :: es) X.env = (false, eval e X.env) :: starEach es X.env := by rfl) (hpl : (backTo pos (starEach es X.env)).any (·.1) = false := by rfl) :
    DE m T K X (.Call (.Name x p) (e :: es) [] pos) (tCall (spOf T K n run) [] E0 tr) (fFn n run fr) := ⟨pe_call F hr hg hm hk hb .nil pass0 ha.pa hdb he hpl, sd_fn ha.sd⟩
end
end EL
end

section
set_option Elab.async false
set_option maxRecDepth 100000
/-! EL isinstance, flat answers, the end of a law. -/
namespace EL
open PySem PySem.Spec PyProof.Rows L2

section
variable {m : Bool} {T : List Addr} {X : Cx} {K : PySem.W.Frag} {a b c e : Expr} {es : List Expr} {ta tb t : TE} {tr : TA} {f fa fb : Fn} {fr : FnL} {pos p p2 : Pos} {x : Str}
/-- an answer that is never a list is frozen whatever its parts are -/
theorem DE.flat (h : DE false T K X e t f) (hf : ∀ ρ d, f ρ = some d → d.free = true) : DE m T K X e t f := ⟨h.pe, fun W ρ σ H d Q g r e q => h.sd W ρ σ H d Q g r e fun v H' e1 g1 r1 => q v H' e1 g1 (r1.free (hf ρ d e))⟩
theorem fl_N {g : List Dt → Option Dt} (h : ∀ ds c, g ds = some c → c.free = true) : ∀ ρ d, fN g fr ρ = some d → d.free = true := fun ρ d e => by
  obtain ⟨ds, _, e2⟩ := obind e
  exact h ds d e2
theorem fl_len : ∀ ds c, gLen ds = some c → c.free = true := fun ds c h => by
  unfold gLen at h
  split at h
  · cases h; rfl
  · cases h; rfl
  · cases h; rfl
  · split at h <;> cases h
    rfl
  · cases h
theorem fl_abs : ∀ ds c, gAbs ds = some c → c.free = true := fun ds c h => by
  unfold gAbs at h
  split at h <;> cases h
  rfl
theorem fl_int : ∀ ds c, gInt ds = some c → c.free = true := fun ds c h => by
  unfold gInt at h
  split at h <;> cases h <;> rfl
theorem fl_max2 : ∀ ds c, gMax2 ds = some c → c.free = true := fun ds c h => by
  unfold gMax2 at h
  split at h <;> cases h
  rfl
theorem fl_min2 : ∀ ds c, gMin2 ds = some c → c.free = true := fun ds c h => by
  unfold gMin2 at h
  split at h <;> cases h
  rfl
theorem fl_sum : ∀ ds c, gSum ds = some c → c.free = true := fun ds c h => by
  unfold gSum at h
  split at h
  · obtain ⟨ns, _, h2⟩ := obind h
    cases h2
    rfl
  · cases h
theorem fl_all : ∀ ds c, gAll ds = some c → c.free = true := fun ds c h => by
  unfold gAll at h
  split at h
  · obtain ⟨ns, _, h2⟩ := obind h
    cases h2
    rfl
  · cases h
theorem fl_any : ∀ ds c, gAny ds = some c → c.free = true := fun ds c h => by
  unfold gAny at h
  split at h
  · obtain ⟨ns, _, h2⟩ := obind h
    cases h2
    rfl
  · cases h
theorem fl_maxL : ∀ ds c, gMaxL ds = some c → c.free = true := fun ds c h => by
  unfold gMaxL at h
  split at h
  · obtain ⟨ns, _, h2⟩ := obind h
    obtain ⟨k, _, h3⟩ := obind h2
    cases h3
    rfl
  · cases h
theorem fl_minL : ∀ ds c, gMinL ds = some c → c.free = true := fun ds c h => by
  unfold gMinL at h
  split at h
  · obtain ⟨ns, _, h2⟩ := obind h
    obtain ⟨k, _, h3⟩ := obind h2
    cases h3
    rfl
  · cases h
/-- sorted ints, whatever list they come from -/
theorem df_sortedI {q : Pos} (hm : X.mg "sorted" = none) (ha : DA false T K X [e] tr fr) (hg : Gl X "sorted" := by rfl) (hv : bootBuiltins "sorted" = some (.builtin "sorted") := by decide +kernel)
    (he : starEach [e] X.env = (false, eval e X.env) :: starEach [] X.env := by rfl) (hpl : (backTo pos (starEach [] X.env)).any (·.1) = false := by rfl) (hk : X.K = K := by rfl) :
    DF T K X (.Call (.Name "sorted" q) [e] [] pos) (tCB (rSortedI K) tr) (fNL gSorted fr) := by subst hk; exact ⟨pe_callB (kSortedL (T := T) rfl).1 hg hm hv ha.pa (by decide) (by decide) he hpl, fun W ρ σ H d Q gd rp e q => by
  obtain ⟨ds, ea, e⟩ := obind e
  refine ha.sd W ρ σ H ds _ gd rp ea fun vs H1 e1 g1 r1 => ?_
  refine (kSortedL (T := T) rfl).2 (wOf false W ρ σ) H1 vs ds d Q g1 (fun p z => (rp.ext e1).wo z) r1 e fun p us H2 e2 g2 hp hp2 r2 => ?_
  have hd : Dt.freeA d = true := by
    unfold gSorted at e
    split at e
    · obtain ⟨ns, _, h2⟩ := obind e
      cases h2
      generalize sortI ns = ms
      induction ms with
      | nil => rfl
      | cons m ms ih => show (true && Dt.freeA (ms.map Dt.int)) = true; rw [ih]; rfl
    · cases e
  exact q p us H2 (e1.trans e2) g2 (e1.there p hp) hp2 (r2.free hd)⟩
/-! ### list(range(..)), tuple(range(..)) -/
def SdR (T : List Addr) (K : PySem.W.Frag) (tr : L2.St → Hp → (Int → Int → Hp → Prop) → Prop) (f : Rho → Option (Int × Int)) : Prop :=
  ∀ (W : Addr → Prop) (ρ : Rho) (σ : L2.St) (H : Hp) (ij : Int × Int) (Q : Int → Int → Hp → Prop), Gd T H → Rp K H W ρ σ → f ρ = some ij → (∀ H', Ext H H' → Gd T H' → Q ij.1 ij.2 H') → tr σ H Q
structure DR (T : List Addr) (K : PySem.W.Frag) (X : Cx) (e : Expr) (tr : L2.St → Hp → (Int → Int → Hp → Prop) → Prop) (f : Rho → Option (Int × Int)) : Prop where
  pr : PRg X e tr
  sd : SdR T K tr f
def fR1 (a : Fn) : Rho → Option (Int × Int) := fun ρ => (a ρ).bind fun d => match d with | .int n => some (0, n) | _ => none
def fR2 (a b : Fn) : Rho → Option (Int × Int) := fun ρ => (a ρ).bind fun d => (b ρ).bind fun d' => match d, d' with | .int n, .int k => some (n, k) | _, _ => none
theorem dr_1 (h : DE false T K X a ta fa) (hm : X.mg "range" = none) (hg : Gl X "range" := by rfl) (na : starEach [a] X.env = (false, eval a X.env) :: starEach [] X.env := by rfl) : DR T K X (.Call (.Name "range" p) [a] [] pos) (tRg1 ta) (fR1 fa) := ⟨prg_1 hg hm h.pe na, fun W ρ σ H ij Q g r e q => by
  obtain ⟨d, ea, e⟩ := obind e
  refine h.sd W ρ σ H d _ g r ea fun v H1 e1 g1 r1 => ?_
  cases r1 with
  | int i => cases e; exact ⟨i, rfl, q H1 e1 g1⟩
  | _ => cases e⟩
theorem dr_2 (h : DE false T K X a ta fa) (h2 : DE false T K X b tb fb) (hm : X.mg "range" = none) (hg : Gl X "range" := by rfl) (na : starEach [a, b] X.env = (false, eval a X.env) :: starEach [b] X.env := by rfl) (nb : starEach [b] X.env = (false, eval b X.env) :: starEach [] X.env := by rfl) (np : (backTo pos (starEach [b] X.env)).any (·.1) = false := by rfl) :
    DR T K X (.Call (.Name "range" p) [a, b] [] pos) (tRg2 ta tb) (fR2 fa fb) := ⟨prg_2 hg hm h.pe h2.pe na nb np, fun W ρ σ H ij Q g r e q => by
  obtain ⟨d, ea, e⟩ := obind e
  obtain ⟨d', eb, e⟩ := obind e
  refine h.sd W ρ σ H d _ g r ea fun v H1 e1 g1 r1 => ?_
  refine h2.sd W ρ σ H1 d' _ g1 (r.ext e1) eb fun v' H2 e2 g2 r2 => ?_
  cases r1 with
  | int i =>
    cases r2 with
    | int j => cases e; exact ⟨i, j, rfl, rfl, q H2 (e1.trans e2) g2⟩
    | _ => cases e
  | _ => cases e⟩
noncomputable def okRg (ij : Int × Int) : Bool := cdc (-(2 ^ 62) ≤ ij.1 ∧ ij.1 < 2 ^ 62 ∧ -(2 ^ 62) ≤ ij.2 ∧ ij.2 < 2 ^ 62 ∧ (ij.2 - ij.1).toNat ≤ 2 ^ 24)
noncomputable def fLR (f : Rho → Option (Int × Int)) : FnL := fun ρ => (f ρ).bind fun ij => if okRg ij = true then some (rngD ij.1 ij.2) else none
noncomputable def fTR (f : Rho → Option (Int × Int)) : Fn := fun ρ => (f ρ).bind fun ij => if okRg ij = true then some (.tup (rngD ij.1 ij.2)) else none
theorem rep_rng {H : Hp} {W : Addr → Prop} (a b : Int) : RepA K H W (rgV a b) (rngD a b) := by
  unfold rgV rngD
  generalize List.range (b - a).toNat = l
  induction l with
  | nil => exact .nil
  | cons i l ih => exact .cons (.int _) ih
theorem rng_len (a b : Int) : (rngD a b).length = (b - a).toNat := by unfold rngD; rw [List.length_map, List.length_range]
theorem df_listR {tg : L2.St → Hp → (Int → Int → Hp → Prop) → Prop} {fr : Rho → Option (Int × Int)} (hc : X.calm = true) (h : DR T K X e tg fr) (hm : X.mg "list" = none) (hg : Gl X "list" := by rfl) (na : starEach [e] X.env = (false, eval e X.env) :: starEach [] X.env := by rfl) :
    DF T K X (.Call (.Name "list" p) [e] [] pos) (tLstRg tg) (fLR fr) := ⟨pe_listRg hc hg hm h.pr na, fun W ρ σ H d Q g r e q => by
  obtain ⟨ij, ea, e⟩ := obind e
  by_cases hz : okRg ij = true
  · rw [if_pos hz] at e
    cases e
    have hb := cdc_p hz
    refine h.sd W ρ σ H ij _ g r ea fun H1 e1 g1 => ⟨hb, fun l hl => ?_⟩
    refine q l _ _ (e1.trans (Ext.new hl)) (g1.newL hl ?_) (e1.there l hl) upd_same ((rep_rng ij.1 ij.2).newp hl)
    rw [rgV_length]
    exact hb.2.2.2.2
  · rw [if_neg hz] at e; cases e⟩
theorem de_tupR {tg : L2.St → Hp → (Int → Int → Hp → Prop) → Prop} {fr : Rho → Option (Int × Int)} (hc : X.calm = true) (h : DR T K X e tg fr) (hm : X.mg "tuple" = none) (hg : Gl X "tuple" := by rfl) (na : starEach [e] X.env = (false, eval e X.env) :: starEach [] X.env := by rfl) :
    DE m T K X (.Call (.Name "tuple" p) [e] [] pos) (tTupRg tg) (fTR fr) := ⟨pe_tupRg hc hg hm h.pr na, fun W ρ σ H d Q g r e q => by
  obtain ⟨ij, ea, e⟩ := obind e
  by_cases hz : okRg ij = true
  · rw [if_pos hz] at e
    cases e
    have hb := cdc_p hz
    refine h.sd W ρ σ H ij _ g r ea fun H1 e1 g1 => ⟨hb, fun l hl => ?_⟩
    refine q _ _ (e1.trans (Ext.new hl)) (g1.newT hl ?_) (.tup upd_same ((rep_rng ij.1 ij.2).ext (Ext.new hl)))
    rw [rgV_length]
    exact hb.2.2.2.2
  · rw [if_neg hz] at e; cases e⟩
/-! ### isinstance(e, T) -/
def Dt.ty : Dt → String
  | .non => "NoneType" | .bl _ => "bool" | .int _ => "int" | .str _ => "str" | .tup _ => "tuple" | .lst _ => "list" | .scr _ => "list" | .dcK _ _ => "dict" | .dcT _ _ => "dict"
def isiB (a b : String) : Bool := a == b || (a == "bool" && b == "int")
theorem isi_kit : ∀ a ∈ ["NoneType", "bool", "int", "str", "tuple", "list", "dict"], ∀ b ∈ ["bool", "int", "str", "tuple", "list"], kitB a b = some (isiB a b) := by decide +kernel
theorem Rep.ty {H : Hp} {W : Addr → Prop} {v : V} {d : Dt} (r : Rep K H W v d) : TyX K H v (.type d.ty) := by
  cases r with
  | non => exact .base .non
  | bl b => exact .base (.bl b)
  | int i => exact .base (.int i)
  | str z => exact .base (.str z)
  | tup h _ => exact .base (.tup h)
  | lst h _ _ => exact .base (.lst h)
  | dcK h _ _ _ => exact .base (.dK h)
  | dcT h _ _ _ => exact .base (.dT h)
  | scr h =>
    rcases h with ⟨o, h⟩ | ⟨o, its, n, h, c, _⟩
    · exact .base (.frz h)
    · exact .kList h c
theorem Dt.ty_mem (d : Dt) : d.ty ∈ ["NoneType", "bool", "int", "str", "tuple", "list", "dict"] := by cases d <;> simp [Dt.ty]
def fIsi (ty : String) (a : Fn) : Fn := fun ρ => (a ρ).bind fun d => some (.bl (isiB d.ty ty))
theorem de_isi {ty : Str} {tys : String} {q : Pos} (ha : DE false T K X a ta fa) (hm : X.mg "isinstance" = none) (hmt : X.mg ty = none) (hvt : bootBuiltins ty = some (.type tys) := by decide +kernel) (hmem : tys ∈ ["bool", "int", "str", "tuple", "list"] := by decide)
    (hg : Gl X "isinstance" := by rfl) (hgt : Gl X ty := by rfl) (hv : bootBuiltins "isinstance" = some (.builtin "isinstance") := by decide +kernel) (hn : ty ≠ "__name__" := by decide) (hdb : (ty == ("__debug__" : Str)) = false := by decide)
    (he : starEach [a, .Name ty p2] X.env = (false, eval a X.env) :: starEach [.Name ty p2] X.env := by rfl) (he2 : starEach [.Name ty p2] X.env = (false, eval (.Name ty p2) X.env) :: starEach [] X.env := by rfl) (hpl : (backTo pos (starEach [.Name ty p2] X.env)).any (·.1) = false := by rfl) (hk : X.K = K := by rfl) :
    DE m T K X (.Call (.Name "isinstance" q) [a, .Name ty p2] [] pos) (tCB (rIsi K) (tCons ta (tCons (tC (.ty tys)) tNil))) (fIsi tys fa) := by
  subst hk
  exact ⟨pe_callB call_isi hg hm hv (pa_cons ha.pe (pa_cons (pe_bltn (v := .ty tys) hgt hmt hvt rfl hn hdb) pa_nil he2) he) (by decide) (by decide) he hpl, fun W ρ σ H d Q g r e q => by
  obtain ⟨x, ea, e⟩ := obind e
  cases e
  refine ha.sd W ρ σ H x _ g r ea fun v H1 e1 g1 r1 => ?_
  exact ⟨v, .ty tys, _, _, _, rfl, .ty tys, r1.ty, kit_ty (isi_kit _ x.ty_mem _ hmem), q _ H1 e1 g1 (.bl _)⟩⟩
/-! ### gcd -/
def gGcd : List Dt → Option Dt
  | [.int a, .int b] => some (.int ((Nat.gcd a.natAbs b.natAbs : Nat) : Int))
  | _ => none
theorem fl_gcd : ∀ ds c, gGcd ds = some c → c.free = true := fun ds c h => by
  unfold gGcd at h
  split at h <;> cases h
  rfl
theorem kGcd : CallR X (.builtin "math.gcd") rGcd ∧ CallD T K rGcd gGcd := ⟨cr_gcd, fun W H vs ds c Q g wl r h q => by
  match ds, h with
  | [x0], h => cases x0 <;> cases h
  | x0 :: x1 :: _ :: _, h => cases x0 <;> cases x1 <;> cases h
  | [d, d'], h =>
    obtain ⟨v, v', rfl, r1, r2⟩ := repA2 r
    cases r1 with
    | int i =>
      cases r2 with
      | int j => cases h; exact ⟨i, j, rfl, q _ H (Ext.refl H) g (.int _)⟩
      | _ => cases h
    | _ => cases h⟩
theorem de_callM {id : String} {r : List V → Hp → VK → Prop} {g : List Dt → Option Dt} (h : CallR X (.builtin id) r ∧ CallD T K r g) (hm : X.mg x = some (.builtin id)) (ha : DA m T K X (e :: es) tr fr) (hg : Gl X x := by rfl)
    (hdb : (x == ("__debug__" : Str)) = false := by decide) (he : starEach (e :: es) X.env = (false, eval e X.env) :: starEach es X.env := by rfl) (hpl : (backTo pos (starEach es X.env)).any (·.1) = false := by rfl) :
    DE m T K X (.Call (.Name x p) (e :: es) [] pos) (tCB r tr) (fN g fr) := ⟨pe_callBfun h.1 hg hm ha.pa hdb he hpl, sd_call h.2 ha.sd⟩
end
theorem hu65 {k : Nat} {A : Around} (r : Room k A) : A.units + 65 < cLine := by have := r.un; omega
/-- a promise about nothing -/
theorem ok_none {P : Program} {w : World} {K : PySem.W.Frag} {mg : Str → Option Value} {base : Heap} {k : Nat} {fo : Addr} {fd : FuncData} {ps : List Str} {T : List Addr} {n : Nat} : FnOk P w K mg base CX0 k fo fd ps (spOf T K n fun _ => none) :=
  ⟨fun vs H Q E h => (by obtain ⟨_, _, _, _, _, _, _, e, _⟩ := h; cases e), fun A outer s H args us vs Q E _ _ _ _ h => (by obtain ⟨_, _, _, _, _, _, _, e, _⟩ := h; cases e)⟩
theorem sp_end {K : PySem.W.Frag} {H : Hp} {a : Addr} {ns : List Int} {run : List Dt → Option Dt} (hO : Only H) (hS : SqL K H a (ns.map V.int)) (h : run [.scr ns] = some (.bl true)) : spOf [] K 1 run [.ref a] H (fun v _ => v = .bl true) fun _ _ _ => False := by
  refine ⟨NoW, [.scr ns], .bl true, ⟨fun b xs e => ?_, fun P hP => by cases hP⟩, fun _ z => z.elim, .one (.scr ?_), rfl, h, fun v H' _ _ r => by cases r; rfl⟩
  · rcases hO b with q | ⟨o, ys, q⟩ <;> rcases e with e | e <;> rw [q] at e <;> cases e
  · rcases hS with (h | ⟨o, h⟩) | h
    · rcases hO a with q | ⟨o, ys, q⟩ <;> rw [q] at h <;> cases h
    · exact .inl ⟨o, h⟩
    · exact .inr h
end EL
end

section
set_option Elab.async false
set_option maxRecDepth 100000
/-! EL: functions of the slots reckoned with. -/
namespace EL
open PySem

/-- keeps a plain equation out of dsimp's hands: the kernel then need not unfold a test with big numbers -/
theorem nd {α : Sort u} {a b : α} (h : a = b) : a = b := h
/-! ### slots -/
@[simp] theorem getS_z (s : Sl) (r : Rho) : getS (s :: r) 0 = s := rfl
@[simp] theorem getS_s (s : Sl) (r : Rho) (n : Nat) : getS (s :: r) (n + 1) = getS r n := rfl
@[simp] theorem setS_z (s x : Sl) (r : Rho) : setS (s :: r) 0 x = x :: r := rfl
@[simp] theorem setS_s (s x : Sl) (r : Rho) (n : Nat) : setS (s :: r) (n + 1) x = s :: setS r n x := rfl
@[simp] theorem clr_t (b : List Bool) (s : Sl) (r : Rho) : clr (true :: b) (s :: r) = s :: clr b r := rfl
@[simp] theorem clr_f (b : List Bool) (s : Sl) (r : Rho) : clr (false :: b) (s :: r) = .un :: clr b r := rfl
@[simp] theorem clr_n (r : Rho) : clr [] r = r := by cases r <;> rfl
@[simp] theorem clr_e (b : List Bool) : clr b [] = [] := by cases b <;> rfl
@[simp] theorem owned_def (ρ : Rho) (i : Nat) : owned ρ i = match getS ρ i with | .ow ds => some ds | _ => none := rfl
@[simp] theorem frzs_n (ρ : Rho) : frzs [] ρ = ρ := rfl
@[simp] theorem frzs_c (i : Nat) (is : List Nat) (ρ : Rho) : frzs (i :: is) ρ = frzs is (frz i ρ) := rfl
@[simp] theorem wipeR_n (ρ : Rho) : wipeR ρ [] = ρ := rfl
@[simp] theorem wipeR_c (ρ : Rho) (v : Nat) (vs : List Nat) : wipeR ρ (v :: vs) = setS (wipeR ρ vs) v .un := rfl
@[simp] theorem noOw_n (ρ : Rho) : noOw ρ [] = true := rfl
@[simp] theorem noOw_c (ρ : Rho) (v : Nat) (vs : List Nat) : noOw ρ (v :: vs) = ((match getS ρ v with | .ow _ => false | .od _ => false | _ => true) && noOw ρ vs) := rfl
/-! ### expressions -/
@[simp] theorem fC_a (d : Dt) (ρ : Rho) : fC d ρ = some d := rfl
@[simp] theorem fV_a (i : Nat) (ρ : Rho) : fV i ρ = match getS ρ i with | .im d => some d | _ => none := rfl
@[simp] theorem fVb_a (i : Nat) (ρ : Rho) : fVb i ρ = match getS ρ i with | .im d => some d | .ow ds => some (.lst ds) | .od d => some d | .un => none := rfl
@[simp] theorem fOwn_a (i : Nat) (ρ : Rho) : fOwn i ρ = match getS ρ i with | .ow ds => some ds | _ => none := rfl
@[simp] theorem f1_a (g : Dt → Option Dt) (a : Fn) (ρ : Rho) : f1 g a ρ = (a ρ).bind g := rfl
@[simp] theorem f1L_a (g : Dt → Option (List Dt)) (a : Fn) (ρ : Rho) : f1L g a ρ = (a ρ).bind g := rfl
@[simp] theorem f2_a (g : Dt → Dt → Option Dt) (a b : Fn) (ρ : Rho) : f2 g a b ρ = (a ρ).bind fun x => (b ρ).bind fun y => g x y := rfl
@[simp] theorem fA0_a (ρ : Rho) : fA0 ρ = some [] := rfl
@[simp] theorem fAc_a (a : Fn) (r : FnL) (ρ : Rho) : fAc a r ρ = (a ρ).bind fun x => (r ρ).bind fun xs => some (x :: xs) := rfl
@[simp] theorem fN_a (g : List Dt → Option Dt) (a : FnL) (ρ : Rho) : fN g a ρ = (a ρ).bind g := rfl
@[simp] theorem fNL_a (g : List Dt → Option (List Dt)) (a : FnL) (ρ : Rho) : fNL g a ρ = (a ρ).bind g := rfl
@[simp] theorem fIf_a (c : FnB) (a b : Fn) (ρ : Rho) : fIf c a b ρ = (c ρ).bind fun k => if k = true then a ρ else b ρ := rfl
@[simp] theorem fTru_a (a : Fn) (ρ : Rho) : fTru a ρ = (a ρ).bind Dt.tru := rfl
@[simp] theorem fB_a (a : Fn) (ρ : Rho) : fB a ρ = (a ρ).bind fun d => match d with | .bl b => some b | _ => none := rfl
@[simp] theorem fAnd_a (a b : FnB) (ρ : Rho) : fAnd a b ρ = (a ρ).bind fun k => if k = true then b ρ else some false := rfl
@[simp] theorem fOr_a (a b : FnB) (ρ : Rho) : fOr a b ρ = (a ρ).bind fun k => if k = true then some true else b ρ := rfl
@[simp] theorem fNot_a (a : FnB) (ρ : Rho) : fNot a ρ = (a ρ).bind fun k => some (!k) := rfl
@[simp] theorem fOfB_a (a : FnB) (ρ : Rho) : fOfB a ρ = (a ρ).bind fun k => some (.bl k) := rfl
@[simp] theorem fAndV_a (a b : Fn) (ρ : Rho) : fAndV a b ρ = (fB a ρ).bind fun k => if k = true then b ρ else some (.bl false) := rfl
@[simp] theorem fOrV_a (a b : Fn) (ρ : Rho) : fOrV a b ρ = (fB a ρ).bind fun k => if k = true then some (.bl true) else b ρ := rfl
@[simp] theorem fCmp_a (g : Dt → Dt → Option Bool) (a b : Fn) (ρ : Rho) : fCmp g a b ρ = (a ρ).bind fun x => (b ρ).bind fun y => g x y := rfl
@[simp] theorem fChain_a (g g' : Dt → Dt → Option Bool) (a b c : Fn) (ρ : Rho) : fChain g g' a b c ρ = (a ρ).bind fun x => (b ρ).bind fun y => (g x y).bind fun k => if k = true then (c ρ).bind fun z => g' y z else some false := rfl
@[simp] theorem fFree_a (a : Fn) (ρ : Rho) : fFree a ρ = (a ρ).bind fun d => if d.free = true then some d else none := rfl
@[simp] theorem fLst_a (a : FnL) (ρ : Rho) : fLst a ρ = (a ρ).bind fun ds => some (.lst ds) := rfl
@[simp] theorem fTup_a (a : FnL) (ρ : Rho) : fTup a ρ = (a ρ).bind fun ds => if ds.length ≤ 1000 then some (.tup ds) else none := nd rfl
@[simp] theorem fLstL_a (a : FnL) (ρ : Rho) : fLstL a ρ = (a ρ).bind fun ds => if ds.length ≤ 1000 then some ds else none := nd rfl
@[simp] theorem fNoP_a (ρ : Rho) : fNoP ρ = some none := rfl
@[simp] theorem fPart_a (a : Fn) (ρ : Rho) : fPart a ρ = (a ρ).bind fun d => match d with | .int i => some (some i) | _ => none := rfl
@[simp] theorem fSl_a (a : Fn) (lo hi : FnO) (ρ : Rho) : fSl a lo hi ρ = (a ρ).bind fun d => (lo ρ).bind fun i => (hi ρ).bind fun j => gSl d i j := rfl
@[simp] theorem fIsi_a (t : String) (a : Fn) (ρ : Rho) : fIsi t a ρ = (a ρ).bind fun d => some (.bl (isiB d.ty t)) := rfl
@[simp] theorem fFn_a (n : Nat) (run : List Dt → Option Dt) (a : FnL) (ρ : Rho) : fFn n run a ρ = (a ρ).bind fun ds => if ds.length = n then run ds else none := rfl
@[simp] theorem fR1_a (a : Fn) (ρ : Rho) : fR1 a ρ = (a ρ).bind fun d => match d with | .int n => some ((0 : Int), n) | _ => none := rfl
@[simp] theorem fR2_a (a b : Fn) (ρ : Rho) : fR2 a b ρ = (a ρ).bind fun d => (b ρ).bind fun d' => match d, d' with | .int n, .int k => some (n, k) | _, _ => none := rfl
@[simp] theorem fLR_a (f : Rho → Option (Int × Int)) (ρ : Rho) : fLR f ρ = (f ρ).bind fun ij => if okRg ij = true then some (rngD ij.1 ij.2) else none := nd rfl
@[simp] theorem fTR_a (f : Rho → Option (Int × Int)) (ρ : Rho) : fTR f ρ = (f ρ).bind fun ij => if okRg ij = true then some (.tup (rngD ij.1 ij.2)) else none := nd rfl
@[simp] theorem fComp_a (fi : FnL) (gf : Dt → Rho → Option Rho) (ft : FnB) (fe : Fn) (vs : List Nat) (ρ : Rho) : fComp fi gf ft fe vs ρ = (fi ρ).bind fun ds => if noOw ρ vs = true ∧ ds.length ≤ sizeLine then compGo (wipeR ρ vs) gf ft fe ds else none := nd rfl
@[simp] theorem fYes_a (ρ : Rho) : fYes ρ = some true := rfl
@[simp] theorem hName_a (i : Nat) (d : Dt) (ρ : Rho) : hName i d ρ = some (setS ρ i (.im d)) := rfl
@[simp] theorem hTup_a (n : Nat) (g : List Dt → Rho → Option Rho) (ds : List Dt) (ρ : Rho) : hTup n g (.tup ds) ρ = if ds.length = n then g ds ρ else none := rfl
@[simp] theorem hCons_a (g : Dt → Rho → Option Rho) (gs : List Dt → Rho → Option Rho) (d : Dt) (r : List Dt) (ρ : Rho) : hCons g gs (d :: r) ρ = (g d ρ).bind fun ρ' => gs r ρ' := rfl
@[simp] theorem hNil_a (ρ : Rho) : hNil [] ρ = some ρ := rfl
/-! ### statements -/
@[simp] theorem sNil_a (ρ : Rho) : sNil ρ = some (.nx ρ) := rfl
@[simp] theorem sRet_a (f : Fn) (ρ : Rho) : sRet f ρ = (f ρ).bind fun d => some (.rt d) := rfl
@[simp] theorem sExpr_a (f : Fn) (ρ : Rho) : sExpr f ρ = (f ρ).bind fun _ => some (.nx ρ) := rfl
@[simp] theorem sSet_a (i : Nat) (f : Fn) (ρ : Rho) : sSet i f ρ = (f ρ).bind fun d => some (.nx (setS ρ i (.im d))) := rfl
@[simp] theorem sSetF_a (i : Nat) (f : FnL) (ρ : Rho) : sSetF i f ρ = (f ρ).bind fun ds => some (.nx (setS ρ i (.ow ds))) := rfl
@[simp] theorem sAsg_a (f : Fn) (gf : Dt → Rho → Option Rho) (ρ : Rho) : sAsg f gf ρ = (f ρ).bind fun d => (gf d ρ).bind fun ρ' => some (.nx ρ') := rfl
@[simp] theorem sIf_a (c : FnB) (F G : FnS) (ρ : Rho) : sIf c F G ρ = (c ρ).bind fun k => if k = true then F ρ else G ρ := rfl
@[simp] theorem sPar_a (i j : Nat) (fr : FnL) (ρ : Rho) : sPar i j fr ρ = (fr ρ).bind fun ds => match ds with | [d, d'] => some (.nx (setS (setS ρ i (.im d)) j (.im d'))) | _ => none := rfl
@[simp] theorem sMut_a (i : Nat) (g : List Dt → List Dt → Option (List Dt)) (fr : FnL) (ρ : Rho) : sMut i g fr ρ = (owned ρ i).bind fun xd => (fr ρ).bind fun vd => (g xd vd).bind fun yd => some (.nx (setS ρ i (.ow yd))) := rfl
@[simp] theorem sPut_a (i : Nat) (fk fe : Fn) (ρ : Rho) : sPut i fk fe ρ = (fe ρ).bind fun d => (owned ρ i).bind fun xd => (fk ρ).bind fun k => match k with
  | .int n => (L2.ixN xd.length n).bind fun j => some (.nx (setS ρ i (.ow (xd.set j d))))
  | _ => none := rfl
@[simp] theorem sAug_a (i : Nat) (g : Dt → Dt → Option Dt) (f : Fn) (ρ : Rho) : sAug i g f ρ = (fV i ρ).bind fun x => (f ρ).bind fun y => (g x y).bind fun z => some (.nx (setS ρ i (.im z))) := rfl
@[simp] theorem sFrz_a (is : List Nat) (F : FnS) (ρ : Rho) : sFrz is F ρ = F (frzs is ρ) := rfl
@[simp] theorem sClr_a (b : List Bool) (F : FnS) (ρ : Rho) : sClr b F ρ = F (clr b ρ) := rfl
@[simp] theorem sFor_a (fi : FnL) (gf : Dt → Rho → Option Rho) (mk : List Bool) (F : FnS) (ρ : Rho) : sFor fi gf mk F ρ = (fi ρ).bind fun ds => forGo gf mk F ds (clr mk ρ) := rfl
theorem sSeq_nx {F G : FnS} {ρ ρ' : Rho} (h : F ρ = some (.nx ρ')) : sSeq F G ρ = G ρ' := by unfold sSeq; rw [h]; rfl
theorem sSeq_rt {F G : FnS} {ρ : Rho} {d : Dt} (h : F ρ = some (.rt d)) : sSeq F G ρ = some (.rt d) := by unfold sSeq; rw [h]; rfl
/-- what follows a statement's end -/
def sThen (G : FnS) : Fl → Option Fl
  | .nx ρ' => G ρ'
  | .rt d => some (.rt d)
  | .bk ρ' => some (.bk ρ')
  | .ct ρ' => some (.ct ρ')
@[simp] theorem sThen_nx (G : FnS) (ρ : Rho) : sThen G (.nx ρ) = G ρ := rfl
@[simp] theorem sThen_rt (G : FnS) (d : Dt) : sThen G (.rt d) = some (.rt d) := rfl
@[simp] theorem sThen_bk (G : FnS) (ρ : Rho) : sThen G (.bk ρ) = some (.bk ρ) := rfl
@[simp] theorem sThen_ct (G : FnS) (ρ : Rho) : sThen G (.ct ρ) = some (.ct ρ) := rfl
@[simp] theorem sSeq_a (F G : FnS) (ρ : Rho) : sSeq F G ρ = (F ρ).bind (sThen G) := by
  unfold sSeq
  congr 1
theorem sThen_if (G : FnS) (c : Prop) [Decidable c] (a b : Fl) : sThen G (if c then a else b) = if c then sThen G a else sThen G b := by split <;> rfl
theorem bind_ite {α β : Type} (c : Prop) [Decidable c] (a b : Option α) (f : α → Option β) : (if c then a else b).bind f = if c then a.bind f else b.bind f := by split <;> rfl
/-- what a def hands back -/
def endOf : Fl → Option Dt
  | .rt d => some d
  | .nx _ => some .non
  | _ => none
@[simp] theorem endOf_rt (d : Dt) : endOf (.rt d) = some d := rfl
@[simp] theorem endOf_nx (ρ : Rho) : endOf (.nx ρ) = some .non := rfl
theorem runF_a (n : Nat) (F : FnS) (ds : List Dt) : runF n F ds = (F (ds.map Sl.im ++ List.replicate (n - ds.length) .un)).bind endOf := by
  unfold runF
  congr 1
theorem runF_of {n : Nat} {F : FnS} {ds : List Dt} {fl : Fl} (h : F (ds.map Sl.im ++ List.replicate (n - ds.length) .un) = some fl) : runF n F ds = endOf fl := by rw [runF_a, h]; rfl
/-! ### operations on data -/
@[simp] theorem gAdd_i (i j : Int) : gAdd (.int i) (.int j) = some (.int (i + j)) := rfl
@[simp] theorem gMinus_i (i j : Int) : gMinus (.int i) (.int j) = some (.int (i - j)) := rfl
@[simp] theorem gI_i (C : Int → Int → Bool) (f : Int → Int → Int) (i j : Int) : gI C f (.int i) (.int j) = if C i j = true then some (.int (f i j)) else none := nd rfl
@[simp] theorem gMul_i (i j : Int) : gMul (.int i) (.int j) = if cMul i j = true then some (.int (i * j)) else none := nd rfl
theorem gMul_l {xs : List Dt} {k : Nat} (hk : k ≤ 1000) (hx : xs.length ≤ 1000) : gMul (.lst xs) (.int (k : Nat)) = some (.lst (List.replicate k xs).flatten) := by
  have h1 : xs.length * ((k : Nat) : Int).toNat ≤ sizeLine := by
    rw [Int.toNat_natCast]
    have := Nat.mul_le_mul hx hk
    rw [sizeLine_eq]; omega
  show (if cdc _ = true then some (Dt.lst (List.replicate ((k : Nat) : Int).toNat xs).flatten) else none) = _
  rw [if_pos (cdc_t ⟨by omega, by omega, h1⟩), Int.toNat_natCast]
@[simp] theorem gNeg_i (i : Int) : gNeg (.int i) = some (.int (-i)) := rfl
@[simp] theorem gII_i (f : Int → Int → Bool) (i j : Int) : gII f (.int i) (.int j) = some (f i j) := rfl
@[simp] theorem bLt_a (i j : Int) : bLt i j = decide (i < j) := rfl
@[simp] theorem bLe_a (i j : Int) : bLe i j = decide (i ≤ j) := rfl
@[simp] theorem bGt_a (i j : Int) : bGt i j = decide (j < i) := rfl
@[simp] theorem bGe_a (i j : Int) : bGe i j = decide (j ≤ i) := rfl
@[simp] theorem gEq_i (i j : Int) : gEq (.int i) (.int j) = some (decide (i = j)) := by
  show some (PyData.eqv (Dt.py (.int i)) (Dt.py (.int j))) = _
  simp only [Dt.py, PyData.eqv]
  rw [Bool.beq_eq_decide_eq]
@[simp] theorem gNe_i (i j : Int) : gNe (.int i) (.int j) = some (!decide (i = j)) := by
  show some (!PyData.eqv (Dt.py (.int i)) (Dt.py (.int j))) = _
  simp only [Dt.py, PyData.eqv]
  rw [Bool.beq_eq_decide_eq]
@[simp] theorem gEq_b (i j : Bool) : gEq (.bl i) (.bl j) = some (i == j) := by
  show some (PyData.eqv (Dt.py (.bl i)) (Dt.py (.bl j))) = _
  simp only [Dt.py, PyData.eqv]
@[simp] theorem gNe_b (i j : Bool) : gNe (.bl i) (.bl j) = some (!(i == j)) := by
  show some (!PyData.eqv (Dt.py (.bl i)) (Dt.py (.bl j))) = _
  simp only [Dt.py, PyData.eqv]
@[simp] theorem gIsN_n : gIsN .non .non = some true := rfl
@[simp] theorem gIsN_i (i : Int) : gIsN (.int i) .non = some false := rfl
@[simp] theorem gIsN_t (l : List Dt) : gIsN (.tup l) .non = some false := rfl
@[simp] theorem gIsN_s (l : Str) : gIsN (.str l) .non = some false := rfl
@[simp] theorem gIsN_b (b : Bool) : gIsN (.bl b) .non = some false := rfl
@[simp] theorem gIsN_l (l : List Dt) : gIsN (.lst l) .non = some false := rfl
@[simp] theorem gNotN_n : gNotN .non .non = some false := rfl
@[simp] theorem gNotN_i (i : Int) : gNotN (.int i) .non = some true := rfl
@[simp] theorem gNotN_t (l : List Dt) : gNotN (.tup l) .non = some true := rfl
@[simp] theorem gNotN_s (l : Str) : gNotN (.str l) .non = some true := rfl
@[simp] theorem gNotN_b (b : Bool) : gNotN (.bl b) .non = some true := rfl
@[simp] theorem gNotN_l (l : List Dt) : gNotN (.lst l) .non = some true := rfl
@[simp] theorem gLen_l (l : List Dt) : gLen [.lst l] = some (.int l.length) := nd rfl
@[simp] theorem gLen_t (l : List Dt) : gLen [.tup l] = some (.int l.length) := nd rfl
@[simp] theorem gLen_s (l : List Int) : gLen [.scr l] = some (.int l.length) := nd rfl
@[simp] theorem gAbs_i (i : Int) : gAbs [.int i] = some (.int (if i < 0 then -i else i)) := rfl
@[simp] theorem gInt_i (i : Int) : gInt [.int i] = some (.int i) := rfl
@[simp] theorem gMax2_i (i j : Int) : gMax2 [.int i, .int j] = some (.int (if j > i then j else i)) := rfl
@[simp] theorem gMin2_i (i j : Int) : gMin2 [.int i, .int j] = some (.int (if j < i then j else i)) := rfl
@[simp] theorem gGcd_i (i j : Int) : gGcd [.int i, .int j] = some (.int ((Nat.gcd i.natAbs j.natAbs : Nat) : Int)) := rfl
@[simp] theorem gTuple_l (l : List Dt) : gTuple [.lst l] = some (.tup l) := rfl
@[simp] theorem gTuple_t (l : List Dt) : gTuple [.tup l] = some (.tup l) := rfl
@[simp] theorem gList_l (l : List Dt) : gList [.lst l] = some l := rfl
@[simp] theorem gList_t (l : List Dt) : gList [.tup l] = some l := rfl
@[simp] theorem gItems_l (l : List Dt) : gItems (.lst l) = some l := rfl
@[simp] theorem gItems_t (l : List Dt) : gItems (.tup l) = some l := rfl
@[simp] theorem gItems_s (z : Str) : gItems (.str z) = some (signs z) := rfl
theorem gRng1_i (j : Int) : gRng1 [.int j] = if okR j = true then some (rngD 0 j) else none := nd rfl
theorem gRng2_i (i j : Int) : gRng2 [.int i, .int j] = if okR i = true ∧ okR j = true then some (rngD i j) else none := nd rfl
@[simp] theorem gSum_l (l : List Int) : gSum [.lst (l.map Dt.int)] = some (.int l.sum) := by
  show ((ints? (l.map Dt.int)).bind fun ns => some (Dt.int ns.sum)) = _
  rw [ints?_map]; rfl
@[simp] theorem gAll_l (l : List Bool) : gAll [.lst (l.map Dt.bl)] = some (.bl (l.all id)) := by
  show ((bools? (l.map Dt.bl)).bind fun ns => some (Dt.bl (ns.all id))) = _
  rw [bools?_map]; rfl
@[simp] theorem gAny_l (l : List Bool) : gAny [.lst (l.map Dt.bl)] = some (.bl (l.any id)) := by
  show ((bools? (l.map Dt.bl)).bind fun ns => some (Dt.bl (ns.any id))) = _
  rw [bools?_map]; rfl
@[simp] theorem gSorted_l (l : List Int) : gSorted [.lst (l.map Dt.int)] = some ((sortI l).map Dt.int) := by
  show ((ints? (l.map Dt.int)).bind fun ns => some ((sortI ns).map Dt.int)) = _
  rw [ints?_map]; rfl
@[simp] theorem gAppend_a (xs : List Dt) (y : Dt) : gAppend xs [y] = if xs.length < sizeLine then some (xs ++ [y]) else none := nd rfl
@[simp] theorem gExtend_a (xs ys : List Dt) : gExtend xs [.lst ys] = if xs.length + ys.length ≤ sizeLine then some (xs ++ ys) else none := nd rfl
@[simp] theorem gInsert_a (xs : List Dt) (i : Int) (y : Dt) : gInsert xs [.int i, y] = if xs.length < sizeLine ∧ 0 ≤ i ∧ i < 2 ^ 63 then some (xs.take i.toNat ++ [y] ++ xs.drop i.toNat) else none := nd rfl
@[simp] theorem tru_b (b : Bool) : Dt.tru (.bl b) = some b := rfl
@[simp] theorem tru_n : Dt.tru .non = some false := rfl
@[simp] theorem tru_i (i : Int) : Dt.tru (.int i) = some (i != 0) := rfl
@[simp] theorem tru_t (l : List Dt) : Dt.tru (.tup l) = some (!l.isEmpty) := rfl
@[simp] theorem tru_l (l : List Dt) : Dt.tru (.lst l) = some (!l.isEmpty) := rfl
@[simp] theorem gSl_l (l : List Dt) (i j : Option Int) : gSl (.lst l) i j = some (.lst (cutL l i j)) := rfl
@[simp] theorem gSl_t (l : List Dt) (i j : Option Int) : gSl (.tup l) i j = some (.tup (cutL l i j)) := rfl
/-! x[i] -/
theorem atI_ok {α : Type} {xs : List α} {i : Int} (h0 : 0 ≤ i) (h : i.toNat < xs.length) : L2.atI xs i = some xs[i.toNat] := by
  unfold L2.atI L2.ixN
  rw [if_pos h0, if_pos (by omega)]
  simp [h]
theorem atI_neg {α : Type} {xs : List α} {i : Int} (h0 : i < 0) (h : -(xs.length : Int) ≤ i) : L2.atI xs i = some (xs[(i + xs.length).toNat]'(by omega)) := by
  unfold L2.atI L2.ixN
  rw [if_neg (by omega), if_pos h]
  show xs[(i + (xs.length : Int)).toNat]? = _
  rw [List.getElem?_eq_getElem]
@[simp] theorem gIx_l (l : List Dt) (i : Int) : gIx (.lst l) (.int i) = L2.atI l i := rfl
@[simp] theorem gIx_t (l : List Dt) (i : Int) : gIx (.tup l) (.int i) = L2.atI l i := rfl
theorem gIx_s (l : List Int) (i : Int) : gIx (.scr l) (.int i) = (L2.atI l i).map Dt.int := rfl
theorem atI_map_int {l : List Int} {i : Int} (h0 : 0 ≤ i) (h : i.toNat < l.length) : L2.atI (l.map Dt.int) i = some (.int (l.getD i.toNat 0)) := by
  rw [atI_ok h0 (by simpa using h)]
  simp [List.getD, h]
theorem atI_mapf {α : Type} (f : α → Dt) {l : List α} {i : Int} (h0 : 0 ≤ i) (h : i.toNat < l.length) : L2.atI (l.map f) i = some (f l[i.toNat]) := by
  rw [atI_ok h0 (by simpa using h)]
  simp
@[simp] theorem atI_c0 (d : Dt) (r : List Dt) : L2.atI (d :: r) 0 = some d := by rw [atI_ok (by omega) (by simp)]; rfl
@[simp] theorem atI_c1 (a d : Dt) (r : List Dt) : L2.atI (a :: d :: r) 1 = some d := by rw [atI_ok (by omega) (by simp)]; rfl
@[simp] theorem atI_c2 (a b d : Dt) (r : List Dt) : L2.atI (a :: b :: d :: r) 2 = some d := by rw [atI_ok (by omega) (by simp)]; rfl
@[simp] theorem atI_c3 (a b c d : Dt) (r : List Dt) : L2.atI (a :: b :: c :: d :: r) 3 = some d := by rw [atI_ok (by omega) (by simp)]; rfl
/-! ### loops -/
/-- one turn of a for -/
def turn (gf : Dt → Rho → Option Rho) (mk : List Bool) (F : FnS) (d : Dt) (ρ : Rho) : Option Fl := (gf d ρ).bind fun ρ1 => (F ρ1).bind fun fl => match fl with
  | .nx ρ2 => some (.nx (clr mk ρ2))
  | .ct ρ2 => some (.nx (clr mk ρ2))
  | .bk ρ2 => some (.bk (clr mk ρ2))
  | .rt d => some (.rt d)
theorem forGo_nil {gf : Dt → Rho → Option Rho} {mk : List Bool} {F : FnS} {ρ : Rho} : forGo gf mk F [] ρ = some (.nx ρ) := rfl
theorem forGo_cons {gf : Dt → Rho → Option Rho} {mk : List Bool} {F : FnS} {d : Dt} {ds : List Dt} {ρ : Rho} : forGo gf mk F (d :: ds) ρ = (turn gf mk F d ρ).bind fun fl => match fl with
    | .nx ρ' => forGo gf mk F ds ρ'
    | .bk ρ' => some (.nx ρ')
    | .rt d => some (.rt d)
    | .ct _ => none := by
  show ((gf d ρ).bind fun ρ1 => (F ρ1).bind fun fl => _) = _
  unfold turn
  cases gf d ρ with
  | none => rfl
  | some ρ1 =>
    simp only [Option.bind_some]
    cases F ρ1 with
    | none => rfl
    | some fl => cases fl <;> rfl
/-- a for that runs through -/
theorem for_fold {α β : Type} {gf : Dt → Rho → Option Rho} {mk : List Bool} {F : FnS} (enc : α → Dt) (S : β → Rho) (step : β → α → β) (I : β → List α → Prop) :
    ∀ (xs : List α) (s : β), I s xs → (∀ s x r, I s (x :: r) → turn gf mk F (enc x) (S s) = some (.nx (S (step s x))) ∧ I (step s x) r) → forGo gf mk F (xs.map enc) (S s) = some (.nx (S (xs.foldl step s)))
  | [], s, _, _ => rfl
  | x :: xs, s, hi, h => by
    obtain ⟨h1, h2⟩ := h s x xs hi
    rw [List.map_cons, forGo_cons, h1]
    exact for_fold enc S step I xs (step s x) h2 h
/-- a for by an invariant -/
theorem for_inv {gf : Dt → Rho → Option Rho} {mk : List Bool} {F : FnS} (I : List Dt → Rho → Prop) (Q : Fl → Prop) (hs : ∀ d ds ρ, I (d :: ds) ρ → ∃ fl, turn gf mk F d ρ = some fl ∧ (match fl with | .nx ρ' => I ds ρ' | .bk ρ' => Q (.nx ρ') | .rt d => Q (.rt d) | .ct _ => False)) (hd : ∀ ρ, I [] ρ → Q (.nx ρ)) :
    ∀ (xs : List Dt) (ρ : Rho), I xs ρ → ∃ fl, forGo gf mk F xs ρ = some fl ∧ Q fl
  | [], ρ, h => ⟨_, rfl, hd ρ h⟩
  | d :: ds, ρ, h => by
    obtain ⟨fl, e, q⟩ := hs d ds ρ h
    rw [forGo_cons, e]
    cases fl with
    | nx ρ' => exact for_inv I Q hs hd ds ρ' q
    | bk ρ' => exact ⟨_, rfl, q⟩
    | rt d' => exact ⟨_, rfl, q⟩
    | ct _ => exact q.elim
/-- a for that looks for the first item with p -/
theorem for_find {α : Type} {gf : Dt → Rho → Option Rho} {mk : List Bool} {F : FnS} (enc : α → Dt) (ρ : Rho) (p : α → Bool) (res : α → Dt) : ∀ (xs : List α), (∀ x ∈ xs, turn gf mk F (enc x) ρ = some (if p x = true then .rt (res x) else .nx ρ)) →
    forGo gf mk F (xs.map enc) ρ = some (match xs.find? p with | some x => .rt (res x) | none => .nx ρ)
  | [], _ => rfl
  | x :: xs, h => by
    rw [List.map_cons, forGo_cons, h x List.mem_cons_self]
    cases hp : p x with
    | true => simp [List.find?_cons, hp]
    | false =>
      simp only [Bool.false_eq_true, if_false, List.find?_cons, hp]
      exact for_find enc ρ p res xs fun y hy => h y (List.mem_cons_of_mem _ hy)
/-- a for whose turns each return or go on alike: .. by options -/
theorem for_findSome {α : Type} {gf : Dt → Rho → Option Rho} {mk : List Bool} {F : FnS} (enc : α → Dt) (ρ : Rho) (g : α → Option Dt) : ∀ (xs : List α), (∀ x ∈ xs, turn gf mk F (enc x) ρ = some (match g x with | some d => .rt d | none => .nx ρ)) →
    forGo gf mk F (xs.map enc) ρ = some (match xs.findSome? g with | some d => .rt d | none => .nx ρ)
  | [], _ => rfl
  | x :: xs, h => by
    rw [List.map_cons, forGo_cons, h x List.mem_cons_self]
    cases hp : g x with
    | some d => simp [List.findSome?_cons, hp]
    | none =>
      simp only [List.findSome?_cons, hp]
      exact for_findSome enc ρ g xs fun y hy => h y (List.mem_cons_of_mem _ hy)
/-- a comprehension -/
theorem comp_map {α : Type} {ρ : Rho} {gf : Dt → Rho → Option Rho} {ft : FnB} {fe : Fn} (enc : α → Dt) (p : α → Bool) (g : α → Dt) : ∀ (xs : List α), (∀ x ∈ xs, ∃ ρ', gf (enc x) ρ = some ρ' ∧ ft ρ' = some (p x) ∧ (p x = true → fe ρ' = some (g x))) →
    compGo ρ gf ft fe (xs.map enc) = some ((xs.filter p).map g)
  | [], _ => rfl
  | x :: xs, h => by
    obtain ⟨ρ', h1, h2, h3⟩ := h x List.mem_cons_self
    have ih := comp_map (ρ := ρ) (gf := gf) (ft := ft) (fe := fe) enc p g xs fun y hy => h y (List.mem_cons_of_mem _ hy)
    show ((gf (enc x) ρ).bind fun ρ' => (ft ρ').bind fun b => if b = true then (fe ρ').bind fun y => (compGo ρ gf ft fe (xs.map enc)).bind fun r => some (y :: r) else compGo ρ gf ft fe (xs.map enc)) = _
    rw [h1, Option.bind_some, h2, Option.bind_some]
    cases hp : p x with
    | true =>
      rw [if_pos rfl, h3 hp, Option.bind_some, ih, Option.bind_some, List.filter_cons_of_pos hp]
      rfl
    | false =>
      rw [if_neg Bool.false_ne_true, ih, List.filter_cons_of_neg (by rw [hp]; exact Bool.false_ne_true)]
theorem comp_all {α : Type} {ρ : Rho} {gf : Dt → Rho → Option Rho} {ft : FnB} {fe : Fn} (enc : α → Dt) (g : α → Dt) (xs : List α) (h : ∀ x ∈ xs, ∃ ρ', gf (enc x) ρ = some ρ' ∧ ft ρ' = some true ∧ fe ρ' = some (g x)) :
    compGo ρ gf ft fe (xs.map enc) = some (xs.map g) := by
  have := comp_map enc (fun _ => true) g xs fun x hx => by
    obtain ⟨ρ', h1, h2, h3⟩ := h x hx
    exact ⟨ρ', h1, h2, fun _ => h3⟩
  rw [this, List.filter_eq_self.mpr fun _ _ => rfl]
/-- a while by an invariant and a measure -/
theorem while_inv {c : FnB} {mk : List Bool} {F : FnS} (I : Rho → Prop) (μ : Rho → Nat) (Q : Fl → Prop) (hs : ∀ ρ, I ρ → ∃ r, whStep c mk F 0 ρ = some r ∧ (match r with | .inl ρ' => I ρ' ∧ μ ρ' < μ ρ | .inr fl => Q fl)) (ρ : Rho) (h : I ρ) :
    ∃ fl, itO (whStep c mk F) ρ = some fl ∧ Q fl := by
  have key : ∀ (n i : Nat) (ρ : Rho), I ρ → μ ρ < n → ∃ fl, itN (whStep c mk F) n i ρ = some fl ∧ Q fl := by
    intro n
    induction n with
    | zero => intro i ρ _ h; omega
    | succ n ih =>
      intro i ρ hi hm
      obtain ⟨r, e, q⟩ := hs ρ hi
      have e' : whStep c mk F i ρ = some r := e
      show ∃ fl, ((whStep c mk F i ρ).bind _) = some fl ∧ Q fl
      rw [e']
      cases r with
      | inl ρ' => exact ih (i + 1) ρ' q.1 (by omega)
      | inr fl => exact ⟨fl, rfl, q⟩
  obtain ⟨fl, e, q⟩ := key (μ ρ + 1) 0 ρ h (Nat.lt_succ_self _)
  exact ⟨fl, itO_of e, q⟩
theorem rngD_map (lo hi : Int) : rngD lo hi = ((List.range (hi - lo).toNat).map fun (i : Nat) => (lo + (i : Int))).map Dt.int := by
  unfold rngD
  rw [List.map_map]
  rfl
/-- the ints from lo up to hi -/
def rgI (lo hi : Int) : List Int := (List.range (hi - lo).toNat).map fun (i : Nat) => (lo + (i : Int))
theorem rngD_eq (lo hi : Int) : rngD lo hi = (rgI lo hi).map Dt.int := rngD_map lo hi
theorem mem_rgI {lo hi x : Int} : x ∈ rgI lo hi ↔ lo ≤ x ∧ x < hi := by
  unfold rgI
  rw [List.mem_map]
  constructor
  · rintro ⟨i, hi', rfl⟩
    rw [List.mem_range] at hi'
    omega
  · intro ⟨h1, h2⟩
    exact ⟨(x - lo).toNat, by rw [List.mem_range]; omega, by omega⟩
theorem rgI_length (lo hi : Int) : (rgI lo hi).length = (hi - lo).toNat := by unfold rgI; rw [List.length_map, List.length_range]
theorem okR_of {i : Int} (h1 : -1000000000 ≤ i) (h2 : i ≤ 1000000000) : okR i = true := by
  unfold okR
  exact cdc_t ⟨by omega, by omega⟩
theorem rng1_of {j : Int} (h1 : -1000000000 ≤ j) (h2 : j ≤ 1000000000) : gRng1 [.int j] = some ((rgI 0 j).map Dt.int) := by
  rw [gRng1_i, if_pos (okR_of h1 h2), rngD_eq]
theorem rng2_of {i j : Int} (h1 : -1000000000 ≤ j) (h2 : j ≤ 1000000000) (h3 : -1000000000 ≤ i) (h4 : i ≤ 1000000000) : gRng2 [.int i, .int j] = some ((rgI i j).map Dt.int) := by
  rw [gRng2_i, if_pos ⟨okR_of h3 h4, okR_of h1 h2⟩, rngD_eq]
theorem cMod_of {i j : Int} (h : j ≠ 0) : cMod i j = true := decide_eq_true h
theorem cDiv_of {i j : Int} (h : j ≠ 0) (h2 : -1000000000 ≤ j) (h3 : j ≤ 1000000000) : cDiv i j = true := by
  unfold cDiv
  exact decide_eq_true ⟨h, by omega⟩
theorem cMul_r {i j : Int} (h2 : -1000000000000000000 ≤ j) (h3 : j ≤ 1000000000000000000) : cMul i j = true := by
  unfold cMul
  have : cdc (-(2 ^ 64) < j ∧ j < 2 ^ 64) = true := cdc_t ⟨by omega, by omega⟩
  rw [this, Bool.or_true]
theorem cMul_l {i j : Int} (h2 : -1000000000000000000 ≤ i) (h3 : i ≤ 1000000000000000000) : cMul i j = true := by
  unfold cMul
  have : cdc (-(2 ^ 64) < i ∧ i < 2 ^ 64) = true := cdc_t ⟨by omega, by omega⟩
  rw [this, Bool.true_or]
theorem size_ge {n : Nat} (h : n ≤ 1000000) : n ≤ sizeLine := by rw [sizeLine_eq]; omega
theorem size_gt {n : Nat} (h : n ≤ 1000000) : n < sizeLine := by rw [sizeLine_eq]; omega
theorem fComp_of {fi : FnL} {gf : Dt → Rho → Option Rho} {ft : FnB} {fe : Fn} {vs : List Nat} {ρ : Rho} {ds r : List Dt} (h1 : fi ρ = some ds) (h2 : noOw ρ vs = true) (h3 : ds.length ≤ 1000000) (h4 : compGo (wipeR ρ vs) gf ft fe ds = some r) : fComp fi gf ft fe vs ρ = some r := by
  unfold fComp
  rw [h1, Option.bind_some, if_pos ⟨h2, size_ge h3⟩, h4]
end EL
end

section
set_option Elab.async false
set_option maxRecDepth 100000
set_option maxHeartbeats 4000000
/-! EL: slices taken backwards. -/
namespace EL
open PySem PySem.Spec PyProof.Rows L2 HT
/-- where xs[lo:hi:-1] begins, and how many it takes -/
def rvP (n : Nat) (lo hi : Option Int) : Int × Nat := ((Builtin.Slice.sliceAdjust lo hi (-1) (n : Int)).1, Builtin.Slice.slicePlaces (Builtin.Slice.sliceAdjust lo hi (-1) (n : Int)).1 (Builtin.Slice.sliceAdjust lo hi (-1) (n : Int)).2 (-1))
def revCut {α : Type} (xs : List α) (lo hi : Option Int) : List α := (List.range (rvP xs.length lo hi).2).filterMap fun (m : Nat) => xs[((rvP xs.length lo hi).1 + (m : Int) * (-1)).toNat]?
theorem rvP_le (n : Nat) (lo hi : Option Int) : (rvP n lo hi).2 ≤ n := by
  unfold rvP Builtin.Slice.slicePlaces
  have h1 : ¬ ((-1 : Int) > 0) := by omega
  simp only [h1, if_false]
  have ha : (Builtin.Slice.sliceAdjust lo hi (-1) (n : Int)).1 ≤ (n : Int) - 1 := by
    unfold Builtin.Slice.sliceAdjust
    cases lo with
    | none => simp
    | some v => simp; split <;> omega
  have hb : -1 ≤ (Builtin.Slice.sliceAdjust lo hi (-1) (n : Int)).2 := by
    unfold Builtin.Slice.sliceAdjust
    cases hi with
    | none => simp
    | some v => simp; split <;> omega
  generalize (Builtin.Slice.sliceAdjust lo hi (-1) (n : Int)).1 = a at ha
  generalize (Builtin.Slice.sliceAdjust lo hi (-1) (n : Int)).2 = b at hb
  split
  · rw [Int.neg_neg, Int.ediv_one]; omega
  · omega
theorem filterMap_le {α β : Type} (f : α → Option β) : ∀ xs : List α, (xs.filterMap f).length ≤ xs.length
  | [] => Nat.le_refl _
  | x :: xs => by
    rw [List.filterMap_cons]
    have := filterMap_le f xs
    cases f x <;> simp <;> omega
theorem revCut_length {α : Type} (xs : List α) (lo hi : Option Int) : (revCut xs lo hi).length ≤ xs.length := by
  unfold revCut
  refine Nat.le_trans (filterMap_le _ _) ?_
  rw [List.length_range]
  exact rvP_le _ _ _
theorem Vals.at? {vs : List V} {us : List Value} (r : Vals vs us) (i : Nat) : (vs[i]? = none ∧ us[i]? = none) ∨ ∃ v u, vs[i]? = some v ∧ us[i]? = some u ∧ RelV v u := by
  induction r generalizing i with
  | nil => exact .inl ⟨rfl, rfl⟩
  | @cons v u vs us h r ih =>
    cases i with
    | zero => exact .inr ⟨v, u, rfl, rfl, h⟩
    | succ i => simpa using ih i
theorem Vals.pick {vs : List V} {us : List Value} (r : Vals vs us) (f : Nat → Nat) : ∀ ms : List Nat, Vals (ms.filterMap fun m => vs[f m]?) (ms.filterMap fun m => us[f m]?)
  | [] => .nil
  | m :: ms => by
    rw [List.filterMap_cons, List.filterMap_cons]
    rcases Vals.at? r (f m) with ⟨h1, h2⟩ | ⟨v, u, h1, h2, h3⟩
    · rw [h1, h2]; exact Vals.pick r f ms
    · rw [h1, h2]; exact .cons h3 (Vals.pick r f ms)
theorem Vals.revCut {vs : List V} {us : List Value} (r : Vals vs us) (lo hi : Option Int) : Vals (revCut vs lo hi) (revCut us lo hi) := by
  unfold EL.revCut
  rw [r.length]
  exact Vals.pick r _ _
section
variable {K : PySem.W.Frag}
theorem RepA.at? {H : Hp} {W : Addr → Prop} {vs : List V} {ds : List Dt} (r : RepA K H W vs ds) (i : Nat) : (vs[i]? = none ∧ ds[i]? = none) ∨ ∃ v d, vs[i]? = some v ∧ ds[i]? = some d ∧ Rep K H W v d := by
  induction ds generalizing vs i with
  | nil => cases r; exact .inl ⟨rfl, rfl⟩
  | cons d ds ih =>
    cases r with
    | cons h r =>
      cases i with
      | zero => exact .inr ⟨_, d, rfl, rfl, h⟩
      | succ i => simpa using ih r i
theorem RepA.pick {H : Hp} {W : Addr → Prop} {vs : List V} {ds : List Dt} (r : RepA K H W vs ds) (f : Nat → Nat) : ∀ ms : List Nat, RepA K H W (ms.filterMap fun m => vs[f m]?) (ms.filterMap fun m => ds[f m]?)
  | [] => .nil
  | m :: ms => by
    rw [List.filterMap_cons, List.filterMap_cons]
    rcases RepA.at? r (f m) with ⟨h1, h2⟩ | ⟨v, u, h1, h2, h3⟩
    · rw [h1, h2]; exact RepA.pick r f ms
    · rw [h1, h2]; exact .cons h3 (RepA.pick r f ms)
theorem RepA.revCut {H : Hp} {W : Addr → Prop} {vs : List V} {ds : List Dt} (r : RepA K H W vs ds) (lo hi : Option Int) : RepA K H W (revCut vs lo hi) (revCut ds lo hi) := by
  unfold EL.revCut
  rw [r.length]
  exact RepA.pick r _ _
end
section
variable {prog : Program} {w : World} {A : Around} {E : Value → Shared → Prop} {s : Shared}
theorem sliceApplied_rev {sl : Addr} {vl vu vs : Value} {lo hi : Option Int} {n : Nat} {Q : Int × Int × Nat → Shared → Prop} (hs : s.heap.IsSliceOf sl vl vu vs) (pl : IsPart vl lo) (pu : IsPart vu hi) (ps : IsPart vs (some (-1)))
    (h : Q ((rvP n lo hi).1, -1, (rvP n lo hi).2) s) : wpAny (model prog w) A (Builtin.Slice.sliceApplied (.ref sl) (pure (n : Int))) Q E s := by
  obtain ⟨os, hos, hcs, hds⟩ := id hs
  unfold Builtin.Slice.sliceApplied Builtin.Slice.sliceFields
  refine wpAny_bind (wpAny_bind (wpAny_field hos hds (x := vl) rfl (wpAny_bind (wpAny_field hos hds (x := vu) rfl (wpAny_bind (wpAny_field hos hds (x := vs) rfl (wpAny_pure ?_)))))))
  refine wpAny_bind (slicePart_ ps ?_)
  show wpAny _ _ (if ((-1 : Int) == 0) = true then _ else _) _ _ s
  rw [if_neg (by decide)]
  refine wpAny_bind (slicePart_ pl (wpAny_bind (slicePart_ pu (wpAny_bind (wpAny_pure ?_)))))
  exact wpAny_pure h
theorem getItem_tuple_rev {t sl : Addr} {items : Array Value} {vl vu vs : Value} {lo hi : Option Int} {Q : Value → Shared → Prop} (ht : IsTup s.heap t items) (hs : s.heap.IsSliceOf sl vl vu vs) (pl : IsPart vl lo) (pu : IsPart vu hi) (ps : IsPart vs (some (-1)))
    (h : Q (.ref s.heap.objs.size) { s with heap := s.heap.push { cls := .type "tuple", data := .seq (revCut items.toList lo hi).toArray } })
    (hsz : items.size ≤ sizeLine) : wpAny (model prog w) A (getItem (.ref t) (.ref sl)) Q E s := by
  have htake : sizeOk (.seq (revCut items.toList lo hi).toArray) := by
    show (revCut items.toList lo hi).toArray.size ≤ sizeLine
    rw [List.size_toArray]
    have := revCut_length items.toList lo hi
    have e2 : items.toList.length = items.size := Array.length_toList
    show (revCut items.toList lo hi).length ≤ sizeLine
    omega
  obtain ⟨os, hos, hcs, hds⟩ := id hs
  have hTs : s.TypeIs (.ref sl) "slice" := ⟨os, hos, hcs⟩
  unfold getItem
  try with_reducible refine wpAny_holding ?_
  first | refine wpAny_bind (wpAny_pure ?_) | skip
  refine wpAny_bind (wpAny_sequenceKey ht.typeIs (by decide) ?_)
  refine wpAny_bind (wpAny_callSpecial?_slot (name := Str.ofString "__getitem__") ht.typeIs PyProof.Rows.slot_tuple_getitem
    (wpAny_call_entry PyProof.Rows.slot_tuple_getitem ht.typeIs entry_tuple_getitem ?_ (args_tuple_getitem _ _)))
  show wpAny _ _ (Builtin.Tuple.tupleItemsOf (.ref t) >>= _) _ _ s
  refine wpAny_bind (tupleItemsOf_ ht ?_)
  refine wpAny_bind (wpAny_typeOf hTs ?_)
  rw [if_pos (by decide)]
  refine wpAny_bind (sliceApplied_rev hs pl pu ps ?_)
  have hno : ¬ (((rvP items.size lo hi).1 == 0 && (-1 : Int) == 1 && (rvP items.size lo hi).2 == items.size) = true) := by
    intro q
    rw [Bool.and_eq_true, Bool.and_eq_true] at q
    exact absurd q.1.2 (by decide)
  show wpAny _ _ (if ((rvP items.size lo hi).1 == 0 && (-1 : Int) == 1 && (rvP items.size lo hi).2 == items.size) = true then _ else _) _ _ s
  rw [if_neg hno]
  have hpk : ((List.range (rvP items.size lo hi).2).filterMap fun (m : Nat) => items[((rvP items.size lo hi).1 + (m : Int) * (-1)).toNat]?).toArray = (revCut items.toList lo hi).toArray := by
    unfold revCut
    simp only [Array.length_toList, Array.getElem?_toList]
  rw [hpk]
  first
    | exact wpAny_bind (m := Builtin.Tuple.tupleExact _) (wpAny_newObj_type (wpAny_pure ⟨_, rfl, wpAny_pure h⟩) htake)
    | exact wpAny_bind (m := Builtin.Tuple.tupleExact _) (wpAny_newObj_type (wpAny_bind (wpAny_pure (wpAny_pure ⟨_, rfl, wpAny_pure h⟩))) htake)
    | exact wpAny_bind (wpAny_bind (m := Builtin.Tuple.tupleExact _) (wpAny_newObj_type (wpAny_pure (wpAny_pure ⟨_, rfl, wpAny_pure h⟩)) htake))
    | exact wpAny_bind (wpAny_bind (m := Builtin.Tuple.tupleExact _) (wpAny_newObj_type (wpAny_pure ⟨_, rfl, wpAny_pure h⟩) htake))
end
def rSr (K : PySem.W.Frag) : V → Option Int → Option Int → Hp → VK → Prop := fun x lo hi H Q =>
  (∃ a xs, x = .ref a ∧ SqT K H a xs ∧ ∀ p, H p = none → Q (.ref p) (upd H p (.tup (revCut xs lo hi)))) ∨
  (∃ a xs, x = .ref a ∧ SqL K H a xs ∧ lo = none ∧ hi = none ∧ ∀ p, H p = none → Q (.ref p) (upd H p (.lst xs.reverse)))
section
variable {X : Cx} {e : Expr} {te : TE} {lo hi : Option Expr} {tl th : TO} {pos p1 p2 p3 : Pos} {k : Nat}
theorem pe_slrev (he : PE X e te) (hl : PO X lo tl) (hu : PO X hi th) : PE X (.Subscript e (.Slice lo hi (some (.UnaryOp .USub (.Constant (.int 1) k p1) p2)) p3) pos) (tSl (rSr X.K) te tl th) := by
  refine ⟨fun pins s σ H Q I h => ?_⟩
  refine Subscript_ (thn (he.run pins s σ H _ I h) fun v s1 ⟨x, H1, I1, r1, q1⟩ => ?_)
  have hst : PO X (some (.UnaryOp .USub (.Constant (.int 1) k p1) p2)) (tPart (tUn (rU fun i => .int (-i)) (tC (.int 1)))) := po_some (pe_un un_neg pe_int)
  refine wpAny_Slice (thn (hl.run pins s1 σ H1 _ I1 q1) fun vl s2 ⟨l, H2, I2, pl, q2⟩ => thn (hu.run pins s2 σ H2 _ I2 q2) fun vu s3 ⟨u, H3, I3, pu, q3⟩ => ?_)
  refine thn (hst.run pins s3 σ H3 (fun o H4 => o = some (-1) ∧ H4 = H3) I3 ⟨1, rfl, -1, rfl, rfl, rfl⟩) fun vs s4 ⟨o, H4, I4, ps, eo, e4⟩ => ?_
  subst eo e4
  have I5 : Inv X pins σ H4 { s4 with heap := s4.heap.push { cls := .type "slice", data := .fields #[vl, vu, vs] } } := I4.kept (t' := s4.toks) fun b ob q => Heap.get?_push_of_some _ q
  show wpAny (model X.prog X.w) X.A (subscriptTail e (.Slice lo hi (some (.UnaryOp .USub (.Constant (.int 1) k p1) p2)) p3) v (.ref s4.heap.objs.size)) (EP X pins σ Q) X.xe { s4 with heap := s4.heap.push { cls := .type "slice", data := .fields #[vl, vu, vs] } }
  rcases q3 with ⟨a, xs, ex, hx, q⟩ | ⟨a, xs, ex, hx, e1, e2, q⟩
  · subst ex
    cases r1
    obtain ⟨its, r, ht, hz⟩ := I5.tuple hx
    have hlen := r.length
    refine tail_any (ops := [.ref a, .ref s4.heap.objs.size]) ht.typeIs (PyProof.Rows.slot_tuple_getitem.lookup) ?_ (by with_unfolding_all rfl)
    refine getItem_tuple_rev ht (Heap.IsSliceOf.new _ vl vu vs) pl pu ps ?_ (by rw [List.size_toArray]; omega)
    refine ⟨.ref _, _, I5.laid (t' := s4.toks) (o := .tup (revCut xs l u)) (fun b ob q => Heap.get?_push_of_some _ q) (Nat.le_refl _) ?_, rfl, q _ (I5.hok.fresh (Nat.le_refl _))⟩
    exact ⟨Nat.le_trans (revCut_length xs l u) hz, _, by have := Vals.revCut r l u; simpa using this, IsTup.new _ _⟩
  · subst ex e1 e2
    cases r1
    obtain ⟨its, r, ht, hz⟩ := I5.list hx
    have hlen := r.length
    refine tail_any (ops := [.ref a, .ref s4.heap.objs.size]) ht.isList.typeIs (PySem.slot_list_getitem.lookup) ?_ (by with_unfolding_all rfl)
    refine wpAny_getItem_list_slice ht.isList (Heap.IsSliceOf.new _ vl vu vs) pl pu ps (by decide) ?_ (by rw [List.size_toArray]; omega)
    rw [PySem.W.krv_pick]
    refine ⟨.ref _, _, I5.laid (t' := s4.toks) (o := .lst xs.reverse) (fun b ob q => Heap.get?_push_of_some _ q) (Nat.le_refl _) ?_, rfl, q _ (I5.hok.fresh (Nat.le_refl _))⟩
    exact ⟨by rw [List.length_reverse]; exact hz, _, 0, r.reverse, Heap.get?_push_size _ rfl⟩
end
def gSlr : Dt → Option Int → Option Int → Option Dt
  | .tup xs, lo, hi => some (.tup (revCut xs lo hi))
  | .lst xs, none, none => some (.lst xs.reverse)
  | _, _, _ => none
def fSlr (a : Fn) (lo hi : FnO) : Fn := fun ρ => (a ρ).bind fun d => (lo ρ).bind fun i => (hi ρ).bind fun j => gSlr d i j
theorem RepA.rev {K : PySem.W.Frag} {H : Hp} {W : Addr → Prop} {vs : List V} {ds : List Dt} (r : RepA K H W vs ds) : RepA K H W vs.reverse ds.reverse := by
  induction ds generalizing vs with
  | nil => cases r; exact .nil
  | cons d ds ih =>
    cases r with
    | cons h r =>
      rw [List.reverse_cons, List.reverse_cons]
      exact RepA.append (ih r) (.cons h .nil)
section
variable {T : List Addr} {K : PySem.W.Frag} {X : Cx} {m : Bool} {a : Expr} {ta : TE} {fa : Fn} {lo hi : Option Expr} {tl th : TO} {fl fh : FnO} {pos p1 p2 p3 : Pos} {k : Nat}
theorem de_slrev (ha : DE m T K X a ta fa) (hl : DO T K X lo tl fl) (hh : DO T K X hi th fh) (hk : X.K = K := by rfl) : DE m T K X (.Subscript a (.Slice lo hi (some (.UnaryOp .USub (.Constant (.int 1) k p1) p2)) p3) pos) (tSl (rSr K) ta tl th) (fSlr fa fl fh) := by
  subst hk
  exact ⟨pe_slrev ha.pe hl.po hh.po, fun W ρ σ H d Q g r e q => by
  obtain ⟨x, ea, e⟩ := obind e
  obtain ⟨i, el, e⟩ := obind e
  obtain ⟨j, eh, e⟩ := obind e
  refine ha.sd W ρ σ H x _ g r ea fun v H1 e1 g1 r1 => ?_
  refine hl.sd W ρ σ H1 i _ g1 (r.ext e1) el fun H2 e2 g2 => ?_
  refine hh.sd W ρ σ H2 j _ g2 (r.ext (e1.trans e2)) eh fun H3 e3 g3 => ?_
  have r3 := r1.ext (e2.trans e3)
  have e13 := (e1.trans e2).trans e3
  cases r3 with
  | @lst p vs ds h1 n1 ra =>
    cases i with
    | some i => cases e
    | none =>
      cases j with
      | some j => cases e
      | none =>
        cases e
        refine .inr ⟨p, vs, rfl, .of h1, rfl, rfl, fun l hl => ?_⟩
        exact q _ _ (e13.trans (Ext.new hl)) (g3.newL hl (by rw [List.length_reverse]; exact g3.1 p vs (.inl h1))) (.lst upd_same (fun z => by obtain ⟨zs, hz⟩ := (r.ext e13).wo z; rw [hl] at hz; cases hz) (ra.rev.ext (Ext.new hl)))
  | @tup p vs ds h1 ra =>
    cases e
    refine .inl ⟨p, vs, rfl, .of h1, fun l hl => ?_⟩
    exact q _ _ (e13.trans (Ext.new hl)) (g3.newT hl (Nat.le_trans (revCut_length vs i j) (g3.1 p vs (.inr h1)))) (.tup upd_same ((ra.revCut i j).ext (Ext.new hl)))
  | _ => cases e⟩
end
@[simp] theorem fSlr_a (a : Fn) (lo hi : FnO) (ρ : Rho) : fSlr a lo hi ρ = (a ρ).bind fun d => (lo ρ).bind fun i => (hi ρ).bind fun j => gSlr d i j := rfl
theorem revCut_all {α : Type} (xs : List α) : revCut xs none none = xs.reverse := by
  have hp : rvP xs.length none none = ((xs.length : Int) - 1, xs.length) := by
    unfold rvP Builtin.Slice.sliceAdjust Builtin.Slice.slicePlaces
    simp
    split <;> omega
  unfold revCut
  rw [hp]
  have key : ∀ n, n ≤ xs.length → ((List.range n).filterMap fun (m : Nat) => xs[(((xs.length : Int) - 1) + (m : Int) * (-1)).toNat]?) = (xs.drop (xs.length - n)).reverse := by
    intro n
    induction n with
    | zero => intro _; simp
    | succ n ih =>
      intro hn
      rw [List.range_succ, List.filterMap_append, ih (by omega)]
      have hi : (((xs.length : Int) - 1) + (n : Int) * (-1)).toNat = xs.length - (n + 1) := by omega
      have hlt : xs.length - (n + 1) < xs.length := by omega
      have hd : xs.drop (xs.length - (n + 1)) = xs[xs.length - (n + 1)] :: xs.drop (xs.length - n) := by
        rw [List.drop_eq_getElem_cons hlt, show xs.length - (n + 1) + 1 = xs.length - n by omega]
      rw [hd, List.reverse_cons]
      rw [List.filterMap_cons, hi, List.getElem?_eq_getElem hlt]
      rfl
  have := key xs.length (Nat.le_refl _)
  rw [Nat.sub_self, List.drop_zero] at this
  exact this
@[simp] theorem gSlr_t (xs : List Dt) : gSlr (.tup xs) none none = some (.tup xs.reverse) := by
  show some (Dt.tup (revCut xs none none)) = _
  rw [revCut_all]
@[simp] theorem gSlr_l (xs : List Dt) : gSlr (.lst xs) none none = some (.lst xs.reverse) := rfl
end EL
end

section
set_option Elab.async false
set_option maxRecDepth 100000
set_option maxHeartbeats 4000000
/-! EL: min and max of data. -/
namespace EL
open PySem PySem.Spec PySem.W PyProof.Rows L2 HT
section
variable {X : Cx}
/-- the best of alike data, lists and tuples -/
def rBest (K : PySem.W.Frag) (best : PyData → List PyData → PyData) : List V → Hp → VK → Prop := fun vs H Q => ∃ (a : Addr) (xs : List V) (d : PyData) (ds : List PyData), vs = [V.ref a] ∧ (SqL K H a xs ∨ SqT K H a xs) ∧ DpAll K H xs (d :: ds) ∧ AlikeAll (d :: ds) ∧ PyData.depthAll (d :: ds) ≤ 60 ∧
  ∀ (i : Nat) (v : V), xs[i]? = some v → (d :: ds)[i]? = some (best d ds) → Q v H
theorem reads_at {h h' : Heap} {us : List Value} {vs : List V} {xs : List PyData} {as bs : List Addr} {i : Nat} {u : Value} {e : PyData} (hk : ∀ b o, h.get? b = some o → h'.get? b = some o) (rv : Vals vs us) (rs : ReadsAll h us xs as) (hu : us[i]? = some u) (he : Reads h' u e bs) : ∃ v, vs[i]? = some v ∧ RelV v u ∧ xs[i]? = some e := by
  obtain ⟨cs, r1, h1, h2, h3⟩ := readsAll_at rs i u hu
  have e1 := (reads_det (fun b o q _ => hk b o q) r1 he).1
  rcases EL.Vals.at? rv i with ⟨_, h4⟩ | ⟨v, u', h4, h5, h6⟩
  · rw [hu] at h4; cases h4
  · rw [hu] at h5
    cases h5
    refine ⟨v, h4, h6, ?_⟩
    rw [e1, List.getD_eq_getElem?_getD, List.getElem?_eq_getElem h1]
    rfl
theorem cr_minD (hc : X.calm = true) (hu : X.A.units + 64 < cLine) : CallR X (.builtin "min") (rBest X.K minD) := by
  intro pins s σ H vs us Q I r h
  obtain ⟨a, xs, d, ds, rfl, hs, hd, ha, hdep, q⟩ := h
  rw [Vals.ref1 r]
  rcases hs with hs | hs
  · obtain ⟨its, rv, hl, _⟩ := I.list hs
    obtain ⟨as, rs⟩ := Dp.readsAll I (d :: ds) xs its hd rv
    refine min_list_data (I.ok.hd hc) hl.isList rs ha (by omega) fun i v h' tk bs hv hr hk => ?_
    obtain ⟨v', h4, h5, h6⟩ := reads_at hk rv rs (by simpa using hv) hr
    exact ⟨v', H, I.kept hk, h5, q i v' h4 h6⟩
  · obtain ⟨its, rv, hl, _⟩ := I.tuple hs
    obtain ⟨as, rs⟩ := Dp.readsAll I (d :: ds) xs its hd rv
    refine min_tuple_data (I.ok.hd hc) hl rs ha (by omega) fun i v h' tk bs hv hr hk => ?_
    obtain ⟨v', h4, h5, h6⟩ := reads_at hk rv rs (by simpa using hv) hr
    exact ⟨v', H, I.kept hk, h5, q i v' h4 h6⟩
theorem cr_maxD (hc : X.calm = true) (hu : X.A.units + 64 < cLine) : CallR X (.builtin "max") (rBest X.K maxD) := by
  intro pins s σ H vs us Q I r h
  obtain ⟨a, xs, d, ds, rfl, hs, hd, ha, hdep, q⟩ := h
  rw [Vals.ref1 r]
  rcases hs with hs | hs
  · obtain ⟨its, rv, hl, _⟩ := I.list hs
    obtain ⟨as, rs⟩ := Dp.readsAll I (d :: ds) xs its hd rv
    refine max_list_data (I.ok.hd hc) hl.isList rs ha (by omega) fun i v h' tk bs hv hr hk => ?_
    obtain ⟨v', h4, h5, h6⟩ := reads_at hk rv rs (by simpa using hv) hr
    exact ⟨v', H, I.kept hk, h5, q i v' h4 h6⟩
  · obtain ⟨its, rv, hl, _⟩ := I.tuple hs
    obtain ⟨as, rs⟩ := Dp.readsAll I (d :: ds) xs its hd rv
    refine max_tuple_data (I.ok.hd hc) hl rs ha (by omega) fun i v h' tk bs hv hr hk => ?_
    obtain ⟨v', h4, h5, h6⟩ := reads_at hk rv rs (by simpa using hv) hr
    exact ⟨v', H, I.kept hk, h5, q i v' h4 h6⟩
end
theorem dict_bad : SeqAt.shaped (.dict []) = false := by decide
mutual
theorem py_inj : ∀ d e : Dt, d.py = e.py → d.py.canLay0 = true → d = e
  | .non, e, h, _ => by cases e <;> simp [Dt.py] at h ⊢
  | .bl b, e, h, _ => by cases e <;> simp [Dt.py] at h ⊢; exact h
  | .int i, e, h, _ => by cases e <;> simp [Dt.py] at h ⊢; exact h
  | .str x, e, h, _ => by cases e <;> simp [Dt.py] at h ⊢; exact h
  | .tup xs, e, h, k => by
    cases e <;> simp [Dt.py] at h ⊢
    exact pyA_inj xs _ h (by simpa [Dt.py, PyData.canLay0] using k)
  | .lst xs, e, h, k => by
    cases e <;> simp [Dt.py] at h ⊢
    exact pyA_inj xs _ h (by simpa [Dt.py, PyData.canLay0] using k)
  | .scr ns, e, h, k => by simp [Dt.py, PyData.canLay0] at k
  | .dcK _ _, e, h, k => by simp [Dt.py, PyData.canLay0] at k
  | .dcT _ _, e, h, k => by simp [Dt.py, PyData.canLay0] at k
theorem pyA_inj : ∀ ds es : List Dt, Dt.pyA ds = Dt.pyA es → PyData.canLayAll0 (Dt.pyA ds) = true → ds = es
  | [], es, h, _ => by cases es <;> simp [Dt.pyA] at h ⊢
  | d :: ds, es, h, k => by
    cases es with
    | nil => simp [Dt.pyA] at h
    | cons e es =>
      simp only [Dt.pyA, List.cons.injEq] at h
      rw [Dt.pyA] at k
      have k' := Bool.and_eq_true_iff.mp (show (_ && _) = true from by simpa [PyData.canLayAll0] using k)
      rw [py_inj d e h.1 k'.1, pyA_inj ds es h.2 k'.2]
end
/-- the best, by a comparison f -/
def bestD (f : PyData → PyData → Bool) (x : Dt) (xs : List Dt) : Dt := xs.foldl (fun a y => if f y.py a.py then y else a) x
theorem bestD_py (f : PyData → PyData → Bool) : ∀ (xs : List Dt) (x : Dt), (bestD f x xs).py = (Dt.pyA xs).foldl (fun a y => if f y a then y else a) x.py
  | [], x => by simp [bestD, Dt.pyA]
  | y :: xs, x => by
    rw [Dt.pyA, List.foldl_cons]
    show (bestD f (if f y.py x.py then y else x) xs).py = _
    rw [bestD_py f xs]
    congr 1
    split <;> rfl
noncomputable def gBest (f : PyData → PyData → Bool) : List Dt → Option Dt
  | [.lst (x :: xs)] => if cdc (AlikeAll (Dt.pyA (x :: xs)) ∧ PyData.canLayAll0 (Dt.pyA (x :: xs)) = true ∧ PyData.depthAll (Dt.pyA (x :: xs)) ≤ 60) = true then some (bestD f x xs) else none
  | [.tup (x :: xs)] => if cdc (AlikeAll (Dt.pyA (x :: xs)) ∧ PyData.canLayAll0 (Dt.pyA (x :: xs)) = true ∧ PyData.depthAll (Dt.pyA (x :: xs)) ≤ 60) = true then some (bestD f x xs) else none
  | _ => none
section
variable {T : List Addr} {X : Cx} {K : PySem.W.Frag}
theorem pyA_at : ∀ (ds : List Dt) (i : Nat) (p : PyData), (Dt.pyA ds)[i]? = some p → ∃ d, ds[i]? = some d ∧ d.py = p
  | [], i, p, h => by simp [Dt.pyA] at h
  | d :: ds, 0, p, h => by rw [Dt.pyA] at h; exact ⟨d, rfl, by simpa using h⟩
  | d :: ds, i + 1, p, h => by rw [Dt.pyA] at h; simpa using pyA_at ds i p (by simpa using h)
theorem best_call (f : PyData → PyData → Bool) : CallD T K (rBest K fun x xs => xs.foldl (fun a y => if f y a then y else a) x) (gBest f) := fun W H vs ds c Q g wl r h q => by
  have go : ∀ (a : Addr) (zs : List V) (x : Dt) (xs : List Dt), (SqL K H a zs ∨ SqT K H a zs) → RepA K H W zs (x :: xs) → vs = [V.ref a] →
      (if cdc (AlikeAll (Dt.pyA (x :: xs)) ∧ PyData.canLayAll0 (Dt.pyA (x :: xs)) = true ∧ PyData.depthAll (Dt.pyA (x :: xs)) ≤ 60) = true then some (bestD f x xs) else none) = some c → rBest K (fun x xs => xs.foldl (fun a y => if f y a then y else a) x) vs H Q := by
    intro a zs x xs hs ra hv h
    by_cases hz : cdc (AlikeAll (Dt.pyA (x :: xs)) ∧ PyData.canLayAll0 (Dt.pyA (x :: xs)) = true ∧ PyData.depthAll (Dt.pyA (x :: xs)) ≤ 60) = true
    · rw [if_pos hz] at h
      cases h
      obtain ⟨h1, h2, h3⟩ := cdc_p hz
      have hdp := RepA.dp ra h2
      have e1 : Dt.pyA (x :: xs) = x.py :: Dt.pyA xs := by rw [Dt.pyA]
      refine ⟨a, zs, x.py, Dt.pyA xs, hv, hs, e1 ▸ hdp, e1 ▸ h1, e1 ▸ h3, fun i v hi hp => ?_⟩
      simp only [] at hp
      rw [← bestD_py, ← e1] at hp
      obtain ⟨d, hd, hdp⟩ := pyA_at (x :: xs) i _ hp
      rcases EL.RepA.at? ra i with ⟨h4, _⟩ | ⟨v', d', h4, h5, h6⟩
      · rw [hi] at h4; cases h4
      · rw [hi] at h4
        cases h4
        rw [hd] at h5
        cases h5
        have hlay : d.py.canLay0 = true := by
          have : ∀ (ds : List Dt) (i : Nat) (d : Dt), PyData.canLayAll0 (Dt.pyA ds) = true → ds[i]? = some d → d.py.canLay0 = true := by
            intro ds
            induction ds with
            | nil => intro i d _ h; simp at h
            | cons e ds ih =>
              intro i d hl h
              rw [Dt.pyA] at hl
              have k' := Bool.and_eq_true_iff.mp (show (_ && _) = true from by simpa [PyData.canLayAll0] using hl)
              cases i with
              | zero => simp at h; rw [← h]; exact k'.1
              | succ i => exact ih i d k'.2 (by simpa using h)
          exact this _ _ _ h2 hd
        rw [← py_inj d _ hdp hlay] at q
        exact q v H (Ext.refl H) g h6
    · rw [if_neg hz] at h; cases h
  match ds, h with
  | x0 :: _ :: _, h =>
    cases x0 with
    | lst l => cases l <;> cases h
    | tup l => cases l <;> cases h
    | _ => cases h
  | [d], h =>
    obtain ⟨v, rfl, r1⟩ := repA1 r
    cases r1 with
    | @lst p zs l h1 n1 ra =>
      cases l with
      | nil => cases h
      | cons x xs => exact go p zs x xs (.inl (.of h1)) ra rfl h
    | @tup p zs l h1 ra =>
      cases l with
      | nil => cases h
      | cons x xs => exact go p zs x xs (.inr (.of h1)) ra rfl h
    | _ => cases h
noncomputable abbrev gMinD : List Dt → Option Dt := gBest dataLt
noncomputable abbrev gMaxD : List Dt → Option Dt := gBest fun y a => dataLt a y
theorem kMinD (hk : X.K = K) (hc : X.calm = true) (hu : X.A.units + 64 < cLine) : CallR X (.builtin "min") (rBest K minD) ∧ CallD T K (rBest K minD) gMinD := by subst hk; exact ⟨cr_minD hc hu, best_call dataLt⟩
theorem kMaxD (hk : X.K = K) (hc : X.calm = true) (hu : X.A.units + 64 < cLine) : CallR X (.builtin "max") (rBest K maxD) ∧ CallD T K (rBest K maxD) gMaxD := by subst hk; exact ⟨cr_maxD hc hu, best_call fun y a => dataLt a y⟩
end
/-- min of ints -/
theorem alike_ints (x : Int) (xs : List Int) : AlikeAll (Dt.pyA ((x :: xs).map Dt.int)) := by
  rw [pyA_map]
  constructor
  · intro a ha b hb
    simp at ha hb
    rcases ha with rfl | ⟨_, _, rfl⟩ <;> rcases hb with rfl | ⟨_, _, rfl⟩ <;> simp [Dt.py, alike]
  · intro a ha
    simp at ha
    rcases ha with rfl | ⟨_, _, rfl⟩ <;> simp [Dt.py]
end EL
end

section
set_option Elab.async false
set_option maxRecDepth 100000
set_option maxHeartbeats 4000000
/-! EL: range with a step. -/
namespace EL
open PySem PySem.Spec PyProof.Rows L2
section
variable {T : List Addr} {X : Cx} {K : PySem.W.Frag} {k : Bool} {tg : Expr} {p pos : Pos} {a b c : Expr} {tr : TA} {fr : FnL}
def stD (lo st : Int) (n : Nat) : List Dt := (List.range n).map fun (i : Nat) => .int (lo + (i : Int) * st)
noncomputable def gRng3 : List Dt → Option (List Dt)
  | [.int i, .int j, .int st] => if cdc (RgC i j st (Builtin.Range.rangeSize i j st).toNat) = true then some (stD i st (Builtin.Range.rangeSize i j st).toNat) else none
  | _ => none
theorem jok_rngC {H1 : Hp} {O W : Addr → Prop} (lo st : Int) (n : Nat) : JOk O T K W (Itc lo st n) H1 (stD lo st n) := fun Hc kp g => by
  unfold stD
  refine ⟨fun i d hd => ?_, fun i hi' => ?_⟩
  · rw [List.getElem?_map] at hd
    obtain ⟨j, hj, rfl⟩ := Option.map_eq_some_iff.mp hd
    obtain ⟨hj1, hj2⟩ := List.getElem?_eq_some_iff.mp hj
    rw [List.getElem_range] at hj2
    subst hj2
    rw [List.length_range] at hj1
    refine ⟨hj1, fun x H' y => ?_⟩
    obtain ⟨rfl, rfl⟩ := y
    exact ⟨Ext.refl _, g, .int _⟩
  · show n ≤ i
    simpa using hi'
theorem di_range3 (ha : DA false T K X [a, b, c] tr fr) (hm : X.mg "range" = none) (hg : Gl X "range" := by rfl) (hs : starEach [a, b, c] X.env = (false, eval a X.env) :: starEach [b, c] X.env := by rfl) (hpl : (backTo pos (starEach [b, c] X.env)).any (·.1) = false := by rfl) :
    DI k T K X tg (.Call (.Name "range" p) [a, b, c] [] pos) (iRng3 tr) (fNL gRng3 fr) :=
  ⟨pi_range3 hg hm ha.pa hs hpl, fun W ρ σ H ds R g rp e' q => by
  obtain ⟨xs, ea, e'⟩ := obind e'
  refine ha.sd W ρ σ H xs _ g rp ea fun vs H1 e1 g1 r1 => ?_
  cases r1 with
  | nil => cases e'
  | @cons v vs d ds r2 r1 =>
    cases r2 with
    | int i =>
      cases r1 with
      | nil => cases e'
      | @cons v vs d ds r3 r1 =>
        cases r3 with
        | int j =>
          cases r1 with
          | nil => cases e'
          | @cons v vs d ds r4 r1 =>
            cases r4 with
            | int st =>
              cases r1 with
              | nil =>
                dsimp only [gRng3] at e'
                by_cases hz : cdc (RgC i j st (Builtin.Range.rangeSize i j st).toNat) = true
                · rw [if_pos hz] at e'
                  cases e'
                  exact ⟨i, j, st, _, rfl, cdc_p hz, q _ H1 e1 g1 (jok_rngC i st _)⟩
                · rw [if_neg hz] at e'; cases e'
              | cons _ _ => cases e'
            | _ => cases e'
        | _ => cases e'
    | _ => cases e'⟩
end
/-- the ints from lo on by st, n of them -/
def stI (lo st : Int) (n : Nat) : List Int := (List.range n).map fun (i : Nat) => lo + (i : Int) * st
theorem stD_eq (lo st : Int) (n : Nat) : stD lo st n = (stI lo st n).map Dt.int := by unfold stD stI; rw [List.map_map]; rfl
end EL
end

section
set_option Elab.async false
set_option maxRecDepth 100000
set_option maxHeartbeats 4000000
namespace EL
open PySem PySem.Spec PyProof.Rows L2
section
variable {T : List Addr} {K : PySem.W.Frag} {X : Cx} {i : Nat} {x : Str} {p pos apos pos2 : Pos} {e1 e2 : Expr} {t1 t2 : TE} {g1 g2 : Fn}
theorem ds_insert (h1 : DE true T K X e1 t1 g1) (h2 : DE true T K X e2 t2 g2)
    (hN : X.N[i]? = some x := by rfl) (hv : Vis X.env.scope x := by first | exact Or.inl rfl | exact Or.inr (Or.inl rfl) | exact Or.inr (Or.inr rfl)) (hd : (x == ("__debug__" : Str)) = false := by decide) (hcd : (x == ("__classdict__" : Str)) = false := by decide)
    (hbase : attributeBase (.Name x p) "insert" X.env (eval (.Name x p) X.env) = eval (.Name x p) X.env := by rfl)
    (hfew : ((backTo pos (starEach [e1, e2] X.env)).all (fun x => !x.1) && (backToKw pos (keywordEach [] X.env)).all (fun x => x.1.isSome) && decide ([e1, e2].length + ([] : List Keyword).length + (if ([] : List Keyword).isEmpty then 0 else 1) < 30)) = true := by rfl)
    (hline : (apos.endLine == pos.line) = true := by rfl) (hs : starEach [e1, e2] X.env = (false, eval e1 X.env) :: starEach [e2] X.env := by rfl) (hs2 : starEach [e2] X.env = (false, eval e2 X.env) :: starEach [] X.env := by rfl) (hplain : (backTo pos (starEach [e2] X.env)).any (·.1) = false := by rfl)
    (hsw : swapsWith (.Call (.Attribute (.Name x p) "insert" apos) [e1, e2] [] pos) none pos2.line X.env = pure false := by rfl) (hk : X.K = K := by rfl) :
    DS T K X (.Expr (.Call (.Attribute (.Name x p) "insert" apos) [e1, e2] [] pos) pos2) (tDrop (tBM K "list" rInsert (tVar i) (tCons t1 (tCons t2 tNil)))) (sMut i gInsert (fAc g1 (fAc g2 fA0))) [] :=
  ds_meth (i := i) PySem.F.plainAttrs_list PySem.F.slot_list_insert PySem.F.type_list_insert mt_insert uInsert (da_cons h1 (da_cons h2 da_nil hs2) hs) hN hv hd hcd hbase hfew hline hs hplain hsw hk
end
end EL
end

section
set_option Elab.async false
set_option maxRecDepth 100000
set_option maxHeartbeats 4000000
/-! EL: sorted of a tuple of ints. -/
namespace EL
open PySem PySem.Spec PySem.Calls PyProof.Rows L2 SrtO
section
variable {prog : Program} {w : World} {A : Around} {E : Value → Shared → Prop} {s : Shared}
theorem sorted_tup {l : Addr} {vs : List Value} {ltv : Value → Value → Bool} {Q : Value → Shared → Prop} (O : Swo ltv) (hl : IsTup s.heap l vs.toArray) (hz : vs.length ≤ sizeLine)
    (hS : 2 ≤ vs.length → ∀ (h₁ : Heap) (a : Addr), h₁.get? a = some (seqObj "list" vs.toArray 0) → (∀ b o, s.heap.get? b = some o → b ≠ a ∧ h₁.get? b = some o) → SortableO prog w A.in1.in1 { s with heap := h₁ } a vs ltv)
    (h : ∀ (h' : Heap) (out : List Value), (∀ b o, s.heap.get? b = some o → h'.get? b = some o) → Srtd ltv out → Stb ltv out vs → Q (.ref h'.objs.size) { s with heap := sortedHeap (h'.push (seqObj "list" vs.toArray 0)) h'.objs.size vs out.toArray }) :
    wpAny (model prog w) A (call (.builtin "sorted") [.ref l]) Q E s := by
  obtain ⟨o, ho, hc, n, hd⟩ := id hl
  refine Calls.call_function_entry kind_sorted plain_sorted entry_sorted (args_sorted1 _) ?_
  unfold Builtin.«sorted»
  refine wpAny_bind (m := checkCount "sorted" 1 1 _) (wpAny_pure ?_)
  refine wpAny_bind (wpAny_collect_seq l (.inr rfl) ho hc hd (fun h' hk => ?_) (by rw [List.size_toArray]; exact hz))
  refine wpAny_bind (wpAny_newList ?_ hz)
  have hoL : (h'.push (seqObj "list" vs.toArray 0)).get? h'.objs.size = some (seqObj "list" vs.toArray 0) := Heap.get?_push_size _ rfl
  have keep : ∀ b o, s.heap.get? b = some o → b ≠ h'.objs.size ∧ (h'.push (seqObj "list" vs.toArray 0)).get? b = some o := fun b o q =>
    ⟨Nat.ne_of_lt (Heap.lt_size (hk b o q)), Heap.get?_push_of_some _ (hk b o q)⟩
  show wpAny _ _ _ _ _ { s with heap := h'.push (seqObj "list" vs.toArray 0) }
  refine wpAny_bind (wpAny_holding (wpAny_call_entry slot_list_sort ⟨_, hoL, rfl⟩ entry_list_sort (list_sort_ord O hoL hz (fun h2 => hS h2 _ _ hoL keep) fun out hs hb => ⟨_, rfl, ?_⟩) (args_list_sort _)))
  exact wpAny_pure ⟨_, rfl, h h' out hk hs hb⟩
end
def rSortedT (K : PySem.W.Frag) : List V → Hp → VK → Prop := fun vs H Q => ∃ (a : Addr) (ns : List Int), vs = [V.ref a] ∧ SqT K H a (ns.map V.int) ∧
  ∀ (ns' : List Int) (p : Addr), ns'.Perm ns → ns'.Pairwise (· ≤ ·) → H p = none → Q (.ref p) (upd H p (.lst (ns'.map V.int)))
section
variable {X : Cx}
theorem cr_sortedT : CallR X (.builtin "sorted") (rSortedT X.K) := by
  intro pins s σ H vs us Q I r h
  obtain ⟨a, ns, rfl, hs, q⟩ := h
  obtain ⟨its, rv, hl, hz⟩ := I.tuple hs
  rw [Vals.ref1 r]
  have hi := rv.ints
  refine sorted_tup SrtO.swo_int hl (by rw [← rv.length]; exact hz) (fun h2 h₁ a' _ _ => SrtO.ints_sortable hi h2) fun h' out hk h1 h2 => ?_
  obtain ⟨k1, k2, k3⟩ := SrtO.ints_out hi h1 h2
  have I' := I.kept (t' := s.toks) hk
  have hob : (h'.push (seqObj "list" its.toArray 0)).get? h'.objs.size = some (seqObj "list" its.toArray 0) := Heap.get?_push_size _ rfl
  obtain ⟨ep, he'⟩ := PyProof.Rows.sortedHeap_at (vs := its) (out := out.toArray) hob
  have hlen : ((out.map SrtO.iv).map V.int).length ≤ sizeLine := by
    rw [List.length_map, k2.length_eq]
    rw [List.length_map] at hz
    exact hz
  refine ⟨.ref _, upd H h'.objs.size (.lst ((out.map SrtO.iv).map V.int)), I'.laid (t' := s.toks) (fun b o e => ?_) (Nat.le_refl _) ⟨hlen, out, ep, vals_of_ints k1, he'⟩, rfl, q _ _ k2 k3 (I'.hok.fresh (Nat.le_refl _))⟩
  have hlt := Heap.lt_size e
  rw [PyProof.Rows.sortedHeap_old (Nat.ne_of_lt hlt) (Heap.lt_size (Heap.get?_push_of_some _ e))]
  exact Heap.get?_push_of_some _ e
end
def rSortedA (K : PySem.W.Frag) : List V → Hp → VK → Prop := fun vs H Q => rSortedI K vs H Q ∨ rSortedT K vs H Q
theorem CallR.or' {X : Cx} {f : Value} {r r' : List V → Hp → VK → Prop} (h : CallR X f r) (h' : CallR X f r') : CallR X f (fun vs H Q => r vs H Q ∨ r' vs H Q) := by
  intro pins s σ H vs us Q I rv q
  rcases q with q | q
  · exact h pins s σ H vs us Q I rv q
  · exact h' pins s σ H vs us Q I rv q
def gSortedA : List Dt → Option (List Dt)
  | [.lst xs] => (ints? xs).bind fun ns => some ((sortI ns).map Dt.int)
  | [.tup xs] => (ints? xs).bind fun ns => some ((sortI ns).map Dt.int)
  | _ => none
theorem gSortedA_free {ds c : List Dt} (h : gSortedA ds = some c) : Dt.freeA c = true := by
  have key : ∀ ms : List Int, Dt.freeA (ms.map Dt.int) = true := by
    intro ms
    induction ms with
    | nil => rfl
    | cons m ms ih => show (true && Dt.freeA (ms.map Dt.int)) = true; rw [ih]; rfl
  unfold gSortedA at h
  split at h
  · obtain ⟨ns, _, h2⟩ := obind h
    cases h2
    exact key _
  · obtain ⟨ns, _, h2⟩ := obind h
    cases h2
    exact key _
  · cases h
section
variable {T : List Addr} {X : Cx} {K : PySem.W.Frag} {e : Expr} {tr : TA} {fr : FnL} {pos : Pos}
theorem kSortedA (hk : X.K = K) : CallR X (.builtin "sorted") (rSortedA K) ∧ CallF T K (rSortedA K) gSortedA := by subst hk; exact ⟨CallR.or' cr_sortedI cr_sortedT, fun W H vs ds c Q g wl r h q => by
  match ds, h with
  | x0 :: _ :: _, h => cases x0 <;> cases h
  | [.lst l], h => exact .inl ((kSortedL (X := X) (T := T) rfl).2 W H vs [.lst l] c Q g wl r h q)
  | [.tup l], h =>
    obtain ⟨v, rfl, r1⟩ := repA1 r
    cases r1 with
    | tup h1 ra =>
      obtain ⟨ns, h2, h3⟩ := obind h
      cases h3
      have hd := ints?_some h2
      rw [hd] at ra
      have hz := g.1 _ _ (.inr h1)
      rw [ra.ints] at h1 hz
      refine .inr ⟨_, ns, rfl, .of h1, fun ms p hp hs hn => ?_⟩
      have e := sortI_one hp hs
      subst e
      refine q p _ _ (Ext.new hn) (g.newL hn ?_) hn upd_same (repA_ints _)
      rw [List.length_map, (sortI_perm ns).length_eq]
      rw [List.length_map] at hz
      exact hz⟩
theorem df_sortedA {q : Pos} (hm : X.mg "sorted" = none) (ha : DA false T K X [e] tr fr) (hg : Gl X "sorted" := by rfl) (hv : bootBuiltins "sorted" = some (.builtin "sorted") := by decide +kernel)
    (he : starEach [e] X.env = (false, eval e X.env) :: starEach [] X.env := by rfl) (hpl : (backTo pos (starEach [] X.env)).any (·.1) = false := by rfl) (hk : X.K = K := by rfl) :
    DF T K X (.Call (.Name "sorted" q) [e] [] pos) (tCB (rSortedA K) tr) (fNL gSortedA fr) := by subst hk; exact ⟨pe_callB (kSortedA (T := T) rfl).1 hg hm hv ha.pa (by decide) (by decide) he hpl, fun W ρ σ H d Q gd rp e q => by
  obtain ⟨ds, ea, e⟩ := obind e
  refine ha.sd W ρ σ H ds _ gd rp ea fun vs H1 e1 g1 r1 => ?_
  refine (kSortedA (T := T) rfl).2 (wOf false W ρ σ) H1 vs ds d Q g1 (fun p z => (rp.ext e1).wo z) r1 e fun p us H2 e2 g2 hp hp2 r2 => ?_
  exact q p us H2 (e1.trans e2) g2 (e1.there p hp) hp2 (r2.free (gSortedA_free e))⟩
end
@[simp] theorem gSortedA_l (l : List Int) : gSortedA [.lst (l.map Dt.int)] = some ((sortI l).map Dt.int) := by
  show ((ints? (l.map Dt.int)).bind fun ns => some ((sortI ns).map Dt.int)) = _
  rw [ints?_map]; rfl
@[simp] theorem gSortedA_t (l : List Int) : gSortedA [.tup (l.map Dt.int)] = some ((sortI l).map Dt.int) := by
  show ((ints? (l.map Dt.int)).bind fun ns => some ((sortI ns).map Dt.int)) = _
  rw [ints?_map]; rfl
end EL
end

section
set_option Elab.async false
set_option maxRecDepth 100000
set_option maxHeartbeats 4000000
/-! EL: sorted(set(xs)), ints. -/
namespace EL
open PySem PySem.Spec PyProof.Rows L2
section
variable {P : Program} {w : World} {A : Around} {E : Value → Shared → Prop} {s : Shared}
theorem set_listI {l : Addr} {items : Array Value} (ns : List Int) {Q : Value → Shared → Prop} (hh : A.handled = none) (hl : s.heap.IsList l items) (hit : IntsAre items.toList ns) (hb : ns.length + 1 < scanBound)
    (h : ∀ (h' : Heap) (tk c : Nat), SetR w h' s.heap.objs.size (fun j => decide (j ∈ ns)) c → c ≤ ns.length → (∀ b o, s.heap.get? b = some o → h'.get? b = some o) → Q (.ref s.heap.objs.size) { s with heap := h', toks := tk }) :
    wpAny (model P w) A (call (.type "set") [.ref l]) Q E s := by
  have hisz : items.size = ns.length := by
    have q := IntsAre.length hit
    rw [Array.length_toList] at q
    exact q
  obtain ⟨c, tl, hmro⟩ := F.called_set.mro
  have hmade := F.called_set.made
  have hsub := F.called_set.sub
  refine wpAny_call (codeAny_of_tree ?_)
  show wpAny _ _ (callAny (.type "set") _) _ _ _
  refine wpAny_pure ⟨Code.quiet_builtin _ (by decide +kernel), codeAny_builtin F.entry_type_call ?_⟩
  rw [Around.under_plain (weight_type_call_type "set" [.ref l] []) rfl]
  have h1 := F.called_set.notType
  have h2 := F.called_set.canCreate
  have hct := F.typeCall_set_1 (.ref l)
  repeat (any_goals (first | assumption | wp_step))

  refine codeAny_mono (code_set_led1 (.ref l) (E := E) (Q₁ := fun obj s₁ => obj = .ref s.heap.objs.size ∧ s₁ = { s with heap := s.heap.push { cls := .type "set", dict := none, data := .set #[] 0 (.fresh 0 0 (!w.params.followText "set-order")) } }) ⟨rfl, rfl⟩) fun r s₁ hr => ?_
  cases r with
  | error e => exact hr
  | ok fl =>
    cases fl with
    | ret obj =>
      obtain ⟨rfl, rfl⟩ := hr
      have hS : (s.heap.push { cls := .type "set", dict := none, data := .set #[] 0 (.fresh 0 0 (!w.params.followText "set-order")) }).get? s.heap.objs.size = some { cls := .type "set", dict := none, data := .set #[] 0 (.fresh 0 0 (!w.params.followText "set-order")) } := Heap.get?_push_size _ rfl
      have hT : Shared.TypeIs { s with heap := s.heap.push { cls := .type "set", dict := none, data := .set #[] 0 (.fresh 0 0 (!w.params.followText "set-order")) } } (.ref s.heap.objs.size) "set" := ⟨_, hS, rfl⟩
      have hli := F.called_set.init.lookup
      have hbi := F.called_set.init.bind (.ref s.heap.objs.size)
      repeat (any_goals (first | assumption | wp_step))

      refine codeAny_mono (codeAny_call_builtin (R := wants (fun r s₂ => r = .none ∧ ∃ h' tk c, s₂ = { s with heap := h', toks := tk } ∧ SetR w h' s.heap.objs.size (fun j => decide (j ∈ ns)) c ∧ c ≤ ns.length ∧
          (∀ b o, s.heap.get? b = some o → h'.get? b = some o)) E) F.called_set.init.plain F.entry_set_init (check_set_init_1 hT ?_)) fun r₂ s₂ hr₂ => ?_
      · obtain ⟨ol, hol, hcl, nl, hdl⟩ := hl
        obtain ⟨ocls, odict, odata, oslots⟩ := ol
        simp only at hcl hdl
        subst hcl; subst hdl
        have hol' : (s.heap.push { cls := .type "set", dict := none, data := .set #[] 0 (.fresh 0 0 (!w.params.followText "set-order")) }).get? l = some { cls := .type "list", dict := odict, data := .seq items nl, slots := oslots } := Heap.get?_push_of_some _ hol
        have hsls := F.sub_list_set
        have hslf := F.sub_list_frozenset
        have hne : (Value.type "list" == Value.type "dict") = false := by decide
        have hl1 : (s.heap.push { cls := .type "set", dict := none, data := .set #[] 0 (.fresh 0 0 (!w.params.followText "set-order")) }).IsList l items := ⟨_, hol', rfl, nl, rfl⟩
        unfold Builtin.«set.__init__» noKeywords Builtin.Frozenset.updateFrom
        generalize hPI : pyIter = PI
        wp_walk
        subst hPI

        refine wpAny_pyIter_list hl1 ?_
        refine wpAny_bind (wpAny_runValue ?_)
        have hlS : l < s.heap.objs.size := Heap.lt_size hol
        have hh3 : A.in1.in1.in1.handled = none := by simp [hh]
        have hz1 : (s.heap.push { cls := .type "set", dict := none, data := .set #[] 0 (.fresh 0 0 (!w.params.followText "set-order")) }).objs.size = s.heap.objs.size + 1 := Heap.size_push ..
        have hneI : l ≠ (s.heap.push { cls := .type "set", dict := none, data := .set #[] 0 (.fresh 0 0 (!w.params.followText "set-order")) }).objs.size := by
          rw [Heap.size_push]; exact Nat.ne_of_lt (Nat.lt_succ_of_lt hlS)
        have hSf : s.heap.objs.size ∉ [(s.heap.push { cls := .type "set", dict := none, data := .set #[] 0 (.fresh 0 0 (!w.params.followText "set-order")) }).objs.size, l] := by
          rw [Heap.size_push]; simp only [List.mem_cons, List.mem_singleton, List.not_mem_nil, or_false, not_or]
          exact ⟨Nat.ne_of_lt (Nat.lt_succ_self _), Nat.ne_of_gt hlS⟩
        have hval : ∀ (i : Nat) (v : Value), items[i]? = some v → ∃ k t, ns[i]? = some k ∧ v = .int k t := fun i v hv => by
          have hi : i < ns.length := by rw [← hisz]; exact (Array.getElem?_eq_some_iff.mp hv).1
          obtain ⟨t, e⟩ := PyProof.Rows.IntsAre.int_at hit i v (by rw [Array.getElem?_toList]; exact hv)
          refine ⟨ns[i], t, List.getElem?_eq_getElem hi, ?_⟩
          rw [e, List.getD_eq_getElem?_getD, List.getElem?_eq_getElem hi] <;> rfl
        refine set_update_ints ((Walks.list hh3 _ l hneI items).toS) s.heap.objs.size
          hSf ns hisz hb hval (items.size - 0) 0 _ (by omega) (Nat.zero_le _)
          ⟨⟨_, Heap.get?_push_size _ rfl, rfl, rfl⟩, (hl1.push _)⟩ ?hS0 ?hR
        case hS0 =>
          have hget : ((s.heap.push { cls := .type "set", dict := none, data := .set #[] 0 (.fresh 0 0 (!w.params.followText "set-order")) }).push { cls := .type "list_iterator", data := .fields #[.ref l, .int 0 0] }).get? s.heap.objs.size
              = some { cls := .type "set", dict := none, data := .set #[] 0 (.fresh 0 0 (!w.params.followText "set-order")) } := Heap.get?_push_of_some _ hS
          exact ⟨0, Nat.le_refl 0, setR_new_at hget⟩
        case hR =>
          intro s' c' hm hc' hS'
          obtain ⟨h', g2, d', tk', os'⟩ := s'
          have eg : g2 = s.gens := hm.gens
          have ed : d' = s.drawn := hm.drawn
          have eo : os' = s.os := hm.os
          subst eg; subst ed; subst eo
          show wpAny _ _ _ _ _ _
          refine wpAny_pure ?_
          show wpAny _ _ (ret Value.none) _ _ _
          rw [hisz] at hc'
          refine wpAny_pure ⟨rfl, h', tk', c', rfl, hS', hc', fun b o e => ?_⟩
          have hb0 : b < s.heap.objs.size := Heap.lt_size e
          have hb1 : b ≠ s.heap.objs.size := Nat.ne_of_lt hb0
          have hb2 : b ≠ (s.heap.push { cls := .type "set", dict := none, data := .set #[] 0 (.fresh 0 0 (!w.params.followText "set-order")) }).objs.size := by
            rw [Heap.size_push]; exact Nat.ne_of_lt (Nat.lt_succ_of_lt hb0)
          exact hm.heap b o (by simp only [List.mem_cons, List.mem_singleton, List.not_mem_nil, or_false, not_or]; exact ⟨hb1, hb2⟩) (Heap.get?_push_of_some _ (Heap.get?_push_of_some _ e))

      · cases r₂ with
        | error e => exact hr₂
        | ok fl₂ =>
          cases fl₂ with
          | ret r =>
            obtain ⟨rfl, h', tk, c', rfl, hS', hc', hk'⟩ := hr₂
            repeat (any_goals (first | assumption | wp_step))
            exact h _ _ _ hS' hc' hk'
          | _ => exact hr₂.elim
    | _ => exact hr.elim

end
/-- each once -/
def onceI : List Int → List Int
  | [] => []
  | x :: xs => if x ∈ xs then onceI xs else x :: onceI xs
theorem mem_onceI : ∀ (xs : List Int) (k : Int), k ∈ onceI xs ↔ k ∈ xs
  | [], k => Iff.rfl
  | x :: xs, k => by
    have ih := mem_onceI xs k
    unfold onceI
    by_cases h : x ∈ xs
    · rw [if_pos h, ih, List.mem_cons]
      constructor
      · exact fun q => .inr q
      · rintro (rfl | q)
        · exact h
        · exact q
    · rw [if_neg h, List.mem_cons, List.mem_cons, ih]
theorem nodup_onceI : ∀ xs : List Int, (onceI xs).Nodup
  | [] => List.nodup_nil
  | x :: xs => by
    unfold onceI
    by_cases h : x ∈ xs
    · rw [if_pos h]; exact nodup_onceI xs
    · rw [if_neg h, List.nodup_cons]
      exact ⟨fun q => h ((mem_onceI xs x).mp q), nodup_onceI xs⟩
/-- the ints of a list, once each, sorted -/
def setI (ns : List Int) : List Int := sortI (onceI ns)
theorem mem_setI (ns : List Int) (k : Int) : k ∈ setI ns ↔ k ∈ ns := by unfold setI; rw [(sortI_perm _).mem_iff, mem_onceI]
theorem setI_one {ns ms : List Int} (hs : ms.Pairwise (· < ·)) (hm : ∀ k, k ∈ ms ↔ k ∈ ns) : ms = setI ns := by
  have hnd : ms.Nodup := hs.imp fun h => by omega
  have hp : ms.Perm (onceI ns) := (List.perm_ext_iff_of_nodup hnd (nodup_onceI ns)).mpr fun k => by rw [hm, mem_onceI]
  exact sortI_one hp (hs.imp fun h => by omega)
theorem setI_length (ns : List Int) : (setI ns).length ≤ ns.length := by
  unfold setI
  rw [(sortI_perm _).length_eq]
  induction ns with
  | nil => exact Nat.le_refl _
  | cons x xs ih =>
    unfold onceI
    split
    · exact Nat.le_succ_of_le ih
    · exact Nat.succ_le_succ ih
theorem setR_card {w : World} {h : Heap} {a : Addr} {ns : List Int} {c : Nat} (R : SetR w h a (fun j => decide (j ∈ ns)) c) : c = (setI ns).length := by
  obtain ⟨o, es, ep, t, _, _, _, _, nd, hm, _, _, hn, _⟩ := R
  have hp : (es.toList.map keyOf).Perm (onceI ns) := (List.perm_ext_iff_of_nodup nd (nodup_onceI ns)).mpr fun k => by
    rw [mem_onceI, ← hm k]
    exact decide_eq_true_iff
  have := hp.length_eq
  rw [List.length_map, Array.length_toList] at this
  rw [← hn, this]
  unfold setI
  exact (sortI_perm _).length_eq.symm
/-- set(xs), ints -/
def rSetI (K : PySem.W.Frag) (w : World) : List V → Hp → VK → Prop := fun vs H Q => ∃ (l : Addr) (ns : List Int), vs = [V.ref l] ∧ (SqL K H l (ns.map V.int) ∨ SqT K H l (ns.map V.int)) ∧ ns.length + 1 < scanBound ∧
  ∀ (p : Addr) (c : Nat), H p = none → c = (setI ns).length → Q (.ref p) (upd H p (SetO w p (fun j => decide (j ∈ ns)) c))
section
variable {X : Cx}
theorem cr_setI (hc : X.calm = true) : CallR X (.type "set") (rSetI X.K X.w) := by
  intro pins s σ H vs us Q I r h
  obtain ⟨l, ns, rfl, hs, hb, q⟩ := h
  rw [Vals.ref1 r]
  rcases hs with hs | hs
  · obtain ⟨its, rv, hl, _⟩ := I.list hs
    refine set_listI ns (I.ok.hd hc) hl.isList rv.ints hb fun h' tk c R hle k => ?_
    exact ⟨.ref _, upd H s.heap.objs.size (SetO X.w s.heap.objs.size (fun j => decide (j ∈ ns)) c), I.laid (t' := tk) k (Nat.le_refl _) (setO_new R), rfl, q _ c (I.hok.fresh (Nat.le_refl _)) (setR_card R)⟩
  · obtain ⟨its, rv, hl, _⟩ := I.tuple hs
    refine call_set_tupI ns (I.ok.hd hc) hl rv.ints hb fun h' tk c R hle k => ?_
    exact ⟨.ref _, upd H s.heap.objs.size (SetO X.w s.heap.objs.size (fun j => decide (j ∈ ns)) c), I.laid (t' := tk) k (Nat.le_refl _) (setO_new R), rfl, q _ c (I.hok.fresh (Nat.le_refl _)) (setR_card R)⟩
end
def gSSet : List Dt → Option (List Dt)
  | [.lst xs] => (ints? xs).bind fun ns => if (setI ns).length < 64 ∧ ns.length < 4000 then some ((setI ns).map Dt.int) else none
  | [.tup xs] => (ints? xs).bind fun ns => if (setI ns).length < 64 ∧ ns.length < 4000 then some ((setI ns).map Dt.int) else none
  | _ => none
section
variable {T : List Addr} {X : Cx} {K : PySem.W.Frag} {e : Expr} {tr : TA} {fr : FnL} {pos pos2 q1 q2 : Pos}
theorem df_sortedSet (hc : X.calm = true) (hm : X.mg "sorted" = none) (hm2 : X.mg "set" = none) (ha : DA false T K X [e] tr fr) (hg : Gl X "sorted" := by rfl) (hg2 : Gl X "set" := by rfl)
    (hv : bootBuiltins "sorted" = some (.builtin "sorted") := by decide +kernel) (hv2 : bootBuiltins "set" = some (.type "set") := by decide +kernel)
    (he : starEach [e] X.env = (false, eval e X.env) :: starEach [] X.env := by rfl) (hpl : (backTo pos2 (starEach [] X.env)).any (·.1) = false := by rfl)
    (he2 : starEach [.Call (.Name "set" q2) [e] [] pos2] X.env = (false, eval (.Call (.Name "set" q2) [e] [] pos2) X.env) :: starEach [] X.env := by rfl) (hpl2 : (backTo pos (starEach [] X.env)).any (·.1) = false := by rfl) (hk : X.K = K := by rfl) :
    DF T K X (.Call (.Name "sorted" q1) [.Call (.Name "set" q2) [e] [] pos2] [] pos) (tCB (rSortedSet X.w) (tCons (tCB (rSetI K X.w) tr) tNil)) (fNL gSSet fr) := by
  subst hk
  refine ⟨pe_callB (cr_sortedSet hc) hg hm hv (pa_cons (pe_callTy (cr_setI hc) hg2 hm2 hv2 ha.pa (by decide) (by decide) he hpl) pa_nil he2) (by decide) (by decide) he2 hpl2, fun W ρ σ H d Q gd rp e q => ?_⟩
  obtain ⟨ds, ea, e⟩ := obind e
  refine ha.sd W ρ σ H ds _ gd rp ea fun vs H1 e1 g1 r1 => ?_
  show rSetI X.K X.w vs H1 fun x H2 => rSortedSet X.w [x] H2 Q
  have go : ∀ (l : Addr) (ns : List Int), (SqL X.K H1 l (ns.map V.int) ∨ SqT X.K H1 l (ns.map V.int)) → vs = [V.ref l] → ((setI ns).length < 64 ∧ ns.length < 4000) → d = (setI ns).map Dt.int → rSetI X.K X.w vs H1 fun x H2 => rSortedSet X.w [x] H2 Q := by
    rintro l ns hs hv hn rfl
    refine ⟨l, ns, hv, hs, Nat.lt_of_lt_of_le (Nat.succ_lt_succ hn.2) (by decide), fun p c hp hcl => ?_⟩
    refine ⟨p, _, c, rfl, upd_same, by omega, fun ms p2 h1 h2 h3 hp2 => ?_⟩
    have hms : ms = setI ns := setI_one h1 fun k => by rw [h2]; exact decide_eq_true_iff
    subst hms
    have ex1 : Ext H1 (upd H1 p (SetO X.w p (fun j => decide (j ∈ ns)) c)) := Ext.new hp
    have gd1 : Gd T (upd H1 p (SetO X.w p (fun j => decide (j ∈ ns)) c)) := g1.put (fun ps e => by rw [hp] at e; cases e) fun ys h => by rcases h with h | h <;> cases h
    have hlen := setI_length ns
    refine q p2 _ _ ((e1.trans ex1).trans (Ext.new hp2)) (gd1.newL hp2 (by rw [List.length_map]; exact size_ge (by omega))) ((e1.trans ex1).there p2 hp2) upd_same (repA_ints _)
  match ds, e, r1 with
  | [.lst l], e, r1 =>
    obtain ⟨v, rfl, r2⟩ := repA1 r1
    cases r2 with
    | lst h1 n1 rb =>
      obtain ⟨ns, h2, h3⟩ := obind e
      have hd := ints?_some h2
      rw [hd] at rb
      rw [rb.ints] at h1
      by_cases hz : (setI ns).length < 64 ∧ ns.length < 4000
      · rw [if_pos hz] at h3
        cases h3
        exact go _ ns (.inl (.of h1)) rfl hz rfl
      · rw [if_neg hz] at h3; cases h3
  | [.tup l], e, r1 =>
    obtain ⟨v, rfl, r2⟩ := repA1 r1
    cases r2 with
    | tup h1 rb =>
      obtain ⟨ns, h2, h3⟩ := obind e
      have hd := ints?_some h2
      rw [hd] at rb
      rw [rb.ints] at h1
      by_cases hz : (setI ns).length < 64 ∧ ns.length < 4000
      · rw [if_pos hz] at h3
        cases h3
        exact go _ ns (.inr (.of h1)) rfl hz rfl
      · rw [if_neg hz] at h3; cases h3
  | x0 :: _ :: _, e, _ => cases x0 <;> cases e
end
end EL
end

section
set_option Elab.async false
set_option maxRecDepth 100000
set_option maxHeartbeats 4000000
/-! EL: three comparisons in a row. -/
namespace EL
open PySem PySem.Spec PyProof.Rows L2
/-- a op1 b op2 c op3 d -/
def tChain3 (r r' r'' : R2) (ta tb tc td : TE) : TE := fun σ H Q => ta σ H fun x H1 => tb σ H1 fun y H2 => r x y H2 fun z H3 => ∃ k, z = .bl k ∧
  (if k = true then tc σ H3 fun u H4 => r' y u H4 fun z2 H5 => ∃ k2, z2 = .bl k2 ∧ (if k2 = true then td σ H5 fun v H6 => r'' u v H6 Q else Q (.bl false) H5) else Q (.bl false) H3)
section
variable {X : Cx} {a b c d : Expr} {ta tb tc td : TE} {pos : Pos}
theorem pt_chain3 {op op' op'' : CmpOp} {r r' r'' : R2} (ho : OpR X (compareOp op) r) (ho' : OpR X (compareOp op') r') (ho'' : OpR X (compareOp op'') r'') (ha : PE X a ta) (hb : PE X b tb) (hc : PE X c tc) (hd : PE X d td)
    (hm : lastMarks [op, op', op''] [b, c, d] = false := by with_unfolding_all rfl) : PT X (.Compare a [op, op', op''] [b, c, d] pos) (tTest (tChain3 r r' r'' ta tb tc td)) := by
  refine ⟨fun pins s σ H Q I h => ?_⟩
  refine isTrue_chain (thn (ha.run pins s σ H _ I h) fun v s1 ⟨x, H1, I1, r1, q1⟩ => test_link (thn (hb.run pins s1 σ H1 _ I1 q1) fun u s2 ⟨y, H2, I2, r2, q2⟩ =>
    thn (ho pins s2 σ H2 x y v u _ I2 r1 r2 q2) fun d1 s3 ⟨z, H3, I3, r3, k, e, q3⟩ => ?_)) hm
  subst e
  cases r3
  refine wpAny_truthy_bool ?_
  cases k with
  | false =>
    obtain ⟨k', e', q'⟩ := q3
    cases e'
    exact ite_ff ⟨H3, I3, q'⟩
  | true =>
    refine ite_tt (test_link (thn (hc.run pins s3 σ H3 _ I3 q3) fun u2 s4 ⟨y2, H4, I4, r4, q4⟩ => thn (ho' pins s4 σ H4 y y2 u u2 _ I4 r2 r4 q4) fun d2 s5 ⟨z2, H5, I5, r5, k2, e2, q5⟩ => ?_))
    subst e2
    cases r5
    refine wpAny_truthy_bool ?_
    cases k2 with
    | false =>
      obtain ⟨k', e', q'⟩ := q5
      cases e'
      exact ite_ff ⟨H5, I5, q'⟩
    | true =>
      refine ite_tt (test_last (thn (hd.run pins s5 σ H5 _ I5 q5) fun u3 s6 ⟨y3, H6, I6, r6, q6⟩ => thn (ho'' pins s6 σ H6 y2 y3 u2 u3 _ I6 r4 r6 q6) fun d3 s7 ⟨z3, H7, I7, r7, k3, e3, q7⟩ => ?_))
      subst e3
      cases r7
      exact wpAny_truthy_bool ⟨H7, I7, q7⟩
end
def fChain3 (g g' g'' : Dt → Dt → Option Bool) (a b c d : Fn) : FnB := fun ρ => (a ρ).bind fun x => (b ρ).bind fun y => (g x y).bind fun k => if k = true then (c ρ).bind fun u => (g' y u).bind fun k2 => if k2 = true then (d ρ).bind fun v => g'' u v else some false else some false
@[simp] theorem fChain3_a (g g' g'' : Dt → Dt → Option Bool) (a b c d : Fn) (ρ : Rho) : fChain3 g g' g'' a b c d ρ = (a ρ).bind fun x => (b ρ).bind fun y => (g x y).bind fun k => if k = true then (c ρ).bind fun u => (g' y u).bind fun k2 => if k2 = true then (d ρ).bind fun v => g'' u v else some false else some false := rfl
section
variable {T : List Addr} {X : Cx} {K : PySem.W.Frag} {a b c d : Expr} {ta tb tc td : TE} {fa fb fc fd : Fn} {pos : Pos}
theorem dt_chain3 {op op' op'' : CmpOp} {r r' r'' : R2} {g g' g'' : Dt → Dt → Option Bool} (h : OpR X (compareOp op) r ∧ CmpD T K r g) (h' : OpR X (compareOp op') r' ∧ CmpD T K r' g') (h'' : OpR X (compareOp op'') r'' ∧ CmpD T K r'' g'') (ha : DE false T K X a ta fa) (hb : DE false T K X b tb fb) (hc : DE false T K X c tc fc) (hd : DE false T K X d td fd)
    (hm : lastMarks [op, op', op''] [b, c, d] = false := by with_unfolding_all rfl) : DT T K X (.Compare a [op, op', op''] [b, c, d] pos) (tTest (tChain3 r r' r'' ta tb tc td)) (fChain3 g g' g'' fa fb fc fd) :=
  ⟨pt_chain3 h.1 h'.1 h''.1 ha.pe hb.pe hc.pe hd.pe hm, fun W ρ σ H k Q gd rp e q => by
  obtain ⟨x, ea, e⟩ := obind e
  obtain ⟨y, eb, e⟩ := obind e
  obtain ⟨k1, e1', e⟩ := obind e
  refine ha.sd W ρ σ H x _ gd rp ea fun v H1 e1 g1 r1 => ?_
  refine hb.sd W ρ σ H1 y _ g1 (rp.ext e1) eb fun u H2 e2 g2 r2 => ?_
  refine h.2 H2 v u x y k1 _ g2 (r1.loose.ext e2) r2.loose e1' fun H3 e3 g3 => ⟨k1, rfl, ?_⟩
  have x3 := (e1.trans e2).trans e3
  cases k1 with
  | false =>
    rw [if_neg Bool.false_ne_true] at e ⊢
    cases e
    exact ⟨false, rfl, q H3 x3 g3⟩
  | true =>
    rw [if_pos rfl] at e ⊢
    obtain ⟨z, ec, e⟩ := obind e
    obtain ⟨k2, e2', e⟩ := obind e
    refine hc.sd W ρ σ H3 z _ g3 (rp.ext x3) ec fun w' H4 e4 g4 r4 => ?_
    refine h'.2 H4 u w' y z k2 _ g4 (r2.loose.ext (e3.trans e4)) r4.loose e2' fun H5 e5 g5 => ⟨k2, rfl, ?_⟩
    have x5 := (x3.trans e4).trans e5
    cases k2 with
    | false =>
      rw [if_neg Bool.false_ne_true] at e ⊢
      cases e
      exact ⟨false, rfl, q H5 x5 g5⟩
    | true =>
      rw [if_pos rfl] at e ⊢
      obtain ⟨z2, ed, e⟩ := obind e
      refine hd.sd W ρ σ H5 z2 _ g5 (rp.ext x5) ed fun w2 H6 e6 g6 r6 => ?_
      exact h''.2 H6 w' w2 z z2 k _ g6 (r4.loose.ext (e5.trans e6)) r6.loose e fun H7 e7 g7 => ⟨k, rfl, q H7 ((x5.trans e6).trans e7) g7⟩⟩
end
end EL
end

section
set_option Elab.async false
set_option maxRecDepth 100000
set_option maxHeartbeats 4000000
/-! EL: all and any of a generator expression. -/
namespace EL
open PySem PySem.Spec PyProof.Rows L2 GenW

/-- the names of a generator expression: its own (none), the captured ones (where they stand outside) -/
structure GenOk (XN N : List Str) (cap : List (Option Nat)) (sc scope : Scope) : Prop where
  kind : scope.kind = .function
  co : scope.isCoroutine = false
  dot : scope.names.lookup (".0" : Str) = some NameKind.local
  cell : ∀ y ∈ scope.names, y.2 ≠ .cell
  free : ∀ y ∈ scope.names, y.2 = .free → sc.names.lookup y.1 = some .cell ∨ sc.names.lookup y.1 = some .free
  len : cap.length = N.length
  at_ : ∀ (i j : Nat), cap[i]? = some (some j) → ∃ x : Str, N[i]? = some x ∧ XN[j]? = some x ∧ scope.names.lookup x = some .free
def genB (XN N : List Str) (cap : List (Option Nat)) (sc scope : Scope) : Bool :=
  (match scope.kind with | .function => true | _ => false) && !scope.isCoroutine && decide (scope.names.lookup (".0" : Str) = some NameKind.local) &&
    (scope.names.all fun y => match y.2 with
      | .cell => false
      | .free => (match sc.names.lookup y.1 with | some .cell => true | some .free => true | _ => false)
      | _ => true) && decide (cap.length = N.length) &&
    ((List.range cap.length).all fun i => match cap[i]? with
      | some (some j) => (match N[i]? with | some x => decide (XN[j]? = some x) && decide (scope.names.lookup x = some .free) | none => false)
      | _ => true)
theorem genOk_by {XN N : List Str} {cap : List (Option Nat)} {sc scope : Scope} (h : genB XN N cap sc scope = true) : GenOk XN N cap sc scope := by
  unfold genB at h
  simp only [Bool.and_eq_true, List.all_eq_true, decide_eq_true_eq, Bool.not_eq_true'] at h
  obtain ⟨⟨⟨⟨⟨h1, h2⟩, h3⟩, h4⟩, h5⟩, h6⟩ := h
  refine ⟨?_, h2, h3, fun y hy e => ?_, fun y hy e => ?_, h5, fun i j e => ?_⟩
  · split at h1
    · assumption
    · cases h1
  · have q := h4 y hy
    simp only [e] at q
    cases q
  · have q := h4 y hy
    simp only [e] at q
    split at q <;> first | exact .inl (by assumption) | exact .inr (by assumption) | cases q
  · have hi : i < cap.length := (List.getElem?_eq_some_iff.mp e).1
    have q := h6 i (List.mem_range.mpr hi)
    rw [e] at q
    simp only at q
    split at q
    · rename_i x hx
      simp only [Bool.and_eq_true, decide_eq_true_eq] at q
      exact ⟨x, hx, q.1, q.2⟩
    · cases q
def capS (σ : L2.St) (cap : List (Option Nat)) : L2.St := cap.map fun o => match o with
  | none => none
  | some j => (σ[j]?).join
theorem capS_at {σ : L2.St} {cap : List (Option Nat)} {i : Nat} {v : V} (h : (capS σ cap)[i]? = some (some v)) : ∃ j, cap[i]? = some (some j) ∧ σ[j]? = some (some v) := by
  unfold capS at h
  rw [List.getElem?_map] at h
  cases e : cap[i]? with
  | none => rw [e] at h; cases h
  | some o =>
    rw [e] at h
    cases o with
    | none => cases h
    | some j =>
      refine ⟨j, rfl, ?_⟩
      have h2 : (σ[j]?).join = some v := Option.some.inj h
      cases q : σ[j]? with
      | none => rw [q] at h2; cases h2
      | some w => rw [q] at h2; exact congrArg some h2
theorem capS_len {σ : L2.St} {cap : List (Option Nat)} : (capS σ cap).length = cap.length := by unfold capS; rw [List.length_map]

/-- the context of a generator expression's frame; go: the generator's own object -/
abbrev gcx (X : Cx) (s : Shared) (H : Hp) (N : List Str) (cenv : Env) (A : Around) (fp : List Addr) (go : Addr × Obj) : Cx :=
  { prog := X.prog, w := X.w, K := X.K, mg := X.mg, base := X.base, A := A, N := N, s_0 := s, H_0 := H, env := cenv, outer := X.stack, stack := cenv :: X.stack, ex := fp, fn := fun _ => false, calm := X.calm, pn := [go], xe := fun _ _ => False }
abbrev genv (X : Cx) (scope : Scope) (C : Addr) (code : Value) : Env := genEnv scope (cloFrom X.env.cells scope.names []) C code builtinsNs X.env

section
variable {X : Cx} {pins : List (Addr × Obj)} {σ : L2.St} {H : Hp} {s : Shared}
theorem gen_start {scope : Scope} {N : List Str} {cap : List (Option Nat)} {fp : List Addr} {code : Value} {a : Addr} {go : Obj} {A : Around} (I : Inv X pins σ H s) (G : GenOk X.N N cap X.env.scope scope)
    (hfp : ∀ b ∈ fp, FpOk X pins H b ∧ b < s.heap.objs.size) (hd : X.calm = true → A.handled = none) (hfr : A.frames = some (genv X scope s.heap.objs.size code :: X.stack)) {h' : Heap} {m : Str → Option Value} {gs : Array GenState} {tk : Nat}
    (kp : ∀ b o, s.heap.get? b = some o → h'.get? b = some o) (hns : h'.Ns s.heap.objs.size m) (ha : s.heap.objs.size < a) (hgo : h'.get? a = some go) (hgd : ∀ v, go.data ≠ .cell v) (hbare : AllBare gs) :
    Inv (gcx X s H N (genv X scope s.heap.objs.size code) A fp (a, go)) [] (capS σ cap) H { s with gens := gs, toks := tk, heap := h' } := by
  have hfree : ∀ y ∈ scope.names, y.2 = .free → ∃ c, X.env.cells.lookup y.1 = some c := fun y hy e => by
    rcases G.free y hy e with k | k
    · exact I.ok.has _ (.inl k)
    · exact I.ok.has _ (.inr k)
  have cm : ∀ {y c}, (cloFrom X.env.cells scope.names []).lookup y = some c → X.env.cells.lookup y = some c := fun {y c} e => NdefX.clo_cm hfree e
  refine ⟨⟨I.ok.mod, G.kind, I.ok.glob, rfl, Nat.le_refl _, fun y z c e1 e2 => I.ok.inj y z c (cm e1) (cm e2), fun y hy => ?_, fun y c z => Bool.noConfusion z, hd, hfr, .inr ⟨rfl, rfl⟩, fun b hb => ⟨?_, fun y c e => ?_⟩, I.bs, Nat.le_trans I.ok.bsz I.sz, fun b o e hb => ?_, fun b hb z => ?_, I.stack, I.stkFree⟩,
    rfl, hbare, Un.kept kp, ⟨m, hns, fun i x v e1 e2 e3 => ?_⟩, fun y c e => ?_, I.hok.fresh (Nat.le_refl _), fun y c e => I.freeC y c (cm e), fun p hp => ?_, I.hok.kept kp, ?_⟩
  · rcases hy with hy | hy
    · exact absurd rfl (G.cell _ (PySem.mem_of_lookup (show scope.names.lookup y = some .cell from hy)))
    · have hm := PySem.mem_of_lookup (show scope.names.lookup y = some .free from hy)
      obtain ⟨c, hc⟩ := hfree _ hm rfl
      exact ⟨c, NdefX.clo_has hfree hm hc⟩
  · exact Nat.ne_of_lt (hfp b hb).2
  · exact (hfp b hb).1.2.2.2.2.1 y c (cm e)
  · rcases (hfp b hb).1.2.2.2.1 with z | z
    · exact I.ok.noex b o e z
    · exact absurd (Nat.lt_of_lt_of_le (Heap.lt_size e) (Nat.le_trans I.ok.bsz z)) (Nat.lt_irrefl _)
  · rcases List.mem_cons.mp (I.stkSub b z) with z | z
    · exact (hfp b hb).1.2.1 z
    · exact (hfp b hb).1.2.2.1 z
  · obtain ⟨j, c1, c2⟩ := capS_at e2
    obtain ⟨y, n1, n2, n3⟩ := G.at_ i j c1
    have e1 : N[i]? = some x := e1
    rw [n1] at e1
    cases e1
    have hm := PySem.mem_of_lookup n3
    have hvis : Vis X.env.scope x := (G.free _ hm rfl).elim (fun k => .inr (.inl k)) (fun k => .inr (.inr k))
    obtain ⟨m0, _, hl⟩ := I.loc
    obtain ⟨u, r, q⟩ := hl j x v n2 c2 hvis
    refine ⟨u, r, .inr ⟨.inr n3, ?_⟩⟩
    rcases q with ⟨k, _⟩ | ⟨_, c, hc, z⟩
    · have k : X.env.scope.names.lookup x = some .local := k
      rcases G.free _ hm rfl with k' | k' <;> rw [show X.env.scope.names.lookup x = _ from k'] at k <;> cases k
    · exact ⟨c, NdefX.clo_has hfree hm hc, z.keeps kp⟩
  · obtain ⟨v, z⟩ := I.cell y c (cm e)
    exact ⟨v, z.keeps kp⟩
  · obtain rfl : p = (a, go) := by simpa using hp
    refine ⟨hgo, I.hok.fresh (Nat.le_of_lt ha), Nat.ne_of_gt ha, fun z => ?_, hgd⟩
    rcases List.mem_cons.mp (I.stkSub a z) with z | z
    · have h1 := I.lt
      rw [← z] at h1
      exact Nat.lt_asymm h1 ha
    · exact I.nofs (Nat.le_of_lt ha) z
  · rw [capS_len]
    exact G.len
end

/-! ### the run -/
/-- handed out: b; where it is not the last one, whoever wakes it leaves the heap alone -/
def GYb (Y : Cx) (σ0 : L2.St) (stop : Bool) (Q : VK) : Protocol := fun _ _ v s kap => ∃ (b : Bool) (H' : Hp), v = Value.bool b ∧ Inv Y [] σ0 H' s ∧
  (if b = stop then Q (.bl stop) H' else ∀ s'' : Shared, s''.heap = s.heap → s''.os = s.os → AllBare s''.gens → kap (.send .none) s'')
def GFb (Y : Cx) (σ0 : L2.St) (stop : Bool) (Q : VK) : Nat → Shared → Shared → Prop := fun _ _ s => ∃ H', Inv Y [] σ0 H' s ∧ Q (.bl (!stop)) H'
abbrev GRb (Y : Cx) (σ0 : L2.St) (stop : Bool) (Q : VK) : GenEnd := fun n s₀ r s => ((r = .ok (.ret .none) ∨ r = .ok .next) ∧ GFb Y σ0 stop Q n s₀ s) ∨ ∃ e, r = .error e ∧ (fun (_ : Value) (_ : Shared) => False) e s
/-- the turns -/
def Steps (stop : Bool) (J : It) (g : TG) (te : TE) (σ0 : L2.St) (Q : VK) (W : Nat → Nat → Hp → Prop) : Prop := ∀ i m H, W i m H →
  (J.stop i H ∧ Q (.bl (!stop)) H) ∨ (J.go i H ∧ 0 < m ∧ ∃ Nx : Hp → Prop, (∀ H', Nx H' → ∃ m', m' < m ∧ W (i + 1) m' H') ∧ ∀ x H', J.yld i H x H' → g x σ0 H' fun σ2 H2 =>
    (σ2.length = σ0.length ∧ ∀ (j : Nat) v, σ0[j]? = some (some v) → σ2[j]? = some (some v)) ∧ te σ2 H2 fun y H3 => ∃ b, y = .bl b ∧ if b = stop then Q (.bl stop) H3 else Nx H3)
/-- gens and the like do not matter -/
theorem inv_gens {X : Cx} {pins : List (Addr × Obj)} {σ : L2.St} {H : Hp} {s s' : Shared} (I : Inv X pins σ H s) (hk : ∀ b o, s.heap.get? b = some o → s'.heap.get? b = some o) (ho : s'.os = s.os) (hb : AllBare s'.gens) : Inv X pins σ H s' :=
  I.call' (ch := []) ho (Un.kept hk) (I.hok.kept hk) hb fun b z => by simp at z

section
variable {X : Cx} {H4 : Hp} {s4 : Shared} {N : List Str} {cenv : Env} {fp : List Addr} {a it : Addr} {go : Obj} {elt tg iter : Expr} {scope : Scope} {pos : Pos} {tn : Nat → Heap → Prop} {J : It} {g : TG} {te : TE} {σ0 : L2.St} {stop : Bool} {Ag : Around} {Q : VK} {W : Nat → Nat → Hp → Prop}
theorem gen_seg (hc : X.calm = true) (T : Turn X.prog X.w X.K tg J fp it tn) (hfa : ∀ b ∈ fp, a ≠ b) (hco : cenv.scope.isCoroutine = false) {Y : Cx} (hY : Y = gcx X s4 H4 N cenv (Ag.over (.compLoop (.GeneratorExp elt [⟨tg, iter, [], 0⟩] scope pos) 0 (.ref it) .none cenv) []) fp (a, go))
    (pg : PG Y tg g) (pe : PE Y elt te) (step : Steps stop J g te σ0 Q W) :
    ∀ (m i n : Nat) (s₀ s : Shared) (H : Hp), m ≤ n → W i m H → Inv Y [] σ0 H s → tn i s.heap → (∀ b ∈ fp, H b = none) →
      Seg (model X.prog X.w) Ag (GRb Y σ0 stop Q) (GYb Y σ0 stop Q) n s₀ (.compLoop (.GeneratorExp elt [⟨tg, iter, [], 0⟩] scope pos) 0 (.ref it) .none cenv)
        ((model X.prog X.w).den (.compLoop (.GeneratorExp elt [⟨tg, iter, [], 0⟩] scope pos) 0 (.ref it) .none cenv)) [] s := by
  intro m
  induction m using Nat.strongRecOn with
  | ind m ih =>
    intro i n s₀ s H hn w I st nfp
    have stat : ∀ {σ' : L2.St} {H' : Hp} {s' : Shared}, Inv Y [] σ' H' s' → (∀ b ∈ fp, H' b = none) → ∀ b ∈ fp, FpOk Y [] H' b := fun {σ' H' s'} I' hn b hb => by
      subst hY
      exact ⟨hn b hb, (I'.ok.exf b hb).1, I'.ok.exfs b hb, .inl hb, fun x c e => (I'.ok.exf b hb).2 x c e, fun p hp => by
        obtain rfl : p = (a, go) := by simpa using hp
        exact hfa b hb⟩
    have hA : Ag.over (.compLoop (.GeneratorExp elt [⟨tg, iter, [], 0⟩] scope pos) 0 (.ref it) .none cenv) [] = Y.A := by rw [hY]
    have hP : Y.prog = X.prog := by rw [hY]
    have hW : Y.w = X.w := by rw [hY]
    have hK : Y.K = X.K := by rw [hY]
    have hE : Y.env = cenv := by rw [hY]
    have hX : Y.xe = fun _ _ => False := by rw [hY]
    have hC : Y.calm = true := by rw [hY]; exact hc
    show Seg _ Ag _ _ n s₀ _ ((compTurn (.GeneratorExp elt [⟨tg, iter, [], 0⟩] scope pos) 0 (.ref it) .none cenv).onRaise (leaving cenv)) [] s
    rw [compTurn_gen, Sem.onRaise_eq_wrap]
    refine seg_bind_wrap (wpAny_standAt ?_)
    rcases step i m H w with ⟨hstop, q⟩ | ⟨hgo, hm0, Nx, hNx, stp⟩
    · refine seg_bind_wrap (thnF ?_ fun r s1 (h1 : r = none ∧ Inv Y [] σ0 H s1) => ?_)
      · rw [hA]
        exact T.done Y hP hW hK hC i [] s σ0 H (fun _ _ => False) I (stat I nfp) st hstop
      · obtain ⟨rfl, I1⟩ := h1
        exact seg_end (.ok .next) (.inl ⟨.inr rfl, H, I1, q⟩)
    · refine seg_bind_wrap (thnF ?_ fun r s6 (h6 : ∃ u, r = some u ∧ wpAny (model X.prog X.w) Y.A (letOwnedTupleGo tg (.ref it) u) (fun _ s2 => ∃ x H', Inv Y [] σ0 H' s2 ∧ RelV x u ∧ J.yld i H x H' ∧ tn (i + 1) s2.heap ∧ ∀ b ∈ fp, H' b = none) (fun _ _ => False) s6) => ?_)
      · rw [hA]
        exact T.item Y hP hW hK hC i [] s σ0 H (fun _ _ => False) I (stat I nfp) st hgo
      obtain ⟨u, rfl, h6⟩ := h6
      refine seg_bind_wrap ?_
      rw [hA]
      refine thnF h6 fun _ s7 ⟨x, H7, I7, r7, y7, st7, n7⟩ => ?_
      have I7' := I7.pinned (stat I7 n7) (T.obj _ _ st7)
      have pgr := pg.run _ s7 _ H7 x u _ I7' r7 (stp x H7 y7)
      rw [hX, hP, hW, hE] at pgr
      refine seg_bind_wrap ?_
      rw [hA]
      refine thnF pgr fun _ s8 ⟨σ8, H8, I8, hw8, q8⟩ => ?_
      refine seg_bind_wrap (wpAny_of_eq (List.forIn_nil ..) ?_)
      simp only [if_true]
      have hy : ∀ v, yieldOut cenv v = yieldValue v := fun v => by simp only [yieldOut, hco, Bool.false_eq_true, if_false]
      simp only [hy]
      rw [Sem.bind_eq_wrap', Sem.bind_eq_wrap', Sem.wrap_wrap, Sem.wrap_wrap]
      have per := pe.run _ s8 σ8 H8 _ I8 q8
      rw [hX, hP, hW, hE] at per
      refine seg_wrap ?_
      rw [hA]
      refine thnF per fun z s9 ⟨yv, H9, I9, r9, b, hb, nx⟩ => ?_
      subst hb
      obtain rfl : z = Value.bool b := r9
      have pin' : ∀ b ∈ fp, ∀ o, s7.heap.get? b = some o → s9.heap.get? b = some o ∧ H9 b = none := fun b hb o e =>
        let z := I9.pin (b, o) (List.mem_append_right _ (List.mem_append_right _ (mem_pinsAt hb e)))
        ⟨z.1, z.2.1⟩
      have I10 : Inv Y [] σ0 H9 s9 := (I9.unpinned (pins := [])).weak hw8.1.symm hw8.2
      have st10 : tn (i + 1) s9.heap := T.keep _ _ _ st7 fun b hb o e => (pin' b hb o e).1
      have n10 : ∀ b ∈ fp, H9 b = none := fun b hb => by
        obtain ⟨o, e, _⟩ := T.obj _ _ st7 b hb
        exact (pin' b hb o e).2
      obtain ⟨n', rfl⟩ : ∃ n', n = n' + 1 := ⟨n - 1, by omega⟩
      refine seg_at (seg_yield rfl rfl rfl ⟨b, H9, rfl, I10, ?_⟩)
      by_cases hbs : b = stop
      · rw [if_pos hbs] at nx ⊢
        exact nx
      · rw [if_neg hbs] at nx ⊢
        intro s'' hh ho hg
        obtain ⟨m', hm, w'⟩ := hNx H9 nx
        refine seg_again rfl (ih m' hm (i + 1) n' s'' s'' H9 (by omega) w' (inv_gens I10 (fun b o e => by rw [hh]; exact e) ho hg) (by rw [hh]; exact st10) n10)

theorem gen_seg0 (hc : X.calm = true) (T : Turn X.prog X.w X.K tg J fp it tn) (hfa : ∀ b ∈ fp, a ≠ b) (hco : cenv.scope.isCoroutine = false) {Y : Cx} (hY : Y = gcx X s4 H4 N cenv (Ag.over (.compLoop (.GeneratorExp elt [⟨tg, iter, [], 0⟩] scope pos) 0 (.ref it) .none cenv) []) fp (a, go))
    (pg : PG Y tg g) (pe : PE Y elt te) (step : Steps stop J g te σ0 Q W) (m n : Nat) (s₀ s : Shared) (H : Hp) (hn : m ≤ n) (w : W 0 m H) (I : Inv Y [] σ0 H s) (st : tn 0 s.heap) (nfp : ∀ b ∈ fp, H b = none) :
      Seg (model X.prog X.w) Ag (GRb Y σ0 stop Q) (GYb Y σ0 stop Q) n s₀ (.compStart (.GeneratorExp elt [⟨tg, iter, [], 0⟩] scope pos) 0 (.ref it) .none cenv)
        ((model X.prog X.w).den (.compStart (.GeneratorExp elt [⟨tg, iter, [], 0⟩] scope pos) 0 (.ref it) .none cenv)) [] s := by
  have loop := gen_seg hc T hfa hco hY pg pe step m 0 n s₀ s H hn w I st nfp
  show Seg _ Ag _ _ n s₀ _ ((compStart (.GeneratorExp elt [⟨tg, iter, [], 0⟩] scope pos) 0 (.ref it) .none cenv).onRaise (leaving cenv)) [] s
  unfold compStart
  rw [Sem.onRaise_eq_wrap]
  show Seg _ Ag _ _ n s₀ _ ((ask >>= _).wrap _ _ _ _) [] s
  refine seg_bind_wrap (wpAny_askSetting ?_)
  split
  · exact seg_again rfl loop
  · first
      | exact seg_bind_wrap (wpAny_rule (seg_bind_wrap (wpAny_standAt (seg_bind_wrap (T.self _ 0 s _ _ st (seg_again rfl loop))))))
      | (refine seg_bind_wrap (wpAny_rule ?_); show Seg _ Ag _ _ n s₀ _ ((standAt iter.pos >>= _).wrap _ _ _ _) [] s; exact seg_bind_wrap (wpAny_standAt (seg_bind_wrap (T.self _ 0 s _ _ st (seg_again rfl loop)))))
end

/-! ### its consumers -/
section
variable {X Y : Cx} {σ0 : L2.St} {Q : VK} {a : Addr} {g : Nat} {go : Obj} {A : Around} {R : Result → Shared → Prop} {stop : Bool}
/-- asleep, up to n more items to come -/
def Asleep (Y : Cx) (σ0 : L2.St) (stop : Bool) (Q : VK) (A : Around) (g n : Nat) (s : Shared) : Prop := ∃ gs, s.gens[g]? = some gs ∧ gs.Goes (model Y.prog Y.w) A.in1.in1 (GRb Y σ0 stop Q) (GYb Y σ0 stop Q) n (.send .none) (s.setGen g .running)
theorem setGen_heap (s : Shared) (g : Nat) (x : GenState) : (s.setGen g x).heap = s.heap := rfl
theorem all_run (hgen : ∀ h : Heap, h.get? a = some go → h.IsGen a g) (hpn : (a, go) ∈ Y.pn) (hh : A.handled = none) (hd : A.depth < recursionLimit)
    (hR : ∀ s' H' b, Inv Y [] σ0 H' s' → Q (.bl b) H' → R (.ok (.ret (.bool b))) s') :
    ∀ (n : Nat) (s : Shared) (H : Hp), Inv Y [] σ0 H s → Asleep Y σ0 false Q A g n s → codeAny (model Y.prog Y.w) A (.builtin "all.loop" ⟨[.ref a], []⟩) R s := by
  intro n
  induction n with
  | zero =>
    intro s H I ⟨gs, hgs, hgo⟩
    refine codeAny_builtin F.entry_all_loop ?_
    rw [Around.under_plainId F.plain_all_loop _]
    show wpAny _ A.in1 (pyNext (.ref a) >>= _) _ _ s
    refine wpAny_bind (next_genG (A := A.in1) hh I.nolimit hd (hgen _ (I.pin (a, go) (List.mem_append_left _ hpn)).1) hgs hgo (fun v s₁ gs' hb hv => ?_) (fun s₁ hp h' hk => ?_) fun e s₁ he => he.elim)
    · obtain ⟨b, H', rfl, I', k⟩ := hv
      refine wpAny_bind (wpAny_holding (wpAny_truthy_bool ?_))
      refine wpAny_bind (wpAny_letGo ?_)
      cases b with
      | false =>
        simp only [Bool.false_eq_true, if_false]
        exact wpAny_bind (wpAny_rule (wpAny_pure (hR _ H' false (inv_gens I' (fun _ _ e => e) rfl (allBare_setGen I'.bare hb)) k)))
      | true => exact False.elim (k s₁ rfl rfl I'.bare)
    · obtain ⟨H', I', q⟩ := hp
      exact wpAny_bind (wpAny_rule (wpAny_pure (hR _ H' true (inv_gens I' hk rfl (allBare_setGen I'.bare rfl)) q)))
  | succ n ih =>
    intro s H I ⟨gs, hgs, hgo⟩
    have hgl : g < s.gens.size := (Array.getElem?_eq_some_iff.mp hgs).1
    refine codeAny_builtin F.entry_all_loop ?_
    rw [Around.under_plainId F.plain_all_loop _]
    show wpAny _ A.in1 (pyNext (.ref a) >>= _) _ _ s
    refine wpAny_bind (wpAny_gsz (n := g + 1) hgl (next_genG (A := A.in1) hh I.nolimit hd (hgen _ (I.pin (a, go) (List.mem_append_left _ hpn)).1) hgs hgo (fun v s₁ gs' hb hv => ?_) (fun s₁ hp h' hk => ?_) fun e s₁ he => he.elim))
    · intro hsz
      obtain ⟨b, H', rfl, I', k⟩ := hv
      have I2 : Inv Y [] σ0 H' (s₁.setGen g gs') := inv_gens I' (fun _ _ e => e) rfl (allBare_setGen I'.bare hb)
      refine wpAny_bind (wpAny_holding (wpAny_truthy_bool ?_))
      refine wpAny_bind (wpAny_letGo ?_)
      cases b with
      | false =>
        simp only [Bool.false_eq_true, if_false]
        exact wpAny_bind (wpAny_rule (wpAny_pure (hR _ H' false I2 k)))
      | true =>
        simp only [if_true]
        have hsz1 : g < s₁.gens.size := by
          have q : (s₁.setGen g gs').gens.size = s₁.gens.size := setGen_size _ _ _
          have hsz' : g + 1 ≤ (s₁.setGen g gs').gens.size := hsz
          omega
        refine wpAny_pure ⟨plainId_quiet F.plain_all_loop _, ih _ H' I2 ⟨gs', setGen_at hsz1, ?_⟩⟩
        exact k _ rfl rfl (allBare_setGen (allBare_setGen I'.bare hb) rfl)
    · intro hsz
      obtain ⟨H', I', q⟩ := hp
      exact wpAny_bind (wpAny_rule (wpAny_pure (hR _ H' true (inv_gens I' hk rfl (allBare_setGen I'.bare rfl)) q)))
theorem any_run (hgen : ∀ h : Heap, h.get? a = some go → h.IsGen a g) (hpn : (a, go) ∈ Y.pn) (hh : A.handled = none) (hd : A.depth < recursionLimit)
    (hR : ∀ s' H' b, Inv Y [] σ0 H' s' → Q (.bl b) H' → R (.ok (.ret (.bool b))) s') :
    ∀ (n : Nat) (s : Shared) (H : Hp), Inv Y [] σ0 H s → Asleep Y σ0 true Q A g n s → codeAny (model Y.prog Y.w) A (.builtin "any.loop" ⟨[.ref a], []⟩) R s := by
  intro n
  induction n with
  | zero =>
    intro s H I ⟨gs, hgs, hgo⟩
    refine codeAny_builtin F.entry_any_loop ?_
    rw [Around.under_plainId F.plain_any_loop _]
    show wpAny _ A.in1 (pyNext (.ref a) >>= _) _ _ s
    refine wpAny_bind (next_genG (A := A.in1) hh I.nolimit hd (hgen _ (I.pin (a, go) (List.mem_append_left _ hpn)).1) hgs hgo (fun v s₁ gs' hb hv => ?_) (fun s₁ hp h' hk => ?_) fun e s₁ he => he.elim)
    · obtain ⟨b, H', rfl, I', k⟩ := hv
      refine wpAny_bind (wpAny_holding (wpAny_truthy_bool ?_))
      refine wpAny_bind (wpAny_letGo ?_)
      cases b with
      | true =>
        simp only [if_true]
        exact wpAny_bind (wpAny_rule (wpAny_pure (hR _ H' true (inv_gens I' (fun _ _ e => e) rfl (allBare_setGen I'.bare hb)) k)))
      | false => exact False.elim (k s₁ rfl rfl I'.bare)
    · obtain ⟨H', I', q⟩ := hp
      exact wpAny_bind (wpAny_rule (wpAny_pure (hR _ H' false (inv_gens I' hk rfl (allBare_setGen I'.bare rfl)) q)))
  | succ n ih =>
    intro s H I ⟨gs, hgs, hgo⟩
    have hgl : g < s.gens.size := (Array.getElem?_eq_some_iff.mp hgs).1
    refine codeAny_builtin F.entry_any_loop ?_
    rw [Around.under_plainId F.plain_any_loop _]
    show wpAny _ A.in1 (pyNext (.ref a) >>= _) _ _ s
    refine wpAny_bind (wpAny_gsz (n := g + 1) hgl (next_genG (A := A.in1) hh I.nolimit hd (hgen _ (I.pin (a, go) (List.mem_append_left _ hpn)).1) hgs hgo (fun v s₁ gs' hb hv => ?_) (fun s₁ hp h' hk => ?_) fun e s₁ he => he.elim))
    · intro hsz
      obtain ⟨b, H', rfl, I', k⟩ := hv
      have I2 : Inv Y [] σ0 H' (s₁.setGen g gs') := inv_gens I' (fun _ _ e => e) rfl (allBare_setGen I'.bare hb)
      refine wpAny_bind (wpAny_holding (wpAny_truthy_bool ?_))
      refine wpAny_bind (wpAny_letGo ?_)
      cases b with
      | true =>
        simp only [if_true]
        exact wpAny_bind (wpAny_rule (wpAny_pure (hR _ H' true I2 k)))
      | false =>
        simp only [Bool.false_eq_true, if_false]
        have hsz1 : g < s₁.gens.size := by
          have q : (s₁.setGen g gs').gens.size = s₁.gens.size := setGen_size _ _ _
          have hsz' : g + 1 ≤ (s₁.setGen g gs').gens.size := hsz
          omega
        refine wpAny_pure ⟨plainId_quiet F.plain_any_loop _, ih _ H' I2 ⟨gs', setGen_at hsz1, ?_⟩⟩
        exact k _ rfl rfl (allBare_setGen (allBare_setGen I'.bare hb) rfl)
    · intro hsz
      obtain ⟨H', I', q⟩ := hp
      exact wpAny_bind (wpAny_rule (wpAny_pure (hR _ H' false (inv_gens I' hk rfl (allBare_setGen I'.bare rfl)) q)))
end

/-! ### the expression -/
section
variable {X : Cx}
/-- all(elt for tg in iter) (stop: false), any(..) (stop: true) -/
def tGen (P : Addr) (stop : Bool) (wi : TI) (g : TG) (te : TE) (cap : List (Option Nat)) : TE := fun σ H Q => wi σ H fun J H1 => GxR.TabG H1 P ∧ ∀ H4, GxR.Tabbed P H1 H4 → ∃ W : Nat → Nat → Hp → Prop, (∃ m, W 0 m H4) ∧ Steps stop J g te (capS σ cap) Q W
theorem gen_made {pins : List (Addr × Obj)} {σ : L2.St} {H : Hp} {s : Shared} {c P : Addr} {elt tg iter : Expr} {gpos : Pos} {scope : Scope} {N : List Str} {cap : List (Option Nat)} {wi : TI} {R : It → Hp → Prop} {Q' : Value → Shared → Prop}
    (hd : X.A.handled = none) (hdp : X.A.depth < recursionLimit) (TB : GxR.TabB X.base X.mg c P) (hcode : X.env.code = .ref c) (G : GenOk X.N N cap X.env.scope scope) (hi : PI X tg iter wi)
    (hs : ∀ v, genFold iter X.env v = pure v) (I : Inv X pins σ H s) (h : wi σ H fun J H1 => GxR.TabG H1 P ∧ R J H1)
    (hQ : ∀ (J : It) (H1 H4 : Hp) (s4 s5 : Shared) (code : Value) (a it : Addr) (g : Nat) (go : Obj) (fp : List Addr) (tn : Nat → Heap → Prop), R J H1 → GxR.Tabbed P H1 H4 → Inv X pins σ H4 s4 → Turn X.prog X.w X.K tg J fp it tn → (∀ b ∈ fp, FpOk X pins H4 b ∧ b < s4.heap.objs.size) →
      tn 0 s5.heap → (∀ b ∈ fp, a ≠ b) → (∀ h : Heap, h.get? a = some go → h.IsGen a g) → s5.gens[g]? = some (.fresh (.compStart (.GeneratorExp elt [⟨tg, iter, [], 0⟩] scope gpos) 0 (.ref it) .none (genv X scope s4.heap.objs.size code))) →
      (∀ A : Around, A.handled = none → A.frames = some (genv X scope s4.heap.objs.size code :: X.stack) → Inv (gcx X s4 H4 N (genv X scope s4.heap.objs.size code) A fp (a, go)) [] (capS σ cap) H4 s5) → Q' (.ref a) s5) :
    wpAny (model X.prog X.w) X.A (eval (.GeneratorExp elt [⟨tg, iter, [], 0⟩] scope gpos) X.env) Q' X.xe s := by
  have hfree : ∀ y ∈ scope.names, y.2 = .free → ∃ c, X.env.cells.lookup y.1 = some c := fun y hy e => by
    rcases G.free y hy e with k | k
    · exact I.ok.has _ (.inl k)
    · exact I.ok.has _ (.inr k)
  refine wpAny_GeneratorExp_make G.co (closure_ok hfree) G.cell G.dot G.kind hdp ?_ hs
  refine thn (hi.run pins s σ H _ I h) fun xv s1 hx => thn hx fun itv s2 h2 => ?_
  obtain ⟨it, fp, tn, J, H2, e, I2, T, st2, f2, q⟩ := h2
  subst e
  obtain ⟨⟨ps, hP, ht⟩, q⟩ := q
  refine ⟨I2.nolimit, ?_⟩
  have hPs : s2.heap.get? P = some { cls := .none, data := .fields ps } := I2.hok P _ hP
  have cd : PySem.W.CodeHd s2.heap c P := TB.code.keeps I2.bk
  have hfP : ∀ b ∈ fp, b ≠ P := fun b hb z => by
    have := (f2 b hb).1
    rw [z, hP] at this
    cases this
  have cont : ∀ (code : Value) (h3 : Heap) (tk : Nat) (more : Array Value), Heap.ExtBut P s2.heap h3 → s2.heap.objs.size ≤ h3.objs.size → h3.get? P = some { cls := .none, data := .fields (ps ++ more) } → TriplesOk (ps ++ more).toList →
      wpAny (model X.prog X.w) X.A (builtinsFor X.env.globals X.env.builtins) (fun bi s₄ =>
        ∀ h' : Heap, h'.Ns s₄.heap.objs.size (fun y => if y = ".0" then some (.ref it) else none) → Heap.SameBut s₄.heap.objs.size (s₄.heap.push { cls := .type "frame", data := .dict #[] }) h' →
          Q' (.ref h'.objs.size) { s₄ with
            gens := s₄.gens.push (.fresh (.compStart (.GeneratorExp elt [⟨tg, iter, [], 0⟩] scope gpos) 0 (.ref it) .none (genEnv scope (cloFrom X.env.cells scope.names []) s₄.heap.objs.size code bi X.env))),
            toks := s₄.toks + 1 + 1 + 1,
            heap := h'.push { cls := .type "generator", data := .fields #[.int s₄.gens.size 0, .str "<genexpr>" (s₄.toks + 1), .str (X.env.qual ++ "<genexpr>") (s₄.toks + 1 + 1)] } }) X.xe { s2 with heap := h3, toks := tk } := by
    intro code h3 tk more hx hsz hP3 ht3
    have I3 : Inv X pins σ (upd H2 P (.tbl (ps ++ more))) { s2 with heap := h3, toks := tk } := GxR.inv_tab (more := more) (h' := h3) (g' := s2.gens) (d' := s2.drawn) (t' := tk) I2 hP (fun b o hb e => hx b o hb e) hP3 I2.bare
    obtain ⟨bm, ob, e1, e2, e3, e4, e5, e6, e7, e8⟩ := TB.bm
    refine wpAny_builtinsFor (m := X.mg) (by rw [I3.ok.glob]; exact I3.mod.glob.keeps I3.bk) e1 e2 (I3.bk _ _ e5) e6 e7 e8 ?_
    intro h' hn' hs'
    have hsz' : h'.objs.size = h3.objs.size + 1 := by rw [hs'.1, Heap.size_push]
    have keep' : ∀ b o, h3.get? b = some o → h'.get? b = some o := fun b o e => hs'.extBut b o (Nat.ne_of_lt (Heap.lt_size e)) (Heap.get?_push_of_some _ e)
    generalize hgo : ({ cls := .type "generator", data := .fields #[.int s2.gens.size 0, .str "<genexpr>" (tk + 1), .str (X.env.qual ++ "<genexpr>") (tk + 1 + 1)] } : Obj) = go
    have hgd0 : go.data = .fields #[.int s2.gens.size 0, .str "<genexpr>" (tk + 1), .str (X.env.qual ++ "<genexpr>") (tk + 1 + 1)] := by rw [← hgo]
    have hgc : go.cls = .type "generator" := by rw [← hgo]
    have hgsl : go.slots = #[] := by rw [← hgo]
    have hgp : (h'.push go).get? h'.objs.size = some go := by rw [← hgo]; exact Heap.get?_push_size _ rfl
    have fsz : ∀ b ∈ fp, b < s2.heap.objs.size := fun b hb => by
      obtain ⟨o, e, _⟩ := T.obj _ _ st2 b hb
      exact Heap.lt_size e
    have kpf : ∀ b o, b ≠ P → s2.heap.get? b = some o → (h'.push go).get? b = some o := fun b o hb e => Heap.get?_push_of_some _ (keep' b o (hx b o hb e))
    refine hQ J H2 (upd H2 P (.tbl (ps ++ more))) { s2 with heap := h3, toks := tk } _ code h'.objs.size it s2.gens.size go fp tn q ⟨⟨ps ++ more, upd_same, ht3⟩, fun b hb => upd_ne hb⟩ I3 T (fun b hb => ⟨⟨?_, (f2 b hb).2⟩, Nat.lt_of_lt_of_le (fsz b hb) hsz⟩)
      (T.keep _ _ _ st2 fun b hb o e => kpf b o (hfP b hb) e) (fun b hb => ?_) (fun h e => ⟨go, _, _, e, hgc, hgd0, hgsl⟩) (Array.getElem?_push_size ..) fun A hA hf => ?_
    · rw [upd_ne (hfP b hb)]
      exact (f2 b hb).1
    · have h1 := fsz b hb
      intro z
      rw [← z, hsz'] at h1
      have : (h3.objs.size : Nat) + 1 < s2.heap.objs.size := h1
      omega
    · exact gen_start (gs := _) I3 G (fun b hb => ⟨⟨by rw [upd_ne (hfP b hb)]; exact (f2 b hb).1, (f2 b hb).2⟩, Nat.lt_of_lt_of_le (fsz b hb) hsz⟩) (fun _ => hA) hf (fun b o e => Heap.get?_push_of_some _ (keep' b o e)) (hn'.push _) (by show h3.objs.size < h'.objs.size; omega) hgp
        (fun v z => by rw [hgd0] at z; cases z) (I2.bare.push rfl)
  cases hf : codeAmong gpos ps.toList with
  | none =>
    refine wpAny_genexprCodeX hcode (cd.code hPs ht) (cd.tab hPs) hf fun c' h' tk hx hge hlt hco' _ htab' _ => ?_
    obtain ⟨o1, vs, f1, tf, fl, tg, inF, tx, tt, op, _, _, _, _, _, _, _, _, _, htr, _⟩ := hco'
    exact cont _ h' tk _ hx (Nat.le_trans hge (Nat.le_of_lt hlt)) htab'.2 htr
  | some cv =>
    refine wpAny_genexprCode_hit hcode (cd.code hPs ht) hf ?_
    exact cont cv s2.heap s2.toks #[] (Heap.ExtBut.refl _ _) (Nat.le_refl _) (by rw [Array.append_empty]; exact hPs) (by rw [Array.append_empty]; exact ht)
theorem over_gen {A : Around} {elt : Expr} {gs : List Comprehension} {scope : Scope} {gpos : Pos} {it acc : Value} {env : Env} : A.over (.compLoop (.GeneratorExp elt gs scope gpos) 0 it acc env) [] = A.deeper env := by
  first
    | rfl
    | (obtain ⟨hd, d, fr, gs, u⟩ := A; simp [Around.over, Around.deeper, marksOver, frameCount, unitsOf, envsOf, guardsOf, pushEnvs, pushGuards, Code.envs, Code.env?, Code.isFrame, Code.guards, Code.isGuard, Code.weight, Code.frames, Code.isCreation, Code.isCaller, Code.cUnits])
end
section
variable {X : Cx} {c P : Addr} {elt tg iter : Expr} {gpos p pos : Pos} {scope : Scope} {N : List Str} {cap : List (Option Nat)} {wi : TI} {g : TG} {te : TE} {k : Nat}
theorem gen_asleep {pins : List (Addr × Obj)} {σ : L2.St} {s4 s5 : Shared} {H4 : Hp} {J : It} {Q : VK} {stop : Bool} {code : Value} {a it : Addr} {gn : Nat} {go : Obj} {fp : List Addr} {tn : Nat → Heap → Prop} {W : Nat → Nat → Hp → Prop} {m : Nat}
    (hc : X.calm = true) (hr : Room (k + 1) X.A) (hco : scope.isCoroutine = false) (hfr : X.A.frames = some X.stack)
    (pg : ∀ (s : Shared) (H : Hp) (C : Addr) (code : Value) (A : Around) (fp : List Addr) (go : Addr × Obj), PG (gcx X s H N (genv X scope C code) A fp go) tg g)
    (pe : ∀ (s : Shared) (H : Hp) (C : Addr) (code : Value) (A : Around) (fp : List Addr) (go : Addr × Obj), Room k A → PE (gcx X s H N (genv X scope C code) A fp go) elt te)
    (I4 : Inv X pins σ H4 s4) (T : Turn X.prog X.w X.K tg J fp it tn) (f4 : ∀ b ∈ fp, FpOk X pins H4 b ∧ b < s4.heap.objs.size) (st : tn 0 s5.heap) (hfa : ∀ b ∈ fp, a ≠ b)
    (hgs : s5.gens[gn]? = some (.fresh (.compStart (.GeneratorExp elt [⟨tg, iter, [], 0⟩] scope gpos) 0 (.ref it) .none (genv X scope s4.heap.objs.size code))))
    (hY : ∀ A : Around, A.handled = none → A.frames = some (genv X scope s4.heap.objs.size code :: X.stack) → Inv (gcx X s4 H4 N (genv X scope s4.heap.objs.size code) A fp (a, go)) [] (capS σ cap) H4 s5)
    (w : W 0 m H4) (step : Steps stop J g te (capS σ cap) Q W) :
    ∃ Y : Cx, Y.prog = X.prog ∧ Y.w = X.w ∧ (a, go) ∈ Y.pn ∧ Inv Y [] (capS σ cap) H4 s5 ∧ Asleep Y (capS σ cap) stop Q X.A gn m s5 ∧ ∀ H' s', Inv Y [] (capS σ cap) H' s' → Inv X pins σ H' s' := by
  have hov : ∀ (A : Around), A.over (.compLoop (.GeneratorExp elt [⟨tg, iter, [], 0⟩] scope gpos) 0 (.ref it) .none (genv X scope s4.heap.objs.size code)) [] = A.deeper (genv X scope s4.heap.objs.size code) := fun A => over_gen
  have hA1 : (X.A.in1.in1.deeper (genv X scope s4.heap.objs.size code)).handled = none := hr.hd
  have hA2 : (X.A.in1.in1.deeper (genv X scope s4.heap.objs.size code)).frames = some (genv X scope s4.heap.objs.size code :: X.stack) := Around.frames_deeper hfr
  have I5 := hY _ hA1 hA2
  have hrm : Room k (X.A.in1.in1.deeper (genv X scope s4.heap.objs.size code)) := ⟨hr.hd, by have := hr.dp; show X.A.depth + 1 + 3 * k + 5 < _; omega, by have := hr.un; show X.A.units + 1 + 1 + 3 + 16 * k + 200 < _; omega⟩
  refine ⟨gcx X s4 H4 N (genv X scope s4.heap.objs.size code) (X.A.in1.in1.deeper (genv X scope s4.heap.objs.size code)) fp (a, go), rfl, rfl, List.mem_singleton.mpr rfl, I5, ⟨_, hgs, rfl, ?_⟩, fun H' s' I' => I4.call' (ch := fp) I'.os I'.base I'.hok I'.bare fun b hb => ⟨(f4 b hb).1.2.2.2.1, (f4 b hb).1.2.1, (f4 b hb).1.2.2.2.2.1, (f4 b hb).1.2.2.2.2.2⟩⟩
  exact gen_seg0 (Ag := X.A.in1.in1) (X := X) (s4 := s4) (H4 := H4) (N := N) (cenv := genv X scope s4.heap.objs.size code) (fp := fp) (a := a) (go := go) hc T hfa hco (by rw [hov]) (pg s4 H4 _ code _ fp (a, go)) (pe s4 H4 _ code _ fp (a, go) hrm) step m m _ _ H4 (Nat.le_refl _) w
    (inv_gens I5 (fun _ _ e => e) rfl (allBare_setGen I5.bare rfl)) st fun b hb => (f4 b hb).1.1
theorem pe_allG (hc : X.calm = true) (hr : Room (k + 1) X.A) (hgl : Gl X "all") (hm : X.mg "all" = none) (TB : GxR.TabB X.base X.mg c P) (hcode : X.env.code = .ref c) (G : GenOk X.N N cap X.env.scope scope) (hi : PI X tg iter wi)
    (pg : ∀ (s : Shared) (H : Hp) (C : Addr) (code : Value) (A : Around) (fp : List Addr) (go : Addr × Obj), PG (gcx X s H N (genv X scope C code) A fp go) tg g)
    (pe : ∀ (s : Shared) (H : Hp) (C : Addr) (code : Value) (A : Around) (fp : List Addr) (go : Addr × Obj), Room k A → PE (gcx X s H N (genv X scope C code) A fp go) elt te)
    (hs : ∀ v, genFold iter X.env v = pure v) (hb : bootBuiltins "all" = some (.builtin "all") := by rfl)
    (he : starEach [.GeneratorExp elt [⟨tg, iter, [], 0⟩] scope gpos] X.env = (false, eval (.GeneratorExp elt [⟨tg, iter, [], 0⟩] scope gpos) X.env) :: starEach [] X.env := by rfl) :
    PE X (.Call (.Name "all" p) [.GeneratorExp elt [⟨tg, iter, [], 0⟩] scope gpos] [] pos) (tGen P false wi g te cap) := by
  refine ⟨fun pins s σ H Q I h => ?_⟩
  refine wpAny_Call_Name_kw (ld_blt I hgl hm hb ?_)
  refine PyProof.Rows.callWith_builtin1 ?_ he (by rfl)
  rw [he]
  show wpAny _ _ (spliced ((false, eval (.GeneratorExp elt [⟨tg, iter, [], 0⟩] scope gpos) X.env) :: backTo pos (starEach [] X.env))) _ _ s
  refine Calls.spliced_cons (gen_made hr.hd (by have := hr.dp; omega) TB hcode G hi hs I h fun J H1 H4 s4 s5 code a it gn go fp tn hR hT I4 T f4 st hfa hgen hgs hY => ?_)
  refine Calls.spliced_nil ?_
  obtain ⟨W, ⟨m, w⟩, step⟩ := hR H4 hT
  obtain ⟨Y, hY1, hY2, hpn, I5, hsl, back⟩ := gen_asleep hc hr G.co I.ok.frames pg pe I4 T f4 st hfa hgs hY w step
  refine call_function_tree F.kind_all F.plain_all F.entry_all (F.args_all1 _) ?_
  unfold Builtin.«all»
  refine wpAny_bind (m := oneArg "all" _) (wpAny_pure ?_)
  refine wpAny_bind (wpAny_pyIter_gen (hgen _ (I5.pin (a, go) (List.mem_append_left _ hpn)).1) ?_)
  rw [← hY1, ← hY2]
  exact wpAny_pure ⟨plainId_quiet F.plain_all_loop _, all_run hgen hpn hr.hd (by have := hr.dp; omega) (fun s' H' b I' q => ⟨.bl b, H', back _ _ I', rfl, q⟩) m s5 H4 I5 hsl⟩
theorem pe_anyG (hc : X.calm = true) (hr : Room (k + 1) X.A) (hgl : Gl X "any") (hm : X.mg "any" = none) (TB : GxR.TabB X.base X.mg c P) (hcode : X.env.code = .ref c) (G : GenOk X.N N cap X.env.scope scope) (hi : PI X tg iter wi)
    (pg : ∀ (s : Shared) (H : Hp) (C : Addr) (code : Value) (A : Around) (fp : List Addr) (go : Addr × Obj), PG (gcx X s H N (genv X scope C code) A fp go) tg g)
    (pe : ∀ (s : Shared) (H : Hp) (C : Addr) (code : Value) (A : Around) (fp : List Addr) (go : Addr × Obj), Room k A → PE (gcx X s H N (genv X scope C code) A fp go) elt te)
    (hs : ∀ v, genFold iter X.env v = pure v) (hb : bootBuiltins "any" = some (.builtin "any") := by rfl)
    (he : starEach [.GeneratorExp elt [⟨tg, iter, [], 0⟩] scope gpos] X.env = (false, eval (.GeneratorExp elt [⟨tg, iter, [], 0⟩] scope gpos) X.env) :: starEach [] X.env := by rfl) :
    PE X (.Call (.Name "any" p) [.GeneratorExp elt [⟨tg, iter, [], 0⟩] scope gpos] [] pos) (tGen P true wi g te cap) := by
  refine ⟨fun pins s σ H Q I h => ?_⟩
  refine wpAny_Call_Name_kw (ld_blt I hgl hm hb ?_)
  refine PyProof.Rows.callWith_builtin1 ?_ he (by rfl)
  rw [he]
  show wpAny _ _ (spliced ((false, eval (.GeneratorExp elt [⟨tg, iter, [], 0⟩] scope gpos) X.env) :: backTo pos (starEach [] X.env))) _ _ s
  refine Calls.spliced_cons (gen_made hr.hd (by have := hr.dp; omega) TB hcode G hi hs I h fun J H1 H4 s4 s5 code a it gn go fp tn hR hT I4 T f4 st hfa hgen hgs hY => ?_)
  refine Calls.spliced_nil ?_
  obtain ⟨W, ⟨m, w⟩, step⟩ := hR H4 hT
  obtain ⟨Y, hY1, hY2, hpn, I5, hsl, back⟩ := gen_asleep hc hr G.co I.ok.frames pg pe I4 T f4 st hfa hgs hY w step
  refine call_function_tree F.kind_any F.plain_any F.entry_any (F.args_any1 _) ?_
  unfold Builtin.«any»
  refine wpAny_bind (m := oneArg "any" _) (wpAny_pure ?_)
  refine wpAny_bind (wpAny_pyIter_gen (hgen _ (I5.pin (a, go) (List.mem_append_left _ hpn)).1) ?_)
  rw [← hY1, ← hY2]
  exact wpAny_pure ⟨plainId_quiet F.plain_any_loop _, any_run hgen hpn hr.hd (by have := hr.dp; omega) (fun s' H' b I' q => ⟨.bl b, H', back _ _ I', rfl, q⟩) m s5 H4 I5 hsl⟩
end

/-! ### data -/
def capR (ρ : Rho) (cap : List (Option Nat)) : Rho := cap.map fun o => match o with
  | none => .un
  | some j => getS ρ j
theorem getS_map {f : Option Nat → Sl} : ∀ {cap : List (Option Nat)} {i : Nat}, getS (cap.map f) i = match cap[i]? with | some o => f o | none => .un
  | [], i => by simp [getS]
  | o :: r, 0 => rfl
  | o :: r, i + 1 => by
    show getS (r.map f) i = _
    rw [getS_map (cap := r) (i := i)]
    simp
theorem capR_at {ρ : Rho} {cap : List (Option Nat)} {i : Nat} (h : getS (capR ρ cap) i ≠ .un) : ∃ j, cap[i]? = some (some j) ∧ getS (capR ρ cap) i = getS ρ j := by
  unfold capR at h ⊢
  rw [getS_map] at h ⊢
  cases e : cap[i]? with
  | none => rw [e] at h; exact absurd rfl h
  | some o =>
    rw [e] at h
    cases o with
    | none => exact absurd rfl h
    | some j => exact ⟨j, rfl, rfl⟩
theorem capS_of {σ : L2.St} {cap : List (Option Nat)} {i j : Nat} {v : V} (h : cap[i]? = some (some j)) (hv : σ[j]? = some (some v)) : (capS σ cap)[i]? = some (some v) := by
  unfold capS
  rw [List.getElem?_map, h]
  show some ((σ[j]?).join) = _
  rw [hv]
  rfl
def capD (cap : List (Option Nat)) : Bool := (List.range cap.length).all fun i => (List.range cap.length).all fun j => decide (i = j) || match cap[i]?, cap[j]? with
  | some (some a), some (some b) => decide (a ≠ b)
  | _, _ => true
theorem capD_inj {cap : List (Option Nat)} (h : capD cap = true) {i i' j : Nat} (h1 : cap[i]? = some (some j)) (h2 : cap[i']? = some (some j)) : i = i' := by
  unfold capD at h
  have a1 := List.all_eq_true.mp (List.all_eq_true.mp h i (List.mem_range.mpr (List.getElem?_eq_some_iff.mp h1).1)) i' (List.mem_range.mpr (List.getElem?_eq_some_iff.mp h2).1)
  rw [h1, h2] at a1
  simp only [Bool.or_eq_true, decide_eq_true_eq] at a1
  rcases a1 with a1 | a1
  · exact a1
  · exact absurd rfl a1
theorem Own.cap {ρ : Rho} {σ : L2.St} {cap : List (Option Nat)} {a : Addr} (h : Own (capR ρ cap) (capS σ cap) a) : Own ρ σ a := by
  obtain ⟨i, ds, h1, h2⟩ := h
  obtain ⟨j, c1, c2⟩ := capR_at (ρ := ρ) (cap := cap) (i := i) (by intro z; rw [z] at h1; cases h1)
  obtain ⟨j', c3, c4⟩ := capS_at h2
  rw [c1] at c3
  cases c3
  exact ⟨j, ds, by rw [← c2]; exact h1, c4⟩
section
variable {T : List Addr} {K : PySem.W.Frag} {H : Hp} {W : Addr → Prop} {ρ : Rho} {σ : L2.St}
theorem Rp.cap (r : Rp K H W ρ σ) {cap : List (Option Nat)} (hn : capD cap = true) : Rp K H W (capR ρ cap) (capS σ cap) := by
  have sub : ∀ a (xs : MuH), H a = some xs.1 → Wd W (capR ρ cap) (capS σ cap) a → Wd W ρ σ a := fun a _ _ z => z.elim .inl fun z => .inr (Own.cap z)
  refine ⟨by unfold capR capS; rw [List.length_map, List.length_map], fun i d h => ?_, fun i ds h => ?_, fun i i' di dj a h1 h2 h3 h4 => ?_, r.wl⟩
  · obtain ⟨j, c1, c2⟩ := capR_at (ρ := ρ) (cap := cap) (i := i) (by rw [h]; exact fun z => nomatch z)
    obtain ⟨v, v1, v2⟩ := r.im j d (by rw [← c2]; exact h)
    exact ⟨v, capS_of c1 v1, v2.sub sub⟩
  · obtain ⟨j, c1, c2⟩ := capR_at (ρ := ρ) (cap := cap) (i := i) (by intro z; rw [z] at h; cases h)
    obtain ⟨a, v1, v2, v3⟩ := r.own j ds (by rw [← c2]; exact h)
    exact ⟨a, capS_of c1 v1, v2, v3.sub sub⟩
  · obtain ⟨j, c1, c2⟩ := capR_at (ρ := ρ) (cap := cap) (i := i) (by intro z; rw [z] at h1; cases h1)
    obtain ⟨j', c1', c2'⟩ := capR_at (ρ := ρ) (cap := cap) (i := i') (by intro z; rw [z] at h2; cases h2)
    obtain ⟨q, c3, c4⟩ := capS_at h3
    rw [c1] at c3
    cases c3
    obtain ⟨q', c5, c6⟩ := capS_at h4
    rw [c1'] at c5
    cases c5
    have e := r.inj j j' di dj a (by rw [← c2]; exact h1) (by rw [← c2']; exact h2) c4 c6
    subst e
    exact capD_inj hn c1 c1'
end
def genGo (stop : Bool) (ρ : Rho) (gf : Dt → Rho → Option Rho) (fe : Fn) : List Dt → Option Bool
  | [] => some (!stop)
  | d :: ds => (gf d ρ).bind fun ρ' => (fe ρ').bind fun y => match y with
    | .bl b => if b = stop then some stop else genGo stop ρ gf fe ds
    | _ => none
def fGen (stop : Bool) (fi : FnL) (cap : List (Option Nat)) (gf : Dt → Rho → Option Rho) (fe : Fn) : Fn := fun ρ => (fi ρ).bind fun ds => (genGo stop (capR ρ cap) gf fe ds).bind fun b => some (.bl b)
theorem tabbed_ext {H1 H4 : Hp} {P : Addr} (h : GxR.TabG H1 P) (t : GxR.Tabbed P H1 H4) : Ext H1 H4 := by
  obtain ⟨ps, hP, _⟩ := h
  obtain ⟨⟨ps', hP', _⟩, hs⟩ := t
  refine ⟨fun b o e n => ?_, fun b e => ?_⟩
  · have hb : b ≠ P := fun z => by
      rw [z, hP] at e
      cases e
      cases n
    rw [hs b hb]
    exact e
  · have hb : b ≠ P := fun z => by
      rw [z, hP'] at e
      cases e
    rw [← hs b hb]
    exact e
theorem tabbed_gd {T : List Addr} {H1 H4 : Hp} {P : Addr} (g : Gd T H1) (t : GxR.Tabbed P H1 H4) : Gd T H4 := by
  refine ⟨fun a xs h => ?_, fun P' hP' => ?_⟩
  · have hb : a ≠ P := fun z => by
      obtain ⟨⟨ps', e, _⟩, _⟩ := t
      rw [z, e] at h
      rcases h with h | h <;> cases h
    rw [t.2 a hb] at h
    exact g.1 a xs h
  · by_cases e : P' = P
    · rw [e]
      exact t.1
    · obtain ⟨ps, h1, h2⟩ := g.2 P' hP'
      exact ⟨ps, by rw [t.2 P' e]; exact h1, h2⟩
theorem sd_gen {k m : Bool} {T : List Addr} {K : PySem.W.Frag} {P : Addr} {stop : Bool} {wi : TI} {g : TG} {te : TE} {fi : FnL} {gf : Dt → Rho → Option Rho} {is : List Nat} {fe : Fn} {cap : List (Option Nat)} (hP : P ∈ T) (hi : SdI false T K wi fi) (hg : SdG T K g gf is) (he : Sd false T K te fe)
    (hn : capD cap = true) (hs : ∀ i ∈ is, cap[i]? = some none) : Sd m T K (tGen P stop wi g te cap) (fGen stop fi cap gf fe) := fun W ρ σ H d Q gd rp e q => by
  obtain ⟨ds, ei, e⟩ := obind e
  obtain ⟨b0, eb, e⟩ := obind e
  cases e
  refine hi W ρ σ H ds _ gd rp ei fun J H1 e1 g1 jok => ⟨g1.2 P hP, fun H4 hT => ?_⟩
  have e4 : Ext H1 H4 := tabbed_ext (g1.2 P hP) hT
  refine ⟨fun i m H' => m = ds.length - i ∧ i ≤ ds.length ∧ Ext H4 H' ∧ Gd T H' ∧ genGo stop (capR ρ cap) gf fe (ds.drop i) = some b0, ⟨ds.length, rfl, Nat.zero_le _, Ext.refl _, tabbed_gd g1 hT, eb⟩, fun i m Hc hw => ?_⟩
  obtain ⟨rfl, hile, ex, gc, ego⟩ := hw
  have e1c : Ext H1 Hc := e4.trans ex
  obtain ⟨jgo, jstop⟩ := jok Hc e1c.kp gc
  by_cases hlt : i < ds.length
  · obtain ⟨d, hd⟩ : ∃ d, ds[i]? = some d := ⟨ds[i], List.getElem?_eq_getElem hlt⟩
    obtain ⟨go, yl⟩ := jgo i d hd
    have edrop : ds.drop i = d :: ds.drop (i + 1) := by
      rw [List.drop_eq_getElem_cons hlt]
      rw [List.getElem?_eq_getElem hlt] at hd
      cases hd
      rfl
    rw [edrop] at ego
    obtain ⟨ρ2, eg, ego⟩ := obind ego
    obtain ⟨y, ey, ego⟩ := obind ego
    cases y with
    | bl b =>
      refine .inr ⟨go, by omega, fun Hn => Ext H4 Hn ∧ Gd T Hn ∧ genGo stop (capR ρ cap) gf fe (ds.drop (i + 1)) = some b0, fun Hn hN => ⟨ds.length - (i + 1), by omega, rfl, hlt, hN⟩, fun x H' y => ?_⟩
      obtain ⟨e2, g2, rx⟩ := yl x H' y
      have rpc : Rp K H' W (capR ρ cap) (capS σ cap) := (rp.ext (e1.trans (e1c.trans e2))).cap hn
      have rx' : Rep K H' (Wd W (capR ρ cap) (capS σ cap)) x d := rx.sub fun a xs h z => .inl (z.elim .inl fun z => .inr (Own.cap z))
      refine hg W (capR ρ cap) (capS σ cap) H' x d ρ2 _ g2 rpc rx' eg fun σ2 rp3 k3 l3 o3 u3 => ⟨⟨l3, fun j v hj => ?_⟩, ?_⟩
      · have hj' : j ∉ is := fun z => by
          obtain ⟨j', c, _⟩ := capS_at hj
          rw [hs j z] at c
          cases c
        rw [k3 j hj']
        exact hj
      · refine he W ρ2 σ2 H' (.bl b) _ g2 rp3 ey fun v4 H3 e3 g3 r4 => ?_
        cases r4
        refine ⟨b, rfl, ?_⟩
        have ego' : (if b = stop then some stop else genGo stop (capR ρ cap) gf fe (ds.drop (i + 1))) = some b0 := ego
        by_cases hb : b = stop
        · rw [if_pos hb] at ego' ⊢
          cases ego'
          exact q _ _ (e1.trans (e1c.trans (e2.trans e3))) g3 (.bl _)
        · rw [if_neg hb] at ego' ⊢
          exact ⟨ex.trans (e2.trans e3), g3, ego'⟩
    | _ => cases ego
  · have hi' : i = ds.length := by omega
    subst hi'
    rw [List.drop_length] at ego
    cases ego
    exact .inl ⟨jstop _ (Nat.le_refl _), q _ _ (e1.trans e1c) gc (.bl _)⟩
section
variable {m : Bool} {T : List Addr} {K : PySem.W.Frag} {X : Cx} {c P : Addr} {elt tg iter : Expr} {gpos p pos : Pos} {scope : Scope} {N : List Str} {cap : List (Option Nat)} {wi : TI} {g : TG} {te : TE} {k : Nat} {fi : FnL} {gf : Dt → Rho → Option Rho} {is : List Nat} {fe : Fn}
theorem de_allG (hr : Room (k + 1) X.A) (TB : GxR.TabB X.base X.mg c P) (hP : P ∈ T) (hm : X.mg "all" = none) (hi : DI false T K X tg iter wi fi) (ok : genB X.N N cap X.env.scope scope = true)
    (hg : ∀ (s : Shared) (H : Hp) (C : Addr) (code : Value) (A : Around) (fp : List Addr) (go : Addr × Obj), DG T K (gcx X s H N (genv X scope C code) A fp go) tg g gf is)
    (he : ∀ (s : Shared) (H : Hp) (C : Addr) (code : Value) (A : Around) (fp : List Addr) (go : Addr × Obj), Room k A → DE false T K (gcx X s H N (genv X scope C code) A fp go) elt te fe)
    (hn : capD cap = true := by rfl) (hs : is.all (fun i => decide (cap[i]? = some none)) = true := by rfl)
    (hc : X.calm = true := by rfl) (hcode : X.env.code = .ref c := by rfl) (hgl : Gl X "all" := by rfl) (hf : ∀ v, genFold iter X.env v = pure v := by intro _; rfl)
    (hst : starEach [.GeneratorExp elt [⟨tg, iter, [], 0⟩] scope gpos] X.env = (false, eval (.GeneratorExp elt [⟨tg, iter, [], 0⟩] scope gpos) X.env) :: starEach [] X.env := by rfl) :
    DE m T K X (.Call (.Name "all" p) [.GeneratorExp elt [⟨tg, iter, [], 0⟩] scope gpos] [] pos) (tGen P false wi g te cap) (fGen false fi cap gf fe) :=
  ⟨pe_allG hc hr hgl hm TB hcode (genOk_by ok) hi.pi (fun s H C code A fp go => (hg s H C code A fp go).pg) (fun s H C code A fp go r => (he s H C code A fp go r).pe) hf rfl hst,
   sd_gen (k := false) hP hi.sd (hg { } (fun _ => none) 0 .none X.A [] (0, default)).sd (he { } (fun _ => none) 0 .none X.A [] (0, default) (hr.mono (Nat.le_succ k))).sd hn fun i hi => of_decide_eq_true (List.all_eq_true.mp hs i hi)⟩
theorem de_anyG (hr : Room (k + 1) X.A) (TB : GxR.TabB X.base X.mg c P) (hP : P ∈ T) (hm : X.mg "any" = none) (hi : DI false T K X tg iter wi fi) (ok : genB X.N N cap X.env.scope scope = true)
    (hg : ∀ (s : Shared) (H : Hp) (C : Addr) (code : Value) (A : Around) (fp : List Addr) (go : Addr × Obj), DG T K (gcx X s H N (genv X scope C code) A fp go) tg g gf is)
    (he : ∀ (s : Shared) (H : Hp) (C : Addr) (code : Value) (A : Around) (fp : List Addr) (go : Addr × Obj), Room k A → DE false T K (gcx X s H N (genv X scope C code) A fp go) elt te fe)
    (hn : capD cap = true := by rfl) (hs : is.all (fun i => decide (cap[i]? = some none)) = true := by rfl)
    (hc : X.calm = true := by rfl) (hcode : X.env.code = .ref c := by rfl) (hgl : Gl X "any" := by rfl) (hf : ∀ v, genFold iter X.env v = pure v := by intro _; rfl)
    (hst : starEach [.GeneratorExp elt [⟨tg, iter, [], 0⟩] scope gpos] X.env = (false, eval (.GeneratorExp elt [⟨tg, iter, [], 0⟩] scope gpos) X.env) :: starEach [] X.env := by rfl) :
    DE m T K X (.Call (.Name "any" p) [.GeneratorExp elt [⟨tg, iter, [], 0⟩] scope gpos] [] pos) (tGen P true wi g te cap) (fGen true fi cap gf fe) :=
  ⟨pe_anyG hc hr hgl hm TB hcode (genOk_by ok) hi.pi (fun s H C code A fp go => (hg s H C code A fp go).pg) (fun s H C code A fp go r => (he s H C code A fp go r).pe) hf rfl hst,
   sd_gen (k := false) hP hi.sd (hg { } (fun _ => none) 0 .none X.A [] (0, default)).sd (he { } (fun _ => none) 0 .none X.A [] (0, default) (hr.mono (Nat.le_succ k))).sd hn fun i hi => of_decide_eq_true (List.all_eq_true.mp hs i hi)⟩
end

/-! ### the end -/
/-- the law's promise over any heap that holds the script and the tables -/
def spEnd (T : List Addr) (K : PySem.W.Frag) (run : List Dt → Option Dt) : Sp := fun vs H Q _ => ∃ (a : Addr) (ns : List Int), vs = [.ref a] ∧ SqL K H a (ns.map V.int) ∧ (∀ P ∈ T, GxR.TabG H P) ∧ run [.scr ns] = some (.bl true) ∧ ∀ H', Q (.bl true) H'
theorem gd_of {P : Program} {w : World} {T : List Addr} {H : Hp} {h : Heap} (hok : HOk P w H h) (t : ∀ P ∈ T, GxR.TabG H P) : Gd T H :=
  ⟨fun a xs e => e.elim (fun e => (hok a _ e).1) fun e => (hok a _ e).1, t⟩
theorem fn_end {P : Program} {w : World} {K : PySem.W.Frag} {mg : Str → Option Value} {base : Heap} {k : Nat} {f : Addr} {fd : FuncData} {x : Str} {T : List Addr} {run : List Dt → Option Dt} (F : FnOk P w K mg base L2.CX0 k f fd [x] (spOf T K 1 run)) : FnOk P w K mg base L2.CX0 k f fd [x] (spEnd T K run) := by
  refine ⟨fun vs H Q E h => by obtain ⟨a, ns, rfl, _⟩ := h; rfl, fun A outer s H args us vs Q E hr e0 hb hv h => ?_⟩
  obtain ⟨a, ns, rfl, hq, ht, hrun, q⟩ := h
  have go : ∀ H1 : Hp, Env0 P w K mg base A outer s H1 → Scr K H1 a ns → (∀ P ∈ T, GxR.TabG H1 P) → codeAny (model P w) A (.call (.ref f) args) (CR L2.CX0 outer P w H1 s Q E) s := fun H1 e1 sc t1 =>
    F.run A outer s H1 args us [.ref a] Q E hr e1 hb hv ⟨NoW, [.scr ns], .bl true, gd_of e1.hok t1, fun _ z => z.elim, .one (.scr sc), rfl, hrun, fun v H' _ _ r => by cases r; exact q H'⟩
  rcases hq with (ha | ⟨o, ha⟩) | hk
  · obtain ⟨hl, its, n, rv, ho⟩ := e0.hok a _ ha
    have ne : ∀ b o, H b = some o → (∀ xs, o ≠ .lst xs) → b ≠ a := fun b o e z z2 => by
      rw [z2, ha] at e
      exact z _ (Option.some.inj e).symm
    have nn : ∀ b, H b = none → b ≠ a := fun b e z => by rw [z, ha] at e; cases e
    generalize hfz : HO.frz { cls := .type "list", data := .seq its.toArray n } (.lst (ns.map V.int)) = fz
    have hok1 : HOk P w (upd H a fz) s.heap := fun b u e => by
      by_cases hb : b = a
      · subst hb
        rw [upd_same] at e
        cases e
        subst hfz
        exact ⟨ho, hl, its, n, rv, ho⟩
      · rw [upd_ne hb] at e
        exact (e0.hok b u e).stay (fun _ _ _ z => z) (fun d z => by rw [upd_ne (ne d _ z (fun xs q => by cases q))]; exact z) fun d xs z => by rw [upd_ne (ne d _ z (fun xs q => by cases q))]; exact z
    have e1 : Env0 P w K mg base A outer s (upd H a fz) := ⟨e0.frames, e0.mod, fun b o e => ⟨(e0.bs b o e).1, by rw [upd_ne (nn b (e0.bs b o e).2)]; exact (e0.bs b o e).2⟩, e0.bsz, e0.funs, fun b hb => by rw [upd_ne (nn b (e0.frf b hb))]; exact e0.frf b hb, hok1, e0.bare⟩
    refine codeAny_mono (go (upd H a fz) e1 (.inl ⟨_, by rw [upd_same, ← hfz]⟩) fun P hP => ?_) fun r s' hr' => ?_
    · obtain ⟨ps, z1, z2⟩ := ht P hP
      exact ⟨ps, by rw [upd_ne (ne P _ z1 (fun xs q => by cases q))]; exact z1, z2⟩
    · cases r with
      | error e => exact hr'
      | ok fl =>
        cases fl with
        | ret u =>
          obtain ⟨v, H', c1, c2, c3, c4, c5, c6⟩ := hr'
          refine ⟨v, H', c1, c2, ⟨fun b o e n => c3.keep b o e (by rw [upd_ne (nn b n)]; exact n), fun b o e n => c3.slot b o e (by rw [upd_ne (nn b n)]; exact n), fun b o e n => c3.free b o e (by rw [upd_ne (nn b n)]; exact n), c3.there, fun b xs e => c3.tups b xs ?_, fun b o u e => c3.frzs b o u ?_, fun b ps e => c3.tbls b ps ?_⟩, c4, c5, c6⟩
          · rw [upd_ne (ne b _ e (fun xs q => by cases q))]; exact e
          · rw [upd_ne (ne b _ e (fun xs q => by cases q))]; exact e
          · rw [upd_ne (ne b _ e (fun xs q => by cases q))]; exact e
        | next => exact hr'
        | brk => exact hr'
        | cont => exact hr'
  · exact go H e0 (.inl ⟨o, ha⟩) ht
  · exact go H e0 (.inr hk) ht
theorem walk_tab {l : PySem.W.OpenLaw} {n k : Nat} {q : Program} {loose : List Str} {XP : (Str → Option Value) → Heap → Prop} {YP : World → Heap → Prop} {d : DefRec} {K : Params → PySem.W.Frag} {x : Str} {run : List Dt → Option Dt}
    (hn : l.most = some n) (hn2 : n ≤ sizeLine) (hdf : d.params.defaults = []) (hr : Room k callerA) (hY : ∀ (w : World) (h : Heap), YP w h → (K w.params).In h)
    (F : ∀ (w : World) (mg : Str → Option Value) (fa : Addr) (h : Heap), (K w.params).In h → h.Ns mainGlobals mg → mg d.name = some (.ref fa) →
      (∀ (y : Str) (f : Addr), ((recsOf q).any fun e => e.name == y) = true → mg y = some (.ref f) → LamX.OwnTab (K w.params) f h) →
      ∃ (fd : FuncData) (cs : List (Addr × Addr)), (∀ p ∈ cs, h.get? p.2 = some { cls := .none, data := .fields #[] }) ∧ (∀ p ∈ cs, (K w.params).lookup p.2 = none) ∧ (∀ p ∈ cs, PySem.W.CodeHd h p.1 p.2) ∧ (∀ (s : Shared) (u : Value), BindsTo s fd ⟨[u], []⟩ [(x, u)]) ∧
        ∀ base : Heap, (K w.params).In base → base.Ns mainGlobals mg → (∀ p ∈ cs, GxR.TabB base mg p.1 p.2) → FnOk l.prog w (K w.params) mg base L2.CX0 k fa fd [x] (spOf (cs.map (·.2)) (K w.params) 1 run))
    (hrun : ∀ ns : List Int, ns.length ≤ n → run [.scr ns] = some (.bl true)) :
    PySem.W.WalkO q loose XP YP l.row.toRowW d [] (fun f vs => PySem.call f vs) := by
  refine Att.attach_callB hn hdf fun w s₀ s₁ mg mb fa o pm cd doc a vs ns G Y ho hd hcd hmg hobj hints hlen hbits hg => ?_
  have KX := hY w _ Y
  have own : ∀ (y : Str) (f : Addr), ((recsOf q).any fun e => e.name == y) = true → mg y = some (.ref f) → LamX.OwnTab (K w.params) f s₁.heap := fun y f hy hm c P o1 fd1 e dd vs1 sl k1 k2 k3 k4 k5 => by
    obtain ⟨dr, hdr, hnm⟩ := List.any_eq_true.mp hy
    obtain ⟨a', o', fd', c', P', t1, t2, t3, t4, _, ⟨oc, vc, u1, _, u3, u4⟩, hP⟩ := G.T.tab dr hdr
    rw [beq_iff_eq.mp hnm, hm] at t1
    cases t1
    have w1 := (KX _ _ k1).symm.trans t2
    cases w1
    have w2 := k2.symm.trans t3
    cases w2
    have w3 := k3.symm.trans t4
    cases w3
    have w4 := (KX _ _ k4).symm.trans u1
    cases w4
    cases u3
    have w5 := k5.symm.trans u4
    cases w5
    exact hP
  obtain ⟨fd, cs, hT, nT, C, hb, hF⟩ := F w mg fa _ KX G.T.g hmg own
  exact LamX.law_callTs KX G.T.g G.T.b G.T.builtins G.T.nolimit hg hT nT C G.T.bmain hobj hints (Nat.le_trans hlen hn2) hr (fun base h1 h2 h3 => fn_end (hF base h1 h2 fun p hp => ⟨(h3 p hp).code, (h3 p hp).bm, (h3 p hp).gP⟩)) hb
    (fun H hH hS => ⟨a, ns, rfl, hS, fun P hP => by
      obtain ⟨p, hp, rfl⟩ := List.mem_map.mp hP
      exact ⟨#[], hH p hp, True.intro⟩, hrun ns hlen, fun _ => rfl⟩) fun H e s' h => h

/-! ### a def with its code object -/
theorem ok_defC {T : List Addr} {K : PySem.W.Frag} {x : Str} {P : Program} {w : World} {mg : Str → Option Value} {base : Heap} {qual : Str} {st : Stmt} {fo : Addr} {fd : FuncData} {N ps : List Str} {k : Nat} {F : FnS} (Fn : Fun K x qual st fo fd) (S : FnScope N ps (defScope st))
    (hbody : ∀ (cdv : Value), fd.code = cdv → ∀ (A : Around) (outer : List Env) (s : Shared) (H : Hp) (E : XK), Room k (A.deeper (envOfC qual (defScope st) s.heap.objs.size fo cdv)) →
      ∃ t as, DSs T K (cxOf CX0 P w K mg base N qual (defScope st) fo cdv A outer s H E).nox (defBody st) t F as) (hn : ps.length ≤ N.length := by decide) : FnOk P w K mg base CX0 (k + 1) fo fd ps (spOf T K ps.length (runF N.length F)) := by
  obtain ⟨oc, od, kV, doc, pm, an, cdv, ct, osl, rfl, lk, hcd⟩ := Fn.ex
  refine fn_of lk hcd S (fun vs H Q E h => ?_) fun A outer s H vs Q E hr h => ?_
  · obtain ⟨W, ds, d, _, _, r, hl, _⟩ := h
    rw [r.length, hl]
  · obtain ⟨W, ds, d, g, wl, r, hl, e, q⟩ := h
    obtain ⟨t, as, hb⟩ := hbody cdv rfl A outer s H E hr
    refine ⟨t, hb.ps.nox, ?_⟩
    obtain ⟨fl, e1, e2⟩ := obind e
    have hvl := r.length
    have nown : ∀ a, ¬ Own (ds.map Sl.im ++ List.replicate (N.length - ds.length) .un) (L2.start N vs) a := fun a z => by
      obtain ⟨i, es, h1, _⟩ := z
      rw [getS_app] at h1
      cases hd : ds[i]? with
      | none => rw [hd] at h1; cases h1
      | some d' => rw [hd] at h1; cases h1
    have rp : Rp K H W (ds.map Sl.im ++ List.replicate (N.length - ds.length) .un) (L2.start N vs) := by
      refine ⟨?_, fun i d' h1 => ?_, fun i es h1 => ?_, fun i j di dj a h1 => ?_, wl⟩
      · unfold L2.start
        simp only [List.length_append, List.length_map, List.length_replicate, hvl]
      · rw [getS_app] at h1
        cases hd : ds[i]? with
        | none => rw [hd] at h1; cases h1
        | some d2 =>
          rw [hd] at h1
          cases h1
          obtain ⟨v, hv, rv⟩ := r.get hd
          refine ⟨v, ?_, rv.sub fun a _ _ z => z.elim (fun z => z) fun z => (nown a z).elim⟩
          unfold L2.start
          have hi : i < vs.length := (List.getElem?_eq_some_iff.mp hv).1
          rw [List.getElem?_append_left (by rw [List.length_map]; exact hi), List.getElem?_map, hv]
          rfl
      · rw [getS_app] at h1
        cases hd : ds[i]? with
        | none => rw [hd] at h1; cases h1
        | some d' => rw [hd] at h1; cases h1
      · rw [getS_app] at h1
        cases hd : ds[i]? with
        | none => rw [hd] at h1; cases h1
        | some d' => rw [hd] at h1; cases h1
    refine hb.sd W _ _ H fl _ g rp e1 ?_
    cases fl with
    | rt d' =>
      cases e2
      exact fun v H' kp g1 r1 => q v H' (kp.ext nown) g1 r1
    | nx ρ' =>
      cases e2
      exact fun σ' H' y => q .non H' (y.kp.ext nown) y.gd .non
    | bk ρ' => cases e2
    | ct ρ' => cases e2
theorem own_tab {K : PySem.W.Frag} {h : Heap} {f c P : Addr} {o : Obj} {fd : FuncData} {e : Value} {dd : Option Addr} {vs : Array Value} {sl : Array (Option Value)} (t : LamX.OwnTab K f h) (h1 : K.lookup f = some o) (h2 : o.data = .func fd) (h3 : fd.code = .ref c)
    (h4 : K.lookup c = some ⟨e, dd, .fields vs, sl⟩) (h5 : vs[11]? = some (.ref P)) : h.get? P = some { cls := .none, data := .fields #[] } := t c P o fd e dd vs sl h1 h2 h3 h4 h5
theorem allc {α : Type} {P : α → Prop} {a : α} {l : List α} (h : P a) (t : ∀ p ∈ l, P p) : ∀ p ∈ a :: l, P p := fun p hp => (List.mem_cons.mp hp).elim (fun e => by rw [e]; exact h) (t p)
theorem alln {α : Type} {P : α → Prop} : ∀ p ∈ ([] : List α), P p := fun p hp => nomatch hp
end EL
end

section
set_option Elab.async false
set_option maxRecDepth 100000
/-! generator expressions reckoned out; ints and rows of ints -/
namespace LK
open PySem EL
open PySem.W (AlikeAll dataLt alike alikeAll)
@[simp] theorem fGen_a (st : Bool) (fi : FnL) (cap : List (Option Nat)) (gf : Dt → Rho → Option Rho) (fe : Fn) (ρ : Rho) : fGen st fi cap gf fe ρ = (fi ρ).bind fun ds => (genGo st (capR ρ cap) gf fe ds).bind fun b => some (.bl b) := rfl
@[simp] theorem capR_n (ρ : Rho) : capR ρ [] = [] := rfl
@[simp] theorem capR_0 (ρ : Rho) (r : List (Option Nat)) : capR ρ (none :: r) = .un :: capR ρ r := rfl
@[simp] theorem capR_s (ρ : Rho) (j : Nat) (r : List (Option Nat)) : capR ρ (some j :: r) = getS ρ j :: capR ρ r := rfl
theorem gen_all {α : Type} {ρ : Rho} {gf : Dt → Rho → Option Rho} {fe : Fn} (enc : α → Dt) (p : α → Bool) : ∀ (xs : List α), (∀ x ∈ xs, ∃ ρ', gf (enc x) ρ = some ρ' ∧ fe ρ' = some (.bl (p x))) → genGo false ρ gf fe (xs.map enc) = some (xs.all p)
  | [], _ => rfl
  | x :: xs, h => by
    obtain ⟨ρ', h1, h2⟩ := h x List.mem_cons_self
    have ih := gen_all enc p xs fun y hy => h y (List.mem_cons_of_mem _ hy)
    show ((gf (enc x) ρ).bind fun ρ' => (fe ρ').bind fun y => match y with | .bl b => if b = false then some false else genGo false ρ gf fe (xs.map enc) | _ => none) = _
    rw [h1, Option.bind_some, h2, Option.bind_some, List.all_cons, ih]
    cases p x <;> rfl
theorem gen_any {α : Type} {ρ : Rho} {gf : Dt → Rho → Option Rho} {fe : Fn} (enc : α → Dt) (p : α → Bool) : ∀ (xs : List α), (∀ x ∈ xs, ∃ ρ', gf (enc x) ρ = some ρ' ∧ fe ρ' = some (.bl (p x))) → genGo true ρ gf fe (xs.map enc) = some (xs.any p)
  | [], _ => rfl
  | x :: xs, h => by
    obtain ⟨ρ', h1, h2⟩ := h x List.mem_cons_self
    have ih := gen_any enc p xs fun y hy => h y (List.mem_cons_of_mem _ hy)
    show ((gf (enc x) ρ).bind fun ρ' => (fe ρ').bind fun y => match y with | .bl b => if b = true then some true else genGo true ρ gf fe (xs.map enc) | _ => none) = _
    rw [h1, Option.bind_some, h2, Option.bind_some, List.any_cons, ih]
    cases p x <;> rfl
theorem nm (a b : Nat) : Int.fmod (a : Int) (b : Int) = ((a % b : Nat) : Int) := by
  rw [Int.fmod_eq_emod_of_nonneg _ (Int.natCast_nonneg b)]; exact (Int.natCast_emod a b).symm
theorem nq (a b : Nat) : Int.fdiv (a : Int) (b : Int) = ((a / b : Nat) : Int) := by
  rw [Int.fdiv_eq_ediv_of_nonneg _ (Int.natCast_nonneg b)]; exact (Int.natCast_ediv a b).symm
/-- a list of draws -/
abbrev dl (dn : List Nat) : List Dt := dn.map fun (d : Nat) => .int d
theorem dl_at {dn : List Nat} (i : Int) (h0 : 0 ≤ i) (h : i < dn.length) : L2.atI (dl dn) i = some (.int (dn.getD i.toNat 0 : Nat)) := by
  unfold dl
  rw [atI_mapf _ h0 (by omega)]
  simp [List.getD, show i.toNat < dn.length by omega]
theorem gAdd_tt {xs ys : List Dt} (h1 : xs.length ≤ 4000) (h2 : ys.length ≤ 4000) : gAdd (.tup xs) (.tup ys) = some (.tup (xs ++ ys)) := by
  show (if xs.length + ys.length ≤ sizeLine then some (Dt.tup (xs ++ ys)) else none) = _
  rw [if_pos (size_ge (by omega))]
theorem gAdd_ll {xs ys : List Dt} (h1 : xs.length ≤ 4000) (h2 : ys.length ≤ 4000) : gAdd (.lst xs) (.lst ys) = some (.lst (xs ++ ys)) := by
  show (if xs.length + ys.length ≤ sizeLine then some (Dt.lst (xs ++ ys)) else none) = _
  rw [if_pos (size_ge (by omega))]
theorem mem_cutL {α : Type} {xs : List α} {lo hi : Option Int} {x : α} (h : x ∈ cutL xs lo hi) : x ∈ xs := by
  unfold cutL at h
  exact List.mem_of_mem_drop (List.mem_of_mem_take h)
/-! min of ints and of pairs -/
theorem depth_ints : ∀ l : List Int, PyData.depthAll (Dt.pyA (l.map Dt.int)) ≤ 1
  | [] => by simp [Dt.pyA, PyData.depthAll]
  | x :: l => by
    have := depth_ints l
    simp only [List.map_cons, Dt.pyA, Dt.py, PyData.depthAll, PyData.depth]
    omega
theorem lay_ints : ∀ l : List Int, PyData.canLayAll0 (Dt.pyA (l.map Dt.int)) = true
  | [] => by simp [Dt.pyA, PyData.canLayAll0]
  | x :: l => by
    have := lay_ints l
    simp only [List.map_cons, Dt.pyA, Dt.py, PyData.canLayAll0, PyData.canLay0, this, Bool.and_self]
theorem pyA_ints (l : List Int) : Dt.pyA (l.map Dt.int) = l.map PyData.int := by
  rw [pyA_map, List.map_map]
  refine List.map_congr_left fun x _ => by simp [Dt.py]
theorem minT_ints (x : Int) (l : List Int) : gMinD [.tup ((x :: l).map Dt.int)] = some (.int (l.foldl min x)) := by
  have hc : cdc (AlikeAll (Dt.pyA ((x :: l).map Dt.int)) ∧ PyData.canLayAll0 (Dt.pyA ((x :: l).map Dt.int)) = true ∧ PyData.depthAll (Dt.pyA ((x :: l).map Dt.int)) ≤ 60) = true :=
    cdc_t ⟨alike_ints x l, lay_ints (x :: l), Nat.le_trans (depth_ints (x :: l)) (by omega)⟩
  show (if cdc (AlikeAll (Dt.pyA (.int x :: l.map Dt.int)) ∧ PyData.canLayAll0 (Dt.pyA (.int x :: l.map Dt.int)) = true ∧ PyData.depthAll (Dt.pyA (.int x :: l.map Dt.int)) ≤ 60) = true then some (bestD dataLt (.int x) (l.map Dt.int)) else none) = _
  rw [List.map_cons] at hc
  rw [if_pos hc]
  congr 1
  have h := bestD_py dataLt (l.map Dt.int) (.int x)
  rw [pyA_ints] at h
  have h2 := W.minD_ints x l
  unfold W.minD at h2
  have h3 : (Dt.int x).py = PyData.int x := by simp [Dt.py]
  rw [h3, h2] at h
  have h4 : (Dt.int (l.foldl min x)).py = PyData.int (l.foldl min x) := by simp [Dt.py]
  rw [← h4] at h
  exact (py_inj _ _ h.symm (by simp [Dt.py, PyData.canLay0])).symm
def en2 (q : Int × Int) : Dt := .tup [.int q.1, .int q.2]
theorem best_mem (f : PyData → PyData → Bool) : ∀ (xs : List Dt) (x : Dt), bestD f x xs ∈ x :: xs
  | [], x => by simp [bestD]
  | y :: xs, x => by
    have := best_mem f xs (if f y.py x.py then y else x)
    show bestD f (if f y.py x.py then y else x) xs ∈ _
    rcases List.mem_cons.mp this with h | h
    · rw [h]
      split
      · exact List.mem_cons_of_mem _ List.mem_cons_self
      · exact List.mem_cons_self
    · exact List.mem_cons_of_mem _ (List.mem_cons_of_mem _ h)
theorem minL_pairs (q : Int × Int) (l : List (Int × Int)) : ∃ b, gMinD [.lst ((q :: l).map en2)] = some (en2 b) := by
  have e1 : ∀ q : Int × Int, (en2 q).py = .tuple [.int q.1, .int q.2] := fun q => by simp [en2, Dt.py, Dt.pyA]
  have hal : AlikeAll (Dt.pyA ((q :: l).map en2)) := by
    rw [pyA_map]
    constructor
    · intro a ha b hb
      obtain ⟨a', ha1, rfl⟩ := List.mem_map.mp ha
      obtain ⟨a'', _, rfl⟩ := List.mem_map.mp ha1
      obtain ⟨b', hb1, rfl⟩ := List.mem_map.mp hb
      obtain ⟨b'', _, rfl⟩ := List.mem_map.mp hb1
      rw [e1, e1]
      simp [alike, alikeAll]
    · intro a ha
      obtain ⟨a', ha1, rfl⟩ := List.mem_map.mp ha
      obtain ⟨a'', _, rfl⟩ := List.mem_map.mp ha1
      rw [e1]
      simp
  have hdep : ∀ l : List (Int × Int), PyData.depthAll (Dt.pyA (l.map en2)) ≤ 5 := by
    intro l
    induction l with
    | nil => simp [Dt.pyA, PyData.depthAll]
    | cons x l ih =>
      simp only [List.map_cons, Dt.pyA, e1, PyData.depthAll, PyData.depth]
      omega
  have hlay : ∀ l : List (Int × Int), PyData.canLayAll0 (Dt.pyA (l.map en2)) = true := by
    intro l
    induction l with
    | nil => simp [Dt.pyA, PyData.canLayAll0]
    | cons x l ih =>
      simp [Dt.pyA, e1, PyData.canLayAll0, PyData.canLay0, ih]
  have hc : cdc (AlikeAll (Dt.pyA ((q :: l).map en2)) ∧ PyData.canLayAll0 (Dt.pyA ((q :: l).map en2)) = true ∧ PyData.depthAll (Dt.pyA ((q :: l).map en2)) ≤ 60) = true :=
    cdc_t ⟨hal, hlay _, Nat.le_trans (hdep _) (by omega)⟩
  have hb := best_mem dataLt (l.map en2) (en2 q)
  rw [← List.map_cons] at hb
  obtain ⟨b, _, eb⟩ := List.mem_map.mp hb
  refine ⟨b, ?_⟩
  show (if cdc (AlikeAll (Dt.pyA (en2 q :: l.map en2)) ∧ PyData.canLayAll0 (Dt.pyA (en2 q :: l.map en2)) = true ∧ PyData.depthAll (Dt.pyA (en2 q :: l.map en2)) ≤ 60) = true then some (bestD dataLt (en2 q) (l.map en2)) else none) = _
  rw [List.map_cons] at hc
  rw [if_pos hc, eb]
/-! sameness of ints and of lists of ints -/
theorem ok_int (i : Int) : (Dt.int i).ok = true := by simp [Dt.ok, Dt.py, SeqAt.shaped, PyData.canLay0, PyData.depth]
theorem ok_lints (l : List Int) : (Dt.lst (l.map Dt.int)).ok = true := by
  have h1 := lay_ints l
  have h2 := depth_ints l
  unfold Dt.ok SeqAt.shaped
  rw [Dt.py, PyData.canLay0, h1, PyData.depth]
  simp
  omega
theorem ok_tints (l : List Int) : (Dt.tup (l.map Dt.int)).ok = true := by
  have h1 := lay_ints l
  have h2 := depth_ints l
  unfold Dt.ok SeqAt.shaped
  rw [Dt.py, PyData.canLay0, h1, PyData.depth]
  simp
  omega
theorem any_ints (i : Int) (l : List Int) : anyEq (.int i) (l.map Dt.int) = decide (i ∈ l) := by
  unfold anyEq
  rw [pyA_ints, List.any_map]
  induction l with
  | nil => rfl
  | cons x l ih =>
    rw [List.any_cons, ih]
    simp only [Function.comp, Dt.py, PyData.eqv]
    by_cases h : x = i
    · subst h; simp
    · have h' : ¬ i = x := fun e => h e.symm
      simp [h, h']
theorem in_tints (i : Int) (l : List Int) : gIn (.int i) (.tup (l.map Dt.int)) = some (decide (i ∈ l)) := by
  show (if (Dt.int i).ok = true ∧ okA (l.map Dt.int) = true then some (anyEq (.int i) (l.map Dt.int)) else none) = _
  rw [if_pos ⟨ok_int i, ok_lints l⟩, any_ints]
theorem in_lints (i : Int) (l : List Int) : gIn (.int i) (.lst (l.map Dt.int)) = some (decide (i ∈ l)) := by
  show (if (Dt.int i).ok = true ∧ okA (l.map Dt.int) = true then some (anyEq (.int i) (l.map Dt.int)) else none) = _
  rw [if_pos ⟨ok_int i, ok_lints l⟩, any_ints]
theorem notin_tints (i : Int) (l : List Int) : gNotIn (.int i) (.tup (l.map Dt.int)) = some (decide (i ∉ l)) := by
  unfold gNotIn
  rw [in_tints]
  by_cases h : i ∈ l <;> simp [h]
theorem eqvAll_ints : ∀ a b : List Int, PyData.eqvAll (Dt.pyA (a.map Dt.int)) (Dt.pyA (b.map Dt.int)) = decide (a = b)
  | [], [] => by simp [Dt.pyA, PyData.eqvAll]
  | [], y :: ys => by simp [Dt.pyA, PyData.eqvAll]
  | x :: xs, [] => by simp [Dt.pyA, PyData.eqvAll]
  | x :: xs, y :: ys => by
    have ih := eqvAll_ints xs ys
    simp only [List.map_cons, Dt.pyA, Dt.py, PyData.eqvAll, PyData.eqv, ih]
    by_cases h1 : x = y <;> by_cases h2 : xs = ys <;> simp [h1, h2]
theorem ne_lints (a b : List Int) : gNe (.lst (a.map Dt.int)) (.lst (b.map Dt.int)) = some (!decide (a = b)) := by
  unfold gNe
  rw [if_pos ⟨ok_lints a, ok_lints b⟩, Dt.py, Dt.py, PyData.eqv, eqvAll_ints]
theorem eq_lints (a b : List Int) : gEq (.lst (a.map Dt.int)) (.lst (b.map Dt.int)) = some (decide (a = b)) := by
  unfold gEq
  rw [if_pos ⟨ok_lints a, ok_lints b⟩, Dt.py, Dt.py, PyData.eqv, eqvAll_ints]
theorem ne_tints (a b : List Int) : gNe (.tup (a.map Dt.int)) (.tup (b.map Dt.int)) = some (!decide (a = b)) := by
  unfold gNe
  rw [if_pos ⟨ok_tints a, ok_tints b⟩, Dt.py, Dt.py, PyData.eqv, eqvAll_ints]
theorem eq_tints (a b : List Int) : gEq (.tup (a.map Dt.int)) (.tup (b.map Dt.int)) = some (decide (a = b)) := by
  unfold gEq
  rw [if_pos ⟨ok_tints a, ok_tints b⟩, Dt.py, Dt.py, PyData.eqv, eqvAll_ints]
theorem turn_nx {gf : Dt → Rho → Option Rho} {mk : List Bool} {F : FnS} {d : Dt} {ρ ρ1 ρ2 : Rho} (h1 : gf d ρ = some ρ1) (h2 : F ρ1 = some (.nx ρ2)) : turn gf mk F d ρ = some (.nx (clr mk ρ2)) := by
  unfold turn
  rw [h1, Option.bind_some, h2]
  rfl
theorem turn_bk {gf : Dt → Rho → Option Rho} {mk : List Bool} {F : FnS} {d : Dt} {ρ ρ1 ρ2 : Rho} (h1 : gf d ρ = some ρ1) (h2 : F ρ1 = some (.bk ρ2)) : turn gf mk F d ρ = some (.bk (clr mk ρ2)) := by
  unfold turn
  rw [h1, Option.bind_some, h2]
  rfl
theorem turn_rt {gf : Dt → Rho → Option Rho} {mk : List Bool} {F : FnS} {d e : Dt} {ρ ρ1 : Rho} (h1 : gf d ρ = some ρ1) (h2 : F ρ1 = some (.rt e)) : turn gf mk F d ρ = some (.rt e) := by
  unfold turn
  rw [h1, Option.bind_some, h2]
  rfl
theorem sWhile_a (c : FnB) (mk : List Bool) (F : FnS) (ρ : Rho) : sWhile c mk F ρ = itO (whStep c mk F) (clr mk ρ) := rfl
theorem ix0 (q : Int × Int) : gIx (en2 q) (.int 0) = some (.int q.1) := by simp [en2]
theorem ix1 (q : Int × Int) : gIx (en2 q) (.int 1) = some (.int q.2) := by simp [en2]
/-! rows of pairs and triples of ints -/
def en3 (q : Int × Int × Int) : Dt := .tup [.int q.1, .int q.2.1, .int q.2.2]
theorem ok_rows {l : List Dt} (hc : ∀ d ∈ l, ∃ r : List Int, d = .tup (r.map Dt.int)) : (Dt.tup l).ok = true ∧ (Dt.lst l).ok = true ∧ okA l = true := by
  have h : PyData.canLayAll0 (Dt.pyA l) = true ∧ PyData.depthAll (Dt.pyA l) ≤ 3 := by
    induction l with
    | nil => simp [Dt.pyA, PyData.canLayAll0, PyData.depthAll]
    | cons d l ih =>
      obtain ⟨i1, i2⟩ := ih fun d hd => hc d (List.mem_cons_of_mem _ hd)
      obtain ⟨r, rfl⟩ := hc d List.mem_cons_self
      have h1 := lay_ints r
      have h2 := depth_ints r
      simp only [Dt.pyA, Dt.py, PyData.canLayAll0, PyData.canLay0, PyData.depthAll, PyData.depth, h1, i1, Bool.and_self, true_and]
      omega
  have h3 : (Dt.lst l).ok = true := by
    unfold Dt.ok SeqAt.shaped
    rw [Dt.py, PyData.canLay0, h.1, PyData.depth]
    simp
    omega
  refine ⟨?_, h3, h3⟩
  unfold Dt.ok SeqAt.shaped
  rw [Dt.py, PyData.canLay0, h.1, PyData.depth]
  simp
  omega
theorem eqv_row (a b : List Int) : PyData.eqv (Dt.tup (a.map Dt.int)).py (Dt.tup (b.map Dt.int)).py = decide (a = b) := by
  rw [Dt.py, Dt.py, PyData.eqv, eqvAll_ints]
/-- is a row of ints among rows of ints? -/
theorem any_rows (a : List Int) (l : List (List Int)) : anyEq (.tup (a.map Dt.int)) (l.map fun r => .tup (r.map Dt.int)) = decide (a ∈ l) := by
  unfold anyEq
  rw [pyA_map, List.map_map, List.any_map]
  induction l with
  | nil => rfl
  | cons x l ih =>
    rw [List.any_cons, ih]
    have e : ((fun z => PyData.eqv z (Dt.tup (a.map Dt.int)).py) ∘ Dt.py ∘ fun r : List Int => Dt.tup (r.map Dt.int)) x = decide (x = a) := eqv_row x a
    rw [e]
    by_cases h : x = a
    · subst h; simp
    · have h' : ¬ a = x := fun e => h e.symm
      simp [h, h']
theorem in_rows (a : List Int) (l : List (List Int)) : gIn (.tup (a.map Dt.int)) (.tup (l.map fun r => .tup (r.map Dt.int))) = some (decide (a ∈ l)) := by
  show (if (Dt.tup (a.map Dt.int)).ok = true ∧ okA (l.map fun r => .tup (r.map Dt.int)) = true then some (anyEq (.tup (a.map Dt.int)) (l.map fun r => .tup (r.map Dt.int))) else none) = _
  rw [if_pos ⟨ok_tints a, (ok_rows fun d hd => by obtain ⟨r, _, rfl⟩ := List.mem_map.mp hd; exact ⟨r, rfl⟩).2.2⟩, any_rows]
theorem notin_rows (a : List Int) (l : List (List Int)) : gNotIn (.tup (a.map Dt.int)) (.tup (l.map fun r => .tup (r.map Dt.int))) = some (decide (a ∉ l)) := by
  unfold gNotIn
  rw [in_rows]
  by_cases h : a ∈ l <;> simp [h]
/-! sets of ints, sorted -/
theorem setI_congr {a b : List Int} (h : ∀ x, x ∈ a ↔ x ∈ b) : setI a = setI b := by
  unfold setI
  exact sortI_one ((sortI_perm _).trans ((List.perm_ext_iff_of_nodup (nodup_onceI a) (nodup_onceI b)).mpr fun x => by rw [mem_onceI, mem_onceI, h])) (sortI_sorted _)
theorem onceI_nd {a : List Int} (h : a.Nodup) : onceI a = a := by
  induction a with
  | nil => rfl
  | cons x xs ih =>
    rw [List.nodup_cons] at h
    unfold onceI
    rw [if_neg h.1, ih h.2]
theorem setI_nd {a : List Int} (h : a.Nodup) : setI a = sortI a := by unfold setI; rw [onceI_nd h]
theorem setI_nodup (a : List Int) : (setI a).Nodup := (sortI_perm (onceI a)).nodup_iff.mpr (nodup_onceI a)
theorem gSSet_l (ns : List Int) (h : (setI ns).length < 64) (h2 : ns.length < 4000) : gSSet [.lst (ns.map Dt.int)] = some ((setI ns).map Dt.int) := by
  show (ints? (ns.map Dt.int)).bind (fun ns => if (setI ns).length < 64 ∧ ns.length < 4000 then some ((setI ns).map Dt.int) else none) = _
  rw [ints?_map, Option.bind_some, if_pos ⟨h, h2⟩]
theorem gSSet_t (ns : List Int) (h : (setI ns).length < 64) (h2 : ns.length < 4000) : gSSet [.tup (ns.map Dt.int)] = some ((setI ns).map Dt.int) := by
  show (ints? (ns.map Dt.int)).bind (fun ns => if (setI ns).length < 64 ∧ ns.length < 4000 then some ((setI ns).map Dt.int) else none) = _
  rw [ints?_map, Option.bind_some, if_pos ⟨h, h2⟩]
theorem gSortedA_l (ns : List Int) : gSortedA [.lst (ns.map Dt.int)] = some ((sortI ns).map Dt.int) := by
  show (ints? (ns.map Dt.int)).bind (fun ns => some ((sortI ns).map Dt.int)) = _
  rw [ints?_map, Option.bind_some]
theorem gSortedA_t (ns : List Int) : gSortedA [.tup (ns.map Dt.int)] = some ((sortI ns).map Dt.int) := by
  show (ints? (ns.map Dt.int)).bind (fun ns => some ((sortI ns).map Dt.int)) = _
  rw [ints?_map, Option.bind_some]
theorem nd_le : ∀ {l m : List Int}, l.Nodup → (∀ x ∈ l, x ∈ m) → l.length ≤ m.length
  | [], _, _, _ => Nat.zero_le _
  | x :: l, m, hn, hs => by
    rw [List.nodup_cons] at hn
    have hx := hs x List.mem_cons_self
    have hp := (List.perm_cons_erase hx).length_eq
    have ih := nd_le (l := l) (m := m.erase x) hn.2 fun y hy => (List.mem_erase_of_ne (fun (e : y = x) => hn.1 (by rw [← e]; exact hy))).mpr (hs y (List.mem_cons_of_mem _ hy))
    simp only [List.length_cons] at hp ⊢
    omega
/-- at most m members, all in 0 .. m - 1 -/
theorem setI_small {ns : List Int} {m : Nat} (h : ∀ x ∈ ns, 0 ≤ x ∧ x < (m : Int)) : (setI ns).length ≤ m := by
  have hs : ∀ x ∈ setI ns, x ∈ rgI 0 m := fun x hx => by
    rw [mem_setI] at hx
    rw [mem_rgI]
    exact h x hx
  have := nd_le (setI_nodup ns) hs
  rw [rgI_length] at this
  omega
end LK
end

section
set_option Elab.async false
set_option maxRecDepth 100000
set_option maxHeartbeats 4000000
/-! EL: zip and enumerate of lists and tuples in any mix. -/
namespace EL
open PySem PySem.Spec PyProof.Rows L2
/-- a list (false), a tuple (true) -/
def SqK (b : Bool) (K : PySem.W.Frag) (H : Hp) (a : Addr) (xs : List V) : Prop := match b with
  | false => SqL K H a xs
  | true => SqT K H a xs
def ItK (b : Bool) (h : Heap) (it a : Addr) (i : Nat) : Prop := match b with
  | false => h.IsListIter it a i
  | true => h.IsTupleIter it a i
def HsK (b : Bool) (h : Heap) (a : Addr) (items : Array Value) : Prop := match b with
  | false => h.IsList a items
  | true => h.IsTuple a items
def obK (b : Bool) (a : Addr) : Obj := match b with
  | false => { cls := .type "list_iterator", data := .fields #[.ref a, .int 0 0] }
  | true => { cls := .type "tuple_iterator", data := .fields #[.ref a, .int 0 0] }
section
variable {b : Bool} {h h' : Heap} {it a : Addr} {i : Nat} {items : Array Value}
theorem ItK.at (x : ItK b h it a i) (k : ∀ o, h.get? it = some o → h'.get? it = some o) : ItK b h' it a i := by
  cases b
  · exact Heap.IsListIter.at x k
  · exact Heap.IsTupleIter.at x k
theorem ItK.obj (x : ItK b h it a i) : ∃ o, h.get? it = some o ∧ ∀ v, o.data ≠ .cell v := by
  cases b <;> (obtain ⟨o, e, _, d⟩ := x; exact ⟨o, e, fun v z => by rw [d] at z; cases z⟩)
theorem HsK.lt (x : HsK b h a items) : a < h.objs.size := by
  cases b <;> (obtain ⟨o, e, _⟩ := x; exact Heap.lt_size e)
theorem itK_new (e : h.get? it = some (obK b a)) : ItK b h it a 0 := by
  cases b <;> exact ⟨_, e, rfl, rfl⟩
theorem beginsK (b : Bool) (a : Addr) (items : Array Value) : Begins (.ref a) (obK b a) fun h => HsK b h a items := by
  cases b
  · exact begins_list a items
  · exact begins_tuple a items
theorem drawsK {prog : Program} {w : World} {A : Around} (hh : A.handled = none) (b : Bool) (i : Nat) (it a : Addr) (hne : a ≠ it) (items : Array Value) :
    Draws prog w A it [it, a] (items.size - i) (fun j v => items[i + j]? = some v) (fun j h => ItK b h it a (i + j) ∧ HsK b h a items) := by
  cases b
  · refine ⟨fun _ _ st => let ⟨o, ho, _⟩ := st.1.obj; ⟨o, ho⟩, fun _ _ _ st hk => ⟨st.1.at fun o e => hk it (by simp) o e, Heap.IsList.at st.2 fun o e => hk a (by simp) o e⟩, fun j s Q E hj st hQ => ?_, fun s Q E st hE => ?_⟩
    · have hlt : i + j < items.size := by omega
      refine wpAny_nextOf_list_item st.1 st.2 (x := items[i + j]) (by simp [hlt]) fun h' hit' hs' => ?_
      exact hQ _ h' s.toks (by simp [hlt]) ⟨hit', Heap.IsList.extBut st.2 hs'.extBut hne⟩ hs'
    · exact wpAny_nextOf_list_end hh st.1 st.2 (by simp; omega) hE
  · refine ⟨fun _ _ st => let ⟨o, ho, _⟩ := st.1.obj; ⟨o, ho⟩, fun _ _ _ st hk => ⟨st.1.at fun o e => hk it (by simp) o e, Heap.IsTuple.at st.2 fun o e => hk a (by simp) o e⟩, fun j s Q E hj st hQ => ?_, fun s Q E st hE => ?_⟩
    · have hlt : i + j < items.size := by omega
      refine wpAny_nextOf_tuple_item st.1 st.2 (x := items[i + j]) (by simp [hlt]) fun h' hit' hs' => ?_
      exact hQ _ h' s.toks (by simp [hlt]) ⟨hit', Heap.IsTuple.extBut st.2 hs'.extBut hne⟩ hs'
    · exact wpAny_nextOf_tuple_end hh st.1 st.2 (by simp; omega) hE
end
section
variable {X : Cx} {pins : List (Addr × Obj)} {σ : L2.St} {H : Hp} {s : Shared} {b : Bool} {a : Addr} {xs ys : List V}
theorem inv_seqK (I : Inv X pins σ H s) (h : SqK b X.K H a xs) : ∃ its : List Value, Vals xs its ∧ HsK b s.heap a its.toArray := by
  cases b
  · obtain ⟨its, r, p, _⟩ := I.list h
    exact ⟨its, r, p.isList⟩
  · obtain ⟨its, r, p, _⟩ := I.tuple h
    exact ⟨its, r, p⟩
theorem inv_seqK_inj (I : Inv X pins σ H s) (h : SqK b X.K H a xs) (h' : SqK b X.K H a ys) : xs = ys := by
  cases b
  · exact I.list_inj h h'
  · exact I.tuple_inj h h'
end
/-! ### enumerate -/
def IteK (b : Bool) (K : PySem.W.Frag) (a : Addr) : It :=
  ⟨fun i H => ∃ (xs : List V) (x : V), SqK b K H a xs ∧ xs[i]? = some x, fun i H v H' => ∃ T x, v = .ref T ∧ H T = none ∧ H' = upd H T (.tup [.int (i : Nat), x]) ∧ ∀ xs, SqK b K H a xs → xs[i]? = some x, fun i H => ∃ xs : List V, SqK b K H a xs ∧ xs.length ≤ i⟩
theorem turn_enumK {P : Program} {w : World} {K : PySem.W.Frag} {elts : List Expr} {kk : Nat} {tpos : Pos} {b : Bool} {a e it : Addr} (hne : e ≠ it) (hea : e ≠ a) (hai : a ≠ it) :
    Turn P w K (.Tuple elts kk tpos) (IteK b K a) [e, it] e (fun i h => (∃ old, IsEnum h e it ((i : Nat) : Int) old) ∧ ItK b h it a i) where
  mem := by simp
  obj := fun i h st c hc => by
    obtain ⟨⟨old, he⟩, hi⟩ := st
    rcases List.mem_cons.mp hc with z | z
    · rw [z]; exact ⟨_, he, fun v q => nomatch q⟩
    · rw [List.mem_singleton.mp z]; exact hi.obj
  keep := fun i h h' st k => let ⟨⟨old, he⟩, hi⟩ := st; ⟨⟨old, k e (by simp) _ he⟩, hi.at fun o q => k it (by simp) o q⟩
  item := by
    intro X hP hw hK hc i pins s σ H E I hf st hg
    subst hP hw hK
    obtain ⟨⟨old, he⟩, hit⟩ := st
    obtain ⟨xs, x, hq, hx⟩ := hg
    obtain ⟨its, rv, p⟩ := inv_seqK I hq
    obtain ⟨u, hu, ru⟩ := rv.get hx
    have hil : i < its.length := (List.getElem?_eq_some_iff.mp hu).1
    have hel : e < s.heap.objs.size := Heap.lt_size he
    have hitl : it < s.heap.objs.size := by obtain ⟨_, q, _⟩ := hit.obj; exact Heap.lt_size q
    refine wpAny_pyNext_enum_itemC (i := 0) (drawsK (A := X.A.in1) (I.ok.hd hc) b i it a hai its.toArray) he ⟨hit, p⟩ (by simp; omega) hne (by simp [hne, hea]) fun u' h' tk hPu ho hst' hT hsz hk => ?_
    have hu' : u' = u := by
      have q : its.toArray[i + 0]? = some u' := hPu
      simp only [Nat.add_zero, List.getElem?_toArray] at q
      rw [hu] at q
      exact (Option.some.inj q).symm
    subst hu'
    refine ⟨_, rfl, wpAny_letOwnedTupleGo_enum (s := { s with heap := h', toks := tk + 1 }) ho fun h'' he' sb => ?_⟩
    have hT2 : h''.get? s.heap.objs.size = some { cls := .type "tuple", data := .seq #[.int i tk, u'] } := (sb.2 _ (Nat.ne_of_gt hel)).trans hT
    have new : ObjOk X.prog X.w (upd H s.heap.objs.size (.tup [.int (i : Nat), x])) h'' s.heap.objs.size (.tup [.int (i : Nat), x]) :=
      ⟨by show 2 ≤ sizeLine; decide, [.int i tk, u'], .cons ⟨_, rfl⟩ (.cons ru .nil), ⟨_, hT2, rfl, _, rfl⟩⟩
    have I1 : Inv X pins σ (upd H s.heap.objs.size (.tup [.int (i : Nat), x])) { s with heap := h'', toks := tk + 1 } :=
      I.turnedNew (ch := [e, it]) (fun c ob hb q => (sb.2 c (fun z => hb (by simp [z]))).trans (hk c ob (fun z => hb (by simp [z])) (fun z => hb (by simp [z])) q)) hf (Nat.le_refl _) new
    refine ⟨.ref s.heap.objs.size, _, I1, rfl, ⟨_, x, rfl, I.hok.fresh (Nat.le_refl _), rfl, fun ys hy => by rw [inv_seqK_inj I hy hq]; exact hx⟩, ⟨⟨u', ?_⟩, ?_⟩, fun c hcm => ?_⟩
    · have e1 : ((i + 1 : Nat) : Int) = (i : Int) + 1 := by omega
      rw [e1]; exact he'
    · exact ItK.at hst'.1 fun o q => (sb.2 it (Ne.symm hne)).trans q
    · have hb' : c < s.heap.objs.size := by
        rcases List.mem_cons.mp hcm with z | z
        · rw [z]; exact hel
        · rw [List.mem_singleton.mp z]; exact hitl
      rw [upd_ne (Nat.ne_of_lt hb')]
      exact (hf c hcm).1
  done := by
    intro X hP hw hK hc i pins s σ H E I hf st hg
    subst hP hw hK
    obtain ⟨⟨old, he⟩, hit⟩ := st
    obtain ⟨xs, hq, hx⟩ := hg
    obtain ⟨its, rv, p⟩ := inv_seqK I hq
    obtain ⟨f0, f1, f2, f3, f4, f5⟩ := hf it (by simp)
    have hl := rv.length
    have hz : its.toArray.size - i = 0 := by simp; omega
    refine wpAny_pyNext_enum_endD (drawsK (A := X.A.in1) (I.ok.hd hc) b i it a hai its.toArray) he ?_ fun h' eb => ⟨rfl, I.turned (t' := s.toks) (fun b o hb q => eb b o hb q) f0 f1 f3 f4 f5⟩
    rw [hz]
    exact ⟨hit, p⟩
  self := fun A i s Q E st h => let ⟨⟨_, he⟩, _⟩ := st; wpAny_pyIter_enum he h
def iEnumK (K : PySem.W.Frag) (ta : TA) : TI := fun σ H R => ta σ H fun vs H1 => ∃ (b : Bool) (a : Addr) (xs : List V), vs = [.ref a] ∧ SqK b K H1 a xs ∧ R (IteK b K a) H1
/-! ### zip -/
def ItzK (p q : Bool) (K : PySem.W.Frag) (a b : Addr) : It :=
  ⟨fun i H => ∃ (xs ys : List V) (x y : V), SqK p K H a xs ∧ SqK q K H b ys ∧ xs[i]? = some x ∧ ys[i]? = some y,
    fun i H v H' => ∃ T x y, v = .ref T ∧ H T = none ∧ H' = upd H T (.tup [x, y]) ∧ (∀ xs, SqK p K H a xs → xs[i]? = some x) ∧ ∀ ys, SqK q K H b ys → ys[i]? = some y,
    fun i H => ∃ xs ys : List V, SqK p K H a xs ∧ SqK q K H b ys ∧ (xs.length ≤ i ∨ ys.length ≤ i)⟩
theorem turn_zipK {P : Program} {w : World} {K : PySem.W.Frag} {elts : List Expr} {kk : Nat} {tpos : Pos} {p q : Bool} {a b z TI TO i1 i2 : Addr} (S : ZipSep2 z TI TO i1 i2 [i1, a] [i2, b]) :
    Turn P w K (.Tuple elts kk tpos) (ItzK p q K a b) [z, TI, TO, i1, i2] z (fun i h => IsZip h z TI TO .none ∧ IsTupOf2 h TI (.ref i1) (.ref i2) ∧ (∃ x y, IsTupOf2 h TO x y) ∧ ItK p h i1 a i ∧ ItK q h i2 b i) where
  mem := by simp
  obj := fun i h st c hc => by
    obtain ⟨hz, hTI, ⟨x, y, hTO⟩, h1, h2⟩ := st
    have e' : c = z ∨ c = TI ∨ c = TO ∨ c = i1 ∨ c = i2 := by simpa using hc
    rcases e' with r | r | r | r | r
    · rw [r]; exact ⟨_, hz, fun v q => nomatch q⟩
    · rw [r]; exact ⟨_, hTI, fun v q => nomatch q⟩
    · rw [r]; exact ⟨_, hTO, fun v q => nomatch q⟩
    · rw [r]; exact h1.obj
    · rw [r]; exact h2.obj
  keep := fun i h h' st k => by
    obtain ⟨hz, hTI, ⟨x, y, hTO⟩, h1, h2⟩ := st
    exact ⟨k z (by simp) _ hz, k TI (by simp) _ hTI, ⟨x, y, k TO (by simp) _ hTO⟩, h1.at fun o r => k i1 (by simp) o r, h2.at fun o r => k i2 (by simp) o r⟩
  item := by
    intro X hP hw hK hc i pins s σ H E I hf st hg
    subst hP hw hK
    obtain ⟨hz, hTI, ⟨x0, y0, hTO⟩, h1, h2⟩ := st
    obtain ⟨xs, ys, x, y, hqx, hqy, hx, hy⟩ := hg
    obtain ⟨its, rv, p1⟩ := inv_seqK I hqx
    obtain ⟨its2, rv2, p2⟩ := inv_seqK I hqy
    obtain ⟨u, hu, ru⟩ := rv.get hx
    obtain ⟨u2, hu2, ru2⟩ := rv2.get hy
    have hl1 : i < its.length := (List.getElem?_eq_some_iff.mp hu).1
    have hl2 : i < its2.length := (List.getElem?_eq_some_iff.mp hu2).1
    have hzl : z < s.heap.objs.size := Heap.lt_size hz
    have ha1 : a ≠ i1 := fun e => by
      obtain ⟨o1, e1, _⟩ := h1.obj
      rw [← e] at e1
      cases p <;> (obtain ⟨o2, e2, _, n2, d2⟩ := p1; obtain ⟨o3, e3, _, d3⟩ := h1; rw [← e, e2] at e3; cases e3; rw [d2] at d3; cases d3)
    have hb2 : b ≠ i2 := fun e => by
      cases q <;> (obtain ⟨o2, e2, _, n2, d2⟩ := p2; obtain ⟨o3, e3, _, d3⟩ := h2; rw [← e, e2] at e3; cases e3; rw [d2] at d3; cases d3)
    refine wpAny_pyNext_zipD2_item (i := 0) S (drawsK (A := X.A.in1) (I.ok.hd hc) p i i1 a ha1 its.toArray) (drawsK (A := X.A.in1) (I.ok.hd hc) q i i2 b hb2 its2.toArray) hz hTI hTO ⟨h1, p1⟩ ⟨h2, p2⟩ (by simp; omega) (by simp; omega)
      fun v1 v2 h' tk hv1 hv2 z' TO' st1' st2' hT hsz hk => ?_
    have e1 : v1 = u := by
      have r : its.toArray[i + 0]? = some v1 := hv1
      simp only [Nat.add_zero, List.getElem?_toArray] at r
      rw [hu] at r
      exact (Option.some.inj r).symm
    have e2 : v2 = u2 := by
      have r : its2.toArray[i + 0]? = some v2 := hv2
      simp only [Nat.add_zero, List.getElem?_toArray] at r
      rw [hu2] at r
      exact (Option.some.inj r).symm
    subst e1 e2
    refine ⟨_, rfl, wpAny_letOwnedTupleGo_zip (s := { s with heap := h', toks := tk }) z' fun h'' z'' sb => ?_⟩
    have hT2 : h''.get? s.heap.objs.size = some { cls := .type "tuple", data := .seq #[v1, v2] } := (sb.2 _ (Nat.ne_of_gt hzl)).trans hT
    have new : ObjOk X.prog X.w (upd H s.heap.objs.size (.tup [x, y])) h'' s.heap.objs.size (.tup [x, y]) :=
      ⟨by show 2 ≤ sizeLine; decide, [v1, v2], .cons ru (.cons ru2 .nil), ⟨_, hT2, rfl, _, rfl⟩⟩
    have I1 : Inv X pins σ (upd H s.heap.objs.size (.tup [x, y])) { s with heap := h'', toks := tk } :=
      I.turnedNew (ch := [z, TI, TO, i1, i2]) (fun c o hb r => (sb.2 c (fun q' => hb (by simp [q']))).trans (hk c o (fun q' => hb (by simp [q'])) (fun q' => hb (by simp [q'])) (fun q' => hb (by simp [q'])) (fun q' => hb (by simp [q'])) r)) hf (Nat.le_refl _) new
    refine ⟨.ref s.heap.objs.size, _, I1, rfl, ⟨_, x, y, rfl, I.hok.fresh (Nat.le_refl _), rfl, fun l hl => by rw [inv_seqK_inj I hl hqx]; exact hx, fun l hl => by rw [inv_seqK_inj I hl hqy]; exact hy⟩, ⟨z'', ?_, ⟨v1, v2, ?_⟩, ?_, ?_⟩, fun c hcm => ?_⟩
    · exact (sb.2 _ S.TIz).trans (hk _ _ S.TIz S.TITO S.TIi1 S.TIi2 hTI)
    · exact (sb.2 _ S.TOz).trans TO'
    · exact ItK.at st1'.1 fun o r => (sb.2 _ (Ne.symm S.zi1)).trans r
    · exact ItK.at st2'.1 fun o r => (sb.2 _ (Ne.symm S.zi2)).trans r
    · have hlt : c < s.heap.objs.size := by
        have e' : c = z ∨ c = TI ∨ c = TO ∨ c = i1 ∨ c = i2 := by simpa using hcm
        rcases e' with r | r | r | r | r
        · rw [r]; exact hzl
        · rw [r]; exact Heap.lt_size hTI
        · rw [r]; exact Heap.lt_size hTO
        · rw [r]; obtain ⟨_, e1, _⟩ := h1.obj; exact Heap.lt_size e1
        · rw [r]; obtain ⟨_, e2, _⟩ := h2.obj; exact Heap.lt_size e2
      rw [upd_ne (Nat.ne_of_lt hlt)]
      exact (hf c hcm).1
  done := by
    intro X hP hw hK hc i pins s σ H E I hf st hg
    subst hP hw hK
    obtain ⟨hz, hTI, ⟨x0, y0, hTO⟩, h1, h2⟩ := st
    obtain ⟨xs, ys, hqx, hqy, hend⟩ := hg
    obtain ⟨its, rv, p1⟩ := inv_seqK I hqx
    obtain ⟨its2, rv2, p2⟩ := inv_seqK I hqy
    have l1 := rv.length
    have l2 := rv2.length
    have ha1 : a ≠ i1 := fun e => by
      cases p <;> (obtain ⟨o2, e2, _, n2, d2⟩ := p1; obtain ⟨o3, e3, _, d3⟩ := h1; rw [← e, e2] at e3; cases e3; rw [d2] at d3; cases d3)
    have hb2 : b ≠ i2 := fun e => by
      cases q <;> (obtain ⟨o2, e2, _, n2, d2⟩ := p2; obtain ⟨o3, e3, _, d3⟩ := h2; rw [← e, e2] at e3; cases e3; rw [d2] at d3; cases d3)
    refine wpAny_pyNext_zipD2_end (i := 0) S (drawsK (A := X.A.in1) (I.ok.hd hc) p i i1 a ha1 its.toArray) (drawsK (A := X.A.in1) (I.ok.hd hc) q i i2 b hb2 its2.toArray) hz hTI hTO ⟨h1, p1⟩ ⟨h2, p2⟩ (Nat.zero_le _) (Nat.zero_le _) ?_
      fun h' tk hk => ⟨rfl, I.turnedL (ch := [z, TI, TO, i1, i2]) (fun c o hb r => hk c o (fun q' => hb (by simp [q'])) (fun q' => hb (by simp [q'])) (fun q' => hb (by simp [q'])) (fun q' => hb (by simp [q'])) r) hf⟩
    rcases hend with r | r
    · exact .inl (by simp; omega)
    · exact .inr (by simp; omega)
  self := fun A i s Q E st h => wpAny_pyIter_zip st.1 h
def iZipK (K : PySem.W.Frag) (ta : TA) : TI := fun σ H R => ta σ H fun vs H1 => ∃ (p q : Bool) (a b : Addr) (xs ys : List V), vs = [.ref a, .ref b] ∧ SqK p K H1 a xs ∧ SqK q K H1 b ys ∧ R (ItzK p q K a b) H1
section
/-- enumerate(v), v of any kind that begins -/
theorem enum1_new {v : Value} {o : Obj} {P : Heap → Prop} (B : Begins v o P) :
    Meets (Builtin.«enumerate.__new__» ⟨[.type "enumerate", v], []⟩) (fun _ R s => P s.heap ∧
      R (.ok (.ret (.ref (s.heap.push o).objs.size))) { s with heap := (s.heap.push o).push { cls := .type "enumerate", data := .fields #[.none, .bool false, .ref s.heap.objs.size, rawInt 0, .none, .none] } }) :=
  .of_wp fun prog w A R s h => by
    obtain ⟨hp, g, d, tk, os⟩ := s
    obtain ⟨h1, h2⟩ := h
    have hsub := sub_enumerate
    have q1 : ∀ {A' : Around} {E : Value → Shared → Prop} {Q : Value → Shared → Prop}, Q (.ref hp.objs.size) ⟨hp.push o, g, d, tk, os⟩ → wpAny (model prog w) A' (pyIter v) Q E ⟨hp, g, d, tk, os⟩ :=
      fun q => B.iter prog w _ _ ⟨hp, g, d, tk, os⟩ _ h1 q
    wp_walk using q1
    refine wpAny_stack_any fun st => wpAny_pure ?_
    split
    · rename_i c _ _ _ _ _
      cases (c == Value.type "enumerate") <;> (wp_walk using q1; exact ⟨_, rfl, h2⟩)
    · wp_walk using q1
      exact ⟨_, rfl, h2⟩
theorem enum1_begins {prog : Program} {w : World} {A : Around} {E : Value → Shared → Prop} {s : Shared} {v : Value} {o : Obj} {P : Heap → Prop} {Q : Value → Shared → Prop} (B : Begins v o P) (h1 : P s.heap)
    (h : ∀ h', IsEnum h' (s.heap.objs.size + 1) s.heap.objs.size 0 .none → h'.get? s.heap.objs.size = some o → (∀ b o, s.heap.get? b = some o → h'.get? b = some o) → Q (.ref (s.heap.objs.size + 1)) { s with heap := h' }) :
    wpAny (model prog w) A (call (.type "enumerate") [v]) Q E s := by
  refine callType_new F.called_enumerate (by decide) (F.typeCall_enumerate_1 _) (F.newCall_enumerate_1 _) (fun obj => F.args_object_init_2 obj _) F.entry_enumerate_new (enum1_new B) ⟨h1, ?_⟩
  have hz : (s.heap.push o).objs.size = s.heap.objs.size + 1 := Heap.size_push ..
  have he : ((s.heap.push o).push { cls := .type "enumerate", data := .fields #[.none, .bool false, .ref s.heap.objs.size, rawInt 0, .none, .none] }).get? (s.heap.push o).objs.size = some { cls := .type "enumerate", data := .fields #[.none, .bool false, .ref s.heap.objs.size, rawInt 0, .none, .none] } := Heap.get?_push_size _ rfl
  rw [hz] at he
  show _ ∧ _
  rw [hz]
  exact ⟨⟨_, he, rfl⟩, h _ he (Heap.get?_push_of_some _ (Heap.get?_push_size _ B.free)) fun b o x => Heap.get?_push_of_some _ (Heap.get?_push_of_some _ x)⟩
variable {X : Cx} {e e2 : Expr} {ta : TA} {p pos tpos : Pos} {elts : List Expr} {kk : Nat}
theorem pi_enumK (hg : Gl X "enumerate") (hm : X.mg "enumerate" = none) (ha : PA X [e] ta) (hs : starEach [e] X.env = [(false, eval e X.env)] := by rfl) :
    PI X (.Tuple elts kk tpos) (.Call (.Name "enumerate" p) [e] [] pos) (iEnumK X.K ta) := by
  refine ⟨fun pins s σ H R I h => ?_⟩
  refine Call_ (ld_blt I hg hm boot_enumerate (PyProof.Rows.callWith_type1 (thn (ha.run pos pins s σ H _ I h) fun us s1 ⟨vs, H1, I1, r1, q1⟩ => ?_) hs rfl))
  obtain ⟨b, a, xs, ex, hq, q⟩ := q1
  subst ex
  cases r1 with
  | cons r rr =>
    cases rr
    cases r
    obtain ⟨its, rv, hh⟩ := inv_seqK I1 hq
    have hal := hh.lt
    refine enum1_begins (beginsK b a its.toArray) hh fun h' he hit hk => ?_
    refine wpAny_pyIter_enum he ?_
    have I2 : Inv X pins σ H1 { s1 with heap := h' } := I1.kept (t' := s1.toks) hk
    refine ⟨s1.heap.objs.size + 1, [s1.heap.objs.size + 1, s1.heap.objs.size], _, _, H1, rfl, I2, turn_enumK (b := b) (a := a) (Nat.succ_ne_self _) (Nat.ne_of_gt (Nat.lt_succ_of_lt hal)) (Nat.ne_of_lt hal), ⟨⟨.none, he⟩, itK_new hit⟩, fun c hc => ?_, q⟩
    have hle : s1.heap.objs.size ≤ c := by
      rcases List.mem_cons.mp hc with z | z
      · rw [z]; exact Nat.le_add_right _ _
      · rw [List.mem_singleton.mp z]; exact Nat.le_refl _
    exact I1.fpOk hle (I1.hok.fresh hle)
theorem pi_zipK (hg : Gl X "zip") (hm : X.mg "zip" = none) (ha : PA X [e, e2] ta)
    (hs : starEach [e, e2] X.env = (false, eval e X.env) :: starEach [e2] X.env := by rfl) (hpl : (backTo pos (starEach [e2] X.env)).any (·.1) = false := by rfl) :
    PI X (.Tuple elts kk tpos) (.Call (.Name "zip" p) [e, e2] [] pos) (iZipK X.K ta) := by
  refine ⟨fun pins s σ H R I h => ?_⟩
  refine Call_ (ld_blt I hg hm PyProof.Rows.boot_zip (PyProof.Rows.callWith_type1 (thn (ha.run pos pins s σ H _ I h) fun us s1 ⟨vs, H1, I1, r1, q1⟩ => ?_) hs hpl))
  obtain ⟨b1, b2, a, b, xs, ys, ex, hqx, hqy, q⟩ := q1
  subst ex
  cases r1 with
  | cons r rr =>
    cases rr with
    | cons r' rr =>
      cases rr
      cases r
      cases r'
      obtain ⟨its, rv, p1⟩ := inv_seqK I1 hqx
      obtain ⟨its2, rv2, p2⟩ := inv_seqK I1 hqy
      refine zip_begins2 (beginsK b1 a its.toArray) (beginsK b2 b its2.toArray) p1 p2 fun h' hz hTI hTO h1 h2 hsz hk => wpAny_pyIter_zip hz ?_
      have I2 : Inv X pins σ H1 { s1 with heap := h' } := I1.kept (t' := s1.toks) hk
      refine ⟨s1.heap.objs.size + 4, [s1.heap.objs.size + 4, s1.heap.objs.size + 2, s1.heap.objs.size + 3, s1.heap.objs.size, s1.heap.objs.size + 1], _, _, H1, rfl, I2,
        turn_zipK (p := b1) (q := b2) (zip_sep2 (fun c hc => by rw [List.mem_singleton.mp hc]; exact p1.lt) (fun c hc => by rw [List.mem_singleton.mp hc]; exact p2.lt)), ⟨hz, hTI, ⟨_, _, hTO⟩, itK_new h1, itK_new h2⟩, fun c hcm => ?_, q⟩
      have hle : s1.heap.objs.size ≤ c := by
        have e' : c = s1.heap.objs.size + 4 ∨ c = s1.heap.objs.size + 2 ∨ c = s1.heap.objs.size + 3 ∨ c = s1.heap.objs.size ∨ c = s1.heap.objs.size + 1 := by simpa using hcm
        rcases e' with z | z | z | z | z
        · rw [z]; exact Nat.le_add_right _ _
        · rw [z]; exact Nat.le_add_right _ _
        · rw [z]; exact Nat.le_add_right _ _
        · rw [z]; exact Nat.le_refl _
        · rw [z]; exact Nat.le_add_right _ _
      exact I1.fpOk hle (I1.hok.fresh hle)
end
/-! ### data -/
def gItemsS : Dt → Option (List Dt)
  | .lst l => some l
  | .tup l => some l
  | _ => none
def enD : Nat → List Dt → List Dt
  | _, [] => []
  | i, d :: ds => .tup [.int i, d] :: enD (i + 1) ds
theorem enD_get : ∀ (ds : List Dt) (k i : Nat), (enD k ds)[i]? = ds[i]?.map fun d => .tup [.int ((k + i : Nat) : Int), d]
  | [], _, _ => by simp [enD]
  | d :: ds, k, 0 => by simp [enD]
  | d :: ds, k, i + 1 => by
    show (enD (k + 1) ds)[i]? = ds[i]?.map _
    rw [enD_get ds (k + 1) i, show k + 1 + i = k + (i + 1) by omega]
theorem enD_length : ∀ (ds : List Dt) (k : Nat), (enD k ds).length = ds.length
  | [], _ => rfl
  | d :: ds, k => by show (enD (k + 1) ds).length + 1 = ds.length + 1; rw [enD_length ds]
def gEnum : List Dt → Option (List Dt)
  | [x] => (gItemsS x).bind fun xs => some (enD 0 xs)
  | _ => none
def gZip : List Dt → Option (List Dt)
  | [x, y] => (gItemsS x).bind fun xs => (gItemsS y).bind fun ys => some (List.zipWith (fun d e => .tup [d, e]) xs ys)
  | _ => none
section
variable {k : Bool} {T : List Addr} {X : Cx} {K : PySem.W.Frag} {e e2 : Expr} {ta : TA} {fr : FnL} {p pos tpos : Pos} {elts : List Expr} {kk : Nat}
theorem seq_at {W : Addr → Prop} {ρ : Rho} {σ : L2.St} {H1 : Hp} {v : V} {d : Dt} {xs : List Dt} (rp : Rp K H1 W ρ σ) (r : Rep K H1 (Wd W ρ σ) v d) (h : gItemsS d = some xs) :
    ∃ (b : Bool) (a : Addr) (vs : List V), v = .ref a ∧ ∀ Hc, Kp (fun a => W a ∨ (k = true ∧ Own ρ σ a)) H1 Hc → SqK b K Hc a vs ∧ RepA K Hc (fun a => Wd W ρ σ a ∨ H1 a = none) vs xs := by
  cases r with
  | @lst a vs ds h1 n1 ra =>
    cases h
    exact ⟨false, a, vs, rfl, fun Hc kp => ⟨.of (kp.keep a _ h1 rfl fun z => n1 (z.elim .inl fun y => .inr y.2)), ra.aged (H := H1) rp kp⟩⟩
  | @tup a vs ds h1 ra =>
    cases h
    refine ⟨true, a, vs, rfl, fun Hc kp => ⟨.of (kp.keep a _ h1 rfl fun z => ?_), ra.aged (H := H1) rp kp⟩⟩
    obtain ⟨xs, hx⟩ := rp.wd (z.elim .inl fun y => .inr y.2)
    exact xs.ntup hx h1
  | _ => cases h
theorem sqK_inj {b : Bool} {H : Hp} {a : Addr} {xs : List V} (h : SqK b K H a xs) {x : V} {i : Nat} (q : ∀ ys, SqK b K H a ys → ys[i]? = some x) : xs[i]? = some x := q xs h
theorem di_enum (ha : DA true T K X [e] ta fr) (hm : X.mg "enumerate" = none) (hg : Gl X "enumerate" := by rfl) (hs : starEach [e] X.env = [(false, eval e X.env)] := by rfl) (hk : X.K = K := by rfl) :
    DI k T K X (.Tuple elts kk tpos) (.Call (.Name "enumerate" p) [e] [] pos) (iEnumK K ta) (fNL gEnum fr) := by
  subst hk
  refine ⟨pi_enumK hg hm ha.pa hs, fun W ρ σ H ds R g rp e' q => ?_⟩
  obtain ⟨vd, ea, e'⟩ := obind e'
  refine ha.sd W ρ σ H vd _ g rp ea fun vs H1 e1 g1 r1 => ?_
  match vd, e', r1 with
  | [x], e', r1 =>
    obtain ⟨v, rfl, r2⟩ := repA1 r1
    obtain ⟨xs, ex, e'⟩ := obind e'
    cases e'
    obtain ⟨b, a, us, rfl, at_⟩ := seq_at (k := k) (rp.ext e1) r2.wt ex
    refine ⟨b, a, us, rfl, (at_ H1 (Kp.refl _ _)).1, q _ H1 e1 g1 fun Hc kp gc => ?_⟩
    obtain ⟨hsq, rc⟩ := at_ Hc kp
    refine ⟨fun i d hd => ?_, fun i hi => ⟨us, hsq, by rw [enD_length] at hi; rw [rc.length]; exact hi⟩⟩
    rw [enD_get] at hd
    obtain ⟨d0, hd0, rfl⟩ := Option.map_eq_some_iff.mp hd
    obtain ⟨u, hu, ru⟩ := rc.get hd0
    refine ⟨⟨us, u, hsq, hu⟩, fun y H' yy => ?_⟩
    obtain ⟨t, z, rfl, ht, rfl, hz⟩ := yy
    have hzu := sqK_inj hsq hz
    rw [hu] at hzu
    cases hzu
    refine ⟨Ext.new ht, gc.newT ht (size_ge (by simp)), .tup upd_same (.cons ?_ (.one (ru.ext (Ext.new ht))))⟩
    rw [Nat.zero_add]
    exact .int _
  | [], e', _ => cases e'
  | x0 :: x1 :: _, e', _ => cases x0 <;> cases e'
theorem di_zip (ha : DA true T K X [e, e2] ta fr) (hm : X.mg "zip" = none) (hg : Gl X "zip" := by rfl)
    (hs : starEach [e, e2] X.env = (false, eval e X.env) :: starEach [e2] X.env := by rfl) (hpl : (backTo pos (starEach [e2] X.env)).any (·.1) = false := by rfl) (hk : X.K = K := by rfl) :
    DI k T K X (.Tuple elts kk tpos) (.Call (.Name "zip" p) [e, e2] [] pos) (iZipK K ta) (fNL gZip fr) := by
  subst hk
  refine ⟨pi_zipK hg hm ha.pa hs hpl, fun W ρ σ H ds R g rp e' q => ?_⟩
  obtain ⟨vd, ea, e'⟩ := obind e'
  refine ha.sd W ρ σ H vd _ g rp ea fun vs H1 e1 g1 r1 => ?_
  match vd, e', r1 with
  | [x, y], e', r1 =>
    obtain ⟨v, v', rfl, r2, r3⟩ := repA2 r1
    obtain ⟨xs, ex, e'⟩ := obind e'
    obtain ⟨ys, ey, e'⟩ := obind e'
    cases e'
    obtain ⟨b, a, us, rfl, at1⟩ := seq_at (k := k) (rp.ext e1) r2.wt ex
    obtain ⟨b', a', us', rfl, at2⟩ := seq_at (k := k) (rp.ext e1) r3.wt ey
    refine ⟨b, b', a, a', us, us', rfl, (at1 H1 (Kp.refl _ _)).1, (at2 H1 (Kp.refl _ _)).1, q _ H1 e1 g1 fun Hc kp gc => ?_⟩
    obtain ⟨hsq, rc⟩ := at1 Hc kp
    obtain ⟨hsq', rc'⟩ := at2 Hc kp
    refine ⟨fun i d hd => ?_, fun i hi => ⟨us, us', hsq, hsq', ?_⟩⟩
    · rw [List.getElem?_zipWith] at hd
      cases h1 : xs[i]? with
      | none => rw [h1] at hd; cases hd
      | some d1 =>
        cases h2 : ys[i]? with
        | none => rw [h1, h2] at hd; cases hd
        | some d2 =>
          rw [h1, h2] at hd
          cases hd
          obtain ⟨u, hu, ru⟩ := rc.get h1
          obtain ⟨u', hu', ru'⟩ := rc'.get h2
          refine ⟨⟨us, us', u, u', hsq, hsq', hu, hu'⟩, fun y H' yy => ?_⟩
          obtain ⟨t, z, z', rfl, ht, rfl, hz, hz'⟩ := yy
          have hzu := sqK_inj hsq hz
          have hzu' := sqK_inj hsq' hz'
          rw [hu] at hzu
          rw [hu'] at hzu'
          cases hzu
          cases hzu'
          exact ⟨Ext.new ht, gc.newT ht (size_ge (by simp)), .tup upd_same (.cons (ru.ext (Ext.new ht)) (.one (ru'.ext (Ext.new ht))))⟩
    · rw [List.length_zipWith] at hi
      rw [rc.length, rc'.length]
      omega
  | [], e', _ => cases e'
  | [x0], e', _ => cases x0 <;> cases e'
  | x0 :: x1 :: _ :: _, e', _ => cases x0 <;> cases x1 <;> cases e'
@[simp] theorem gEnum_t (l : List Dt) : gEnum [.tup l] = some (enD 0 l) := rfl
@[simp] theorem gEnum_l (l : List Dt) : gEnum [.lst l] = some (enD 0 l) := rfl
@[simp] theorem gZip_tt (l m : List Dt) : gZip [.tup l, .tup m] = some (List.zipWith (fun d e => .tup [d, e]) l m) := rfl
@[simp] theorem gZip_ll (l m : List Dt) : gZip [.lst l, .lst m] = some (List.zipWith (fun d e => .tup [d, e]) l m) := rfl
@[simp] theorem gZip_tl (l m : List Dt) : gZip [.tup l, .lst m] = some (List.zipWith (fun d e => .tup [d, e]) l m) := rfl
@[simp] theorem gZip_lt (l m : List Dt) : gZip [.lst l, .tup m] = some (List.zipWith (fun d e => .tup [d, e]) l m) := rfl
end
end EL
end

section
set_option Elab.async false
set_option maxRecDepth 100000
set_option maxHeartbeats 4000000
/-! EL: max and min with default=. -/
namespace EL
open PySem PySem.Spec PySem.W PyProof.Rows L2 HT
section
variable {X : Cx}
def rBestDf (K : PySem.W.Frag) (best : PyData → List PyData → PyData) : List V → List V → Hp → VK → Prop := fun vs zs H Q => ∃ (a : Addr) (xs : List V) (ds : List PyData) (z : V), vs = [V.ref a] ∧ zs = [z] ∧ (SqL K H a xs ∨ SqT K H a xs) ∧ DpAll K H xs ds ∧ AlikeAll ds ∧ PyData.depthAll ds ≤ 60 ∧
  (ds = [] → Q z H) ∧ ∀ (e : PyData) (es : List PyData), ds = e :: es → ∀ (i : Nat) (v : V), xs[i]? = some v → ds[i]? = some (best e es) → Q v H
theorem cr_maxDf (hc : X.calm = true) (hu : X.A.units + 64 < cLine) : CallRK X (.builtin "max") [Str.ofString "default"] (rBestDf X.K maxD) := by
  intro pins s σ H vs zs us ws Q I r rz h
  obtain ⟨a, xs, ds, z, rfl, rfl, hs, hd, ha, hdep, q0, q⟩ := h
  rw [Vals.ref1 r]
  obtain ⟨w1, rfl, e1⟩ := vals1 rz
  rcases hs with hs | hs
  · obtain ⟨its, rv, hl, _⟩ := I.list hs
    obtain ⟨as, rs⟩ := Dp.readsAll I ds xs its hd rv
    refine max_list_default (I.ok.hd hc) hl.isList rs ha (by omega) (fun hz h' tk hk => ⟨z, H, I.kept hk, e1, q0 hz⟩) fun y ys i v h' tk bs he hv hr hk => ?_
    obtain ⟨v', h4, h5, h6⟩ := reads_at hk rv rs (by simpa using hv) hr
    exact ⟨v', H, I.kept hk, h5, q y ys he i v' h4 h6⟩
  · obtain ⟨its, rv, hl, _⟩ := I.tuple hs
    obtain ⟨as, rs⟩ := Dp.readsAll I ds xs its hd rv
    refine max_tuple_default (I.ok.hd hc) hl rs ha (by omega) (fun hz h' tk hk => ⟨z, H, I.kept hk, e1, q0 hz⟩) fun y ys i v h' tk bs he hv hr hk => ?_
    obtain ⟨v', h4, h5, h6⟩ := reads_at hk rv rs (by simpa using hv) hr
    exact ⟨v', H, I.kept hk, h5, q y ys he i v' h4 h6⟩
theorem cr_minDf (hc : X.calm = true) (hu : X.A.units + 64 < cLine) : CallRK X (.builtin "min") [Str.ofString "default"] (rBestDf X.K minD) := by
  intro pins s σ H vs zs us ws Q I r rz h
  obtain ⟨a, xs, ds, z, rfl, rfl, hs, hd, ha, hdep, q0, q⟩ := h
  rw [Vals.ref1 r]
  obtain ⟨w1, rfl, e1⟩ := vals1 rz
  rcases hs with hs | hs
  · obtain ⟨its, rv, hl, _⟩ := I.list hs
    obtain ⟨as, rs⟩ := Dp.readsAll I ds xs its hd rv
    refine min_list_default (I.ok.hd hc) hl.isList rs ha (by omega) (fun hz h' tk hk => ⟨z, H, I.kept hk, e1, q0 hz⟩) fun y ys i v h' tk bs he hv hr hk => ?_
    obtain ⟨v', h4, h5, h6⟩ := reads_at hk rv rs (by simpa using hv) hr
    exact ⟨v', H, I.kept hk, h5, q y ys he i v' h4 h6⟩
  · obtain ⟨its, rv, hl, _⟩ := I.tuple hs
    obtain ⟨as, rs⟩ := Dp.readsAll I ds xs its hd rv
    refine min_tuple_default (I.ok.hd hc) hl rs ha (by omega) (fun hz h' tk hk => ⟨z, H, I.kept hk, e1, q0 hz⟩) fun y ys i v h' tk bs he hv hr hk => ?_
    obtain ⟨v', h4, h5, h6⟩ := reads_at hk rv rs (by simpa using hv) hr
    exact ⟨v', H, I.kept hk, h5, q y ys he i v' h4 h6⟩
end
noncomputable def gBestDf (f : PyData → PyData → Bool) : Dt → Dt → Option Dt
  | .lst [], d => some d
  | .tup [], d => some d
  | .lst (x :: xs), _ => if cdc (AlikeAll (Dt.pyA (x :: xs)) ∧ PyData.canLayAll0 (Dt.pyA (x :: xs)) = true ∧ PyData.depthAll (Dt.pyA (x :: xs)) ≤ 60) = true then some (bestD f x xs) else none
  | .tup (x :: xs), _ => if cdc (AlikeAll (Dt.pyA (x :: xs)) ∧ PyData.canLayAll0 (Dt.pyA (x :: xs)) = true ∧ PyData.depthAll (Dt.pyA (x :: xs)) ≤ 60) = true then some (bestD f x xs) else none
  | _, _ => none
noncomputable abbrev gMaxDf : Dt → Dt → Option Dt := gBestDf fun y a => dataLt a y
noncomputable abbrev gMinDf : Dt → Dt → Option Dt := gBestDf dataLt
theorem lay_at : ∀ (ds : List Dt) (i : Nat) (d : Dt), PyData.canLayAll0 (Dt.pyA ds) = true → ds[i]? = some d → d.py.canLay0 = true := by
  intro ds
  induction ds with
  | nil => intro i d _ h; simp at h
  | cons e ds ih =>
    intro i d hl h
    rw [Dt.pyA] at hl
    have k' := Bool.and_eq_true_iff.mp (show (_ && _) = true from by simpa [PyData.canLayAll0] using hl)
    cases i with
    | zero => simp at h; rw [← h]; exact k'.1
    | succ i => exact ih i d k'.2 (by simpa using h)
section
variable {m : Bool} {T : List Addr} {X : Cx} {K : PySem.W.Frag} {a b : Expr} {ta tb : TE} {fa fb : Fn} {pos q1 kpos : Pos}
theorem sd_bestDf (f : PyData → PyData → Bool) (ha : Sd m T K ta fa) (hb : Sd m T K tb fb) :
    Sd m T K (tCKw (rBestDf K fun x xs => xs.foldl (fun a y => if f y a then y else a) x) (tCons ta tNil) (tCons tb tNil)) (f2 (gBestDf f) fa fb) := fun W ρ σ H c Q gd rp e q => by
  obtain ⟨x, ea, e⟩ := obind e
  obtain ⟨y, eb, e⟩ := obind e
  refine ha W ρ σ H x _ gd rp ea fun v H1 e1 g1 r1 => ?_
  show tCons tb tNil σ H1 fun zs H2 => rBestDf K _ [v] zs H2 Q
  refine hb W ρ σ H1 y _ g1 (rp.ext e1) eb fun z H2 e2 g2 r2 => ?_
  show rBestDf K _ [v] [z] H2 Q
  have r1' := r1.ext e2
  have go : ∀ (p : Addr) (zs : List V) (x : Dt) (xs : List Dt), (SqL K H2 p zs ∨ SqT K H2 p zs) → RepA K H2 (wOf m W ρ σ) zs (x :: xs) → v = V.ref p →
      (if cdc (AlikeAll (Dt.pyA (x :: xs)) ∧ PyData.canLayAll0 (Dt.pyA (x :: xs)) = true ∧ PyData.depthAll (Dt.pyA (x :: xs)) ≤ 60) = true then some (bestD f x xs) else none) = some c → rBestDf K (fun x xs => xs.foldl (fun a y => if f y a then y else a) x) [v] [z] H2 Q := by
    intro p zs x xs hs ra hv h
    by_cases hz : cdc (AlikeAll (Dt.pyA (x :: xs)) ∧ PyData.canLayAll0 (Dt.pyA (x :: xs)) = true ∧ PyData.depthAll (Dt.pyA (x :: xs)) ≤ 60) = true
    · rw [if_pos hz] at h
      cases h
      obtain ⟨h1, h2, h3⟩ := cdc_p hz
      have hdp := RepA.dp ra h2
      have e1' : Dt.pyA (x :: xs) = x.py :: Dt.pyA xs := by rw [Dt.pyA]
      refine ⟨p, zs, Dt.pyA (x :: xs), z, by rw [hv], rfl, hs, hdp, h1, h3, fun h0 => (by rw [e1'] at h0; cases h0), fun e es he i w hi hp => ?_⟩
      rw [e1'] at he
      injection he with he1 he2
      subst he1 he2
      simp only [] at hp
      rw [← bestD_py] at hp
      obtain ⟨d, hd, hdp⟩ := pyA_at (x :: xs) i _ hp
      rcases EL.RepA.at? ra i with ⟨h4, _⟩ | ⟨v', d', h4, h5, h6⟩
      · rw [hi] at h4; cases h4
      · rw [hi] at h4
        cases h4
        rw [hd] at h5
        cases h5
        rw [py_inj d _ hdp (lay_at _ _ _ h2 hd)] at h6
        exact q _ H2 (e1.trans e2) g2 h6
    · rw [if_neg hz] at h; cases h
  have g0 : ∀ (p : Addr) (zs : List V), (SqL K H2 p zs ∨ SqT K H2 p zs) → RepA K H2 (wOf m W ρ σ) zs [] → v = V.ref p → y = c → rBestDf K (fun x xs => xs.foldl (fun a y => if f y a then y else a) x) [v] [z] H2 Q := by
    intro p zs hs ra hv hy
    subst hy
    cases ra
    exact ⟨p, [], [], z, by rw [hv], rfl, hs, DpAll.nil, ⟨fun a h => (by cases h), fun a h => (by cases h)⟩, by simp [PyData.depthAll], fun _ => q _ H2 (e1.trans e2) g2 r2, fun _ _ h => by cases h⟩
  cases r1' with
  | @lst p zs l h1 n1 ra =>
    cases l with
    | nil => exact g0 p zs (.inl (.of h1)) ra rfl (by cases e; rfl)
    | cons x xs => exact go p zs x xs (.inl (.of h1)) ra rfl e
  | @tup p zs l h1 ra =>
    cases l with
    | nil => exact g0 p zs (.inr (.of h1)) ra rfl (by cases e; rfl)
    | cons x xs => exact go p zs x xs (.inr (.of h1)) ra rfl e
  | _ => cases e
theorem de_maxDf (hc : X.calm = true) (hu : X.A.units + 64 < cLine) (ha : DE m T K X a ta fa) (hb : DE m T K X b tb fb) (hm : X.mg "max" = none) (hg : Gl X "max" := by rfl)
    (hv : bootBuiltins "max" = some (.builtin "max") := by decide +kernel)
    (he : starEach [a] X.env = (false, eval a X.env) :: starEach [] X.env := by rfl) (he2 : backTo pos (starEach [a] X.env) = (false, eval a X.env) :: backTo pos (starEach [] X.env) := by rfl) (hpl : (backTo pos (starEach [a] X.env)).any (·.1) = false := by rfl)
    (hall : (backToKw pos (keywordEach [⟨some "default", b, kpos⟩] X.env)).all (·.1.isSome) = true := by rfl) (hnone : (backToKw pos (keywordEach [⟨some "default", b, kpos⟩] X.env)).any (·.1.isNone) = false := by rfl) (hks : (backToKw pos (keywordEach [⟨some "default", b, kpos⟩] X.env)).filterMap (·.1) = [Str.ofString "default"] := by rfl) (hk : X.K = K := by rfl) :
    DE m T K X (.Call (.Name "max" q1) [a] [⟨some "default", b, kpos⟩] pos) (tCKw (rBestDf K maxD) (tCons ta tNil) (tCons tb tNil)) (f2 gMaxDf fa fb) := by
  subst hk
  exact ⟨pe_callBK (cr_maxDf hc hu) hg hm hv (pa_cons ha.pe pa_nil he) (pk_cons hb.pe pk_nil) (by decide) (by decide) he2 hpl hall hnone hks, sd_bestDf _ ha.sd hb.sd⟩
theorem de_minDf (hc : X.calm = true) (hu : X.A.units + 64 < cLine) (ha : DE m T K X a ta fa) (hb : DE m T K X b tb fb) (hm : X.mg "min" = none) (hg : Gl X "min" := by rfl)
    (hv : bootBuiltins "min" = some (.builtin "min") := by decide +kernel)
    (he : starEach [a] X.env = (false, eval a X.env) :: starEach [] X.env := by rfl) (he2 : backTo pos (starEach [a] X.env) = (false, eval a X.env) :: backTo pos (starEach [] X.env) := by rfl) (hpl : (backTo pos (starEach [a] X.env)).any (·.1) = false := by rfl)
    (hall : (backToKw pos (keywordEach [⟨some "default", b, kpos⟩] X.env)).all (·.1.isSome) = true := by rfl) (hnone : (backToKw pos (keywordEach [⟨some "default", b, kpos⟩] X.env)).any (·.1.isNone) = false := by rfl) (hks : (backToKw pos (keywordEach [⟨some "default", b, kpos⟩] X.env)).filterMap (·.1) = [Str.ofString "default"] := by rfl) (hk : X.K = K := by rfl) :
    DE m T K X (.Call (.Name "min" q1) [a] [⟨some "default", b, kpos⟩] pos) (tCKw (rBestDf K minD) (tCons ta tNil) (tCons tb tNil)) (f2 gMinDf fa fb) := by
  subst hk
  exact ⟨pe_callBK (cr_minDf hc hu) hg hm hv (pa_cons ha.pe pa_nil he) (pk_cons hb.pe pk_nil) (by decide) (by decide) he2 hpl hall hnone hks, sd_bestDf _ ha.sd hb.sd⟩
end
end EL
end

section
set_option Elab.async false
set_option maxRecDepth 100000
set_option maxHeartbeats 4000000
/-! EL: sum of a tuple or a list of ints. -/
namespace EL
open PySem PySem.Spec PySem.W PyProof.Rows L2 HT
section
variable {prog : Program} {w : World} {A : Around} {E : Value → Shared → Prop} {s : Shared} {l : Addr} {its : List Value} {ns : List Int} {Q : Value → Shared → Prop}
theorem sum_tupR (hh : A.handled = none) (hl : s.heap.IsTuple l its.toArray) (hi : IntsAre its ns)
    (h : ∀ h' tk t', (∀ b o, s.heap.get? b = some o → h'.get? b = some o) → Q (.int ns.sum t') { s with heap := h', toks := tk }) : wpAny (model prog w) A (call (.builtin "sum") [.ref l]) Q E s := by
  obtain ⟨xs, e⟩ := hi.allInts.items
  have hn : numsOf (intItems xs).toList = ns := by rw [← e]; exact hi.numsOf
  rw [nums_intItems] at hn
  rw [e] at hl
  have hlt : l < s.heap.objs.size := by obtain ⟨_, e, _⟩ := hl; exact Heap.lt_size e
  refine call_sum_walkG (wpAny_pyIter_tuple hl ?_)
  refine ⟨_, [_, l], [_], _, _, _, numAt xs, rfl, Walks.tuple (A := A.in1) hh _ l (Nat.ne_of_lt hlt) (intItems xs), ⟨⟨_, Heap.get?_push_size _ rfl, rfl, rfl⟩, hl.push _⟩, fun d hd => ?_, (fun _ _ => intItems_at), fun h' tk t' hk => ?_⟩
  · show d < (s.heap.push _).objs.size
    rw [Heap.size_push]
    rcases List.mem_cons.mp hd with rfl | hd
    · exact Nat.lt_succ_self _
    · rcases List.mem_cons.mp hd with rfl | hd
      · exact Nat.lt_succ_of_lt hlt
      · cases hd
  · have hold : ∀ d o, s.heap.get? d = some o → h'.get? d = some o := fun d o e => by
      refine hk d o (fun hm => ?_) (Heap.get?_push_of_some _ e)
      rcases List.mem_cons.mp hm with e1 | hm
      · have := Heap.lt_size e; rw [e1] at this; exact Nat.lt_irrefl _ this
      · cases hm
    have := h h' tk t' hold
    have e2 : preSum (numAt xs) (intItems xs).size = ns.sum := by
      rw [preSum_eq, List.take_of_length_le (by simp [intItems]), hn]
    rw [e2]
    exact this
end
def rSumA (K : PySem.W.Frag) : List V → Hp → VK → Prop := fun vs H Q => ∃ (a : Addr) (ns : List Int), vs = [V.ref a] ∧ (SqL K H a (ns.map V.int) ∨ SqT K H a (ns.map V.int)) ∧ Q (.int ns.sum) H
def gSumA : List Dt → Option Dt
  | [.lst xs] => (ints? xs).bind fun ns => some (.int ns.sum)
  | [.tup xs] => (ints? xs).bind fun ns => some (.int ns.sum)
  | _ => none
section
variable {T : List Addr} {X : Cx} {K : PySem.W.Frag}
theorem cr_sumA (hc : X.calm = true) : CallR X (.builtin "sum") (rSumA X.K) := by
  intro pins s σ H vs us Q I r h
  obtain ⟨a, ns, rfl, hs, q⟩ := h
  rw [Vals.ref1 r]
  rcases hs with hs | hs
  · obtain ⟨its, rv, hl, _⟩ := I.list hs
    exact sum_raw (I.ok.hd hc) hl.isList rv.ints fun h' tk t' hk => ⟨.int _, H, I.kept hk, ⟨_, rfl⟩, q⟩
  · obtain ⟨its, rv, hl, _⟩ := I.tuple hs
    exact sum_tupR (I.ok.hd hc) hl rv.ints fun h' tk t' hk => ⟨.int _, H, I.kept hk, ⟨_, rfl⟩, q⟩
theorem kSumA (hk : X.K = K) (hc : X.calm = true) : CallR X (.builtin "sum") (rSumA K) ∧ CallD T K (rSumA K) gSumA := by subst hk; exact ⟨cr_sumA hc, fun W H vs ds c Q g wl r h q => by
  match ds, h with
  | x0 :: _ :: _, h => cases x0 <;> cases h
  | [d], h =>
    obtain ⟨v, rfl, r1⟩ := repA1 r
    cases r1 with
    | lst h1 n1 ra =>
      obtain ⟨ns, h2, h3⟩ := obind h
      cases h3
      rw [ints?_some h2] at ra
      rw [ra.ints] at h1
      exact ⟨_, ns, rfl, .inl (.of h1), q _ H (Ext.refl H) g (.int _)⟩
    | tup h1 ra =>
      obtain ⟨ns, h2, h3⟩ := obind h
      cases h3
      rw [ints?_some h2] at ra
      rw [ra.ints] at h1
      exact ⟨_, ns, rfl, .inr (.of h1), q _ H (Ext.refl H) g (.int _)⟩
    | _ => cases h⟩
theorem fl_sumA : ∀ ds c, gSumA ds = some c → c.free = true := fun ds c h => by
  unfold gSumA at h
  split at h
  · obtain ⟨ns, _, h3⟩ := obind h
    cases h3
    rfl
  · obtain ⟨ns, _, h3⟩ := obind h
    cases h3
    rfl
  · cases h
end
@[simp] theorem gSumA_l (l : List Int) : gSumA [.lst (l.map Dt.int)] = some (.int l.sum) := by
  show ((ints? (l.map Dt.int)).bind fun ns => some (Dt.int ns.sum)) = _
  rw [ints?_map]; rfl
@[simp] theorem gSumA_t (l : List Int) : gSumA [.tup (l.map Dt.int)] = some (.int l.sum) := by
  show ((ints? (l.map Dt.int)).bind fun ns => some (Dt.int ns.sum)) = _
  rw [ints?_map]; rfl
end EL
end

section
set_option Elab.async false
set_option maxRecDepth 100000
set_option maxHeartbeats 4000000
/-! EL: a tuple taken k times. -/
namespace EL
open PySem PySem.Spec PySem.W PyProof.Rows L2 HT
theorem tuple_mul1 (l : Addr) (items : Array Value) (n : Nat) (dd : Option Addr) (sl : Array (Option Value)) (x : Int) (u : Tok) (c0 : (decide (x < -(2 ^ 63)) || decide (x ≥ 2 ^ 63)) = false) (c1 : (items.isEmpty || x == 1) = true) :
    Meets (Builtin.«tuple.__mul__» ⟨[.ref l, .int x u], []⟩) (fun _ R s => s.heap.get? l = some { cls := .type "tuple", dict := dd, data := .seq items n, slots := sl } ∧
      R (.ok (.ret (Value.ref l))) s) :=
  .of_wp fun prog w A R s h => by
    obtain ⟨hp, g, d, tk, os⟩ := s
    obtain ⟨hl, h⟩ := h
    have f1 := AutoSeq1.idx_int
    wp_walk using wpAny_loadPart' hl
    repeat (first
      | (refine wpAny_ite_false (decide_eq_false (by rw [c0]; exact Bool.false_ne_true)) ?_; wp_walk using wpAny_loadPart' hl)
      | (refine wpAny_ite_true (decide_eq_true c1) ?_; wp_walk using wpAny_loadPart' hl))
    all_goals exact ⟨_, rfl, h⟩
theorem tuple_mul0 (l : Addr) (items : Array Value) (n : Nat) (dd : Option Addr) (sl : Array (Option Value)) (x : Int) (u : Tok) (c0 : (decide (x < -(2 ^ 63)) || decide (x ≥ 2 ^ 63)) = false) (c1 : (items.isEmpty || x == 1) = false) (c2 : (decide (x ≤ 0) || items.isEmpty) = true) :
    Meets (Builtin.«tuple.__mul__» ⟨[.ref l, .int x u], []⟩) (fun _ R s => s.heap.get? l = some { cls := .type "tuple", dict := dd, data := .seq items n, slots := sl } ∧
      R (.ok (.ret (Value.ref s.heap.objs.size))) { s with heap := s.heap.push { cls := Value.type "tuple", data := Data.seq #[] }, toks := s.toks }) :=
  .of_wp fun prog w A R s h => by
    obtain ⟨hp, g, d, tk, os⟩ := s
    obtain ⟨hl, h⟩ := h
    have f1 := AutoSeq1.idx_int
    wp_walk using wpAny_loadPart' hl
    repeat (first
      | (refine wpAny_ite_false (decide_eq_false (by rw [c0]; exact Bool.false_ne_true)) ?_; wp_walk using wpAny_loadPart' hl)
      | (refine wpAny_ite_false (decide_eq_false (by rw [c1]; exact Bool.false_ne_true)) ?_; wp_walk using wpAny_loadPart' hl)
      | (refine wpAny_ite_true (decide_eq_true c2) ?_; wp_walk using wpAny_loadPart' hl))
    all_goals exact ⟨_, rfl, h⟩
/-- tuple * int, few times -/
def rRepT1 (K : PySem.W.Frag) : R2 := fun x y H Q => ∃ l k xs, x = .ref l ∧ y = .int k ∧ SqT K H l xs ∧ -1000 ≤ k ∧ k ≤ 1000 ∧ xs.length ≤ 1000 ∧ ((xs = [] ∨ k = 1) → Q (.ref l) H) ∧ ((xs ≠ [] ∧ k ≠ 1) → ∀ p, H p = none → Q (.ref p) (upd H p (.tup (List.replicate k.toNat xs).flatten)))
section
variable {X : Cx}
theorem op_repT1 : OpR X (binaryOp .Mult) (rRepT1 X.K) := by
  intro pins s σ H x y v u Q I rx ry h
  obtain ⟨l, k, xs, rfl, rfl, hT, h0, h2, hz, q0, q1⟩ := h
  by_cases hbig : xs ≠ [] ∧ 2 ≤ k
  · exact op_repT pins s σ H _ _ v u Q I rx ry ⟨l, k, xs, rfl, rfl, hT, hbig.1, hbig.2, h2, hz, q1 ⟨hbig.1, by omega⟩⟩
  · cases rx
    obtain ⟨t, rfl⟩ := ry
    obtain ⟨its, r, ⟨⟨cls, dd, data, sl⟩, ho, hc, n, hd⟩, hs⟩ := I.tuple hT
    simp only at hc hd
    subst hc hd
    have hle : its.length = xs.length := r.length.symm
    have c0 : (decide (k < -(2 ^ 63)) || decide (k ≥ 2 ^ 63)) = false := by
      rw [decide_eq_false (by omega), decide_eq_false (by omega)] <;> rfl
    by_cases h1 : xs = [] ∨ k = 1
    · have c1 : (its.toArray.isEmpty || k == 1) = true := by
        rcases h1 with h1 | h1
        · have : its = [] := List.eq_nil_of_length_eq_zero (by rw [hle, h1]; rfl)
          rw [this]
          rfl
        · rw [h1]
          simp
      refine wpAny_binaryOp_repeat_ref (T := "tuple") (U := "int") (by decide) ⟨_, ho, rfl⟩ (fun s' => typeIs_int s' k t) noFill_tuple_mul F.fills_int_mul F.slot_int_rmul repeat_tuple F.slot_int_index.lookup
        (call_meets F.slot_int_rmul (typeIs_int s k t) F.entry_int_rmul (F.args_int_rmul_2 _ _) (int_rmul_tuple k t l its.toArray n dd sl)
          ⟨ho, rfl, ⟨_, ho, rfl⟩, call_meets F.slot_tuple_mul ⟨_, ho, rfl⟩ F.entry_tuple_mul (F.args_tuple_mul_2 _ _) (tuple_mul1 l its.toArray n dd sl k t c0 c1) ⟨ho, ?_⟩⟩)
      exact ⟨.ref l, H, I, rfl, q0 h1⟩
    · have hk : k ≤ 0 ∧ xs ≠ [] := ⟨by
        refine Classical.byContradiction fun hc => ?_
        exact hbig ⟨fun e => h1 (.inl e), by
          have : k ≠ 1 := fun e => h1 (.inr e)
          omega⟩, fun e => h1 (.inl e)⟩
      have hi : its.toArray.isEmpty = false := by
        cases its with
        | nil => exact absurd (List.eq_nil_of_length_eq_zero (by rw [← hle]; rfl)) hk.2
        | cons a b => rfl
      have c1 : (its.toArray.isEmpty || k == 1) = false := by
        rw [hi, Bool.false_or]
        exact beq_eq_false_iff_ne.mpr (by omega)
      have c2 : (decide (k ≤ 0) || its.toArray.isEmpty) = true := by
        rw [decide_eq_true hk.1, Bool.true_or]
      refine wpAny_binaryOp_repeat_ref (T := "tuple") (U := "int") (by decide) ⟨_, ho, rfl⟩ (fun s' => typeIs_int s' k t) noFill_tuple_mul F.fills_int_mul F.slot_int_rmul repeat_tuple F.slot_int_index.lookup
        (call_meets F.slot_int_rmul (typeIs_int s k t) F.entry_int_rmul (F.args_int_rmul_2 _ _) (int_rmul_tuple k t l its.toArray n dd sl)
          ⟨ho, rfl, ⟨_, ho, rfl⟩, call_meets F.slot_tuple_mul ⟨_, ho, rfl⟩ F.entry_tuple_mul (F.args_tuple_mul_2 _ _) (tuple_mul0 l its.toArray n dd sl k t c0 c1 c2) ⟨ho, ?_⟩⟩)
      have e0 : (List.replicate k.toNat xs).flatten = [] := by
        rw [show k.toNat = 0 by omega]
        rfl
      have hq := q1 ⟨hk.2, by omega⟩ _ (I.hok.fresh (Nat.le_refl _))
      rw [e0] at hq
      exact ⟨.ref s.heap.objs.size, _, I.laid (t' := s.toks) (o := .tup []) (fun b ob q => Heap.get?_push_of_some _ q) (Nat.le_refl _) ⟨by simp, _, .nil, IsTup.new _ _⟩, rfl, hq⟩
end
noncomputable def gMulA : Dt → Dt → Option Dt
  | .int i, .int j => if cMul i j = true then some (.int (i * j)) else none
  | .lst xs, .int k => if cdc (-(2 ^ 63) ≤ k ∧ k < 2 ^ 63 ∧ xs.length * k.toNat ≤ sizeLine) = true then some (.lst (List.replicate k.toNat xs).flatten) else none
  | .tup xs, .int k => if -1000 ≤ k ∧ k ≤ 1000 ∧ xs.length ≤ 1000 then some (.tup (List.replicate k.toNat xs).flatten) else none
  | _, _ => none
section
variable {T : List Addr} {X : Cx} {K : PySem.W.Frag}
theorem oMulA (hk : X.K = K := by rfl) : OpR X (binaryOp .Mult) (fun x y H Q => (rI CMul (fun i j => .int (i * j)) x y H Q ∨ rRep x y H Q) ∨ rRepT1 K x y H Q) ∧ OpD T K (fun x y H Q => (rI CMul (fun i j => .int (i * j)) x y H Q ∨ rRep x y H Q) ∨ rRepT1 K x y H Q) gMulA := by
  subst hk
  refine ⟨OpR.or (OpR.or op_mul op_rep) op_repT1, fun W H x y d e c Q g wl r1 r2 h q => ?_⟩
  cases r1 with
  | int i =>
    refine .inl ((oMul (X := X) (T := T)).2 W H _ y _ e c Q g wl (.int i) r2 ?_ q)
    cases e <;> first | exact h | cases h
  | @lst a xs ds h1 n1 ra =>
    refine .inl ((oMul (X := X) (T := T)).2 W H _ y _ e c Q g wl (.lst h1 n1 ra) r2 ?_ q)
    cases e <;> first | exact h | cases h
  | @tup a xs ds h1 ra =>
    cases r2 with
    | int k =>
      dsimp only [gMulA] at h
      by_cases hz : -1000 ≤ k ∧ k ≤ 1000 ∧ ds.length ≤ 1000
      · rw [if_pos hz] at h
        cases h
        refine .inr ⟨a, k, xs, rfl, rfl, .of h1, hz.1, hz.2.1, by rw [ra.length]; exact hz.2.2, fun hc => ?_, fun hc p hp => ?_⟩
        · have e1 : (List.replicate k.toNat ds).flatten = ds := by
            rcases hc with hc | hc
            · have : ds = [] := List.eq_nil_of_length_eq_zero (by rw [← ra.length, hc]; rfl)
              rw [this]
              simp
            · rw [hc]
              simp
          rw [e1] at q
          exact q _ H (Ext.refl H) g (.tup h1 ra)
        · exact q _ _ (Ext.new hp) (g.newT hp (by rw [len_rep, ra.length]; exact size_ge (Nat.le_trans (Nat.mul_le_mul (show ds.length ≤ 1000 from hz.2.2) (show k.toNat ≤ 1000 by omega)) (by omega)))) (.tup upd_same ((ra.rep _).ext (Ext.new hp)))
      · rw [if_neg hz] at h; cases h
    | _ => cases h
  | _ => cases h
end
theorem gMulA_i (i j : Int) : gMulA (.int i) (.int j) = if cMul i j = true then some (.int (i * j)) else none := nd rfl
theorem gMulA_t {xs : List Dt} {k : Int} (h0 : -1000 ≤ k) (h1 : k ≤ 1000) (h2 : xs.length ≤ 1000) : gMulA (.tup xs) (.int k) = some (.tup (List.replicate k.toNat xs).flatten) := by
  show (if -1000 ≤ k ∧ k ≤ 1000 ∧ xs.length ≤ 1000 then some (Dt.tup (List.replicate k.toNat xs).flatten) else none) = _
  rw [if_pos ⟨h0, h1, h2⟩]
end EL
end

section
set_option Elab.async false
set_option maxRecDepth 100000
set_option maxHeartbeats 4000000
/-! EL: comprehensions of two fors; a list taken k times as a new list. -/
namespace EL
open PySem PySem.Spec PySem.W PyProof.Rows L2
/-- what stood stands, but D -/
def XD (D : Addr) (H H' : Hp) : Prop := Ext (upd H D (.lst [])) (upd H' D (.lst []))
section
variable {D : Addr} {H H' H2 : Hp} {K : PySem.W.Frag} {W : Addr → Prop} {ρ : Rho} {σ : L2.St}
theorem XD.refl (D : Addr) (H : Hp) : XD D H H := Ext.refl _
theorem XD.trans (a : XD D H H') (b : XD D H' H2) : XD D H H2 := Ext.trans a b
theorem XD.put {o : HO} : XD D H (upd H D o) := by
  unfold XD
  rw [upd_upd]
  exact Ext.refl _
theorem XD.of (e : Ext H H') : XD D H H' := ⟨fun b o h n => by
  by_cases hb : b = D
  · rw [hb, upd_same] at h ⊢
    exact h
  · rw [upd_ne hb] at h ⊢
    exact e.keep b o h n, fun b h => by
  by_cases hb : b = D
  · rw [hb, upd_same] at h; cases h
  · rw [upd_ne hb] at h ⊢
    exact e.there b h⟩
theorem XD.keep (x : XD D H H') {b : Addr} {o : HO} (hb : b ≠ D) (h : H b = some o) (n : nt o = true) : H' b = some o := by
  have := Ext.keep x b o (by rw [upd_ne hb]; exact h) n
  rwa [upd_ne hb] at this
theorem XD.there (x : XD D H H') {b : Addr} (hb : b ≠ D) (h : H' b = none) : H b = none := by
  have := Ext.there x b (by rw [upd_ne hb]; exact h)
  rwa [upd_ne hb] at this
theorem XD.kp {O : Addr → Prop} (x : XD D H H') (hO : O D) {ys : List V} (hD : H' D = some (.lst ys)) : Kp O H H' := ⟨fun b o h n no => x.keep (fun e => no (by rw [e]; exact hO)) h n, fun b h => by
  by_cases hb : b = D
  · rw [hb, hD] at h; cases h
  · exact x.there hb h⟩
theorem XD.kw (x : XD D H H') {xs : List V} (hD : H D = some (.lst xs)) (w : W D) : KeepW W H H' := ⟨fun b ys h => x.keep (fun e => by rw [e, hD] at h; cases h) h rfl, fun b o u h => x.keep (fun e => by rw [e, hD] at h; cases h) h rfl, fun b ys h n => x.keep (fun e => n (by rw [e]; exact w)) h (nt_mu ys)⟩
theorem Rp.xd (r : Rp K H W ρ σ) (x : XD D H H') (w : W D) {xs ys : List V} (hD : H D = some (.lst xs)) (hD' : H' D = some (.lst ys)) : Rp K H' W ρ σ := by
  have kw : KeepW (Wd W ρ σ) H H' := x.kw hD (.inl w)
  refine ⟨r.len, fun j d h => ?_, fun j es h => ?_, r.inj, fun a z => ?_⟩
  · obtain ⟨v, h1, h2⟩ := r.im j d h
    exact ⟨v, h1, h2.keep kw fun _ _ _ z => z⟩
  · obtain ⟨b, h1, h3, h4⟩ := r.own j es h
    obtain ⟨y, hy⟩ := h4.mu
    exact ⟨b, h1, h3, h4.keep ((x.keep (fun e => h3 (by rw [e]; exact w)) hy (nt_mu y)).trans hy.symm) kw fun _ _ _ z => z⟩
  · by_cases hb : a = D
    · exact ⟨muL ys, by rw [hb]; exact hD'⟩
    · obtain ⟨us, hx⟩ := r.wl a z
      exact ⟨us, x.keep hb hx (nt_mu us)⟩
end
section
variable {T : List Addr} {K : PySem.W.Frag} {wi wi1 : TI} {g g1 : TG} {tt tt1 : TT} {te : TE} {fi fi1 : FnL} {gf gf1 : Dt → Rho → Option Rho} {is is1 vs vs1 : List Nat} {ft ft1 : FnB} {fe : Fn}
theorem wd_wipe {W : Addr → Prop} {ρ ρ' : Rho} {σ σ' : L2.St} {vs : List Nat} (hn : noOw ρ vs = true) (o1 : ∀ a, Own ρ' σ' a → Own (wipeR ρ vs) (L2.wipe σ vs) a) (o2 : ∀ a, Own (wipeR ρ vs) (L2.wipe σ vs) a → Own ρ' σ' a) (a : Addr) : Wd W ρ' σ' a ↔ Wd W ρ σ a := by
  constructor
  · rintro (z | z)
    · exact .inl z
    · exact .inr ((Own.wipe hn).mpr (o1 a z))
  · rintro (z | z)
    · exact .inl z
    · exact .inr (o2 a ((Own.wipe hn).mp z))
/-- own addresses behind the targets are set -/
theorem own_back {ρ ρ2 : Rho} {σ σ2 : L2.St} {is vs : List Nat} (hs : ∀ i ∈ is, i ∈ vs) (hn : noOw ρ vs = true) (k3 : ∀ j, j ∉ is → σ2[j]? = (L2.wipe σ vs)[j]?) (u3 : ∀ j, j ∉ is → getS ρ2 j = getS (wipeR ρ vs) j) : ∀ a, Own (wipeR ρ vs) (L2.wipe σ vs) a → Own ρ2 σ2 a := fun a z => by
  have hnis : ∀ j, j ∉ vs → j ∉ is := fun j hj z => hj (hs j z)
  obtain ⟨j0, es0, h10, h20⟩ := (Own.wipe hn).mpr z
  have hj0 : j0 ∉ vs := fun z => noOw_at hn j0 z es0 h10
  exact ⟨j0, es0, by rw [u3 j0 (hnis j0 hj0), getS_wipe hj0]; exact h10, by rw [k3 j0 (hnis j0 hj0), wipeσ_ne hj0]; exact h20⟩
theorem lc_in (hi1 : SdI false T K wi1 fi1) (hg1 : SdG T K g1 gf1 is1) (ht1 : SdT T K tt1 ft1) (he : Sd true T K te fe) (hs1 : ∀ i ∈ is1, i ∈ vs1)
    {W : Addr → Prop} {ρ : Rho} {σ : L2.St} {H : Hp} {D : Addr} {acc0 : List V} {r : List Dt} (gd : Gd T H) (rp : Rp K H W ρ σ) (w : W D) (hD : H D = some (.lst acc0)) (e : fComp fi1 gf1 ft1 fe vs1 ρ = some r) (lim : acc0.length + r.length ≤ sizeLine) (Fin : Hp → Prop)
    (fin : ∀ Hc acc', XD D H Hc → Gd T Hc → Hc D = some (.lst (acc0 ++ acc')) → RepA K Hc (Wd W ρ σ) acc' r → Fin Hc) :
    wi1 σ H fun J1 H4 => ∃ W1 : Nat → Nat → Hp → Prop, (∃ m, W1 0 m H4) ∧ ∀ j k H, W1 j k H →
      (J1.stop j H ∧ Fin H) ∨ (J1.go j H ∧ ∃ Nx1 : Hp → Prop, (∀ H', Nx1 H' → ∃ k', k' < k ∧ W1 (j + 1) k' H') ∧ ∀ x H', J1.yld j H x H' → g1 x (L2.wipe σ vs1) H' fun σ3 H5 => L2.wipe σ3 vs1 = L2.wipe σ vs1 ∧ tt1 σ3 H5 fun b H6 =>
        if b = true then te σ3 H6 fun y H7 => ∃ acc, H7 D = some (.lst acc) ∧ acc.length < sizeLine ∧ Nx1 (upd H7 D (.lst (acc ++ [y]))) else Nx1 H6) := by
  obtain ⟨src, ei, e⟩ := obind e
  by_cases hz : noOw ρ vs1 = true ∧ src.length ≤ sizeLine
  · rw [if_pos hz] at e
    obtain ⟨hn, hlen⟩ := hz
    refine hi1 W ρ σ H src _ gd rp ei fun J H1 e1 g1' jok => ?_
    have hD1 : H1 D = some (.lst acc0) := e1.keep D _ hD rfl
    have rp1 := rp.ext e1
    refine ⟨fun j m Hc => m = src.length - j ∧ j ≤ src.length ∧ XD D H1 Hc ∧ Gd T Hc ∧ ∃ acc out rest, Hc D = some (.lst (acc0 ++ acc)) ∧ RepA K Hc (Wd W ρ σ) acc out ∧ compGo (wipeR ρ vs1) gf1 ft1 fe (src.drop j) = some rest ∧ out ++ rest = r,
      ⟨src.length, rfl, Nat.zero_le _, XD.refl _ _, g1', [], [], r, by rw [List.append_nil]; exact hD1, .nil, e, rfl⟩, fun j m Hc hW => ?_⟩
    obtain ⟨rfl, hile, ex, gc, acc, out, rest, hDc, racc, ego, eds⟩ := hW
    obtain ⟨jgo, jstop⟩ := jok Hc (ex.kp (.inl w) hDc) gc
    have rpc : Rp K Hc W (wipeR ρ vs1) (L2.wipe σ vs1) := (rp1.wipe vs1).xd ex w hD1 hDc
    by_cases hlt : j < src.length
    · obtain ⟨d, hd⟩ : ∃ d, src[j]? = some d := ⟨src[j], List.getElem?_eq_getElem hlt⟩
      obtain ⟨go, yl⟩ := jgo j d hd
      have edrop : src.drop j = d :: src.drop (j + 1) := by
        rw [List.drop_eq_getElem_cons hlt]
        rw [List.getElem?_eq_getElem hlt] at hd
        cases hd
        rfl
      rw [edrop] at ego
      obtain ⟨ρ2, eg, ego⟩ := obind ego
      obtain ⟨b, et, ego⟩ := obind ego
      refine .inr ⟨go, fun Hn => XD D H1 Hn ∧ Gd T Hn ∧ ∃ acc out rest, Hn D = some (.lst (acc0 ++ acc)) ∧ RepA K Hn (Wd W ρ σ) acc out ∧ compGo (wipeR ρ vs1) gf1 ft1 fe (src.drop (j + 1)) = some rest ∧ out ++ rest = r,
        fun Hn hN => ⟨src.length - (j + 1), by omega, rfl, hlt, hN⟩, fun x H' y => ?_⟩
      obtain ⟨e2, g2, rx⟩ := yl x H' y
      have rp2 := rpc.ext e2
      have rx' : Rep K H' (Wd W (wipeR ρ vs1) (L2.wipe σ vs1)) x d := rx.sub fun a xs h z => .inl ((wd_wipe hn (fun _ z => z) (fun _ z => z) a).mp z)
      refine hg1 _ (wipeR ρ vs1) (L2.wipe σ vs1) H' x d ρ2 _ g2 rp2 rx' eg fun σ2 rp3 k3 l3 o3 u3 => ?_
      have hnis : ∀ j, j ∉ vs1 → j ∉ is1 := fun j hj z => hj (hs1 j z)
      refine ⟨by rw [wipe_eq l3 fun j hj => k3 j (hnis j hj), wipe_wipe], ?_⟩
      have o4 := own_back hs1 hn k3 u3
      refine ht1 _ ρ2 σ2 H' b _ g2 rp3 et fun H3 e3 g3 => ?_
      cases b with
      | true =>
        rw [if_pos rfl] at ego ⊢
        obtain ⟨y', ey, ego⟩ := obind ego
        obtain ⟨r', er, ego⟩ := obind ego
        cases ego
        refine he _ ρ2 σ2 H3 y' _ g3 (rp3.ext e3) ey fun v4 H4 e4 g4 r4 => ?_
        have ec4 : Ext Hc H4 := (e2.trans e3).trans e4
        have hD4 : H4 D = some (.lst (acc0 ++ acc)) := ec4.keep D _ hDc rfl
        have hal : (acc0 ++ acc).length < sizeLine := by
          have h1 := racc.length
          have h2 := congrArg List.length eds
          rw [List.length_append, List.length_cons] at h2
          rw [List.length_append]
          omega
        have r4' : Rep K H4 (Wd W ρ σ) v4 y' := r4.wt.sub fun a _ _ z => (wd_wipe hn o3 o4 a).mpr z
        have kw : KeepW (Wd W ρ σ) H4 (upd H4 D (.lst (acc0 ++ acc ++ [v4]))) := KeepW.set (vs := muL _) hD4 (.inl w)
        refine ⟨acc0 ++ acc, hD4, hal, (ex.trans (XD.of ec4)).trans XD.put, g4.setL hD4 (by rw [List.length_append, List.length_singleton]; omega), acc ++ [v4], out ++ [y'], r', by rw [upd_same, List.append_assoc], ?_, er, by rw [List.append_assoc]; exact eds⟩
        exact ((racc.ext ec4).keep kw fun _ _ _ z => z).append (.one (r4'.keep kw fun _ _ _ z => z))
      | false =>
        rw [if_neg Bool.false_ne_true] at ego ⊢
        have ec3 : Ext Hc H3 := e2.trans e3
        exact ⟨ex.trans (XD.of ec3), g3, acc, out, rest, ec3.keep D _ hDc rfl, racc.ext ec3, ego, eds⟩
    · have hi' : j = src.length := by omega
      subst hi'
      refine .inl ⟨jstop _ (Nat.le_refl _), ?_⟩
      rw [List.drop_length] at ego
      cases ego
      rw [List.append_nil] at eds
      subst eds
      exact fin Hc acc ((XD.of e1).trans ex) gc hDc racc
  · rw [if_neg hz] at e; cases e
end
def comp2Go (ρ : Rho) (gf : Dt → Rho → Option Rho) (ft : FnB) (fin : FnL) : List Dt → Option (List Dt)
  | [] => some []
  | d :: ds => (gf d ρ).bind fun ρ' => (ft ρ').bind fun b => if b = true then (fin ρ').bind fun r => (comp2Go ρ gf ft fin ds).bind fun r2 => some (r ++ r2) else comp2Go ρ gf ft fin ds
def fComp2 (fi : FnL) (gf : Dt → Rho → Option Rho) (ft : FnB) (fin : FnL) (vs : List Nat) : FnL := fun ρ => (fi ρ).bind fun ds => if noOw ρ vs = true then (comp2Go (wipeR ρ vs) gf ft fin ds).bind fun r => if r.length ≤ sizeLine then some r else none else none
section
variable {T : List Addr} {K : PySem.W.Frag} {wi wi1 : TI} {g g1 : TG} {tt tt1 : TT} {te : TE} {fi fi1 : FnL} {gf gf1 : Dt → Rho → Option Rho} {is is1 vs vs1 : List Nat} {ft ft1 : FnB} {fe : Fn}
theorem sd_lc2 (hi : SdI false T K wi fi) (hg : SdG T K g gf is) (ht : SdT T K tt ft) (hi1 : SdI false T K wi1 fi1) (hg1 : SdG T K g1 gf1 is1) (ht1 : SdT T K tt1 ft1) (he : Sd true T K te fe) (hs : ∀ i ∈ is, i ∈ vs) (hs1 : ∀ i ∈ is1, i ∈ vs1) :
    SdF T K (tLc2 wi g tt wi1 g1 tt1 te vs vs1) (fComp2 fi gf ft (fComp fi1 gf1 ft1 fe vs1) vs) := fun W ρ σ H ds Q gd rp e q => by
  obtain ⟨src, ei, e⟩ := obind e
  by_cases hn : noOw ρ vs = true
  · rw [if_pos hn] at e
    obtain ⟨r0, e, hz⟩ := obind e
    by_cases hlen : r0.length ≤ sizeLine
    · rw [if_pos hlen] at hz
      cases hz
      refine hi W ρ σ H src _ gd rp ei fun J H1 e1 g1' jok D hD => ?_
      have rp1 := rp.ext e1
      have rpD : Rp K (upd H1 D (.lst [])) (fun a => W a ∨ a = D) (wipeR ρ vs) (L2.wipe σ vs) := (rp1.addW (zs := []) hD).wipe vs
      have gD : Gd T (upd H1 D (.lst [])) := g1'.newL hD (Nat.zero_le _)
      have wd : ∀ {ρ' : Rho} {σ' : L2.St}, (∀ a, Own ρ' σ' a → Own (wipeR ρ vs) (L2.wipe σ vs) a) → (∀ a, Own (wipeR ρ vs) (L2.wipe σ vs) a → Own ρ' σ' a) → ∀ a, Wd (fun a => W a ∨ a = D) ρ' σ' a ↔ (Wd W ρ σ a ∨ a = D) := fun o1 o2 a => by
        constructor
        · rintro ((z | z) | z)
          · exact .inl (.inl z)
          · exact .inr z
          · exact .inl (.inr ((Own.wipe hn).mpr (o1 a z)))
        · rintro ((z | z) | z)
          · exact .inl (.inl z)
          · exact .inr (o2 a ((Own.wipe hn).mp z))
          · exact .inl (.inr z)
      refine ⟨fun i m Hc => m = src.length - i ∧ i ≤ src.length ∧ XD D H1 Hc ∧ Gd T Hc ∧ ∃ acc out rest, Hc D = some (.lst acc) ∧ RepA K Hc (fun a => Wd W ρ σ a ∨ a = D) acc out ∧ comp2Go (wipeR ρ vs) gf ft (fComp fi1 gf1 ft1 fe vs1) (src.drop i) = some rest ∧ out ++ rest = ds,
        ⟨src.length, rfl, Nat.zero_le _, XD.put, gD, [], [], ds, upd_same, .nil, e, rfl⟩, fun i m Hc hW => ?_⟩
      obtain ⟨rfl, hile, ex, gc, acc, out, rest, hDc, racc, ego, eds⟩ := hW
      have e1c : Ext H1 Hc := ⟨fun b o h n => ex.keep (ne_of_none h hD) h n, fun b h => by
        by_cases hb : b = D
        · rw [hb]; exact hD
        · exact ex.there hb h⟩
      obtain ⟨jgo, jstop⟩ := jok Hc e1c.kp gc
      have ex2 : XD D (upd H1 D (.lst [])) Hc := by
        have := ex
        unfold XD at this ⊢
        rw [upd_upd]
        exact this
      have rpc : Rp K Hc (fun a => W a ∨ a = D) (wipeR ρ vs) (L2.wipe σ vs) := rpD.xd ex2 (.inr rfl) upd_same hDc
      by_cases hlt : i < src.length
      · obtain ⟨d, hd⟩ : ∃ d, src[i]? = some d := ⟨src[i], List.getElem?_eq_getElem hlt⟩
        obtain ⟨go, yl⟩ := jgo i d hd
        have edrop : src.drop i = d :: src.drop (i + 1) := by
          rw [List.drop_eq_getElem_cons hlt]
          rw [List.getElem?_eq_getElem hlt] at hd
          cases hd
          rfl
        rw [edrop] at ego
        obtain ⟨ρ2, eg, ego⟩ := obind ego
        obtain ⟨b, et, ego⟩ := obind ego
        refine .inr ⟨go, fun Hn => XD D H1 Hn ∧ Gd T Hn ∧ ∃ acc out rest, Hn D = some (.lst acc) ∧ RepA K Hn (fun a => Wd W ρ σ a ∨ a = D) acc out ∧ comp2Go (wipeR ρ vs) gf ft (fComp fi1 gf1 ft1 fe vs1) (src.drop (i + 1)) = some rest ∧ out ++ rest = ds,
          fun Hn hN => ⟨src.length - (i + 1), by omega, rfl, hlt, hN⟩, fun x H' y => ?_⟩
        obtain ⟨e2, g2, rx⟩ := yl x H' y
        have rp2 := rpc.ext e2
        have rx' : Rep K H' (Wd (fun a => W a ∨ a = D) (wipeR ρ vs) (L2.wipe σ vs)) x d := rx.sub fun a xs h z => by
          rcases (wd (fun _ z => z) (fun _ z => z) a).mp z with z | z
          · exact .inl z
          · exact .inr (by rw [z]; exact hD)
        refine hg _ (wipeR ρ vs) (L2.wipe σ vs) H' x d ρ2 _ g2 rp2 rx' eg fun σ2 rp3 k3 l3 o3 u3 => ?_
        have hnis : ∀ j, j ∉ vs → j ∉ is := fun j hj z => hj (hs j z)
        refine ⟨by rw [wipe_eq l3 fun j hj => k3 j (hnis j hj), wipe_wipe], ?_⟩
        have o4 := own_back hs hn k3 u3
        refine ht _ ρ2 σ2 H' b _ g2 rp3 et fun H3 e3 g3 => ?_
        have ec3 : Ext Hc H3 := e2.trans e3
        have hD3 : H3 D = some (.lst acc) := ec3.keep D _ hDc rfl
        cases b with
        | true =>
          rw [if_pos rfl] at ego ⊢
          obtain ⟨r1, er1, ego⟩ := obind ego
          obtain ⟨r2, er2, ego⟩ := obind ego
          cases ego
          refine lc_in hi1 hg1 ht1 he hs1 (W := fun a => W a ∨ a = D) g3 (rp3.ext e3) (.inr rfl) hD3 er1 ?_ _ fun Hf acc' x gF hDf ra' => ?_
          · have h1 := racc.length
            have h2 := congrArg List.length eds
            rw [List.length_append, List.length_append] at h2
            omega
          · refine ⟨(ex.trans (XD.of ec3)).trans x, gF, acc ++ acc', out ++ r1, r2, hDf, ?_, er2, by rw [List.append_assoc]; exact eds⟩
            exact ((racc.ext ec3).keep (x.kw hD3 (.inr rfl)) fun _ _ _ z => z).append (ra'.sub fun a _ _ z => (wd o3 o4 a).mpr z)
        | false =>
          rw [if_neg Bool.false_ne_true] at ego ⊢
          exact ⟨ex.trans (XD.of ec3), g3, acc, out, rest, hD3, racc.ext ec3, ego, eds⟩
      · have hi' : i = src.length := by omega
        subst hi'
        refine .inl ⟨jstop _ (Nat.le_refl _), ?_⟩
        rw [List.drop_length] at ego
        cases ego
        rw [List.append_nil] at eds
        subst eds
        exact q D acc Hc (e1.trans e1c) gc (e1.there D hD) hDc racc
    · rw [if_neg hlen] at hz; cases hz
  · rw [if_neg hn] at e; cases e
end
/-- [elt for tg in iter if .. for tg1 in iter1 if ..] -/
theorem df_lc2 {T : List Addr} {K : PySem.W.Frag} {X : Cx} {elt tg iter tg1 iter1 : Expr} {ifs ifs1 : List Expr} {scope : Scope} {own : List (Str × Nat)} {vs1 : List Nat} {pos : Pos} {wi wi1 : TI} {g g1 : TG} {tt tt1 : TT} {te : TE} {fi fi1 : FnL} {gf gf1 : Dt → Rho → Option Rho} {is is1 : List Nat} {ft ft1 : FnB} {fe : Fn} (hc : X.calm = true) (hN : X.N.Nodup) (hi : DI false T K X tg iter wi fi) (ok : blkC X.N X.env.scope scope own = true)
    (hg : ∀ (s : Shared) (H : Hp) (C : Addr) (cl : List (Str × Addr)) (fp : List Addr), DG T K (X.blk s H scope (compEnvC scope cl C X.env) fp) tg g gf is)
    (ht : ∀ (s : Shared) (H : Hp) (C : Addr) (cl : List (Str × Addr)) (fp : List Addr), PTs (X.blk s H scope (compEnvC scope cl C X.env) fp) ifs tt ∧ SdT T K tt ft)
    (hi1 : ∀ (s : Shared) (H : Hp) (C : Addr) (cl : List (Str × Addr)) (fp : List Addr), DI false T K (X.blk s H scope (compEnvC scope cl C X.env) fp) tg1 iter1 wi1 fi1)
    (hg1 : ∀ (s : Shared) (H : Hp) (C : Addr) (cl : List (Str × Addr)) (fp : List Addr), DG T K (X.blk s H scope (compEnvC scope cl C X.env) fp) tg1 g1 gf1 is1)
    (ht1 : ∀ (s : Shared) (H : Hp) (C : Addr) (cl : List (Str × Addr)) (fp : List Addr), PTs (X.blk s H scope (compEnvC scope cl C X.env) fp) ifs1 tt1 ∧ SdT T K tt1 ft1)
    (he : ∀ (s : Shared) (H : Hp) (C : Addr) (cl : List (Str × Addr)) (fp : List Addr), DE true T K (X.blk s H scope (compEnvC scope cl C X.env) fp) elt te fe)
    (hs : is.all (fun i => (own.map (·.2)).contains i) = true := by rfl) (hs1 : is1.all (fun i => vs1.contains i) = true := by rfl) (hv : vs1.all (fun i => (own.map (·.2)).contains i) = true := by rfl)
    (hfs : ∀ x, foldedSetIterable iter X.env x = pure x := by intro _; rfl) (hfs1 : ∀ env x, foldedSetIterable iter1 env x = pure x := by intro _ _; rfl) :
    DF T K X (.ListComp elt [⟨tg, iter, ifs, 0⟩, ⟨tg1, iter1, ifs1, 0⟩] scope pos) (tLc2 wi g tt wi1 g1 tt1 te (own.map (·.2)) vs1) (fComp2 fi gf ft (fComp fi1 gf1 ft1 fe vs1) (own.map (·.2))) :=
  ⟨pe_lc2 hc hN hi.pi (blkOk_by ok) (fun i h => by have := List.all_eq_true.mp hv i h; simpa using this) (fun s H C cl fp => (hg s H C cl fp).pg) (fun s H C cl fp => (ht s H C cl fp).1) (fun s H C cl fp => (hi1 s H C cl fp).pi) (fun s H C cl fp => (hg1 s H C cl fp).pg) (fun s H C cl fp => (ht1 s H C cl fp).1) (fun s H C cl fp => (he s H C cl fp).pe) hfs hfs1,
   sd_lc2 hi.sd (hg { } (fun _ => none) 0 [] []).sd (ht { } (fun _ => none) 0 [] []).2 (hi1 { } (fun _ => none) 0 [] []).sd (hg1 { } (fun _ => none) 0 [] []).sd (ht1 { } (fun _ => none) 0 [] []).2 (he { } (fun _ => none) 0 [] []).sd (fun i hi => by
    have := List.all_eq_true.mp hs i hi
    simpa using this) (fun i hi => by
    have := List.all_eq_true.mp hs1 i hi
    simpa using this)⟩
section
variable {m : Bool} {T : List Addr} {K : PySem.W.Frag} {X : Cx} {elt tg iter tg1 iter1 : Expr} {ifs ifs1 : List Expr} {scope : Scope} {own : List (Str × Nat)} {vs1 : List Nat} {pos spos py : Pos} {wi wi1 : TI} {g g1 : TG} {tt tt1 : TT} {te : TE} {fi fi1 : FnL} {gf gf1 : Dt → Rho → Option Rho} {is is1 : List Nat} {ft ft1 : FnB} {fe : Fn} {i : Nat} {y : Str}
/-- y = [elt for .. for ..] -/
theorem ds_setLc2 (hc : X.calm = true) (hN : X.N.Nodup) (hi : DI false T K X tg iter wi fi) (ok : blkC X.N X.env.scope scope own = true)
    (hg : ∀ (s : Shared) (H : Hp) (C : Addr) (cl : List (Str × Addr)) (fp : List Addr), DG T K (X.blk s H scope (compEnvC scope cl C X.env) fp) tg g gf is)
    (ht : ∀ (s : Shared) (H : Hp) (C : Addr) (cl : List (Str × Addr)) (fp : List Addr), PTs (X.blk s H scope (compEnvC scope cl C X.env) fp) ifs tt ∧ SdT T K tt ft)
    (hi1 : ∀ (s : Shared) (H : Hp) (C : Addr) (cl : List (Str × Addr)) (fp : List Addr), DI false T K (X.blk s H scope (compEnvC scope cl C X.env) fp) tg1 iter1 wi1 fi1)
    (hg1 : ∀ (s : Shared) (H : Hp) (C : Addr) (cl : List (Str × Addr)) (fp : List Addr), DG T K (X.blk s H scope (compEnvC scope cl C X.env) fp) tg1 g1 gf1 is1)
    (ht1 : ∀ (s : Shared) (H : Hp) (C : Addr) (cl : List (Str × Addr)) (fp : List Addr), PTs (X.blk s H scope (compEnvC scope cl C X.env) fp) ifs1 tt1 ∧ SdT T K tt1 ft1)
    (he : ∀ (s : Shared) (H : Hp) (C : Addr) (cl : List (Str × Addr)) (fp : List Addr), DE true T K (X.blk s H scope (compEnvC scope cl C X.env) fp) elt te fe)
    (hy : X.N[i]? = some y := by rfl) (hyl : X.env.scope.names.lookup y = some .local := by rfl)
    (hsw : swapsWith (.ListComp elt [⟨tg, iter, ifs, 0⟩, ⟨tg1, iter1, ifs1, 0⟩] scope pos) (some (.Name y py)) spos.line X.env = pure true := by exact sw_true rfl rfl rfl (by decide +kernel))
    (hs : is.all (fun i => (own.map (·.2)).contains i) = true := by rfl) (hs1 : is1.all (fun i => vs1.contains i) = true := by rfl) (hv : vs1.all (fun i => (own.map (·.2)).contains i) = true := by rfl)
    (hfs : ∀ x, foldedSetIterable iter X.env x = pure x := by intro _; rfl) (hfs1 : ∀ env x, foldedSetIterable iter1 env x = pure x := by intro _ _; rfl) :
    DS T K X (.Assign [.Name y py] (.ListComp elt [⟨tg, iter, ifs, 0⟩, ⟨tg1, iter1, ifs1, 0⟩] scope pos) spos) (tAsg (tLc2 wi g tt wi1 g1 tt1 te (own.map (·.2)) vs1) (gName i)) (sSetF i (fComp2 fi gf ft (fComp fi1 gf1 ft1 fe vs1) (own.map (·.2)))) [i] :=
  ⟨ps_setLc2 hc hN hy hyl hsw hi.pi (blkOk_by ok) (fun i h => by have := List.all_eq_true.mp hv i h; simpa using this) (fun s H C cl fp => (hg s H C cl fp).pg) (fun s H C cl fp => (ht s H C cl fp).1) (fun s H C cl fp => (hi1 s H C cl fp).pi) (fun s H C cl fp => (hg1 s H C cl fp).pg) (fun s H C cl fp => (ht1 s H C cl fp).1) (fun s H C cl fp => (he s H C cl fp).pe) hfs hfs1,
   sd_setF (df_lc2 (T := T) (pos := pos) hc hN hi ok hg ht hi1 hg1 ht1 he hs hs1 hv hfs hfs1).sd⟩
theorem ds_setLc2I (hc : X.calm = true) (hN : X.N.Nodup) (hi : DI false T K X tg iter wi fi) (ok : blkC X.N X.env.scope scope own = true)
    (hg : ∀ (s : Shared) (H : Hp) (C : Addr) (cl : List (Str × Addr)) (fp : List Addr), DG T K (X.blk s H scope (compEnvC scope cl C X.env) fp) tg g gf is)
    (ht : ∀ (s : Shared) (H : Hp) (C : Addr) (cl : List (Str × Addr)) (fp : List Addr), PTs (X.blk s H scope (compEnvC scope cl C X.env) fp) ifs tt ∧ SdT T K tt ft)
    (hi1 : ∀ (s : Shared) (H : Hp) (C : Addr) (cl : List (Str × Addr)) (fp : List Addr), DI false T K (X.blk s H scope (compEnvC scope cl C X.env) fp) tg1 iter1 wi1 fi1)
    (hg1 : ∀ (s : Shared) (H : Hp) (C : Addr) (cl : List (Str × Addr)) (fp : List Addr), DG T K (X.blk s H scope (compEnvC scope cl C X.env) fp) tg1 g1 gf1 is1)
    (ht1 : ∀ (s : Shared) (H : Hp) (C : Addr) (cl : List (Str × Addr)) (fp : List Addr), PTs (X.blk s H scope (compEnvC scope cl C X.env) fp) ifs1 tt1 ∧ SdT T K tt1 ft1)
    (he : ∀ (s : Shared) (H : Hp) (C : Addr) (cl : List (Str × Addr)) (fp : List Addr), DE true T K (X.blk s H scope (compEnvC scope cl C X.env) fp) elt te fe)
    (hy : X.N[i]? = some y := by rfl) (hyl : X.env.scope.names.lookup y = some .local := by rfl)
    (hsw : swapsWith (.ListComp elt [⟨tg, iter, ifs, 0⟩, ⟨tg1, iter1, ifs1, 0⟩] scope pos) (some (.Name y py)) spos.line X.env = pure true := by exact sw_true rfl rfl rfl (by decide +kernel))
    (hs : is.all (fun i => (own.map (·.2)).contains i) = true := by rfl) (hs1 : is1.all (fun i => vs1.contains i) = true := by rfl) (hv : vs1.all (fun i => (own.map (·.2)).contains i) = true := by rfl)
    (hfs : ∀ x, foldedSetIterable iter X.env x = pure x := by intro _; rfl) (hfs1 : ∀ env x, foldedSetIterable iter1 env x = pure x := by intro _ _; rfl) :
    DS T K X (.Assign [.Name y py] (.ListComp elt [⟨tg, iter, ifs, 0⟩, ⟨tg1, iter1, ifs1, 0⟩] scope pos) spos) (tAsg (tLc2 wi g tt wi1 g1 tt1 te (own.map (·.2)) vs1) (gName i)) (sSet i (fLst (fComp2 fi gf ft (fComp fi1 gf1 ft1 fe vs1) (own.map (·.2))))) [i] :=
  ⟨(ds_setLc2 (T := T) hc hN hi ok hg ht hi1 hg1 ht1 he hy hyl hsw hs hs1 hv hfs hfs1).ps, sd_set (DF.de (m := true) (df_lc2 (T := T) (pos := pos) hc hN hi ok hg ht hi1 hg1 ht1 he hs hs1 hv hfs hfs1)).sd⟩
end
@[simp] theorem fComp2_a (fi : FnL) (gf : Dt → Rho → Option Rho) (ft : FnB) (fin : FnL) (vs : List Nat) (ρ : Rho) : fComp2 fi gf ft fin vs ρ = (fi ρ).bind fun ds => if noOw ρ vs = true then (comp2Go (wipeR ρ vs) gf ft fin ds).bind fun r => if r.length ≤ sizeLine then some r else none else none := nd rfl
theorem fComp2_of {fi fin : FnL} {gf : Dt → Rho → Option Rho} {ft : FnB} {vs : List Nat} {ρ : Rho} {ds r : List Dt} (h1 : fi ρ = some ds) (h2 : noOw ρ vs = true) (h3 : r.length ≤ 1000000) (h4 : comp2Go (wipeR ρ vs) gf ft fin ds = some r) : fComp2 fi gf ft fin vs ρ = some r := by
  unfold fComp2
  rw [h1, Option.bind_some, if_pos h2, h4, Option.bind_some, if_pos (size_ge h3)]
/-- a comprehension of two fors, as a flatMap -/
theorem comp2_flat {α β : Type} {ρ : Rho} {gf : Dt → Rho → Option Rho} {ft : FnB} {fin : FnL} (enc : α → Dt) (g : α → List β) (enc2 : β → Dt) : ∀ (xs : List α), (∀ x ∈ xs, ∃ ρ', gf (enc x) ρ = some ρ' ∧ ft ρ' = some true ∧ fin ρ' = some ((g x).map enc2)) →
    comp2Go ρ gf ft fin (xs.map enc) = some ((xs.flatMap g).map enc2)
  | [], _ => rfl
  | x :: xs, h => by
    obtain ⟨ρ', h1, h2, h3⟩ := h x List.mem_cons_self
    have ih := comp2_flat (ρ := ρ) (gf := gf) (ft := ft) (fin := fin) enc g enc2 xs fun y hy => h y (List.mem_cons_of_mem _ hy)
    show ((gf (enc x) ρ).bind fun ρ' => (ft ρ').bind fun b => if b = true then (fin ρ').bind fun r => (comp2Go ρ gf ft fin (xs.map enc)).bind fun r2 => some (r ++ r2) else comp2Go ρ gf ft fin (xs.map enc)) = _
    rw [h1, Option.bind_some, h2, Option.bind_some, if_pos rfl, h3, Option.bind_some, ih, Option.bind_some, List.flatMap_cons, List.map_append]
/-! [x, ..] * k as a new list -/
noncomputable def fMulL (a : FnL) (b : Fn) : FnL := fun ρ => (a ρ).bind fun xs => (b ρ).bind fun d => match d with | .int k => if cdc (-(2 ^ 63) ≤ k ∧ k < 2 ^ 63 ∧ xs.length * k.toNat ≤ sizeLine) = true then some (List.replicate k.toNat xs).flatten else none | _ => none
section
variable {T : List Addr} {K : PySem.W.Frag} {X : Cx} {a b : Expr} {ta tb : TE} {fa : FnL} {fb : Fn} {pos : Pos}
theorem fMulL_of {a : FnL} {b : Fn} {ρ : Rho} {xs : List Dt} {k : Int} (h1 : a ρ = some xs) (h2 : b ρ = some (.int k)) (h3 : 0 ≤ k) (h4 : k ≤ 1000) (h5 : xs.length ≤ 1000) : fMulL a b ρ = some (List.replicate k.toNat xs).flatten := by
  have hc : cdc (-(2 ^ 63) ≤ k ∧ k < 2 ^ 63 ∧ xs.length * k.toNat ≤ sizeLine) = true := cdc_t ⟨by omega, by omega, size_ge (Nat.le_trans (Nat.mul_le_mul h5 (show k.toNat ≤ 1000 by omega)) (by omega))⟩
  show ((a ρ).bind fun xs => (b ρ).bind fun d => match d with | .int k => if cdc (-(2 ^ 63) ≤ k ∧ k < 2 ^ 63 ∧ xs.length * k.toNat ≤ sizeLine) = true then some (List.replicate k.toNat xs).flatten else none | _ => none) = _
  rw [h1, Option.bind_some, h2, Option.bind_some]
  show (if cdc (-(2 ^ 63) ≤ k ∧ k < 2 ^ 63 ∧ xs.length * k.toNat ≤ sizeLine) = true then some (List.replicate k.toNat xs).flatten else none) = _
  rw [if_pos hc]
theorem df_mul (ha : DF T K X a ta fa) (hb : DE false T K X b tb fb) : DF T K X (.BinOp a .Mult b pos) (tOp rRep ta tb) (fMulL fa fb) := ⟨pe_op op_rep ha.pe hb.pe, fun W ρ σ H ds Q gd rp e q => by
  obtain ⟨xs, ea, e⟩ := obind e
  obtain ⟨d, eb, e⟩ := obind e
  cases d with
  | int k =>
    by_cases hz : cdc (-(2 ^ 63) ≤ k ∧ k < 2 ^ 63 ∧ xs.length * k.toNat ≤ sizeLine) = true
    · have e : (if cdc (-(2 ^ 63) ≤ k ∧ k < 2 ^ 63 ∧ xs.length * k.toNat ≤ sizeLine) = true then some (List.replicate k.toNat xs).flatten else none) = some ds := e
      rw [if_pos hz] at e
      have hz := cdc_p hz
      cases e
      refine ha.sd W ρ σ H xs _ gd rp ea fun p vs H1 e1 g1 hp hp1 r1 => ?_
      refine hb.sd W ρ σ H1 (.int k) _ g1 (rp.ext e1) eb fun v H2 e2 g2 r2 => ?_
      cases r2 with
      | int _ =>
        have hp2 : H2 p = some (.lst vs) := e2.keep p _ hp1 rfl
        have hl : vs.length * k.toNat ≤ sizeLine := by rw [r1.length]; exact hz.2.2
        refine ⟨p, k, vs, rfl, rfl, hp2, hz.1, hz.2.1, hl, fun p2 hq => ?_⟩
        have e12 : Ext H H2 := e1.trans e2
        refine q p2 _ _ (e12.trans (Ext.new hq)) (g2.newL hq (by rw [len_rep]; exact hl)) (e12.there p2 hq) upd_same ?_
        have r3 : RepA K H2 (fun a => Wd W ρ σ a ∨ a = p) vs xs := r1.ext e2
        have r4 : RepA K H2 (fun a => Wd W ρ σ a ∨ a = p2) (List.replicate k.toNat vs).flatten (List.replicate k.toNat xs).flatten := (r3.rep k.toNat).sub fun a ys h z => by
          rcases z with z | z
          · exact .inl z
          · rw [z, hq] at h; cases h
        exact r4.ext (Ext.new hq)
    · have e : (if cdc (-(2 ^ 63) ≤ k ∧ k < 2 ^ 63 ∧ xs.length * k.toNat ≤ sizeLine) = true then some (List.replicate k.toNat xs).flatten else none) = some ds := e
      rw [if_neg hz] at e; cases e
  | _ => cases e⟩
end
end EL
end

section
set_option Elab.async false
set_option maxRecDepth 100000
set_option maxHeartbeats 4000000
/-! EL: sorted(set(xs)) of tuples of ints that are all the same. -/
namespace EL
open PySem PySem.Spec PyProof.Rows L2
section
variable {P : Program} {w : World} {A : Around} {E : Value → Shared → Prop} {s : Shared}
theorem sorted_set1 {a : Addr} {L : List (Addr × List Int)} {es : Array (Int × Value)} {ep : Nat} {t : SetTable} {Q : Value → Shared → Prop} (R : SetTR P w s.heap a L es ep t) (hh : A.handled = none) (h1 : L.length ≤ 1)
    (hQ : ∀ s' p (out : Array Value) (c : Nat), (∀ b o, s.heap.get? b = some o → s'.heap.get? b = some o) → s'.gens = s.gens → s'.os = s.os → s.heap.objs.size ≤ p →
      s'.heap.get? p = some (seqObj "list" out c) → out.toList = L.map (fun q => Value.ref q.1) → Q (.ref p) s') :
    wpAny (model P w) A (call (.builtin "sorted") [.ref a]) Q E s := by
  obtain ⟨o, ho, hex, hd⟩ := R.ob
  have hsz := R.size
  refine Calls.call_function_entry kind_sorted plain_sorted entry_sorted (args_sorted1 _) ?_
  unfold Builtin.«sorted»
  refine wpAny_bind (m := checkCount "sorted" 1 1 _) (wpAny_pure ?_)
  refine wpAny_bind (collect_set (A := A.in1) hh ⟨o, ho, hex.1, hd⟩ R.fits (by unfold scanBound; omega) R.tab.ris R.led fun s1 vs k1 hz g1 o1 pm => ?_)
  have hes : es.toList.map (·.2) = L.map fun q => Value.ref q.1 := by
    rw [R.rows]
    unfold rowsOf
    rw [List.map_map] <;> rfl
  rw [hes] at pm
  have one : ∀ us ws : List Value, ws.length ≤ 1 → us.Perm ws → us = ws := by
    intro us ws hw hp
    match ws, hw with
    | [], _ => exact hp.eq_nil
    | [x], _ => exact List.perm_singleton.mp hp
  have hlL : (L.map fun q => Value.ref q.1).length ≤ 1 := by rw [List.length_map]; exact h1
  have ev := one _ _ hlL pm
  have hvl : vs.length ≤ 1 := by rw [ev]; exact hlL
  refine wpAny_bind (wpAny_newList ?_ (by rw [sizeLine_eq]; omega))
  have hoL : (s1.heap.push (seqObj "list" vs.toArray 0)).get? s1.heap.objs.size = some (seqObj "list" vs.toArray 0) := Heap.get?_push_size _ rfl
  refine wpAny_bind (wpAny_holding (wpAny_call_entry (s := { s1 with heap := s1.heap.push (seqObj "list" vs.toArray 0) }) slot_list_sort ⟨_, hoL, rfl⟩ entry_list_sort (SK.plain_sort (r := fun _ => 0) (s := { s1 with heap := s1.heap.push (seqObj "list" vs.toArray 0) }) hoL (by omega) (fun h2 _ _ => absurd h2 (by omega)) fun ps out e1 e2 e3 => ?_) (args_list_sort _)))
  obtain ⟨c, hc⟩ := sortedHeap_at (vs := vs) (out := out) hoL
  obtain ⟨a1, _⟩ := TS.out_rank (r := fun _ => (0 : Int)) e1 e2 e3
  have eo : out.toList = L.map fun q => Value.ref q.1 := by rw [one _ _ hvl a1, ev]
  refine ⟨_, rfl, ?_⟩
  refine wpAny_pure ⟨_, rfl, hQ _ s1.heap.objs.size out c (fun b u e => ?_) g1 o1 hz hc eo⟩
  have q := k1 b u e
  have hlt := Heap.lt_size q
  show (sortedHeap (s1.heap.push (seqObj "list" vs.toArray 0)) s1.heap.objs.size vs out).get? b = some u
  rw [sortedHeap_old (Nat.ne_of_lt hlt) (by rw [size_push']; exact Nat.lt_succ_of_lt hlt)]
  exact Heap.get?_push_of_some _ q
end
/-- sorted(set), at most one tuple -/
def rSorted1 (K : PySem.W.Frag) (P : Program) (w : World) : List V → Hp → VK → Prop := fun vs H Q => ∃ (a : Addr) (L : List (Addr × List Int)), vs = [V.ref a] ∧ H a = some (SetTO P w a L) ∧ (∀ p ∈ L, SqT K H p.1 (p.2.map V.int)) ∧ (∀ p ∈ L, ∀ q ∈ L, p.2 = q.2) ∧
  ∀ p : Addr, L.length ≤ 1 → H p = none → Q (.ref p) (upd H p (.lst (L.map fun q => V.ref q.1)))
section
variable {X : Cx}
theorem cr_sorted1 (hc : X.calm = true) : CallR X (.builtin "sorted") (rSorted1 X.K X.prog X.w) := by
  intro pins s σ H vs us Q I r h
  obtain ⟨a, L, rfl, ha, hk, hB, q⟩ := h
  have R0 : SetT0 X.prog X.w s.heap a L := (I.hok a _ ha).1
  obtain ⟨es, ep, t, R⟩ := R0.full fun p hp => I.isT (hk p hp)
  have hL : L.length ≤ 1 := by
    have nd := R.nd
    match L, nd, hB with
    | [], _, _ => exact Nat.zero_le _
    | [_], _, _ => exact Nat.le_refl _
    | x :: y :: r, nd, hB =>
      rw [List.map_cons, List.map_cons, List.nodup_cons] at nd
      exact absurd (by rw [hB x List.mem_cons_self y (List.mem_cons_of_mem _ List.mem_cons_self)]; exact List.mem_cons_self) nd.1
  rw [Vals.ref1 r]
  refine sorted_set1 R (I.ok.hd hc) hL fun s' p out c k g o hp hg hout => ?_
  have hlen : (L.map fun q => V.ref q.1).length ≤ sizeLine := by rw [List.length_map, sizeLine_eq]; omega
  have hn : H p = none := I.hok.fresh hp
  have hv : Vals (L.map fun q => V.ref q.1) out.toList := by rw [hout]; exact vals_of_refs L
  have J : Inv X pins σ (upd H p (.lst (L.map fun q => V.ref q.1))) { s with heap := s'.heap, gens := s'.gens, drawn := s'.drawn, toks := s'.toks } :=
    I.call (ch := []) (Un.laid k hp hn) (I.hok.laid k hp ⟨hlen, out.toList, c, hv, hg⟩) (by rw [g]; exact I.bare) (fun _ z => nomatch z)
  have e : s' = { s with heap := s'.heap, gens := s'.gens, drawn := s'.drawn, toks := s'.toks } := by
    cases s'
    cases s
    cases o
    rfl
  rw [e]
  exact ⟨.ref p, _, J, rfl, q p hL hn⟩
end
def tI? : Dt → Option (List Int)
  | .tup ds => ints? ds
  | _ => none
theorem tI?_some {d : Dt} {k : List Int} (h : tI? d = some k) : d = .tup (k.map Dt.int) := by
  cases d with
  | tup ds => exact congrArg Dt.tup (ints?_some h)
  | _ => cases h
def gSSetT : List Dt → Option (List Dt)
  | [.lst []] => some []
  | [.lst (x :: xs)] => (tI? x).bind fun k => if xs.length < 63 ∧ (xs.all fun y => decide (tI? y = some k)) = true then some [x] else none
  | _ => none
theorem gSSetT_2 (x y : Dt) (r : List Dt) : gSSetT (x :: y :: r) = none := by
  cases x with
  | lst l => cases l <;> rfl
  | _ => rfl
theorem rows_same {K : PySem.W.Frag} {H : Hp} {W : Addr → Prop} {k : List Int} : ∀ {vs : List V} {ds : List Dt}, RepA K H W vs ds → (∀ d ∈ ds, d = .tup (k.map Dt.int)) → ∃ kp : List (Addr × List Int), vs = kp.map (fun p => V.ref p.1) ∧ kp.length = ds.length ∧ ∀ p ∈ kp, p.2 = k ∧ H p.1 = some (.tup (p.2.map V.int))
  | _, _, .nil, _ => ⟨[], rfl, rfl, fun p hp => nomatch hp⟩
  | _, _, .cons h r, hd => by
    obtain ⟨kp, e1, e2, e3⟩ := rows_same r fun d q => hd d (List.mem_cons_of_mem _ q)
    have hx := hd _ List.mem_cons_self
    rw [hx] at h
    cases h with
    | tup ha rb =>
      rw [rb.ints] at ha
      refine ⟨(_, k) :: kp, by rw [List.map_cons, e1], by rw [List.length_cons, List.length_cons, e2], fun p hp => ?_⟩
      rcases List.mem_cons.mp hp with rfl | hp
      · exact ⟨rfl, ha⟩
      · exact e3 p hp
section
variable {T : List Addr} {X : Cx} {K : PySem.W.Frag} {e : Expr} {tr : TA} {fr : FnL} {pos pos2 q1 q2 : Pos}
theorem df_sortedSetT (hc : X.calm = true) (hu : X.A.units + 64 < cLine) (hm : X.mg "sorted" = none) (hm2 : X.mg "set" = none) (ha : DA false T K X [e] tr fr) (hg : Gl X "sorted" := by rfl) (hg2 : Gl X "set" := by rfl)
    (hv : bootBuiltins "sorted" = some (.builtin "sorted") := by decide +kernel) (hv2 : bootBuiltins "set" = some (.type "set") := by decide +kernel)
    (he : starEach [e] X.env = (false, eval e X.env) :: starEach [] X.env := by rfl) (hpl : (backTo pos2 (starEach [] X.env)).any (·.1) = false := by rfl)
    (he2 : starEach [.Call (.Name "set" q2) [e] [] pos2] X.env = (false, eval (.Call (.Name "set" q2) [e] [] pos2) X.env) :: starEach [] X.env := by rfl) (hpl2 : (backTo pos (starEach [] X.env)).any (·.1) = false := by rfl) (hk : X.K = K := by rfl) :
    DF T K X (.Call (.Name "sorted" q1) [.Call (.Name "set" q2) [e] [] pos2] [] pos) (tCB (rSorted1 K X.prog X.w) (tCons (tCB (rSetOfT K X.prog X.w) tr) tNil)) (fNL gSSetT fr) := by
  subst hk
  refine ⟨pe_callB (cr_sorted1 hc) hg hm hv (pa_cons (pe_callTy (cr_setOfT hc hu) hg2 hm2 hv2 ha.pa (by decide) (by decide) he hpl) pa_nil he2) (by decide) (by decide) he2 hpl2, fun W ρ σ H d Q gd rp e q => ?_⟩
  obtain ⟨ds, ea, e⟩ := obind e
  refine ha.sd W ρ σ H ds _ gd rp ea fun vs H1 e1 g1 r1 => ?_
  show rSetOfT X.K X.prog X.w vs H1 fun x H2 => rSorted1 X.K X.prog X.w [x] H2 Q
  have go : ∀ (l : Addr) (k : List Int) (kp : List (Addr × List Int)), H1 l = some (.lst (kp.map fun p => V.ref p.1)) → vs = [V.ref l] → kp.length < 64 → (∀ p ∈ kp, p.2 = k ∧ H1 p.1 = some (.tup (p.2.map V.int))) → d = (if kp = [] then [] else [Dt.tup (k.map Dt.int)]) → rSetOfT X.K X.prog X.w vs H1 fun x H2 => rSorted1 X.K X.prog X.w [x] H2 Q := by
    rintro l k kp hl hv hn hk rfl
    refine ⟨l, kp, hv, .of hl, fun p hp => .of (hk p hp).2, hn, fun a L hp hL hA => ?_⟩
    have ex1 : Ext H1 (upd H1 a (SetTO X.prog X.w a L)) := Ext.new hp
    have hkL : ∀ p ∈ L, upd H1 a (SetTO X.prog X.w a L) p.1 = some (.tup (p.2.map V.int)) := fun p q => ex1.keep _ _ (hk p (hL p q)).2 rfl
    refine ⟨a, L, rfl, upd_same, fun p q => .of (hkL p q), fun p h1 q h2 => by rw [(hk p (hL p h1)).1, (hk q (hL q h2)).1], fun p2 hl1 hp2 => ?_⟩
    have gd1 : Gd T (upd H1 a (SetTO X.prog X.w a L)) := g1.put (fun ps e => by rw [hp] at e; cases e) fun ys h => by rcases h with h | h <;> cases h
    have ex2 : Ext (upd H1 a (SetTO X.prog X.w a L)) (upd (upd H1 a (SetTO X.prog X.w a L)) p2 (.lst (L.map fun q => V.ref q.1))) := Ext.new hp2
    refine q p2 _ _ ((e1.trans ex1).trans ex2) (gd1.newL hp2 (by rw [List.length_map]; exact size_ge (by omega))) ((e1.trans ex1).there p2 hp2) upd_same ?_
    cases L with
    | nil =>
      cases kp with
      | nil => exact .nil
      | cons z zs => exact nomatch hA z List.mem_cons_self
    | cons z r =>
      cases r with
      | cons y r => exact absurd hl1 (by simp)
      | nil =>
        have hz := hL z List.mem_cons_self
        have hne : kp ≠ [] := fun e => by rw [e] at hz; cases hz
        rw [if_neg hne]
        refine .one ?_
        have h2 := ex2.keep _ _ (hkL z List.mem_cons_self) rfl
        rw [(hk z hz).1] at h2
        exact .tup h2 (repA_ints _)
  match ds, e, r1 with
  | [.lst []], e, r1 =>
    obtain ⟨v, rfl, r2⟩ := repA1 r1
    cases r2 with
    | lst h1 n1 rb =>
      cases rb
      cases e
      exact go _ [] [] h1 rfl (by decide) (fun p hp => nomatch hp) rfl
  | [.lst (x :: xs)], e, r1 =>
    obtain ⟨v, rfl, r2⟩ := repA1 r1
    cases r2 with
    | lst h1 n1 rb =>
      obtain ⟨k, h2, h3⟩ := obind e
      by_cases hz : xs.length < 63 ∧ (xs.all fun y => decide (tI? y = some k)) = true
      · rw [if_pos hz] at h3
        cases h3
        have hall : ∀ d ∈ x :: xs, d = .tup (k.map Dt.int) := fun d hd => by
          rcases List.mem_cons.mp hd with rfl | hd
          · exact tI?_some h2
          · have := List.all_eq_true.mp hz.2 d hd
            exact tI?_some (of_decide_eq_true this)
        obtain ⟨kp, e4, e5, e6⟩ := rows_same rb hall
        rw [e4] at h1
        rw [List.length_cons] at e5
        refine go _ k kp h1 rfl (by omega) e6 ?_
        rw [if_neg (fun e => by rw [e] at e5; cases e5)]
        exact congrArg (fun d => [d]) (tI?_some h2)
      · rw [if_neg hz] at h3; cases h3
  | x0 :: y0 :: r0, e, _ => rw [gSSetT_2] at e; cases e
end
end EL
end

section
set_option Elab.async false
set_option maxRecDepth 100000
set_option maxHeartbeats 4000000
/-! EL: sorted of a list of pairs of small ints. -/
namespace EL
open PySem PySem.Spec PyProof.Rows L2
def codeP (q : Int × Int) : Int := q.1 * 64 + q.2
def decP (c : Int) : Int × Int := (c / 64, c % 64)
def smP (q : Int × Int) : Prop := (0 ≤ q.1 ∧ q.1 < 64) ∧ (0 ≤ q.2 ∧ q.2 < 64)
instance (q : Int × Int) : Decidable (smP q) := by unfold smP; infer_instance
theorem dec_code {q : Int × Int} (h : smP q) : decP (codeP q) = q := by
  unfold smP at h
  unfold decP codeP
  exact Prod.ext (by show (q.1 * 64 + q.2) / 64 = q.1; omega) (by show (q.1 * 64 + q.2) % 64 = q.2; omega)
/-- pairs in their order -/
def sortP (ps : List (Int × Int)) : List (Int × Int) := (sortI (ps.map codeP)).map decP
def enP (q : Int × Int) : Dt := .tup [.int q.1, .int q.2]
def pair? : Dt → Option (Int × Int)
  | .tup [.int a, .int b] => if smP (a, b) then some (a, b) else none
  | _ => none
def ps64? : List Dt → Option (List (Int × Int))
  | [] => some []
  | d :: r => (pair? d).bind fun q => (ps64? r).bind fun qs => some (q :: qs)
theorem pair?_some {d : Dt} {q : Int × Int} (h : pair? d = some q) : d = enP q ∧ smP q := by
  unfold pair? at h
  split at h
  · split at h
    · rename_i h2
      cases h
      exact ⟨rfl, h2⟩
    · cases h
  · cases h
theorem ps64?_some : ∀ {ds : List Dt} {ps : List (Int × Int)}, ps64? ds = some ps → ds = ps.map enP ∧ ∀ q ∈ ps, smP q
  | [], ps, h => by cases h; exact ⟨rfl, fun q hq => nomatch hq⟩
  | d :: r, ps, h => by
    obtain ⟨q, h1, h⟩ := obind h
    obtain ⟨qs, h2, h3⟩ := obind h
    cases h3
    obtain ⟨e1, g1⟩ := pair?_some h1
    obtain ⟨e2, g2⟩ := ps64?_some h2
    refine ⟨by rw [e1, e2, List.map_cons], fun x hx => ?_⟩
    rcases List.mem_cons.mp hx with rfl | hx
    · exact g1
    · exact g2 x hx
theorem ps64_ok : ∀ {ps : List (Int × Int)}, (∀ q ∈ ps, smP q) → ps64? (ps.map enP) = some ps
  | [], _ => rfl
  | q :: ps, h => by
    have h1 := h q List.mem_cons_self
    rw [List.map_cons]
    show ((if smP (q.1, q.2) then some (q.1, q.2) else none).bind fun q => (ps64? (ps.map enP)).bind fun qs => some (q :: qs)) = _
    rw [if_pos h1, ps64_ok fun x hx => h x (List.mem_cons_of_mem _ hx)]
    rfl
def gSortedP : List Dt → Option (List Dt)
  | [.lst xs] => (ps64? xs).bind fun ps => if ps.length < 64 then some ((sortP ps).map enP) else none
  | _ => none
theorem gSortedP_ok {ps : List (Int × Int)} (h : ∀ q ∈ ps, smP q) (hl : ps.length < 64) : gSortedP [.lst (ps.map enP)] = some ((sortP ps).map enP) := by
  show ((ps64? (ps.map enP)).bind fun ps => if ps.length < 64 then some ((sortP ps).map enP) else none) = _
  rw [ps64_ok h, Option.bind_some, if_pos hl]
theorem rep_perm {K : PySem.W.Frag} {H : Hp} {W : Addr → Prop} {ys xs : List V} (hp : ys.Perm xs) : ∀ ps : List (Int × Int), RepA K H W xs (ps.map enP) → ∃ qs : List (Int × Int), qs.Perm ps ∧ RepA K H W ys (qs.map enP) := by
  induction hp with
  | nil => intro ps r; exact ⟨ps, .refl _, r⟩
  | cons x h ih =>
    intro ps r
    cases ps with
    | nil => cases r
    | cons p ps =>
      cases r with
      | cons r1 r2 =>
        obtain ⟨qs, h1, h2⟩ := ih ps r2
        exact ⟨p :: qs, h1.cons p, .cons r1 h2⟩
  | swap x y l =>
    intro ps r
    cases ps with
    | nil => cases r
    | cons p ps =>
      cases ps with
      | nil => cases r with | cons _ r2 => cases r2
      | cons p2 ps =>
        cases r with
        | cons r1 r2 =>
          cases r2 with
          | cons r2 r3 => exact ⟨p2 :: p :: ps, .swap _ _ _, .cons r2 (.cons r1 r3)⟩
  | trans _ _ ih1 ih2 =>
    intro ps r
    obtain ⟨qs, h1, h2⟩ := ih2 ps r
    obtain ⟨rs, h3, h4⟩ := ih1 qs h2
    exact ⟨rs, h3.trans h1, h4⟩
theorem rep_tupI {K : PySem.W.Frag} {H : Hp} {W : Addr → Prop} {v : V} {q : Int × Int} (r : Rep K H W v (enP q)) : TupI K H v [q.1, q.2] := by
  cases r with
  | tup h1 ra =>
    have e := RepA.ints (ns := [q.1, q.2]) ra
    rw [e] at h1
    exact ⟨_, rfl, .of h1⟩
theorem rep_tupIs {K : PySem.W.Frag} {H : Hp} {W : Addr → Prop} : ∀ {xs : List V} {ps : List (Int × Int)}, RepA K H W xs (ps.map enP) → ∀ x ∈ xs, ∃ q ∈ ps, TupI K H x [q.1, q.2]
  | _, [], .nil, x, hx => nomatch hx
  | _, p :: ps, .cons r1 r2, x, hx => by
    rcases List.mem_cons.mp hx with rfl | hx
    · exact ⟨p, List.mem_cons_self, rep_tupI r1⟩
    · obtain ⟨q, h1, h2⟩ := rep_tupIs r2 x hx
      exact ⟨q, List.mem_cons_of_mem _ h1, h2⟩
theorem rep_sorted {K : PySem.W.Frag} {H : Hp} {W : Addr → Prop} : ∀ {xs : List V} {ps : List (Int × Int)}, RepA K H W xs (ps.map enP) → xs.Pairwise (fun x y => ∀ n m, TupI K H x n → TupI K H y m → TS.code 64 n ≤ TS.code 64 m) → ps.Pairwise fun p q => codeP p ≤ codeP q
  | _, [], .nil, _ => .nil
  | x :: xs, p :: ps, .cons r1 r2, h => by
    rw [List.pairwise_cons] at h
    refine .cons (fun q hq => ?_) (rep_sorted r2 h.2)
    have key : ∀ {xs : List V} {ps : List (Int × Int)}, RepA K H W xs (ps.map enP) → ∀ q ∈ ps, ∃ y ∈ xs, TupI K H y [q.1, q.2] := by
      intro xs ps
      induction ps generalizing xs with
      | nil => intro _ q hq; cases hq
      | cons a ps ih =>
        intro r q hq
        cases r with
        | cons ra rb =>
          rcases List.mem_cons.mp hq with rfl | hq
          · exact ⟨_, List.mem_cons_self, rep_tupI ra⟩
          · obtain ⟨y, h1, h2⟩ := ih rb q hq
            exact ⟨y, List.mem_cons_of_mem _ h1, h2⟩
    obtain ⟨y, hy, hy2⟩ := key r2 q hq
    have := h.1 y hy _ _ (rep_tupI r1) hy2
    rw [code_pair, code_pair] at this
    exact this
theorem freeP : ∀ qs : List (Int × Int), Dt.freeA (qs.map enP) = true
  | [] => rfl
  | q :: qs => by
    show (true && Dt.freeA (qs.map enP)) = true
    rw [freeP qs]; rfl
section
variable {T : List Addr} {X : Cx} {K : PySem.W.Frag} {e : Expr} {tr : TA} {fr : FnL} {pos : Pos}
theorem df_sortedP {q : Pos} (hm : X.mg "sorted" = none) (ha : DA false T K X [e] tr fr) (hg : Gl X "sorted" := by rfl) (hv : bootBuiltins "sorted" = some (.builtin "sorted") := by decide +kernel)
    (he : starEach [e] X.env = (false, eval e X.env) :: starEach [] X.env := by rfl) (hpl : (backTo pos (starEach [] X.env)).any (·.1) = false := by rfl) (hk : X.K = K := by rfl) :
    DF T K X (.Call (.Name "sorted" q) [e] [] pos) (tCB (rSortU K 2 64) tr) (fNL gSortedP fr) := by subst hk; exact ⟨pe_callB (cr_sortT (d := 2) (B := 64) (by decide)) hg hm hv ha.pa (by decide) (by decide) he hpl, fun W ρ σ H d Q gd rp e q => by
  obtain ⟨ds, ea, e⟩ := obind e
  refine ha.sd W ρ σ H ds _ gd rp ea fun vs H1 e1 g1 r1 => ?_
  show rSortU X.K 2 64 vs H1 Q
  match ds, e, r1 with
  | [.lst l], e, r1 =>
    obtain ⟨v, rfl, r2⟩ := repA1 r1
    cases r2 with
    | lst h1 n1 rb =>
      obtain ⟨ps, h2, h3⟩ := obind e
      by_cases hz : ps.length < 64
      · rw [if_pos hz] at h3
        cases h3
        obtain ⟨ed, hs⟩ := ps64?_some h2
        rw [ed] at rb
        refine ⟨_, _, rfl, .of h1, by rw [rb.length, List.length_map]; exact hz, fun x hx => ?_, fun ys p hp hpw hn => ?_⟩
        · obtain ⟨q, hq, ht⟩ := rep_tupIs rb x hx
          refine ⟨_, ht, rfl, fun m hm => ?_⟩
          have := hs q hq
          unfold smP at this
          simp only [List.mem_cons, List.not_mem_nil, or_false] at hm
          omega
        · obtain ⟨qs, hq, rq⟩ := rep_perm hp ps rb
          have hw := rep_sorted rq hpw
          have ec : qs.map codeP = sortI (ps.map codeP) := sortI_one (hq.map codeP) (List.pairwise_map.mpr hw)
          have eq : qs = sortP ps := by
            unfold sortP
            rw [← ec, List.map_map]
            have : ∀ l : List (Int × Int), (∀ q ∈ l, smP q) → l = l.map (decP ∘ codeP) := by
              intro l
              induction l with
              | nil => intro _; rfl
              | cons a l ih =>
                intro h
                rw [List.map_cons, ← ih fun x hx => h x (List.mem_cons_of_mem _ hx)]
                show a :: l = decP (codeP a) :: l
                rw [dec_code (h a List.mem_cons_self)]
            exact this qs fun x hx => hs x (hq.mem_iff.mp hx)
          rw [eq] at rq
          have hlen : ys.length < 64 := by rw [rq.length, List.length_map, ← eq, hq.length_eq]; exact hz
          exact q p ys _ (e1.trans (Ext.new hn)) (g1.newL hn (size_ge (by omega))) (e1.there p hn) upd_same ((rq.ext (Ext.new hn)).free (freeP _))
      · rw [if_neg hz] at h3; cases h3
  | x0 :: y0 :: r0, e, _ => cases x0 <;> cases e⟩
end
end EL
end

section
set_option Elab.async false
set_option maxRecDepth 100000
set_option maxHeartbeats 4000000
/-! EL: <, <=, >, >= of alike data (tuples and the like). -/
namespace EL
open PySem PySem.Spec PyProof.Rows L2
open PySem.W (dataLt alike)
def rLtD (K : PySem.W.Frag) : R2 := fun x y H Q => ∃ d e, Dp K H x d ∧ Dp K H y e ∧ alike d e = true ∧ d ≠ .none ∧ d.depth ≤ 60 ∧ Q (.bl (dataLt d e)) H
def rGtD (K : PySem.W.Frag) : R2 := fun x y H Q => ∃ d e, Dp K H x d ∧ Dp K H y e ∧ alike d e = true ∧ d ≠ .none ∧ d.depth ≤ 60 ∧ Q (.bl (dataLt e d)) H
def rLeD (K : PySem.W.Frag) : R2 := fun x y H Q => ∃ d e, Dp K H x d ∧ Dp K H y e ∧ alike d e = true ∧ d ≠ .none ∧ d.depth ≤ 60 ∧ Q (.bl (!dataLt e d)) H
def rGeD (K : PySem.W.Frag) : R2 := fun x y H Q => ∃ d e, Dp K H x d ∧ Dp K H y e ∧ alike d e = true ∧ d ≠ .none ∧ d.depth ≤ 60 ∧ Q (.bl (!dataLt d e)) H
section
variable {X : Cx}
theorem op_ltD (hu : X.A.units + 64 < cLine) : OpR X (compareOp .Lt) (rLtD X.K) := by
  intro pins s σ H x y v u Q I rx ry h
  obtain ⟨d, e, hd, he, ha, hn, hp, q⟩ := h
  obtain ⟨as, r1⟩ := Dp.reads I d x v hd rx
  obtain ⟨bs, r2⟩ := Dp.reads I e y u he ry
  exact W.lt_data r1 r2 ha hn (by omega) ⟨.bl _, H, I, rfl, q⟩
theorem op_gtD (hu : X.A.units + 64 < cLine) : OpR X (compareOp .Gt) (rGtD X.K) := by
  intro pins s σ H x y v u Q I rx ry h
  obtain ⟨d, e, hd, he, ha, hn, hp, q⟩ := h
  obtain ⟨as, r1⟩ := Dp.reads I d x v hd rx
  obtain ⟨bs, r2⟩ := Dp.reads I e y u he ry
  exact W.gt_data r1 r2 ha hn (by omega) ⟨.bl _, H, I, rfl, q⟩
theorem op_leD (hu : X.A.units + 64 < cLine) : OpR X (compareOp .LtE) (rLeD X.K) := by
  intro pins s σ H x y v u Q I rx ry h
  obtain ⟨d, e, hd, he, ha, hn, hp, q⟩ := h
  obtain ⟨as, r1⟩ := Dp.reads I d x v hd rx
  obtain ⟨bs, r2⟩ := Dp.reads I e y u he ry
  exact W.le_data r1 r2 ha hn (by omega) ⟨.bl _, H, I, rfl, q⟩
theorem op_geD (hu : X.A.units + 64 < cLine) : OpR X (compareOp .GtE) (rGeD X.K) := by
  intro pins s σ H x y v u Q I rx ry h
  obtain ⟨d, e, hd, he, ha, hn, hp, q⟩ := h
  obtain ⟨as, r1⟩ := Dp.reads I d x v hd rx
  obtain ⟨bs, r2⟩ := Dp.reads I e y u he ry
  exact W.ge_data r1 r2 ha hn (by omega) ⟨.bl _, H, I, rfl, q⟩
end
noncomputable def likeD (d e : Dt) : Bool := cdc (d.ok = true ∧ e.ok = true ∧ alike d.py e.py = true ∧ d.py ≠ .none ∧ d.py.depth ≤ 60)
noncomputable def gLtD (d e : Dt) : Option Bool := if likeD d e = true then some (dataLt d.py e.py) else none
noncomputable def gGtD (d e : Dt) : Option Bool := if likeD d e = true then some (dataLt e.py d.py) else none
noncomputable def gLeD (d e : Dt) : Option Bool := if likeD d e = true then some (!dataLt e.py d.py) else none
noncomputable def gGeD (d e : Dt) : Option Bool := if likeD d e = true then some (!dataLt d.py e.py) else none
theorem likeD_of {d e : Dt} (h : likeD d e = true) : d.ok = true ∧ e.ok = true ∧ alike d.py e.py = true ∧ d.py ≠ .none ∧ d.py.depth ≤ 60 := cdc_p h
section
variable {T : List Addr} {X : Cx} {K : PySem.W.Frag}
theorem cLtD (hk : X.K = K) (hu : X.A.units + 64 < cLine) : OpR X (compareOp .Lt) (rLtD K) ∧ CmpD T K (rLtD K) gLtD := by subst hk; exact ⟨op_ltD hu, fun H x y d e k Q g r1 r2 h q => by
  unfold gLtD at h
  by_cases hz : likeD d e = true
  · rw [if_pos hz] at h
    cases h
    obtain ⟨a, b, c, f, i⟩ := likeD_of hz
    exact ⟨d.py, e.py, r1.dps a, r2.dps b, c, f, i, q H (Ext.refl H) g⟩
  · rw [if_neg hz] at h; cases h⟩
theorem cGtD (hk : X.K = K) (hu : X.A.units + 64 < cLine) : OpR X (compareOp .Gt) (rGtD K) ∧ CmpD T K (rGtD K) gGtD := by subst hk; exact ⟨op_gtD hu, fun H x y d e k Q g r1 r2 h q => by
  unfold gGtD at h
  by_cases hz : likeD d e = true
  · rw [if_pos hz] at h
    cases h
    obtain ⟨a, b, c, f, i⟩ := likeD_of hz
    exact ⟨d.py, e.py, r1.dps a, r2.dps b, c, f, i, q H (Ext.refl H) g⟩
  · rw [if_neg hz] at h; cases h⟩
theorem cLeD (hk : X.K = K) (hu : X.A.units + 64 < cLine) : OpR X (compareOp .LtE) (rLeD K) ∧ CmpD T K (rLeD K) gLeD := by subst hk; exact ⟨op_leD hu, fun H x y d e k Q g r1 r2 h q => by
  unfold gLeD at h
  by_cases hz : likeD d e = true
  · rw [if_pos hz] at h
    cases h
    obtain ⟨a, b, c, f, i⟩ := likeD_of hz
    exact ⟨d.py, e.py, r1.dps a, r2.dps b, c, f, i, q H (Ext.refl H) g⟩
  · rw [if_neg hz] at h; cases h⟩
theorem cGeD (hk : X.K = K) (hu : X.A.units + 64 < cLine) : OpR X (compareOp .GtE) (rGeD K) ∧ CmpD T K (rGeD K) gGeD := by subst hk; exact ⟨op_geD hu, fun H x y d e k Q g r1 r2 h q => by
  unfold gGeD at h
  by_cases hz : likeD d e = true
  · rw [if_pos hz] at h
    cases h
    obtain ⟨a, b, c, f, i⟩ := likeD_of hz
    exact ⟨d.py, e.py, r1.dps a, r2.dps b, c, f, i, q H (Ext.refl H) g⟩
  · rw [if_neg hz] at h; cases h⟩
end
/-- the first difference decides, else the shorter is the less -/
def lexB : List Int → List Int → Bool
  | [], [] => false
  | [], _ :: _ => true
  | _ :: _, [] => false
  | x :: xs, y :: ys => if x = y then lexB xs ys else decide (x < y)
theorem lexB_eq : ∀ a b : List Int, PySem.W.listLt a b = lexB a b
  | [], [] => rfl
  | [], _ :: _ => rfl
  | _ :: _, [] => rfl
  | x :: xs, y :: ys => by
    show (if x = y then PySem.W.listLt xs ys else PySem.W.DatumOrd.lt x y) = if x = y then lexB xs ys else decide (x < y)
    rw [lexB_eq xs ys]
    rfl
theorem dataLt_tI (a b : List Int) : dataLt (Dt.tup (a.map Dt.int)).py (Dt.tup (b.map Dt.int)).py = lexB a b := by
  have e : ∀ l : List Int, (Dt.tup (l.map Dt.int)).py = PyData.tuple (l.map PyData.int) := fun l => by
    rw [Dt.py, LK.pyA_ints]
  rw [e, e]
  have h := PySem.W.DatumOrd.lt_eq (α := PySem.W.Tup Int) ⟨a⟩ ⟨b⟩
  refine Eq.trans ?_ (h.trans (lexB_eq a b))
  rfl
theorem like_tI (a b : List Int) : likeD (.tup (a.map Dt.int)) (.tup (b.map Dt.int)) = true := by
  have e : ∀ l : List Int, (Dt.tup (l.map Dt.int)).py = PyData.tuple (l.map PyData.int) := fun l => by
    rw [Dt.py, LK.pyA_ints]
  have ha := PySem.W.DatumOrd.alike (α := PySem.W.Tup Int) ⟨a⟩ ⟨b⟩
  have hd : PyData.depthAll (a.map PyData.int) ≤ 1 := by
    have h := LK.depth_ints a
    rwa [LK.pyA_ints] at h
  refine cdc_t ⟨LK.ok_tints a, LK.ok_tints b, ?_, ?_, ?_⟩
  · rw [e, e]; exact ha
  · rw [e]; intro h; cases h
  · rw [e, PyData.depth]; omega
theorem gLtD_t (a b : List Int) : gLtD (.tup (a.map Dt.int)) (.tup (b.map Dt.int)) = some (lexB a b) := by
  unfold gLtD
  rw [if_pos (like_tI a b), dataLt_tI]
theorem gGeD_t (a b : List Int) : gGeD (.tup (a.map Dt.int)) (.tup (b.map Dt.int)) = some (!lexB a b) := by
  unfold gGeD
  rw [if_pos (like_tI a b), dataLt_tI]
end EL
end

section
set_option Elab.async false
set_option maxRecDepth 100000
/-! EL dicts: new ones, [], in, get, put. -/
namespace EL
open PySem PySem.Spec PyProof.Rows L2

theorem hu1 {k : Nat} {A : Around} (r : Room k A) : A.units + 1 < cLine := by have := r.un; omega
/-! ### tables of keys and data -/
section
variable {κ : Type} [DecidableEq κ]
def valD {α : Type} : List κ → List α → κ → Option α
  | j :: ks, x :: xs, k => if j = k then some x else valD ks xs k
  | _, _, _ => none
def putKs (ks : List κ) (k : κ) : List κ := if k ∈ ks then ks else ks ++ [k]
def putVs {α : Type} (ks : List κ) (xs : List α) (k : κ) (y : α) : List α := if k ∈ ks then List.zipWith (fun j x => if j = k then y else x) ks xs else xs ++ [y]
theorem valV_zip (k : κ) : ∀ (ks : List κ) (xs : List V), valV (ks.zip xs) k = valD ks xs k
  | [], [] => rfl
  | [], _ :: _ => rfl
  | _ :: _, [] => rfl
  | j :: ks, x :: xs => by
    rw [List.zip_cons_cons]
    by_cases e : j = k
    · rw [valV_pos (p := (j, x)) e]; unfold valD; rw [if_pos e]
    · rw [valV_neg (p := (j, x)) e, valV_zip k ks xs]; conv => rhs; unfold valD; rw [if_neg e]
theorem any_zip (k : κ) : ∀ (ks : List κ) (xs : List V), ks.length = xs.length → ((ks.zip xs).any fun kv => decide (kv.1 = k)) = decide (k ∈ ks)
  | [], _, _ => by simp
  | j :: ks, [], h => by simp at h
  | j :: ks, x :: xs, h => by
    rw [List.zip_cons_cons, List.any_cons, any_zip k ks xs (by simpa using h)]
    by_cases e : j = k
    · simp [e]
    · have e' : ¬ k = j := fun z => e z.symm
      simp [e, e']
theorem zip_repl (k : κ) (y : V) : ∀ (ks : List κ) (xs : List V), (ks.zip xs).map (fun kv => if kv.1 = k then (kv.1, y) else kv) = ks.zip (List.zipWith (fun j x => if j = k then y else x) ks xs)
  | [], _ => by simp
  | _ :: _, [] => by simp
  | j :: ks, x :: xs => by
    rw [List.zip_cons_cons, List.map_cons, List.zipWith_cons_cons, List.zip_cons_cons, zip_repl k y ks xs]
    by_cases e : j = k
    · rw [if_pos e, if_pos e]
    · rw [if_neg e, if_neg e]
theorem putK_zip {ks : List κ} {xs : List V} (h : ks.length = xs.length) (k : κ) (y : V) : putK (ks.zip xs) k y = (putKs ks k).zip (putVs ks xs k y) := by
  unfold putK putKs putVs
  rw [any_zip k ks xs h]
  by_cases e : k ∈ ks
  · rw [if_pos (decide_eq_true e), if_pos e, if_pos e, zip_repl]
  · rw [if_neg (by rw [decide_eq_false e]; exact Bool.false_ne_true), if_neg e, if_neg e, List.zip_append h]
    rfl
theorem put_len {α : Type} {ks : List κ} {xs : List α} (h : ks.length = xs.length) (k : κ) (y : α) : (putKs ks k).length = (putVs ks xs k y).length := by
  unfold putKs putVs
  by_cases e : k ∈ ks
  · rw [if_pos e, if_pos e, List.length_zipWith, h, Nat.min_self]
  · rw [if_neg e, if_neg e, List.length_append, List.length_append, h]
    rfl
variable {K : PySem.W.Frag} {H : Hp} {W : Addr → Prop}
theorem RepA.val (k : κ) : ∀ {ks : List κ} {vs : List V} {ds : List Dt}, ks.length = vs.length → RepA K H W vs ds → (∀ d, valD ks ds k = some d → ∃ v, valV (ks.zip vs) k = some v ∧ Rep K H W v d) ∧ (valV (ks.zip vs) k).isSome = (valD ks ds k).isSome
  | [], _, _, _, _ => ⟨fun d h => by simp [valD] at h, by simp [valD, valV]⟩
  | j :: ks, [], _, h, _ => by simp at h
  | j :: ks, v :: vs, _, h, .cons r rs => by
    rename_i d ds
    rw [valV_zip]
    unfold valD
    by_cases e : j = k
    · rw [if_pos e, if_pos e]
      exact ⟨fun d' h => by cases h; exact ⟨v, rfl, r⟩, rfl⟩
    · rw [if_neg e, if_neg e]
      have := RepA.val k (by simpa using h) rs
      rw [valV_zip] at this
      exact this
theorem RepA.putD {k : κ} {v : V} {d : Dt} (rv : Rep K H W v d) : ∀ {ks : List κ} {vs : List V} {ds : List Dt}, RepA K H W vs ds → RepA K H W (putVs ks vs k v) (putVs ks ds k d) := by
  intro ks vs ds r
  unfold putVs
  by_cases e : k ∈ ks
  · rw [if_pos e, if_pos e]
    clear e
    induction ks generalizing vs ds with
    | nil => simp; exact .nil
    | cons j ks ih =>
      cases r with
      | nil => simp; exact .nil
      | cons r1 r2 =>
        rw [List.zipWith_cons_cons, List.zipWith_cons_cons]
        refine .cons ?_ (ih r2)
        by_cases e : j = k
        · rw [if_pos e, if_pos e]; exact rv
        · rw [if_neg e, if_neg e]; exact r1
  · rw [if_neg e, if_neg e]
    exact r.append (.one rv)
end
/-! ### keys -/
def keyD : Dt → Option Key
  | .int i => some (.inl i)
  | .str x => some (.inr x)
  | _ => none
def keysD : List Dt → Option (List Key)
  | [] => some []
  | d :: ds => (keyD d).bind fun k => (keysD ds).bind fun ks => some (k :: ks)
section
variable {K : PySem.W.Frag} {H : Hp} {W : Addr → Prop}
theorem Rep.key {v : V} {d : Dt} {k : Key} (r : Rep K H W v d) (h : keyD d = some k) : v = kV k := by
  cases r with
  | int i => cases h; rfl
  | str x => cases h; rfl
  | _ => cases h
theorem RepA.keys : ∀ {vs : List V} {ds : List Dt} {ks : List Key}, RepA K H W vs ds → keysD ds = some ks → vs = ks.map kV
  | _, _, _, .nil, h => by cases h; rfl
  | _, _, _, .cons r rs, h => by
    obtain ⟨k, h1, h⟩ := obind h
    obtain ⟨ks, h2, h⟩ := obind h
    cases h
    rw [r.key h1, rs.keys h2]
    rfl
end
def gDLook : Dt → Dt → Option (Option Dt)
  | .dcK ks ds, k => (keyD k).bind fun k => some (valD ks ds k)
  | .dcT ks ds, .tup k => (keysD k).bind fun k => some (valD ks ds k)
  | _, _ => none
theorem dlook {K : PySem.W.Frag} {H : Hp} {W W' : Addr → Prop} {x y : V} {d k : Dt} {o : Option Dt} (rx : Rep K H W x d) (ry : Rep K H W' y k) (h : gDLook d k = some o) :
    ∃ a ov, x = .ref a ∧ IsD H a ∧ DGet H a y ov ∧ ov.isSome = o.isSome ∧ ∀ e, o = some e → ∃ v, ov = some v ∧ Rep K H W v e := by
  cases rx with
  | @dcK a ks xs ds h1 n l ra =>
    obtain ⟨k', h2, h3⟩ := obind h
    cases h3
    rw [ry.key h2]
    obtain ⟨q1, q2⟩ := ra.val k' l
    exact ⟨a, _, rfl, .inl ⟨_, .inl h1⟩, .k h1, q2, fun e he => q1 e he⟩
  | @dcT a ks xs ds h1 n l ra =>
    cases ry with
    | @tup b ys es hb rb =>
      obtain ⟨k', h2, h3⟩ := obind h
      cases h3
      rw [rb.keys h2] at hb
      obtain ⟨q1, q2⟩ := ra.val k' l
      exact ⟨a, _, rfl, .inr ⟨_, .inl h1⟩, .t h1 hb, q2, fun e he => q1 e he⟩
    | _ => cases h
  | _ => cases h
/-! ### d[k], k in d, d.get -/
section
variable {m : Bool} {T : List Addr} {X : Cx} {K : PySem.W.Frag} {a b c e f : Expr} {ta tb tc t : TE} {fa fb fc : Fn} {pos p2 apos : Pos}
def gDGet (d k : Dt) : Option Dt := (gDLook d k).bind id
theorem de_dget (hu : X.A.units + 1 < cLine) (ha : DE m T K X a ta fa) (hb : DE false T K X b tb fb) (hs : NoSl b := by exact fun _ _ => rfl) : DE m T K X (.Subscript a b pos) (tDGet ta tb) (f2 gDGet fa fb) := ⟨pe_dget hu ha.pe hb.pe hs, fun W ρ σ H d Q g r e q => by
  obtain ⟨x, ea, e⟩ := obind e
  obtain ⟨y, eb, e⟩ := obind e
  obtain ⟨o, eo, e⟩ := obind e
  refine ha.sd W ρ σ H x _ g r ea fun v H1 e1 g1 r1 => ?_
  refine hb.sd W ρ σ H1 y _ g1 (r.ext e1) eb fun u H2 e2 g2 r2 => ?_
  obtain ⟨p, ov, h1, h2, h3, h4, h5⟩ := dlook (r1.ext e2) r2 eo
  obtain ⟨v', h6, h7⟩ := h5 d e
  subst h6
  exact ⟨p, v', h1, h3, q v' H2 (e1.trans e2) g2 h7⟩⟩
def fDIn (k d : Fn) : FnB := fun ρ => (k ρ).bind fun y => (d ρ).bind fun x => (gDLook x y).bind fun o => some o.isSome
def fDNotIn (k d : Fn) : FnB := fun ρ => (k ρ).bind fun y => (d ρ).bind fun x => (gDLook x y).bind fun o => some (!o.isSome)
theorem sd_din {W : Addr → Prop} {ρ : Rho} {σ : L2.St} {H : Hp} {k : Bool} {Q : VK} (ha : DE false T K X a ta fa) (hb : DE false T K X b tb fb) (g : Gd T H) (r : Rp K H W ρ σ) (e : fDIn fa fb ρ = some k) (q : ∀ H', Ext H H' → Gd T H' → Q (.bl k) H') : tDIn ta tb σ H Q := by
  obtain ⟨y, ea, e⟩ := obind e
  obtain ⟨x, eb, e⟩ := obind e
  obtain ⟨o, eo, e⟩ := obind e
  cases e
  refine ha.sd W ρ σ H y _ g r ea fun v H1 e1 g1 r1 => ?_
  refine hb.sd W ρ σ H1 x _ g1 (r.ext e1) eb fun u H2 e2 g2 r2 => ?_
  obtain ⟨p, ov, h1, h2, h3, h4, h5⟩ := dlook r2 (r1.ext e2) eo
  exact ⟨p, ov, h1, h3, by rw [h4]; exact q H2 (e1.trans e2) g2⟩
theorem sd_dnotin {W : Addr → Prop} {ρ : Rho} {σ : L2.St} {H : Hp} {k : Bool} {Q : VK} (ha : DE false T K X a ta fa) (hb : DE false T K X b tb fb) (g : Gd T H) (r : Rp K H W ρ σ) (e : fDNotIn fa fb ρ = some k) (q : ∀ H', Ext H H' → Gd T H' → Q (.bl k) H') : tDNotIn ta tb σ H Q := by
  obtain ⟨y, ea, e⟩ := obind e
  obtain ⟨x, eb, e⟩ := obind e
  obtain ⟨o, eo, e⟩ := obind e
  cases e
  refine ha.sd W ρ σ H y _ g r ea fun v H1 e1 g1 r1 => ?_
  refine hb.sd W ρ σ H1 x _ g1 (r.ext e1) eb fun u H2 e2 g2 r2 => ?_
  obtain ⟨p, ov, h1, h2, h3, h4, h5⟩ := dlook r2 (r1.ext e2) eo
  exact ⟨p, ov, h1, h3, by rw [h4]; exact q H2 (e1.trans e2) g2⟩
theorem dt_din (hu : X.A.units + 1 < cLine) (ha : DE false T K X a ta fa) (hb : DE false T K X b tb fb) (hm : behindInMarks .In b = false := by rfl) : DT T K X (.Compare a [.In] [b] pos) (tB (tDIn ta tb)) (fDIn fa fb) :=
  ⟨pt_cmp (pc_din hu ha.pe hb.pe) hm, fun W ρ σ H k Q g r e q => sd_din ha hb g r e fun H' e1 g1 => ⟨k, rfl, q H' e1 g1⟩⟩
theorem dt_dnotin (hu : X.A.units + 1 < cLine) (ha : DE false T K X a ta fa) (hb : DE false T K X b tb fb) (hm : behindInMarks .NotIn b = false := by rfl) : DT T K X (.Compare a [.NotIn] [b] pos) (tB (tDNotIn ta tb)) (fDNotIn fa fb) :=
  ⟨pt_cmp (pc_dnotin hu ha.pe hb.pe) hm, fun W ρ σ H k Q g r e q => sd_dnotin ha hb g r e fun H' e1 g1 => ⟨k, rfl, q H' e1 g1⟩⟩
theorem de_din (hu : X.A.units + 1 < cLine) (ha : DE false T K X a ta fa) (hb : DE false T K X b tb fb) (hm : behindInMarks .In b = false := by rfl) : DE m T K X (.Compare a [.In] [b] pos) (tDIn ta tb) (fOfB (fDIn fa fb)) :=
  ⟨pe_cmp (pc_din hu ha.pe hb.pe) hm, fun W ρ σ H d Q g r e q => by
    obtain ⟨k, ek, e2⟩ := obind e
    cases e2
    exact sd_din ha hb g r ek fun H' e1 g1 => q _ H' e1 g1 (.bl k)⟩
theorem de_dnotin (hu : X.A.units + 1 < cLine) (ha : DE false T K X a ta fa) (hb : DE false T K X b tb fb) (hm : behindInMarks .NotIn b = false := by rfl) : DE m T K X (.Compare a [.NotIn] [b] pos) (tDNotIn ta tb) (fOfB (fDNotIn fa fb)) :=
  ⟨pe_cmp (pc_dnotin hu ha.pe hb.pe) hm, fun W ρ σ H d Q g r e q => by
    obtain ⟨k, ek, e2⟩ := obind e
    cases e2
    exact sd_dnotin ha hb g r ek fun H' e1 g1 => q _ H' e1 g1 (.bl k)⟩
def gDGet1 (d k : Dt) : Option Dt := (gDLook d k).bind fun o => some (o.getD .non)
def fDGet2 (d k z : Fn) : Fn := fun ρ => (d ρ).bind fun x => (k ρ).bind fun y => (z ρ).bind fun z => (gDLook x y).bind fun o => some (o.getD z)
theorem getD_rep {H : Hp} {W : Addr → Prop} {ov : Option V} {o : Option Dt} {z : V} {dz : Dt} (h4 : ov.isSome = o.isSome) (h5 : ∀ e, o = some e → ∃ v, ov = some v ∧ Rep K H W v e) (rz : Rep K H W z dz) : Rep K H W (ov.getD z) (o.getD dz) := by
  cases o with
  | none =>
    cases ov with
    | none => exact rz
    | some v => cases h4
  | some d =>
    obtain ⟨v, rfl, r⟩ := h5 d rfl
    exact r
theorem isD_ext {H H' : Hp} {a : Addr} (h : IsD H a) (e : Ext H H') (hf : ∀ o u, H a ≠ some (.frz o u)) : IsD H' a := by
  rcases h with ⟨kvs, h⟩ | ⟨kvs, h⟩
  · rcases h with h | ⟨o, h⟩
    · exact .inl ⟨kvs, .inl (e.keep _ _ h rfl)⟩
    · exact absurd h (hf _ _)
  · rcases h with h | ⟨o, h⟩
    · exact .inr ⟨kvs, .inl (e.keep _ _ h rfl)⟩
    · exact absurd h (hf _ _)
/-- a dict, seen by its data -/
def isDc : Dt → Bool
  | .dcK _ _ => true
  | .dcT _ _ => true
  | _ => false
theorem isDc_of {H : Hp} {W : Addr → Prop} {x : V} {d : Dt} (r : Rep K H W x d) (h : isDc d = true) : ∃ a, x = .ref a ∧ IsD H a := by
  cases r with
  | @dcK a ks xs ds h1 n l ra => exact ⟨a, rfl, .inl ⟨_, .inl h1⟩⟩
  | @dcT a ks xs ds h1 n l ra => exact ⟨a, rfl, .inr ⟨_, .inl h1⟩⟩
  | _ => cases h
theorem look_dc {d k : Dt} {o : Option Dt} (h : gDLook d k = some o) : isDc d = true := by
  cases d <;> first | rfl | cases h
theorem de_dget1 (hu : X.A.units + 1 < cLine) (ha : DE m T K X a ta fa) (hb : DE false T K X b tb fb) (hm : M1 X a "get" apos b pos := by exact ⟨rfl, rfl, rfl, rfl⟩) : DE m T K X (.Call (.Attribute a "get" apos) [b] [] pos) (tDGet1 ta tb) (f2 gDGet1 fa fb) := ⟨pe_dget1 hu ha.pe hb.pe hm, fun W ρ σ H d Q g r e q => by
  obtain ⟨x, ea, e⟩ := obind e
  obtain ⟨y, eb, e⟩ := obind e
  obtain ⟨o, eo, e⟩ := obind e
  cases e
  refine ha.sd W ρ σ H x _ g r ea fun v H1 e1 g1 r1 => ?_
  obtain ⟨p0, hp0, i0⟩ := isDc_of r1 (look_dc eo)
  refine ⟨p0, hp0, i0, ?_⟩
  refine hb.sd W ρ σ H1 y _ g1 (r.ext e1) eb fun u H2 e2 g2 r2 => ?_
  obtain ⟨p, ov, h1, h2, h3, h4, h5⟩ := dlook (r1.ext e2) r2 eo
  rw [hp0] at h1
  cases h1
  exact ⟨ov, h3, q _ H2 (e1.trans e2) g2 (getD_rep h4 h5 .non)⟩⟩
theorem de_dget2 (hu : X.A.units + 1 < cLine) (ha : DE m T K X a ta fa) (hb : DE false T K X b tb fb) (hc : DE m T K X c tc fc) (hm : M2 X a "get" apos b c pos := by exact ⟨rfl, rfl, rfl, rfl⟩) : DE m T K X (.Call (.Attribute a "get" apos) [b, c] [] pos) (tDGet2 ta tb tc) (fDGet2 fa fb fc) := ⟨pe_dget2 hu ha.pe hb.pe hc.pe hm, fun W ρ σ H d Q g r e q => by
  obtain ⟨x, ea, e⟩ := obind e
  obtain ⟨y, eb, e⟩ := obind e
  obtain ⟨z, ec, e⟩ := obind e
  obtain ⟨o, eo, e⟩ := obind e
  cases e
  refine ha.sd W ρ σ H x _ g r ea fun v H1 e1 g1 r1 => ?_
  obtain ⟨p0, hp0, i0⟩ := isDc_of r1 (look_dc eo)
  refine ⟨p0, hp0, i0, ?_⟩
  refine hb.sd W ρ σ H1 y _ g1 (r.ext e1) eb fun u H2 e2 g2 r2 => ?_
  refine hc.sd W ρ σ H2 z _ g2 (r.ext (e1.trans e2)) ec fun w H3 e3 g3 r3 => ?_
  obtain ⟨p, ov, h1, h2, h3, h4, h5⟩ := dlook (r1.ext (e2.trans e3)) (r2.ext e3) eo
  rw [hp0] at h1
  cases h1
  exact ⟨ov, h3, q _ H3 ((e1.trans e2).trans e3) g3 (getD_rep h4 h5 r3)⟩⟩
end
/-! ### new dicts -/
def SdN (T : List Addr) (K : PySem.W.Frag) (t : TE) (f : Fn) : Prop :=
  ∀ (W : Addr → Prop) (ρ : Rho) (σ : L2.St) (H : Hp) (d : Dt) (Q : VK), Gd T H → Rp K H W ρ σ → f ρ = some d →
    (∀ p H', Ext H H' → Gd T H' → H p = none → ORep K H' (fun a => Wd W ρ σ a ∨ a = p) p d → Q (.ref p) H') → t σ H Q
structure DN (T : List Addr) (K : PySem.W.Frag) (X : Cx) (e : Expr) (t : TE) (f : Fn) : Prop where
  pe : PE X e t
  sd : SdN T K t f
def sSetN (i : Nat) (f : Fn) : FnS := fun ρ => (f ρ).bind fun d => some (.nx (setS ρ i (.od d)))
section
variable {m : Bool} {T : List Addr} {X : Cx} {K : PySem.W.Frag} {a b c e : Expr} {ta tb t : TE} {f fa fb fe : Fn} {pos p : Pos} {i : Nat} {x : Str}
theorem Gd.putD {H : Hp} {p : Addr} {o : HO} (g : Gd T H) (hp : ∀ ps, H p ≠ some (.tbl ps)) (ho : ∀ xs, o ≠ .lst xs ∧ o ≠ .tup xs) : Gd T (upd H p o) := g.put hp fun xs h => h.elim (fun h => absurd h (ho xs).1) fun h => absurd h (ho xs).2
theorem dn_emptyK : DN T K X (.Dict [] [] pos) tDNewK (fC (.dcK [] [])) := ⟨pe_dnewK, fun W ρ σ H d Q g r e q => by
  cases e
  intro p hp
  exact q p _ (Ext.new hp) (g.putD (fun ps h => by rw [hp] at h; cases h) fun xs => ⟨(fun h => nomatch h), fun h => nomatch h⟩) hp ⟨[], upd_same, rfl, .nil⟩⟩
theorem dn_emptyT : DN T K X (.Dict [] [] pos) tDNewT (fC (.dcT [] [])) := ⟨pe_dnewT, fun W ρ σ H d Q g r e q => by
  cases e
  intro p hp
  exact q p _ (Ext.new hp) (g.putD (fun ps h => by rw [hp] at h; cases h) fun xs => ⟨(fun h => nomatch h), fun h => nomatch h⟩) hp ⟨[], upd_same, rfl, .nil⟩⟩
theorem Rp.addM {H : Hp} {W : Addr → Prop} {ρ : Rho} {σ : L2.St} (r : Rp K H W ρ σ) {D : Addr} (o : MuH) (hD : H D = none) : Rp K (upd H D o.1) (fun a => W a ∨ a = D) ρ σ := by
  have e : Ext H (upd H D o.1) := Ext.new hD
  have sub : ∀ a (xs : MuH), H a = some xs.1 → Wd (fun a => W a ∨ a = D) ρ σ a → Wd W ρ σ a := fun a xs h z => by
    rcases z with (z | z) | z
    · exact .inl z
    · rw [z, hD] at h; cases h
    · exact .inr z
  refine ⟨r.len, fun i d h => ?_, fun i ds h => ?_, r.inj, fun a h => ?_⟩
  · obtain ⟨v, h1, h2⟩ := r.im i d h
    exact ⟨v, h1, h2.keep e.kw sub⟩
  · obtain ⟨a, h1, h2, h3⟩ := r.own i ds h
    refine ⟨a, h1, fun z => ?_, h3.keepE e sub⟩
    rcases z with z | z
    · exact h2 z
    · obtain ⟨x, hx⟩ := h3.mu
      rw [z, hD] at hx; cases hx
  · rcases h with h | h
    · obtain ⟨xs, q⟩ := r.wl a h
      exact ⟨xs, e.keep _ _ q (nt_mu xs)⟩
    · exact ⟨o, by rw [h, upd_same]⟩
/-- {k: v}, the key an int or a text -/
def fDisp1 (k v : Fn) : Fn := fun ρ => (k ρ).bind fun k => (v ρ).bind fun v => (keyD k).bind fun k => some (.dcK [k] [v])
theorem dn_disp1 (ha : DE true T K X a ta fa) (hb : DE true T K X b tb fb) : DN T K X (.Dict [some a] [b] pos) (tDisp [(ta, tb)]) (fDisp1 fa fb) := ⟨pe_disp (pps_cons ha.pe hb.pe pps_nil) rfl rfl (by simp) (Nat.le_of_ble_eq_true rfl), fun W ρ σ H d Q g r e q => by
  obtain ⟨k, ea, e⟩ := obind e
  obtain ⟨v, eb, e⟩ := obind e
  obtain ⟨k', ek, e⟩ := obind e
  cases e
  intro p hp
  have x0 : Ext H (upd H p (.dK [])) := Ext.new hp
  have g0 : Gd T (upd H p (.dK [])) := g.putD (fun ps h => by rw [hp] at h; cases h) fun xs => ⟨(fun h => nomatch h), fun h => nomatch h⟩
  have r0 := r.addM ⟨.dK [], rfl⟩ hp
  refine ha.sd _ ρ σ _ k _ g0 r0 ea fun u H1 e1 g1 r1 => ?_
  refine hb.sd _ ρ σ H1 v _ g1 (r0.ext e1) eb fun w H2 e2 g2 r2 => ?_
  have hp2 : H2 p = some (.dK []) := e2.keep _ _ (e1.keep _ _ upd_same rfl) rfl
  refine ⟨hp2, [(k', w)], by rw [(r1.ext e2).key ek]; rfl, Nat.le_of_ble_eq_true rfl, ?_⟩
  have x2 : Ext H (upd H2 p (.dK (mergeK [] [(k', w)]))) := ⟨fun b o h n => by
    have hb : b ≠ p := ne_of_none h hp
    rw [upd_ne hb]
    exact (e1.trans e2).keep b o (by rw [upd_ne hb]; exact h) n, fun b h => by
    by_cases hb : b = p
    · rw [hb]; exact hp
    · rw [upd_ne hb] at h
      have := (e1.trans e2).there b h
      rwa [upd_ne hb] at this⟩
  refine q p _ x2 (g2.putD (fun ps h => by rw [hp2] at h; cases h) fun xs => ⟨(fun h => nomatch h), fun h => nomatch h⟩) hp ⟨[w], upd_same, rfl, .one ?_⟩
  have kw : KeepW (fun a => Wd W ρ σ a ∨ a = p) H2 (upd H2 p (.dK (mergeK [] [(k', w)]))) := KeepW.set (vs := ⟨.dK [], rfl⟩) hp2 (.inr rfl)
  refine Rep.keep kw (fun _ _ _ z => z) (r2.sub fun a _ _ z => ⟨rfl, ?_⟩)
  rcases z with (z | z) | z
  · exact .inl (.inl z)
  · exact .inr z
  · exact .inl (.inr z)⟩
/-- a new dict as a value -/
theorem DN.de {f : Fn} (h : DN T K X e t f) : DE m T K X e t f := ⟨h.pe, fun W ρ σ H d Q g r e q => h.sd W ρ σ H d Q g r e fun p H' e1 g1 hp ra => q _ H' e1 g1 ((ra.sub fun _ _ _ z => .inl z.2).rep fun z => by
  obtain ⟨xs, hx⟩ := r.wd z.2
  rw [hp] at hx
  cases hx)⟩
theorem sd_setN {i : Nat} {f : Fn} (h : SdN T K t f) : SdS T K (tAsg t (gName i)) (sSetN i f) [i] := fun W ρ σ H fl' D g r e q => by
  obtain ⟨ds, ed, e⟩ := obind e
  cases e
  refine h W ρ σ H ds _ g r ed fun p H' e1 g1 hp r1 => q _ H' ⟨r.setOwn (s := .od ds) rfl e1 hp r1, g1, e1.kp, fun a z => ?_, fun j hj => setσ_ne fun z => hj (by rw [z]; exact List.mem_singleton.mpr rfl)⟩
  rcases Own.setOwn r.len z with z | z
  · exact .inl z
  · exact .inr (by rw [z]; exact hp)
theorem ds_setN {i : Nat} {x : Str} {p' : Pos} {f : Fn} (hN : X.N.Nodup) (h : DN T K X e t f) (hi : X.N[i]? = some x := by rfl) (hx : Loc X.env.scope x := by first | exact Or.inl rfl | exact Or.inr rfl) (hs : swapsWith e (some (.Name x p')) pos.line X.env = pure false := by rfl) (hf : X.fn x = true ∨ X.env.scope.names.lookup x = some .local := by first | exact .inl rfl | exact .inr rfl) :
    DS T K X (.Assign [.Name x p'] e pos) (tAsg t (gName i)) (sSetN i f) [i] := ⟨ps_set hN hi hx h.pe hs hf, sd_setN h.sd⟩
/-! ### d[k] = v -/
def ownedD (ρ : Rho) (i : Nat) : Option Dt := match getS ρ i with | .od d => some d | _ => none
theorem ownedD_some {ρ : Rho} {i : Nat} {d : Dt} (h : ownedD ρ i = some d) : getS ρ i = .od d := by
  unfold ownedD at h
  split at h
  · rename_i es e; cases h; exact e
  · cases h
def gDPut : Dt → Dt → Dt → Option Dt
  | .dcK ks ds, k, v => (keyD k).bind fun k => if ks.length ≤ 100000 then some (.dcK (putKs ks k) (putVs ks ds k v)) else none
  | .dcT ks ds, .tup k, v => (keysD k).bind fun k => if ks.length ≤ 100000 then some (.dcT (putKs ks k) (putVs ks ds k v)) else none
  | _, _, _ => none
/-- the value, then the key -/
def sDPutD (i : Nat) (fk fe : Fn) : FnS := fun ρ => (fe ρ).bind fun v => (fk ρ).bind fun k => (ownedD ρ i).bind fun d => (gDPut d k v).bind fun d => some (.nx (setS ρ i (.od d)))
theorem lt100000 {n : Nat} (h : n ≤ 100000) : n < sizeLine := by rw [sizeLine_eq]; omega
theorem dput {W : Addr → Prop} {H : Hp} {a : Addr} {y v : V} {d k c d' : Dt} {W' : Addr → Prop} (w : W a) (ra : ORep K H W a d) (ry : Rep K H W' y k) (rv : Rep K H W v c) (h : gDPut d k c = some d') :
    ∃ o : MuH, DPut H a y v (upd H a o.1) ∧ ORep K (upd H a o.1) W a d' ∧ ∀ xs, o.1 ≠ .lst xs ∧ o.1 ≠ .tup xs := by
  cases d with
  | dcK ks ds =>
    obtain ⟨k', h1, h⟩ := obind h
    obtain ⟨vs, h2, l, r⟩ := ra
    rw [ry.key h1]
    by_cases hl : ks.length ≤ 100000
    · rw [if_pos hl] at h
      cases h
      have hz : (ks.zip vs).length < sizeLine := by rw [List.length_zip, ← l, Nat.min_self]; exact lt100000 hl
      have kw : KeepW W H (upd H a (.dK (putK (ks.zip vs) k' v))) := KeepW.set (vs := ⟨_, rfl⟩) h2 w
      refine ⟨⟨.dK (putK (ks.zip vs) k' v), rfl⟩, .k h2 hz, ⟨putVs ks vs k' v, by rw [upd_same, putK_zip l], put_len l k' v, (RepA.putD rv r).keep kw fun _ _ _ z => z⟩, fun xs => ⟨(fun h => nomatch h), fun h => nomatch h⟩⟩
    · rw [if_neg hl] at h; cases h
  | dcT ks ds =>
    cases ry with
    | @tup b ys es hb rb =>
      obtain ⟨k', h1, h⟩ := obind h
      obtain ⟨vs, h2, l, r⟩ := ra
      rw [rb.keys h1] at hb
      by_cases hl : ks.length ≤ 100000
      · rw [if_pos hl] at h
        cases h
        have hz : (ks.zip vs).length < sizeLine := by rw [List.length_zip, ← l, Nat.min_self]; exact lt100000 hl
        have kw : KeepW W H (upd H a (.dT (putK (ks.zip vs) k' v))) := KeepW.set (vs := ⟨_, rfl⟩) h2 w
        refine ⟨⟨.dT (putK (ks.zip vs) k' v), rfl⟩, .t h2 hb hz, ⟨putVs ks vs k' v, by rw [upd_same, putK_zip l], put_len l k' v, (RepA.putD rv r).keep kw fun _ _ _ z => z⟩, fun xs => ⟨(fun h => nomatch h), fun h => nomatch h⟩⟩
      · rw [if_neg hl] at h; cases h
    | _ => cases h
  | _ => cases h
theorem ds_dput {pos2 : Pos} (hu : X.A.units + 1 < cLine) (hk : DE false T K X b tb fb) (he : DE true T K X e t fe) (hN : X.N[i]? = some x := by rfl) (hv : Vis X.env.scope x := by first | exact Or.inl rfl | exact Or.inr (Or.inl rfl) | exact Or.inr (Or.inr rfl)) (hd : (x == ("__debug__" : Str)) = false := by decide) (hcd : (x == ("__classdict__" : Str)) = false := by decide)
    (hs : swapsWith e (some (.Subscript (.Name x p) b pos)) pos2.line X.env = pure false := by rfl) :
    DS T K X (.Assign [.Subscript (.Name x p) b pos] e pos2) (sDPut (tVar i) tb t) (sDPutD i fb fe) [] := ⟨ps_dput hu (pe_var hN hv hd hcd) hk.pe he.pe hs, fun W ρ σ H fl D gd rp e' q => by
  obtain ⟨v, e1, e'⟩ := obind e'
  obtain ⟨k, e2, e'⟩ := obind e'
  obtain ⟨d, e3, e'⟩ := obind e'
  obtain ⟨d', e4, e'⟩ := obind e'
  cases e'
  refine he.sd W ρ σ H v _ gd rp e1 fun u H1 x1 g1 r1 => ?_
  have ho := ownd_od (ownedD_some e3)
  obtain ⟨a, h1, h2, h3⟩ := (rp.ext x1).own i d ho
  refine ⟨_, h1, ?_⟩
  refine hk.sd W ρ σ H1 k _ g1 (rp.ext x1) e2 fun y H2 x2 g2 r2 => ?_
  obtain ⟨o, p1, p2, p3⟩ := dput (.inr ⟨i, d, ho, h1⟩) (h3.keepE x2 fun _ _ _ z => z) r2 (r1.wt.ext x2) e4
  have x12 := x1.trans x2
  obtain ⟨y0, hy0⟩ := (h3.keepE (W' := Wd W ρ σ) x2 fun _ _ _ z => z).mu
  refine ⟨a, _, rfl, p1, q σ _ ((Aft.ext (W := W) (K := K) x12 g2 rp).trans (Aft.mutG (s := .od d') (rp.ext x12) ho rfl h1 p2 (g2.putD (fun ps h => ?_) p3)))⟩
  rw [hy0] at h
  have := y0.2
  rw [Option.some.inj h] at this
  exact Bool.noConfusion this⟩
end
end EL
end

section
set_option Elab.async false
set_option maxRecDepth 100000
set_option maxHeartbeats 4000000
/-! EL: sorted of lists and tuples of alike data; x[i] op= e. -/
namespace EL
open PySem PySem.Spec PySem.Calls PySem.W PyProof.Rows L2
section
variable {prog : Program} {w : World} {A : Around} {E : Value → Shared → Prop} {s : Shared} {β : Type} {R : Value → β → Prop} {enc : β → PyData} {vs : List Value} {bs : List β}
theorem sorted_seq_data {l : Addr} {T : String} {o : Obj} {n : Nat} {Q : Value → Shared → Prop} (hT : T = "list" ∨ T = "tuple") (ho : s.heap.get? l = some o) (hc : o.cls = .type T) (hd : o.data = .seq vs.toArray n) (hz : vs.length ≤ sizeLine)
    (e : EachIs R vs bs) (er : EachIs (fun v b => ∃ as, Reads s.heap v (enc b) as) vs bs) (hal : AllAlike (bs.map enc)) (hk : Sortable (bs.map enc)) (hu : ∀ b, b ∈ bs → A.units + 2 + (enc b).depth < cLine)
    (h : ∀ (h' : Heap) (out : List Value), (∀ b o, s.heap.get? b = some o → h'.get? b = some o) → out.length = bs.length → EachIs R out (bs.mergeSort (dataLe false enc)) → Q (.ref h'.objs.size) { s with heap := sortedHeap (h'.push (seqObj "list" vs.toArray 0)) h'.objs.size vs out.toArray }) :
    wpAny (model prog w) A (call (.builtin "sorted") [.ref l]) Q E s := by
  refine Calls.call_function_entry kind_sorted plain_sorted entry_sorted (args_sorted1 _) ?_
  unfold Builtin.«sorted»
  refine wpAny_bind (m := checkCount "sorted" 1 1 _) (wpAny_pure ?_)
  refine wpAny_bind (wpAny_collect_seq l hT ho hc hd (fun h' hk' => ?_) (by rw [List.size_toArray]; exact hz))
  refine wpAny_bind (wpAny_newList ?_ hz)
  have hoL : (h'.push (seqObj "list" vs.toArray 0)).get? h'.objs.size = some (seqObj "list" vs.toArray 0) := Heap.get?_push_size _ rfl
  have keep : ∀ b o, s.heap.get? b = some o → b ≠ h'.objs.size ∧ (h'.push (seqObj "list" vs.toArray 0)).get? b = some o := fun b o q =>
    ⟨Nat.ne_of_lt (Heap.lt_size (hk' b o q)), Heap.get?_push_of_some _ (hk' b o q)⟩
  show wpAny _ _ _ _ _ { s with heap := h'.push (seqObj "list" vs.toArray 0) }
  have er' : EachIs (fun v b => ∃ as, Reads (sortingHeap (h'.push (seqObj "list" vs.toArray 0)) h'.objs.size vs) v (enc b) as) vs bs := er.mono fun _ _ ⟨as, r⟩ => ⟨as, PyProof.Rows.Reads.keeps (fun b o q => sortingHeap_old (keep b o q).1 (keep b o q).2) r⟩
  refine wpAny_bind (wpAny_holding (wpAny_call_entry slot_list_sort ⟨_, hoL, rfl⟩ entry_list_sort (list_sort_vals (s := { s with heap := h'.push (seqObj "list" vs.toArray 0) }) (κ := dataKind (sortingHeap (h'.push (seqObj "list" vs.toArray 0)) h'.objs.size vs) (bs.map enc)) hoL
    (SortsAt.data (s := { s with heap := sortingHeap (h'.push (seqObj "list" vs.toArray 0)) h'.objs.size vs }) (each_map (R := fun v d => ∃ as, Reads (sortingHeap (h'.push (seqObj "list" vs.toArray 0)) h'.objs.size vs) v d as) enc er') hal hk (bound_map hu)) hz ⟨_, rfl, ?_⟩) (args_list_sort _)))
  exact wpAny_pure ⟨_, rfl, h h' _ hk' (by rw [sortVals_length false rfl]; exact e.length) (sortVals_data false e er' hal)⟩
end
/-! the rule -/
def okSort (ds : List Dt) : Prop := PyData.canLayAll0 (Dt.pyA ds) = true ∧ AllAlike (ds.map Dt.py) ∧ Sortable (ds.map Dt.py) ∧ PyData.depthAll (Dt.pyA ds) ≤ 60 ∧ Dt.freeA ds = true
noncomputable def sortD (ds : List Dt) : List Dt := ds.mergeSort (dataLe false Dt.py)
def rSortD (K : PySem.W.Frag) : List V → Hp → VK → Prop := fun vs H Q => ∃ (a : Addr) (xs : List V) (ds : List Dt), vs = [V.ref a] ∧ (SqL K H a xs ∨ SqT K H a xs) ∧ RepA K H NoW xs ds ∧ okSort ds ∧
  ∀ (ys : List V) (p : Addr), RepA K H NoW ys (sortD ds) → H p = none → Q (.ref p) (upd H p (.lst ys))
theorem rep_each {K : PySem.W.Frag} {H : Hp} {W : Addr → Prop} : ∀ {xs : List V} {us : List Value} {ds : List Dt}, Vals xs us → RepA K H W xs ds → EachIs (fun u d => ∃ x, RelV x u ∧ Rep K H W x d) us ds
  | _, _, _, .nil, .nil => .nil
  | _, _, _, .cons h t, .cons r rs => .cons ⟨_, h, r⟩ (rep_each t rs)
theorem each_rep {K : PySem.W.Frag} {H : Hp} {W : Addr → Prop} : ∀ {us : List Value} {ds : List Dt}, EachIs (fun u d => ∃ x, RelV x u ∧ Rep K H W x d) us ds → ∃ xs, Vals xs us ∧ RepA K H W xs ds
  | _, _, .nil => ⟨[], .nil, .nil⟩
  | _, _, .cons ⟨x, h1, h2⟩ t => by
    obtain ⟨xs, h3, h4⟩ := each_rep t
    exact ⟨x :: xs, .cons h1 h3, .cons h2 h4⟩
theorem depth_mem : ∀ {ds : List Dt} {d : Dt}, d ∈ ds → d.py.depth ≤ PyData.depthAll (Dt.pyA ds)
  | e :: ds, d, h => by
    rw [Dt.pyA, PyData.depthAll]
    rcases List.mem_cons.mp h with rfl | h
    · exact Nat.le_max_left _ _
    · exact Nat.le_trans (depth_mem h) (Nat.le_max_right _ _)
section
variable {X : Cx}
theorem cr_sortD (hu : X.A.units + 64 < cLine) : CallR X (.builtin "sorted") (rSortD X.K) := by
  intro pins s σ H vs us Q I r h
  obtain ⟨a, xs, ds, rfl, hs, ra, ⟨h1, h2, h3, h4, _⟩, q⟩ := h
  rw [Vals.ref1 r]
  have go : ∀ (its : List Value) (T : String) (o : Obj) (n : Nat), Vals xs its → (T = "list" ∨ T = "tuple") → s.heap.get? a = some o → o.cls = .type T → o.data = .seq its.toArray n → its.length ≤ sizeLine → wpAny (model X.prog X.w) X.A (call (.builtin "sorted") [.ref a]) (EP X pins σ Q) X.xe s := by
    intro its T o n rv hT ho hc hd hz
    obtain ⟨as, rs⟩ := Dp.readsAll I (Dt.pyA ds) xs its (RepA.dp ra h1) rv
    rw [pyA_map] at rs
    have e := rep_each rv ra
    have er := readsAll_each Dt.py rs
    refine sorted_seq_data hT ho hc hd hz e er h2 h3 (fun b hb => ?_) fun h' out hk hl ho' => ?_
    · have := depth_mem hb
      omega
    · obtain ⟨ys, rv2, ra2⟩ := each_rep ho'
      have I' := I.kept (t' := s.toks) hk
      have hob : (h'.push (seqObj "list" its.toArray 0)).get? h'.objs.size = some (seqObj "list" its.toArray 0) := Heap.get?_push_size _ rfl
      obtain ⟨ep, he'⟩ := PyProof.Rows.sortedHeap_at (vs := its) (out := out.toArray) hob
      have hlen : ys.length ≤ sizeLine := by
        rw [rv2.length, hl, ← e.length]
        exact hz
      refine ⟨.ref _, upd H h'.objs.size (.lst ys), I'.laid (t' := s.toks) (fun b o e => ?_) (Nat.le_refl _) ⟨hlen, out, ep, rv2, he'⟩, rfl, q ys _ ra2 (I'.hok.fresh (Nat.le_refl _))⟩
      have hlt := Heap.lt_size e
      rw [PyProof.Rows.sortedHeap_old (Nat.ne_of_lt hlt) (Heap.lt_size (Heap.get?_push_of_some _ e))]
      exact Heap.get?_push_of_some _ e
  rcases hs with hs | hs
  · obtain ⟨its, rv, hl, hz⟩ := I.list hs
    obtain ⟨o, ho, hc, n, hd⟩ := hl.isList
    exact go its "list" o n rv (.inl rfl) ho hc hd (by rw [← rv.length]; exact hz)
  · obtain ⟨its, rv, hl, hz⟩ := I.tuple hs
    obtain ⟨o, ho, hc, n, hd⟩ := id hl
    exact go its "tuple" o n rv (.inr rfl) ho hc hd (by rw [← rv.length]; exact hz)
end
noncomputable def gSortD : List Dt → Option (List Dt)
  | [.lst xs] => if cdc (okSort xs) = true then some (sortD xs) else none
  | [.tup xs] => if cdc (okSort xs) = true then some (sortD xs) else none
  | _ => none
theorem freeA_mem : ∀ {ds : List Dt}, Dt.freeA ds = true ↔ ∀ d ∈ ds, d.free = true
  | [] => ⟨fun _ d h => (nomatch h), fun _ => rfl⟩
  | e :: ds => by
    show (e.free && Dt.freeA ds) = true ↔ _
    rw [Bool.and_eq_true, freeA_mem (ds := ds)]
    constructor
    · rintro ⟨h1, h2⟩ d hd
      rcases List.mem_cons.mp hd with rfl | hd
      · exact h1
      · exact h2 d hd
    · intro h
      exact ⟨h e List.mem_cons_self, fun d hd => h d (List.mem_cons_of_mem _ hd)⟩
theorem sortD_perm (ds : List Dt) : (sortD ds).Perm ds := List.mergeSort_perm ds _
section
variable {T : List Addr} {X : Cx} {K : PySem.W.Frag} {e : Expr} {tr : TA} {fr : FnL} {pos : Pos}
theorem df_sortD {q : Pos} (hu : X.A.units + 64 < cLine) (hm : X.mg "sorted" = none) (ha : DA false T K X [e] tr fr) (hg : Gl X "sorted" := by rfl) (hv : bootBuiltins "sorted" = some (.builtin "sorted") := by decide +kernel)
    (he : starEach [e] X.env = (false, eval e X.env) :: starEach [] X.env := by rfl) (hpl : (backTo pos (starEach [] X.env)).any (·.1) = false := by rfl) (hk : X.K = K := by rfl) :
    DF T K X (.Call (.Name "sorted" q) [e] [] pos) (tCB (rSortD K) tr) (fNL gSortD fr) := by subst hk; exact ⟨pe_callB (cr_sortD hu) hg hm hv ha.pa (by decide) (by decide) he hpl, fun W ρ σ H d Q gd rp e q => by
  obtain ⟨ds, ea, e⟩ := obind e
  refine ha.sd W ρ σ H ds _ gd rp ea fun vs H1 e1 g1 r1 => ?_
  show rSortD X.K vs H1 Q
  have go : ∀ (a : Addr) (xs : List V) (l : List Dt), vs = [V.ref a] → (SqL X.K H1 a xs ∨ SqT X.K H1 a xs) → xs.length ≤ sizeLine → RepA X.K H1 NoW xs l → (if cdc (okSort l) = true then some (sortD l) else none) = some d → rSortD X.K vs H1 Q := by
    intro a xs l hv hs hz ra h
    by_cases hc : cdc (okSort l) = true
    · rw [if_pos hc] at h
      cases h
      have ok := cdc_p hc
      refine ⟨a, xs, l, hv, hs, ra, ok, fun ys p ry hn => ?_⟩
      have hl : ys.length ≤ sizeLine := by rw [ry.length, (sortD_perm l).length_eq, ← ra.length]; exact hz
      have hf : Dt.freeA (sortD l) = true := freeA_mem.mpr fun d hd => freeA_mem.mp ok.2.2.2.2 d ((sortD_perm l).mem_iff.mp hd)
      exact q p ys _ (e1.trans (Ext.new hn)) (g1.newL hn hl) (e1.there p hn) upd_same ((ry.ext (Ext.new hn)).free hf)
    · rw [if_neg hc] at h; cases h
  match ds, e, r1 with
  | [.lst l], e, r1 =>
    obtain ⟨v, rfl, r2⟩ := repA1 r1
    cases r2 with
    | lst h1 n1 rb => exact go _ _ l rfl (.inl (.of h1)) (g1.1 _ _ (.inl h1)) rb.loose e
  | [.tup l], e, r1 =>
    obtain ⟨v, rfl, r2⟩ := repA1 r1
    cases r2 with
    | tup h1 rb => exact go _ _ l rfl (.inr (.of h1)) (g1.1 _ _ (.inr h1)) rb.loose e
  | x0 :: y0 :: r0, e, _ => cases x0 <;> cases e⟩
end
/-! ### rows of ints, in order -/
end EL
end

section
set_option Elab.async false
set_option maxRecDepth 100000
set_option maxHeartbeats 4000000
/-! EL: x[i] op= e; rows of ints in order. -/
namespace EL
open PySem PySem.Spec PySem.Calls PySem.W PyProof.Rows L2
section
variable {m : Bool} {T : List Addr} {X : Cx} {K : PySem.W.Frag} {b e : Expr} {tb t : TE} {fb fe : Fn} {pos p : Pos} {i : Nat} {x : Str}
theorem pget_list : PGet X (rIxL X.K) := by
  intro pins s σ H x y v u Q I rx ry h
  obtain ⟨p, xs, i, z, rfl, rfl, hq, he, q⟩ := h
  cases rx
  obtain ⟨t, rfl⟩ := ry
  obtain ⟨its, r, pl, hz⟩ := I.list hq
  obtain ⟨j, h1, h2, h3, h4, h5⟩ := atI_get he
  obtain ⟨w, ew, rw'⟩ := r.get h2
  have hl := r.length
  have hn := line63
  have fin : EP X pins σ Q w s := ⟨z, H, I, rw', q⟩
  by_cases h0 : 0 ≤ i
  · have hj : i.toNat = j := by
      rw [seqIndex_of h0 h5] at h1
      exact Option.some.inj h1
    exact wpAny_getItem_list pl.isList h0 (by omega) (by rw [hj]; simpa using ew) fin
  · have hj : (i + (its.toArray.size : Int)).toNat = j := by
      rw [seqIndex_neg (by omega) h4] at h1
      rw [List.size_toArray, ← hl]
      exact Option.some.inj h1
    exact wpAny_getItem_list_neg pl.isList (by omega) (by rw [List.size_toArray] <;> omega) (by omega) (by rw [hj]; simpa using ew) fin
def sAugSub (i : Nat) (g : Dt → Dt → Option Dt) (fk fe : Fn) : FnS := fun ρ => (owned ρ i).bind fun xd => (fk ρ).bind fun k => match k with
  | .int n => (L2.atI xd n).bind fun x => (fe ρ).bind fun y => (g x y).bind fun z => (ixN xd.length n).bind fun j => some (.nx (setS ρ i (.ow (xd.set j z))))
  | _ => none
theorem ds_augSub {op : Operator} {r : R2} {g : Dt → Dt → Option Dt} {pos2 : Pos} (ho : PIp X op r ∧ OpD T K r g) (hk : DE false T K X b tb fb) (he : DE true T K X e t fe) (hN : X.N[i]? = some x := by rfl) (hv : Vis X.env.scope x := by first | exact Or.inl rfl | exact Or.inr (Or.inl rfl) | exact Or.inr (Or.inr rfl)) (hd : (x == ("__debug__" : Str)) = false := by decide) (hcd : (x == ("__classdict__" : Str)) = false := by decide)
    (hKK : X.K = K := by rfl) (ha : ∀ ov iv new, augStore b ov iv new = (do holding [new, ov, iv] (setItem ov iv new); release [new, ov, iv] []; pure .next) := by intros; rfl) :
    DS T K X (.AugAssign (.Subscript (.Name x p) b pos) op e pos2) (tAugS (tVar i) tb t (rIxL K) r rSetL) (sAugSub i g fb fe) [] := by
  subst hKK
  exact ⟨ps_augS (pe_var hN hv hd hcd) hk.pe pget_list he.pe ho.1 set_list ha, fun W ρ σ H fl D gd rp e' q => by
  obtain ⟨xd, e1, e'⟩ := obind e'
  obtain ⟨k, e2, e'⟩ := obind e'
  have hs := owned_some e1
  obtain ⟨l, xs, h1, h2, h3, h4⟩ := rp.ow i xd hs
  refine ⟨_, h1, ?_⟩
  refine hk.sd W ρ σ H k _ gd rp e2 fun u H2 x2 g2 r2 => ?_
  cases r2 with
  | int n =>
    obtain ⟨xo, e3, e'⟩ := obind e'
    obtain ⟨y, e4, e'⟩ := obind e'
    obtain ⟨z, e5, e'⟩ := obind e'
    obtain ⟨j, e6, e'⟩ := obind e'
    cases e'
    have h22 := x2.keep _ _ h2 rfl
    have h42 := h4.ext x2
    obtain ⟨xv, h5, h6⟩ := h42.atI e3
    refine ⟨l, xs, n, xv, rfl, rfl, .of h22, h5, ?_⟩
    refine he.sd W ρ σ H2 y _ g2 (rp.ext x2) e4 fun u H3 x3 g3 r3 => ?_
    have x23 := x2.trans x3
    refine ho.2 (wOf true W ρ σ) H3 xv u xo y z _ g3 (fun a w => (rp.ext x23).wo w) ((h6.ext x3).wo) r3 e5 fun w' H4 x4 g4 r4 => ?_
    have x24 := x23.trans x4
    have h24 := x24.keep _ _ h2 rfl
    refine ⟨l, xs, n, j, rfl, rfl, h24, by rw [h4.length]; exact e6, ?_⟩
    exact q σ _ ((Aft.ext (W := W) (K := X.K) x24 g4 rp).trans (Aft.mut (es := xd.set j z) (us := xs.set j w') g4 (rp.ext x24) hs h1 h24 ((h4.ext x24).set r4.wt j) (by rw [List.length_set]; exact g4.1 l xs (.inl h24))))
  | _ => cases e'⟩
end
/-! ### rows of ints, in order -/
def rowLe (a b : List Int) : Bool := !lexB b a
theorem lexB_irrefl : ∀ a : List Int, lexB a a = false
  | [] => rfl
  | x :: a => by show (if x = x then lexB a a else _) = false; rw [if_pos rfl, lexB_irrefl a]
theorem lexB_asymm : ∀ a b : List Int, lexB a b = true → lexB b a = false
  | [], [], h => by cases h
  | [], _ :: _, _ => rfl
  | _ :: _, [], h => by cases h
  | x :: a, y :: b, h => by
    have h' : (if x = y then lexB a b else decide (x < y)) = true := h
    show (if y = x then lexB b a else decide (y < x)) = false
    by_cases e : x = y
    · rw [if_pos e] at h'; rw [if_pos e.symm]; exact lexB_asymm a b h'
    · rw [if_neg e] at h'; rw [if_neg (fun z => e z.symm)]
      have := of_decide_eq_true h'
      exact decide_eq_false (by omega)
theorem lexB_total : ∀ a b : List Int, lexB a b = false → lexB b a = false → a = b
  | [], [], _, _ => rfl
  | [], _ :: _, h, _ => by cases h
  | _ :: _, [], _, h => by cases h
  | x :: a, y :: b, h, h2 => by
    have h' : (if x = y then lexB a b else decide (x < y)) = false := h
    have h2' : (if y = x then lexB b a else decide (y < x)) = false := h2
    by_cases e : x = y
    · rw [if_pos e] at h'; rw [if_pos e.symm] at h2'
      rw [e, lexB_total a b h' h2']
    · rw [if_neg e] at h'; rw [if_neg (fun z => e z.symm)] at h2'
      have := of_decide_eq_false h'
      have := of_decide_eq_false h2'
      omega
theorem lexB_trans : ∀ a b c : List Int, lexB a b = true → lexB b c = true → lexB a c = true
  | [], [], _, h, _ => by cases h
  | [], _ :: _, [], _, h => by cases h
  | [], _ :: _, _ :: _, _, _ => rfl
  | _ :: _, [], _, h, _ => by cases h
  | _ :: _, _ :: _, [], _, h => by cases h
  | x :: a, y :: b, z :: c, h, h2 => by
    have h' : (if x = y then lexB a b else decide (x < y)) = true := h
    have h2' : (if y = z then lexB b c else decide (y < z)) = true := h2
    show (if x = z then lexB a c else decide (x < z)) = true
    by_cases e : x = y
    · rw [if_pos e] at h'
      by_cases e2 : y = z
      · rw [if_pos e2] at h2'
        rw [if_pos (e.trans e2)]
        exact lexB_trans a b c h' h2'
      · rw [if_neg e2] at h2'
        rw [if_neg (fun q => e2 (e.symm.trans q)), e]
        exact h2'
    · rw [if_neg e] at h'
      have := of_decide_eq_true h'
      by_cases e2 : y = z
      · rw [if_neg (fun q => e (q.trans e2.symm)), ← e2]
        exact h'
      · rw [if_neg e2] at h2'
        have := of_decide_eq_true h2'
        rw [if_neg (by omega)]
        exact decide_eq_true (by omega)
theorem rowLe_total (a b : List Int) : (rowLe a b || rowLe b a) = true := by
  unfold rowLe
  cases h : lexB b a with
  | false => rfl
  | true => rw [lexB_asymm b a h]; rfl
theorem rowLe_trans (a b c : List Int) (h1 : rowLe a b = true) (h2 : rowLe b c = true) : rowLe a c = true := by
  unfold rowLe at *
  have h1 : lexB b a = false := by simpa using h1
  have h2 : lexB c b = false := by simpa using h2
  cases h : lexB c a with
  | false => rfl
  | true =>
    cases h3 : lexB a b with
    | false => rw [lexB_total b a h1 h3] at h2; rw [h2] at h; cases h
    | true => rw [lexB_trans c a b h h3] at h2; cases h2
theorem rowLe_anti (a b : List Int) (h1 : rowLe a b = true) (h2 : rowLe b a = true) : a = b := by
  unfold rowLe at *
  exact lexB_total a b (by simpa using h2) (by simpa using h1)
/-- rows put in their order, one by one -/
def insR (x : List Int) : List (List Int) → List (List Int)
  | [] => [x]
  | y :: l => if rowLe x y = true then x :: y :: l else y :: insR x l
def isortR : List (List Int) → List (List Int)
  | [] => []
  | x :: l => insR x (isortR l)
theorem insR_perm (x : List Int) : ∀ l, (insR x l).Perm (x :: l)
  | [] => .refl _
  | y :: l => by
    unfold insR
    split
    · exact .refl _
    · exact ((insR_perm x l).cons y).trans (.swap x y l)
theorem isortR_perm : ∀ l, (isortR l).Perm l
  | [] => .refl _
  | x :: l => (insR_perm x (isortR l)).trans ((isortR_perm l).cons x)
theorem insR_sorted (x : List Int) : ∀ l : List (List Int), l.Pairwise (fun a b => rowLe a b = true) → (insR x l).Pairwise (fun a b => rowLe a b = true)
  | [], _ => List.pairwise_singleton _ _
  | y :: l, h => by
    rw [List.pairwise_cons] at h
    unfold insR
    split
    · rename_i hxy
      refine .cons (fun z hz => ?_) (.cons h.1 h.2)
      rcases List.mem_cons.mp hz with rfl | hz
      · exact hxy
      · exact rowLe_trans x y z hxy (h.1 z hz)
    · rename_i hxy
      refine .cons (fun z hz => ?_) (insR_sorted x l h.2)
      rcases List.mem_cons.mp ((insR_perm x l).mem_iff.mp hz) with rfl | hz
      · have := rowLe_total y z
        rw [Bool.or_eq_true] at this
        exact this.resolve_right hxy
      · exact h.1 z hz
theorem isortR_sorted : ∀ l, (isortR l).Pairwise (fun a b => rowLe a b = true)
  | [] => .nil
  | x :: l => insR_sorted x _ (isortR_sorted l)
theorem mergeSort_rows (l : List (List Int)) : l.mergeSort rowLe = isortR l :=
  List.Perm.eq_of_pairwise (le := fun a b => rowLe a b = true) (fun a b _ _ h1 h2 => rowLe_anti a b h1 h2) (List.pairwise_mergeSort rowLe_trans rowLe_total l) (isortR_sorted l) ((List.mergeSort_perm l _).trans (isortR_perm l).symm)
theorem py_tI (l : List Int) : (Dt.tup (l.map Dt.int)).py = PyData.tuple (l.map PyData.int) := by rw [Dt.py, LK.pyA_ints]
theorem okSort_rows {l : List (List Int)} (h : ∀ r ∈ l, r ≠ []) : okSort (l.map fun r => Dt.tup (r.map Dt.int)) := by
  refine ⟨?_, ?_, ?_, ?_, ?_⟩
  · induction l with
    | nil => simp [Dt.pyA, PyData.canLayAll0]
    | cons r l ih =>
      rw [List.map_cons, Dt.pyA, PyData.canLayAll0, ih fun x hx => h x (List.mem_cons_of_mem _ hx), Bool.and_true, Dt.py, PyData.canLay0]
      exact LK.lay_ints r
  · intro d hd d' hd'
    rw [List.map_map] at hd hd'
    obtain ⟨a, _, rfl⟩ := List.mem_map.mp hd
    obtain ⟨b, _, rfl⟩ := List.mem_map.mp hd'
    show alike (Dt.tup (a.map Dt.int)).py (Dt.tup (b.map Dt.int)).py = true
    rw [py_tI, py_tI]
    exact PySem.W.DatumOrd.alike (α := PySem.W.Tup Int) ⟨a⟩ ⟨b⟩
  · refine .inl fun d hd => ?_
    rw [List.map_map] at hd
    obtain ⟨a, ha, rfl⟩ := List.mem_map.mp hd
    show ∃ x r, (Dt.tup (a.map Dt.int)).py = .tuple (x :: r)
    rw [py_tI]
    cases a with
    | nil => exact absurd rfl (h [] ha)
    | cons x r => exact ⟨_, _, rfl⟩
  · have : PyData.depthAll (Dt.pyA (l.map fun r => Dt.tup (r.map Dt.int))) ≤ 2 := by
      clear h
      induction l with
      | nil => simp [Dt.pyA, PyData.depthAll]
      | cons r l ih =>
        rw [List.map_cons, Dt.pyA, PyData.depthAll, py_tI, PyData.depth]
        have h := LK.depth_ints r
        rw [LK.pyA_ints] at h
        omega
    omega
  · refine freeA_mem.mpr fun d hd => ?_
    obtain ⟨a, _, rfl⟩ := List.mem_map.mp hd
    show Dt.freeA (a.map Dt.int) = true
    refine freeA_mem.mpr fun d hd => ?_
    obtain ⟨i, _, rfl⟩ := List.mem_map.mp hd
    rfl
theorem sortD_rows (l : List (List Int)) : sortD (l.map fun r => Dt.tup (r.map Dt.int)) = (isortR l).map fun r => Dt.tup (r.map Dt.int) := by
  unfold sortD
  rw [← mergeSort_rows, List.map_mergeSort]
  intro a _ b _
  show rowLe a b = !dataLt (Dt.tup (b.map Dt.int)).py (Dt.tup (a.map Dt.int)).py
  rw [dataLt_tI]
  rfl
theorem gSortD_l {l : List (List Int)} (h : ∀ r ∈ l, r ≠ []) : gSortD [.lst (l.map fun r => Dt.tup (r.map Dt.int))] = some ((isortR l).map fun r => Dt.tup (r.map Dt.int)) := by
  show (if cdc _ = true then some (sortD _) else none) = _
  rw [if_pos (cdc_t (okSort_rows h)), sortD_rows]
theorem gSortD_t {l : List (List Int)} (h : ∀ r ∈ l, r ≠ []) : gSortD [.tup (l.map fun r => Dt.tup (r.map Dt.int))] = some ((isortR l).map fun r => Dt.tup (r.map Dt.int)) := by
  show (if cdc _ = true then some (sortD _) else none) = _
  rw [if_pos (cdc_t (okSort_rows h)), sortD_rows]
end EL
end

section
set_option Elab.async false
set_option maxRecDepth 100000
set_option maxHeartbeats 4000000
/-! EL: min and max of two alike data. -/
namespace EL
open PySem PySem.Spec PySem.W PyProof.Rows L2 HT
section
variable {prog : Program} {w : World} {A : Around} {E : Value → Shared → Prop} {s : Shared}
theorem min_two_walk {a b : Value} {Q : Value → Shared → Prop}
    (h : wpAny (model prog w) A.in1 (pyIter (.ref s.heap.objs.size)) (fun it s₂ => ∃ I fp wr G n P St H bt, it = .ref I ∧ WalksS prog w A.in1 I fp wr G n P St ∧ St 0 s₂ ∧ (∀ b ∈ fp, b < s₂.heap.objs.size) ∧ 0 < n ∧
      (∀ b o, H.get? b = some o → b ∉ wr) ∧ (∀ b o, H.get? b = some o → s₂.heap.get? b = some o) ∧ CmpIn prog w A.in1 .Lt H P bt ∧ ∀ v s', P (argBest bt (n - 1)) v → Moved wr G s₂ s' → Q v s') E
      { s with heap := s.heap.push { cls := .type "tuple", data := .seq #[a, b] } }) :
    wpAny (model prog w) A (call (.builtin "min") [a, b]) Q E s := by
  have hname : (toString "min" ++ toString ".loop" : String) = "min.loop" := by decide
  refine call_function_tree F.kind_min F.plain_min F.entry_min (F.args_min2 _ _) ?_
  show wpAny _ A.in1 (Builtin.Builtins.bindParams "min" ["key", "default"] 0 ⟨[], []⟩ >>= _) _ _ s
  refine wpAny_bind (wpAny_of_eq (show Builtin.Builtins.bindParams "min" ["key", "default"] 0 ⟨[], []⟩ = pure [none, none] from rfl) ?_)
  show wpAny _ A.in1 (newTuple [a, b] >>= _) _ _ s
  refine wpAny_bind (wpAny_newObj_type ?_)
  refine wpAny_bind (wpAny_mono h (fun it s₂ h₂ => ?_) fun _ _ e => e)
  obtain ⟨I, fp, wr, G, n, P, St, H, bt, rfl, W, hst, hfp, hn, hw, hkeep, hcmp, hQ⟩ := h₂
  refine wpAny_bind (wpAny_newObj_type ?_)
  have hSf : s₂.heap.objs.size ∉ fp := fun hm => Nat.lt_irrefl _ (hfp _ hm)
  rw [hname]
  refine wpAny_pure ⟨plainId_quiet F.plain_min_loop _, codeAny_min_loop_firstH W H hw bt hcmp s₂.heap.objs.size hSf (fresh_in hkeep) _ hn (fun b o e => Heap.get?_push_of_some _ (hkeep b o e)) (W.frame 0 s₂ _ s₂.toks hst (Nat.le_refl _) fun b _ o e => Heap.get?_push_of_some _ e) (Heap.get?_push_size _ rfl) fun v s' hP hm => ?_⟩
  exact hQ v s' hP (Moved.drop_new (tk := s₂.toks) hm (Nat.le_refl _))
theorem min_two_data {a b : Value} {d e : PyData} {as bs : List Addr} {Q : Value → Shared → Prop} (hh : A.handled = none) (r1 : Reads s.heap a d as) (r2 : Reads s.heap b e bs) (ha : AlikeAll [d, e]) (hu : A.units + 1 + PyData.depthAll [d, e] < cLine)
    (h : ∀ h' tk, (∀ c o, s.heap.get? c = some o → h'.get? c = some o) → Q (if dataLt e d = true then b else a) { s with heap := h', toks := tk }) :
    wpAny (model prog w) A (call (.builtin "min") [a, b]) Q E s := by
  have hT : (s.heap.push { cls := .type "tuple", data := .seq #[a, b] }).IsTuple s.heap.objs.size #[a, b] := ⟨_, Heap.get?_push_size _ rfl, rfl, 0, rfl⟩
  have kp : ∀ c o, s.heap.get? c = some o → (s.heap.push { cls := .type "tuple", data := .seq #[a, b] }).get? c = some o := fun c o e => Heap.get?_push_of_some _ e
  have hr : ∃ cs, ReadsAll (s.heap.push { cls := .type "tuple", data := .seq #[a, b] }) (#[a, b] : Array Value).toList [d, e] cs := ⟨_, .cons (reads_keeps kp r1) (.cons (reads_keeps kp r2) .nil)⟩
  obtain ⟨cs, hr⟩ := hr
  refine min_two_walk (iter_tupleW (A := A.in1) hh hT fun s₂ e' W st hfp hw hk => ?_)
  refine ⟨_, _, _, _, _, _, _, _, _, rfl, W, st, hfp, by simp, hw, hk, cmpIn_lt (s := { s with heap := s.heap.push { cls := .type "tuple", data := .seq #[a, b] } }) (A := A.in1) hr ha (by show A.units + 1 + _ < _; exact hu), fun v s' hP m => ?_⟩
  obtain ⟨h', tk, rfl, hk'⟩ := moved_old e' rfl m
  have hv : v = if dataLt e d = true then b else a := by
    have hP' : (#[a, b] : Array Value)[argBest (fun i j => dataLt ([d, e].getD i .none) ([d, e].getD j .none)) 1]? = some v := hP
    by_cases hba : dataLt e d = true
    · have e9 : argBest (fun i j => dataLt ([d, e].getD i .none) ([d, e].getD j .none)) 1 = 1 := by simp [argBest, hba]
      rw [e9] at hP'
      rw [if_pos hba]
      simpa using hP'.symm
    · have e9 : argBest (fun i j => dataLt ([d, e].getD i .none) ([d, e].getD j .none)) 1 = 0 := by simp [argBest, hba]
      rw [e9] at hP'
      rw [if_neg hba]
      simpa using hP'.symm
  rw [hv]
  exact h h' tk fun c o e => hk' c o (kp c o e)
end
section
variable {X : Cx}
def rMinT (K : PySem.W.Frag) : List V → Hp → VK → Prop := fun vs H Q => ∃ (x y : V) (d e : PyData), vs = [x, y] ∧ Dp K H x d ∧ Dp K H y e ∧ AlikeAll [d, e] ∧ PyData.depthAll [d, e] ≤ 60 ∧ Q (if dataLt e d = true then y else x) H
theorem cr_minT (hc : X.calm = true) (hu : X.A.units + 64 < cLine) : CallR X (.builtin "min") (rMinT X.K) := by
  intro pins s σ H vs us Q I r h
  obtain ⟨x, y, d, e, rfl, hd, he, ha, hp, q⟩ := h
  obtain ⟨u, w', rfl, rx, ry⟩ := vals2 r
  obtain ⟨as, r1⟩ := Dp.reads I d x u hd rx
  obtain ⟨bs, r2⟩ := Dp.reads I e y w' he ry
  refine min_two_data (I.ok.hd hc) r1 r2 ha (by omega) fun h' tk hk => ⟨_, H, I.kept hk, ?_, q⟩
  by_cases hz : dataLt e d = true
  · rw [if_pos hz, if_pos hz]; exact ry
  · rw [if_neg hz, if_neg hz]; exact rx
variable {T : List Addr} {K : PySem.W.Frag}
noncomputable def gMinT : List Dt → Option Dt
  | [d, e] => if cdc (AlikeAll [d.py, e.py] ∧ d.py.canLay0 = true ∧ e.py.canLay0 = true ∧ PyData.depthAll [d.py, e.py] ≤ 60) = true then some (if dataLt e.py d.py = true then e else d) else none
  | _ => none
theorem kMinT (hk : X.K = K) (hc : X.calm = true) (hu : X.A.units + 64 < cLine) : CallR X (.builtin "min") (rMinT K) ∧ CallD T K (rMinT K) gMinT := by
  subst hk
  refine ⟨cr_minT hc hu, fun W H vs ds c Q g wl r h q => ?_⟩
  match ds, h with
  | [d, e], h =>
    obtain ⟨v, v', rfl, r1, r2⟩ := repA2 r
    by_cases hz : cdc (AlikeAll [d.py, e.py] ∧ d.py.canLay0 = true ∧ e.py.canLay0 = true ∧ PyData.depthAll [d.py, e.py] ≤ 60) = true
    · have h : (if cdc (AlikeAll [d.py, e.py] ∧ d.py.canLay0 = true ∧ e.py.canLay0 = true ∧ PyData.depthAll [d.py, e.py] ≤ 60) = true then some (if dataLt e.py d.py = true then e else d) else none) = some c := h
      rw [if_pos hz] at h
      cases h
      obtain ⟨h1, h2, h3, h4⟩ := cdc_p hz
      refine ⟨v, v', d.py, e.py, rfl, r1.dp h2, r2.dp h3, h1, h4, ?_⟩
      by_cases hl : dataLt e.py d.py = true
      · rw [if_pos hl] at q ⊢
        exact q v' H (Ext.refl H) g r2
      · rw [if_neg hl] at q ⊢
        exact q v H (Ext.refl H) g r1
    · have h : (if cdc (AlikeAll [d.py, e.py] ∧ d.py.canLay0 = true ∧ e.py.canLay0 = true ∧ PyData.depthAll [d.py, e.py] ≤ 60) = true then some (if dataLt e.py d.py = true then e else d) else none) = some c := h
      rw [if_neg hz] at h; cases h
end
end EL
end

section
set_option Elab.async false
set_option maxRecDepth 100000
set_option maxHeartbeats 4000000
/-! EL: sorted of alike tuples, empty ones too. -/
namespace EL
open PySem PySem.Spec PySem.SeqAt PySem.Calls PySem.W PyProof.Rows L2
section
variable {prog : Program} {w : World} {A : Around} {E : Value → Shared → Prop} {s : Shared}
theorem tuple_lt_call {Q : Value → Shared → Prop} {l b : Addr} {items items2 : Array Value} {e r : Nat → Bool} (hl : s.heap.IsTuple l items) (hb : s.heap.IsTuple b items2)
    (he : ∀ j (h1 : j < items.size) (h2 : j < items2.size), EqAt A.in1 s items[j] items2[j] (e j)) (hr : ∀ j (h1 : j < items.size) (h2 : j < items2.size), e j = false → RcLt A.in1 s items[j] items2[j] (r j))
    (h : Q (.bool (firstLt e r (decide (items.size < items2.size)) (List.range (min items.size items2.size)))) s) : wpAny (model prog w) A (call (.builtin "tuple.__lt__") [.ref l, .ref b]) Q E s := by
  obtain ⟨⟨cls, dd, data, sl⟩, ho, hc, n, hd⟩ := id hl
  obtain ⟨⟨cls2, dd2, data2, sl2⟩, ho2, hc2, n2, hd2⟩ := id hb
  simp only at hc hd hc2 hd2
  subst hc hd hc2 hd2
  exact call_meets F.slot_tuple_lt ⟨_, ho, rfl⟩ F.entry_tuple_lt (F.args_tuple_lt_2 _ _) (tuple_ltAt l b items items2 n n2 dd dd2 sl sl2 e r) ⟨ho, ho2, he, hr, h⟩
theorem oneLt_tuple {xs ys : List PyData} {a b : Value} {as bs : List Addr} {Q : Bool → Shared → Prop} (ra : Reads s.heap a (.tuple xs) as) (rb : Reads s.heap b (.tuple ys) bs) (h : alike (.tuple xs) (.tuple ys) = true)
    (hu : A.units + min (PyData.tuple xs).depth (PyData.tuple ys).depth < cLine) (hq : Q (dataLt (.tuple xs) (.tuple ys)) s) : wpAny (model prog w) A (oneLt' true a b) Q E s := by
  have hal : alikeAll xs ys = true := by simpa [alike] using h
  cases ra with
  | @tuple l o vs n _ as₁ h1 h2 h3 h4 =>
    cases rb with
    | @tuple l' o' vs' n' _ bs₁ k1 k2 k3 k4 =>
      have n1 : vs.size = xs.length := by simpa using ReadsAll.length _ _ _ h4
      have n2 : vs'.size = ys.length := by simpa using ReadsAll.length _ _ _ k4
      rw [dataLt_tuple, ← firstLt_toks xs ys hal, ← n1, ← n2] at hq
      rw [oneLt'_eq]
      simp only [if_true]
      refine wpAny_bind (wpAny_cRoomFor (room_here hu) ?_)
      refine wpAny_bind (wpAny_callSpecialIfBound?_slot (T := "tuple") ⟨_, h1, h2⟩ F.slot_tuple_lt (tuple_lt_call (e := pairEq xs ys) (r := fun j => dataLt (xs.getD j .none) (ys.getD j .none)) ⟨_, h1, h2, _, h3⟩ ⟨_, k1, k2, _, k3⟩ (fun j j1 j2 => ?_) (fun j j1 j2 hj => ?_) ?_))
      · have := eqAt_alikeAll xs ys A.in1 s vs.toList vs'.toList _ _ h4 k4 hal (room_in hu) j (by simpa using j1) (by simpa using j2)
        simpa using this
      · have := rcLt_alikeAll xs ys A.in1 s vs.toList vs'.toList _ _ h4 k4 hal (room_in hu) j (by simpa using j1) (by simpa using j2) hj
        simpa using this
      · exact wpAny_truthy_bool hq
def FstOf (h : Heap) (v : Value) (r : Option Value) : Prop := ∃ (a : Addr) (o : Obj) (xs : Array Value) (n : Nat), v = .ref a ∧ h.get? a = some o ∧ o.cls = .type "tuple" ∧ o.data = .seq xs n ∧ xs[0]? = r
theorem firsts_any {M : Model} : ∀ (vs : List Value) (rs : List (Option Value)) {Q : List (Option Value) → Shared → Prop}, EachIs (FstOf s.heap) vs rs → Q rs s → wpAny M A (vs.mapM firstOfTuple') Q E s
  | _, _, _, .nil, h => by rw [List.mapM_nil]; exact wpAny_pure h
  | v :: vs, r :: rs, Q, .cons t1 t, h => by
    obtain ⟨a, o, xs, n, rfl, ho, hc, hd, hf⟩ := t1
    rw [List.mapM_cons]
    refine wpAny_bind ?_
    rw [kas_first_eq]
    refine wpAny_bind (Looks.here (show Looks M s.heap (typeOf (.ref a)) o.cls from (Looks.ld ho).andThen .now) ?_)
    rw [hc, if_neg (by first | decide | simp)]
    refine wpAny_bind (listItems_at ho hd (wpAny_pure ?_))
    rw [hf]
    exact wpAny_bind (firsts_any vs rs (Q := fun bs s' => wpAny M A (pure (r :: bs)) Q E s') t (wpAny_pure h))
theorem looks_fst {M : Model} {v : Value} {r : Option Value} (t : FstOf s.heap v r) : Looks M s.heap (typeOf v) (.type "tuple") := by
  obtain ⟨a, o, xs, n, rfl, ho, hc, hd, hf⟩ := t
  exact hc ▸ (Looks.ld ho).andThen .now
def kindF (rs : List (Option Value)) : SortKind := if (rs.toArray[0]?.bind id).isSome = true then general' else oneType'
theorem kind_any {vs : List Value} {rs : List (Option Value)} {Q : SortKind → Shared → Prop} (t : EachIs (FstOf s.heap) vs rs) (hne : vs ≠ []) (hno : none ∈ rs) (h : Q (kindF rs) s) : wpAny (model prog w) A (keyKind' vs.toArray) Q E s := by
  rw [keyKind'_eq, List.mapM_toArray, map_eq_pure_bind]
  refine wpAny_bind (wpAny_bind (firsts_any vs rs t (wpAny_pure ?_)))
  have hall : (rs.toArray.all fun x => x.isSome) ≠ true := by
    rw [List.all_toArray]
    intro hz
    rw [List.all_eq_true] at hz
    have := hz _ hno
    cases this
  rw [if_neg hall]
  unfold kindF at h
  by_cases hf : (rs.toArray[0]?.bind id).isSome = true
  · rw [if_pos hf] at h ⊢
    exact wpAny_pure h
  · rw [if_neg hf] at h ⊢
    obtain ⟨v₁, rest, rfl⟩ : ∃ v₁ rest, vs = v₁ :: rest := by
      cases vs with
      | nil => exact absurd rfl hne
      | cons v l => exact ⟨v, l, rfl⟩
    rw [oneTypeOnly'_eq, List.mapM_toArray, map_eq_pure_bind]
    refine wpAny_bind (wpAny_bind (wpAny_bind (kas_mapM (r := Value.type "tuple") _ (fun v hv Q' hq => ?_) (wpAny_pure ?_))))
    · obtain ⟨r, _, hr⟩ := t.left v hv
      exact (looks_fst hr).here hq
    · have hall2 : ((List.map (fun _ => Value.type "tuple") (v₁ :: rest)).toArray.all fun x => x == Value.type "tuple") = true := by
        simp only [List.all_toArray, List.all_map, List.all_eq_true]
        intro _ _
        exact beq_self_eq_true _
      have h0 : (List.map (fun _ => Value.type "tuple") (v₁ :: rest)).toArray[0]? = some (Value.type "tuple") := by simp
      rw [h0]
      simp only [hall2, if_true]
      exact wpAny_pure (wpAny_pure h)
theorem each_fst {h : Heap} : ∀ {vs : List Value} {ds : List PyData}, EachIs (fun v d => ∃ as, Reads h v d as) vs ds → (∀ d, d ∈ ds → ∃ xs, d = .tuple xs) → ∃ rs, EachIs (FstOf h) vs rs ∧ (PyData.tuple [] ∈ ds → none ∈ rs)
  | _, _, .nil, _ => ⟨[], .nil, fun h => by cases h⟩
  | _, _, .cons (b := d) ⟨as, r⟩ t, ht => by
    obtain ⟨rs, h1, h2⟩ := each_fst t fun d hd => ht d (List.mem_cons_of_mem _ hd)
    obtain ⟨x, rfl⟩ := ht d List.mem_cons_self
    cases r with
    | @tuple a o xs n _ _ ho hc hd hr =>
      refine ⟨xs[0]? :: rs, .cons ⟨a, o, xs, n, rfl, ho, hc, hd, rfl⟩ h1, fun hm => ?_⟩
      rcases List.mem_cons.mp hm with e | hm
      · cases e
        have : xs.toList = [] := by
          cases q : xs.toList with
          | nil => rfl
          | cons f fr => rw [q] at hr; cases hr
        have e2 : xs[0]? = none := by rw [← Array.getElem?_toList, this]; rfl
        rw [e2]
        exact List.mem_cons_self
      · exact List.mem_cons_of_mem _ (h2 hm)
theorem sortsAt_tups {vs : List Value} {ds : List PyData} (e : EachIs (fun v d => ∃ as, Reads s.heap v d as) vs ds) (hal : AllAlike ds) (ht : ∀ d, d ∈ ds → ∃ xs, d = .tuple xs) (hu : ∀ d, d ∈ ds → A.units + d.depth < cLine) : SortsAt prog w A s (dataKind s.heap ds) vs := by
  by_cases hem : PyData.tuple [] ∈ ds
  · have room : ∀ {d d' : PyData}, d ∈ ds → A.units + min d.depth d'.depth < cLine := fun {d d'} hd => Nat.lt_of_le_of_lt (Nat.add_le_add_left (Nat.min_le_left _ _) _) (hu d hd)
    obtain ⟨rs, t, hno⟩ := each_fst e ht
    refine ⟨fun v hv => ?_, kindF rs, ?_, fun h2 E Q hq => kind_any t (fun e => by rw [e] at h2; simp at h2) (hno hem) hq⟩
    · obtain ⟨d, hd, as, r⟩ := e.left v hv
      exact ⟨_, dataKind_some hal hd r⟩
    · intro E x y a b Q ha hb hq
      obtain ⟨d, as, hd, ra, rfl⟩ := dataKind_inv ha
      obtain ⟨d', as', hd', rb, rfl⟩ := dataKind_inv hb
      obtain ⟨xs, rfl⟩ := ht d hd
      obtain ⟨ys, rfl⟩ := ht d' hd'
      unfold kindF
      by_cases hf : (rs.toArray[0]?.bind id).isSome = true
      · rw [if_pos hf]
        show wpAny (model prog w) A (oneLt' false x y) Q E s
        exact oneLt_alike (fun h => by cases h) ra rb (hal _ hd _ hd') (fun h => by cases h) (room hd) hq
      · rw [if_neg hf, keyLt'_oneType]
        exact oneLt_tuple ra rb (hal _ hd _ hd') (room hd) hq
  · refine SortsAt.data e hal (.inl fun d hd => ?_) hu
    obtain ⟨xs, rfl⟩ := ht d hd
    cases xs with
    | nil => exact absurd hd hem
    | cons x r => exact ⟨x, r, rfl⟩
end
section
variable {prog : Program} {w : World} {A : Around} {E : Value → Shared → Prop} {s : Shared} {β : Type} {R : Value → β → Prop} {enc : β → PyData} {vs : List Value} {bs : List β}
theorem sorted_seq_tups {l : Addr} {T : String} {o : Obj} {n : Nat} {Q : Value → Shared → Prop} (hT : T = "list" ∨ T = "tuple") (ho : s.heap.get? l = some o) (hc : o.cls = .type T) (hd : o.data = .seq vs.toArray n) (hz : vs.length ≤ sizeLine)
    (e : EachIs R vs bs) (er : EachIs (fun v b => ∃ as, Reads s.heap v (enc b) as) vs bs) (hal : AllAlike (bs.map enc)) (hk : ∀ d, d ∈ bs.map enc → ∃ xs, d = .tuple xs) (hu : ∀ b, b ∈ bs → A.units + 2 + (enc b).depth < cLine)
    (h : ∀ (h' : Heap) (out : List Value), (∀ b o, s.heap.get? b = some o → h'.get? b = some o) → out.length = bs.length → EachIs R out (bs.mergeSort (dataLe false enc)) → Q (.ref h'.objs.size) { s with heap := sortedHeap (h'.push (seqObj "list" vs.toArray 0)) h'.objs.size vs out.toArray }) :
    wpAny (model prog w) A (call (.builtin "sorted") [.ref l]) Q E s := by
  refine Calls.call_function_entry kind_sorted plain_sorted entry_sorted (args_sorted1 _) ?_
  unfold Builtin.«sorted»
  refine wpAny_bind (m := checkCount "sorted" 1 1 _) (wpAny_pure ?_)
  refine wpAny_bind (wpAny_collect_seq l hT ho hc hd (fun h' hk' => ?_) (by rw [List.size_toArray]; exact hz))
  refine wpAny_bind (wpAny_newList ?_ hz)
  have hoL : (h'.push (seqObj "list" vs.toArray 0)).get? h'.objs.size = some (seqObj "list" vs.toArray 0) := Heap.get?_push_size _ rfl
  have keep : ∀ b o, s.heap.get? b = some o → b ≠ h'.objs.size ∧ (h'.push (seqObj "list" vs.toArray 0)).get? b = some o := fun b o q =>
    ⟨Nat.ne_of_lt (Heap.lt_size (hk' b o q)), Heap.get?_push_of_some _ (hk' b o q)⟩
  show wpAny _ _ _ _ _ { s with heap := h'.push (seqObj "list" vs.toArray 0) }
  have er' : EachIs (fun v b => ∃ as, Reads (sortingHeap (h'.push (seqObj "list" vs.toArray 0)) h'.objs.size vs) v (enc b) as) vs bs := er.mono fun _ _ ⟨as, r⟩ => ⟨as, PyProof.Rows.Reads.keeps (fun b o q => sortingHeap_old (keep b o q).1 (keep b o q).2) r⟩
  refine wpAny_bind (wpAny_holding (wpAny_call_entry slot_list_sort ⟨_, hoL, rfl⟩ entry_list_sort (list_sort_vals (s := { s with heap := h'.push (seqObj "list" vs.toArray 0) }) (κ := dataKind (sortingHeap (h'.push (seqObj "list" vs.toArray 0)) h'.objs.size vs) (bs.map enc)) hoL
    (sortsAt_tups (s := { s with heap := sortingHeap (h'.push (seqObj "list" vs.toArray 0)) h'.objs.size vs }) (each_map (R := fun v d => ∃ as, Reads (sortingHeap (h'.push (seqObj "list" vs.toArray 0)) h'.objs.size vs) v d as) enc er') hal hk (bound_map hu)) hz ⟨_, rfl, ?_⟩) (args_list_sort _)))
  exact wpAny_pure ⟨_, rfl, h h' _ hk' (by rw [sortVals_length false rfl]; exact e.length) (sortVals_data false e er' hal)⟩
end
def okSortT (ds : List Dt) : Prop := PyData.canLayAll0 (Dt.pyA ds) = true ∧ AllAlike (ds.map Dt.py) ∧ (∀ d, d ∈ ds.map Dt.py → ∃ xs, d = .tuple xs) ∧ PyData.depthAll (Dt.pyA ds) ≤ 60 ∧ Dt.freeA ds = true
def rSortT (K : PySem.W.Frag) : List V → Hp → VK → Prop := fun vs H Q => ∃ (a : Addr) (xs : List V) (ds : List Dt), vs = [V.ref a] ∧ (SqL K H a xs ∨ SqT K H a xs) ∧ RepA K H NoW xs ds ∧ okSortT ds ∧
  ∀ (ys : List V) (p : Addr), RepA K H NoW ys (sortD ds) → H p = none → Q (.ref p) (upd H p (.lst ys))
section
variable {X : Cx}
theorem cr_sortT (hu : X.A.units + 64 < cLine) : CallR X (.builtin "sorted") (rSortT X.K) := by
  intro pins s σ H vs us Q I r h
  obtain ⟨a, xs, ds, rfl, hs, ra, ⟨h1, h2, h3, h4, _⟩, q⟩ := h
  rw [Vals.ref1 r]
  have go : ∀ (its : List Value) (T : String) (o : Obj) (n : Nat), Vals xs its → (T = "list" ∨ T = "tuple") → s.heap.get? a = some o → o.cls = .type T → o.data = .seq its.toArray n → its.length ≤ sizeLine → wpAny (model X.prog X.w) X.A (call (.builtin "sorted") [.ref a]) (EP X pins σ Q) X.xe s := by
    intro its T o n rv hT ho hc hd hz
    obtain ⟨as, rs⟩ := Dp.readsAll I (Dt.pyA ds) xs its (RepA.dp ra h1) rv
    rw [pyA_map] at rs
    have e := rep_each rv ra
    have er := readsAll_each Dt.py rs
    refine sorted_seq_tups hT ho hc hd hz e er h2 h3 (fun b hb => ?_) fun h' out hk hl ho' => ?_
    · have := depth_mem hb
      omega
    · obtain ⟨ys, rv2, ra2⟩ := each_rep ho'
      have I' := I.kept (t' := s.toks) hk
      have hob : (h'.push (seqObj "list" its.toArray 0)).get? h'.objs.size = some (seqObj "list" its.toArray 0) := Heap.get?_push_size _ rfl
      obtain ⟨ep, he'⟩ := PyProof.Rows.sortedHeap_at (vs := its) (out := out.toArray) hob
      have hlen : ys.length ≤ sizeLine := by
        rw [rv2.length, hl, ← e.length]
        exact hz
      refine ⟨.ref _, upd H h'.objs.size (.lst ys), I'.laid (t' := s.toks) (fun b o e => ?_) (Nat.le_refl _) ⟨hlen, out, ep, rv2, he'⟩, rfl, q ys _ ra2 (I'.hok.fresh (Nat.le_refl _))⟩
      have hlt := Heap.lt_size e
      rw [PyProof.Rows.sortedHeap_old (Nat.ne_of_lt hlt) (Heap.lt_size (Heap.get?_push_of_some _ e))]
      exact Heap.get?_push_of_some _ e
  rcases hs with hs | hs
  · obtain ⟨its, rv, hl, hz⟩ := I.list hs
    obtain ⟨o, ho, hc, n, hd⟩ := hl.isList
    exact go its "list" o n rv (.inl rfl) ho hc hd (by rw [← rv.length]; exact hz)
  · obtain ⟨its, rv, hl, hz⟩ := I.tuple hs
    obtain ⟨o, ho, hc, n, hd⟩ := id hl
    exact go its "tuple" o n rv (.inr rfl) ho hc hd (by rw [← rv.length]; exact hz)
end
noncomputable def gSortT : List Dt → Option (List Dt)
  | [.lst xs] => if cdc (okSortT xs) = true then some (sortD xs) else none
  | [.tup xs] => if cdc (okSortT xs) = true then some (sortD xs) else none
  | _ => none
section
variable {T : List Addr} {X : Cx} {K : PySem.W.Frag} {e : Expr} {tr : TA} {fr : FnL} {pos : Pos}
theorem df_sortT {q : Pos} (hu : X.A.units + 64 < cLine) (hm : X.mg "sorted" = none) (ha : DA false T K X [e] tr fr) (hg : Gl X "sorted" := by rfl) (hv : bootBuiltins "sorted" = some (.builtin "sorted") := by decide +kernel)
    (he : starEach [e] X.env = (false, eval e X.env) :: starEach [] X.env := by rfl) (hpl : (backTo pos (starEach [] X.env)).any (·.1) = false := by rfl) (hk : X.K = K := by rfl) :
    DF T K X (.Call (.Name "sorted" q) [e] [] pos) (tCB (rSortT K) tr) (fNL gSortT fr) := by subst hk; exact ⟨pe_callB (cr_sortT hu) hg hm hv ha.pa (by decide) (by decide) he hpl, fun W ρ σ H d Q gd rp e q => by
  obtain ⟨ds, ea, e⟩ := obind e
  refine ha.sd W ρ σ H ds _ gd rp ea fun vs H1 e1 g1 r1 => ?_
  show rSortT X.K vs H1 Q
  have go : ∀ (a : Addr) (xs : List V) (l : List Dt), vs = [V.ref a] → (SqL X.K H1 a xs ∨ SqT X.K H1 a xs) → xs.length ≤ sizeLine → RepA X.K H1 NoW xs l → (if cdc (okSortT l) = true then some (sortD l) else none) = some d → rSortT X.K vs H1 Q := by
    intro a xs l hv hs hz ra h
    by_cases hc : cdc (okSortT l) = true
    · rw [if_pos hc] at h
      cases h
      have ok := cdc_p hc
      refine ⟨a, xs, l, hv, hs, ra, ok, fun ys p ry hn => ?_⟩
      have hl : ys.length ≤ sizeLine := by rw [ry.length, (sortD_perm l).length_eq, ← ra.length]; exact hz
      have hf : Dt.freeA (sortD l) = true := freeA_mem.mpr fun d hd => freeA_mem.mp ok.2.2.2.2 d ((sortD_perm l).mem_iff.mp hd)
      exact q p ys _ (e1.trans (Ext.new hn)) (g1.newL hn hl) (e1.there p hn) upd_same ((ry.ext (Ext.new hn)).free hf)
    · rw [if_neg hc] at h; cases h
  match ds, e, r1 with
  | [.lst l], e, r1 =>
    obtain ⟨v, rfl, r2⟩ := repA1 r1
    cases r2 with
    | lst h1 n1 rb => exact go _ _ l rfl (.inl (.of h1)) (g1.1 _ _ (.inl h1)) rb.loose e
  | [.tup l], e, r1 =>
    obtain ⟨v, rfl, r2⟩ := repA1 r1
    cases r2 with
    | tup h1 rb => exact go _ _ l rfl (.inr (.of h1)) (g1.1 _ _ (.inr h1)) rb.loose e
  | x0 :: y0 :: r0, e, _ => cases x0 <;> cases e⟩
end
/-! rows of ints, empty ones too -/
theorem okSortT_rows (l : List (List Int)) : okSortT (l.map fun r => Dt.tup (r.map Dt.int)) := by
  refine ⟨?_, ?_, ?_, ?_, ?_⟩
  · induction l with
    | nil => simp [Dt.pyA, PyData.canLayAll0]
    | cons r l ih =>
      rw [List.map_cons, Dt.pyA, PyData.canLayAll0, ih, Bool.and_true, Dt.py, PyData.canLay0]
      exact LK.lay_ints r
  · intro d hd d' hd'
    rw [List.map_map] at hd hd'
    obtain ⟨a, _, rfl⟩ := List.mem_map.mp hd
    obtain ⟨b, _, rfl⟩ := List.mem_map.mp hd'
    show alike (Dt.tup (a.map Dt.int)).py (Dt.tup (b.map Dt.int)).py = true
    rw [py_tI, py_tI]
    exact PySem.W.DatumOrd.alike (α := PySem.W.Tup Int) ⟨a⟩ ⟨b⟩
  · intro d hd
    rw [List.map_map] at hd
    obtain ⟨a, ha, rfl⟩ := List.mem_map.mp hd
    exact ⟨_, py_tI a⟩
  · have : PyData.depthAll (Dt.pyA (l.map fun r => Dt.tup (r.map Dt.int))) ≤ 2 := by
      induction l with
      | nil => simp [Dt.pyA, PyData.depthAll]
      | cons r l ih =>
        rw [List.map_cons, Dt.pyA, PyData.depthAll, py_tI, PyData.depth]
        have h := LK.depth_ints r
        rw [LK.pyA_ints] at h
        omega
    omega
  · refine freeA_mem.mpr fun d hd => ?_
    obtain ⟨a, _, rfl⟩ := List.mem_map.mp hd
    show Dt.freeA (a.map Dt.int) = true
    refine freeA_mem.mpr fun d hd => ?_
    obtain ⟨i, _, rfl⟩ := List.mem_map.mp hd
    rfl
theorem gSortT_l (l : List (List Int)) : gSortT [.lst (l.map fun r => Dt.tup (r.map Dt.int))] = some ((isortR l).map fun r => Dt.tup (r.map Dt.int)) := by
  show (if cdc _ = true then some (sortD _) else none) = _
  rw [if_pos (cdc_t (okSortT_rows l)), sortD_rows]
theorem gSortT_t (l : List (List Int)) : gSortT [.tup (l.map fun r => Dt.tup (r.map Dt.int))] = some ((isortR l).map fun r => Dt.tup (r.map Dt.int)) := by
  show (if cdc _ = true then some (sortD _) else none) = _
  rw [if_pos (cdc_t (okSortT_rows l)), sortD_rows]
end EL
end

section
set_option Elab.async false
set_option maxRecDepth 100000
set_option maxHeartbeats 4000000
/-! EL: sorted(ints, reverse=True). -/
namespace EL
open PySem PySem.Spec PySem.W PyProof.Rows L2 HT
def gSortRev : List Dt → Option (List Dt)
  | [.lst xs] => (ints? xs).bind fun ns => some ((sortI ns).reverse.map Dt.int)
  | _ => none
theorem sortRev_one {ns ms : List Int} (hp : ms.Perm ns) (hs : ms.Pairwise (· ≥ ·)) : ms = (sortI ns).reverse := by
  have h1 : ms.reverse = sortI ns := sortI_one ((List.reverse_perm ms).trans hp) (by rw [List.pairwise_reverse]; exact hs)
  rw [← h1, List.reverse_reverse]
section
variable {T : List Addr} {X : Cx} {K : PySem.W.Frag} {a b : Expr} {ta : TA} {tb : TE} {fr : FnL} {pos q1 kpos : Pos}
theorem df_sortedRev (hm : X.mg "sorted" = none) (ha : DA false T K X [a] ta fr) (hb : DE false T K X b tb (fC (.bl true))) (hg : Gl X "sorted" := by rfl) (hv : bootBuiltins "sorted" = some (.builtin "sorted") := by decide +kernel)
    (he2 : backTo pos (starEach [a] X.env) = (false, eval a X.env) :: backTo pos (starEach [] X.env) := by rfl) (hpl : (backTo pos (starEach [a] X.env)).any (·.1) = false := by rfl)
    (hall : (backToKw pos (keywordEach [⟨some "reverse", b, kpos⟩] X.env)).all (·.1.isSome) = true := by rfl) (hnone : (backToKw pos (keywordEach [⟨some "reverse", b, kpos⟩] X.env)).any (·.1.isNone) = false := by rfl) (hks : (backToKw pos (keywordEach [⟨some "reverse", b, kpos⟩] X.env)).filterMap (·.1) = [Str.ofString "reverse"] := by rfl) (hk : X.K = K := by rfl) :
    DF T K X (.Call (.Name "sorted" q1) [a] [⟨some "reverse", b, kpos⟩] pos) (tCKw (rSortedKw K true [.bl true]) ta (tCons tb tNil)) (fNL gSortRev fr) := by
  subst hk
  exact ⟨pe_callBK cr_sortedRev hg hm hv ha.pa (pk_cons hb.pe pk_nil) (by decide) (by decide) he2 hpl hall hnone hks, fun W ρ σ H d Q gd rp e q => by
    obtain ⟨ds, ea, e⟩ := obind e
    refine ha.sd W ρ σ H ds _ gd rp ea fun vs H1 e1 g1 r1 => ?_
    show tCons tb tNil σ H1 fun zs H2 => rSortedKw _ true [.bl true] vs zs H2 Q
    refine hb.sd W ρ σ H1 (.bl true) _ g1 (rp.ext e1) rfl fun z H2 e2 g2 r2 => ?_
    cases r2
    show rSortedKw _ true [.bl true] vs [.bl true] H2 Q
    have r1' := r1.ext e2
    match ds, e, r1' with
    | [.lst l], e, r1' =>
      obtain ⟨v, rfl, r3⟩ := repA1 r1'
      cases r3 with
      | lst h1 n1 ra =>
        obtain ⟨ns, h2, h3⟩ := obind e
        cases h3
        have hd := ints?_some h2
        rw [hd] at ra
        have hz := g2.1 _ _ (.inl h1)
        rw [ra.ints] at h1 hz
        refine ⟨_, ns, rfl, rfl, .of h1, fun ms p hp hs hn => ?_⟩
        have e9 := sortRev_one hp hs
        subst e9
        refine q p _ _ ((e1.trans e2).trans (Ext.new hn)) (g2.newL hn ?_) ((e1.trans e2).there p hn) upd_same (repA_ints _)
        rw [List.length_map, List.length_reverse, (sortI_perm ns).length_eq]
        rw [List.length_map] at hz
        exact hz
    | [.non], e, _ => cases e
    | [.bl _], e, _ => cases e
    | [.int _], e, _ => cases e
    | [.str _], e, _ => cases e
    | [.tup _], e, _ => cases e
    | [.scr _], e, _ => cases e
    | [.dcK _ _], e, _ => cases e
    | [.dcT _ _], e, _ => cases e
    | x0 :: y0 :: r0, e, _ => cases x0 <;> cases e⟩
end
theorem gSortRev_l (l : List Int) : gSortRev [.lst (l.map Dt.int)] = some ((sortI l).reverse.map Dt.int) := by
  show ((ints? (l.map Dt.int)).bind fun ns => some ((sortI ns).reverse.map Dt.int)) = _
  rw [ints?_map]; rfl
end EL
end

section
set_option Elab.async false
set_option maxRecDepth 100000
set_option maxHeartbeats 4000000
/-! EL: all and any of a generator expression whose own name is a cell (a comprehension within it keeps the name). The twins of ET's rules. -/
namespace EL
open PySem PySem.Spec PyProof.Rows L2 GenW

theorem cf_mem : ∀ (names : List (Str × NameKind)) (n : Nat) (acc : List (Str × Addr)) (x : Str) (c : Addr), (x, c) ∈ cellsFrom n names acc → (x, c) ∈ acc ∨ (n ≤ c ∧ (x, NameKind.cell) ∈ names)
  | [], _, _, _, _, h => .inl h
  | (nm, k) :: r, n, acc, x, c, h => by
    unfold cellsFrom at h
    split at h
    · rename_i hk
      have hk : k = .cell := by simpa using hk
      rcases cf_mem r _ _ x c h with h | ⟨h1, h2⟩
      · rcases List.mem_cons.mp h with e | h
        · cases e
          exact .inr ⟨Nat.le_refl _, by rw [hk]; exact List.mem_cons_self⟩
        · exact .inl h
      · exact .inr ⟨Nat.le_of_succ_le h1, List.mem_cons_of_mem _ h2⟩
    · rcases cf_mem r _ _ x c h with h | ⟨h1, h2⟩
      · exact .inl h
      · exact .inr ⟨h1, List.mem_cons_of_mem _ h2⟩
theorem cf_inj : ∀ (names : List (Str × NameKind)) (n : Nat) (acc : List (Str × Addr)) (x y : Str) (c : Addr), (∀ p ∈ acc, p.2 < n) → (x, c) ∈ cellsFrom n names acc → (y, c) ∈ cellsFrom n names acc → n ≤ c → x = y
  | [], n, acc, x, y, c, ha, h1, _, hc => by
    have : c < n := ha _ h1
    exact absurd (Nat.lt_of_lt_of_le this hc) (Nat.lt_irrefl _)
  | (nm, k) :: r, n, acc, x, y, c, ha, h1, h2, hc => by
    unfold cellsFrom at h1 h2
    split at h1
    · rename_i hk
      rw [if_pos hk] at h2
      have ha' : ∀ p ∈ (nm, n) :: acc, p.2 < n + 1 := fun p hp => by
        rcases List.mem_cons.mp hp with rfl | hp
        · exact Nat.lt_succ_self _
        · exact Nat.lt_succ_of_lt (ha p hp)
      by_cases e : c = n
      · subst e
        have aux : ∀ z, (z, c) ∈ cellsFrom (c + 1) r ((nm, c) :: acc) → z = nm := fun z hz => by
          rcases cf_mem r _ _ z c hz with h | ⟨h, _⟩
          · rcases List.mem_cons.mp h with e | h
            · cases e; rfl
            · have : c < c := ha _ h
              exact absurd this (Nat.lt_irrefl _)
          · exact absurd h (Nat.not_succ_le_self _)
        rw [aux x h1, aux y h2]
      · exact cf_inj r (n + 1) _ x y c ha' h1 h2 (Nat.lt_of_le_of_ne hc (Ne.symm e))
    · rename_i hk
      rw [if_neg hk] at h2
      exact cf_inj r n acc x y c ha h1 h2 hc

structure GenOk2 (XN N : List Str) (cap : List (Option Nat)) (sc scope : Scope) : Prop where
  kind : scope.kind = .function
  co : scope.isCoroutine = false
  dot : scope.names.lookup (".0" : Str) = some NameKind.local
  one : ∀ y ∈ scope.names, scope.names.lookup y.1 = some y.2
  free : ∀ y ∈ scope.names, y.2 = .free → sc.names.lookup y.1 = some .cell ∨ sc.names.lookup y.1 = some .free
  len : cap.length = N.length
  at_ : ∀ (i j : Nat), cap[i]? = some (some j) → ∃ x : Str, N[i]? = some x ∧ XN[j]? = some x ∧ scope.names.lookup x = some .free
def genB2 (XN N : List Str) (cap : List (Option Nat)) (sc scope : Scope) : Bool :=
  (match scope.kind with | .function => true | _ => false) && !scope.isCoroutine && decide (scope.names.lookup (".0" : Str) = some NameKind.local) &&
    (scope.names.all fun y => match y.2 with
      | .free => (match sc.names.lookup y.1 with | some .cell => true | some .free => true | _ => false)
      | _ => true) && decide (cap.length = N.length) &&
    ((List.range cap.length).all fun i => match cap[i]? with
      | some (some j) => (match N[i]? with | some x => decide (XN[j]? = some x) && decide (scope.names.lookup x = some .free) | none => false)
      | _ => true) && (scope.names.all fun y => decide (scope.names.lookup y.1 = some y.2))
theorem genOk2_by {XN N : List Str} {cap : List (Option Nat)} {sc scope : Scope} (h : genB2 XN N cap sc scope = true) : GenOk2 XN N cap sc scope := by
  unfold genB2 at h
  simp only [Bool.and_eq_true, List.all_eq_true, decide_eq_true_eq, Bool.not_eq_true'] at h
  obtain ⟨⟨⟨⟨⟨⟨h1, h2⟩, h3⟩, h4⟩, h5⟩, h6⟩, h7⟩ := h
  refine ⟨?_, h2, h3, fun y hy => h7 y hy, fun y hy e => ?_, h5, fun i j e => ?_⟩
  · split at h1
    · assumption
    · cases h1
  · have q := h4 y hy
    simp only [e] at q
    split at q <;> first | exact .inl (by assumption) | exact .inr (by assumption) | cases q
  · have hi : i < cap.length := (List.getElem?_eq_some_iff.mp e).1
    have q := h6 i (List.mem_range.mpr hi)
    rw [e] at q
    simp only at q
    split at q
    · rename_i x hx
      simp only [Bool.and_eq_true, decide_eq_true_eq] at q
      exact ⟨x, hx, q.1, q.2⟩
    · cases q

/-- the context of a generator expression's frame with cells of its own -/
abbrev gcx2 (X : Cx) (s : Shared) (H : Hp) (N : List Str) (cenv : Env) (A : Around) (fp : List Addr) (go : Addr × Obj) : Cx :=
  { prog := X.prog, w := X.w, K := X.K, mg := X.mg, base := X.base, A := A, N := N, s_0 := s, H_0 := H, env := cenv, outer := X.stack, stack := cenv :: X.stack, ex := fp, fn := fun y => decide (cenv.scope.names.lookup y = some .cell), calm := X.calm, pn := [go], xe := fun _ _ => False }
abbrev genv2 (X : Cx) (scope : Scope) (C : Addr) (code : Value) : Env := genEnv scope (cellsFrom (C + 1) scope.names (cloFrom X.env.cells scope.names [])) C code builtinsNs X.env

section
variable {M : Model} {A : Around} {E : Value → Shared → Prop} {s : Shared}
theorem gen_make2 {env : Env} {elt target iter : Expr} {ifs : List Expr} {scope : Scope} {cl : List (Str × Addr)} {pos : Pos} {Q : Value → Shared → Prop}
    (hco : scope.isCoroutine = false) (hclos : closureFor scope env = pure cl) (h0 : scope.names.lookup (".0" : Str) = some NameKind.local) (hkind : scope.kind = .function)
    (hroom : A.depth < recursionLimit)
    (h : wpAny M A (eval iter env) (fun xv s₁ => wpAny M A (pyIter xv) (fun it s₂ => s₂.heap.NoLimit ∧
      wpAny M A (genexprCode env pos (env.qual ++ "<genexpr>") scope) (fun code s₃ => wpAny M A (builtinsFor env.globals env.builtins) (fun bi s₄ =>
        ∀ h' : Heap, h'.Ns s₄.heap.objs.size (fun y => if y = ".0" then some it else none) → (∀ b o, s₄.heap.get? b = some o → h'.get? b = some o) →
          (∀ c, s₄.heap.objs.size < c → (pushCells (s₄.heap.push { cls := .type "frame", data := .dict #[] }) scope.names).IsCell c none → h'.IsCell c none) → s₄.heap.objs.size < h'.objs.size →
          Q (.ref h'.objs.size) { s₄ with
            gens := s₄.gens.push (.fresh (.compStart (.GeneratorExp elt [⟨target, iter, ifs, 0⟩] scope pos) 0 it .none (genEnv scope (cellsFrom (s₄.heap.objs.size + 1) scope.names cl) s₄.heap.objs.size code bi env))),
            toks := s₄.toks + 1 + 1 + 1,
            heap := h'.push { cls := .type "generator", data := .fields #[.int s₄.gens.size 0, .str "<genexpr>" (s₄.toks + 1), .str (env.qual ++ "<genexpr>") (s₄.toks + 1 + 1)] } }) E s₃) E s₂) E s₁) E s)
    (hs : ∀ x, genFold iter env x = pure x) :
    wpAny M A (eval (.GeneratorExp elt [⟨target, iter, ifs, 0⟩] scope pos) env) Q E s := by
  rw [eval_GeneratorExp1 _ _ _ _ _ _ _ hco, hclos]
  refine wpAny_bind (wpAny_mono h (fun xv s₁ h₁ => ?_) fun _ _ e => e)
  refine wpAny_bind (wpAny_standAt ?_)
  refine wpAny_bind (wpAny_of_eq (hs xv) ?_)
  refine wpAny_bind (wpAny_holding (wpAny_mono h₁ (fun it s₂ h₂ => ?_) fun _ _ e => e))
  refine wpAny_bind (wpAny_enterFrame h₂.1 hroom ?_)
  refine wpAny_bind (wpAny_pure ?_)
  refine wpAny_bind (wpAny_mono h₂.2 (fun code s₃ h₃ => ?_) fun _ _ e => e)
  refine wpAny_bind (wpAny_mono h₃ (fun bi s₄ h₄ => ?_) fun _ _ e => e)
  refine wpAny_bind ?_
  simp only [newFunctionEnv, Option.isSome_none, Bool.false_eq_true, if_false]
  refine wpAny_bind (wpAny_alloc ?_)
  refine wpAny_bind (wpAny_layCells _ (fun name kind cells => by cases hkc : kind == NameKind.cell <;> simp [hkc]) _ _ _ _ ?_)
  rw [show ({ s₄ with heap := s₄.heap.push { cls := .type "frame", data := .dict #[] } } : Shared).heap.objs.size = s₄.heap.objs.size + 1 from Heap.size_push ..]
  rw [List.forIn_cons]
  have kp0 : ∀ b o, s₄.heap.get? b = some o → (pushCells (s₄.heap.push { cls := .type "frame", data := .dict #[] }) scope.names).get? b = some o := fun b o e => pushCells_keeps _ _ b o (Heap.get?_push_of_some _ e)
  refine wpAny_bind (wpAny_bind (wpAny_bind (wpAny_storeName_local h0 ((Heap.Ns.new s₄.heap (.type "frame")).keeps (pushCells_keeps _ _)) (fun h' hn' hs' => wpAny_pure ?_) (by show (scope.kind == .class || (scope.kind == .module && _)) = false; rw [hkind]; rfl))))
  show wpAny M A (forIn ([] : List (Str × Value)) PUnit.unit _) _ _ _
  rw [List.forIn_nil]
  refine wpAny_pure (wpAny_pure ?_)
  simp only [newGenerator, newFields]
  have hlt : s₄.heap.objs.size < h'.objs.size := hn'.lt
  refine wpAny_bind (wpAny_newGen (wpAny_bind (wpAny_mkText (wpAny_bind (wpAny_mkText (wpAny_newObj_type ?_ (by size_fits)))))))
  exact h₄ h' hn' (fun b o e => hs'.extBut b o (Nat.ne_of_lt (Heap.lt_size e)) (kp0 b o e)) (fun c hc x => x.sameBut hs' (Nat.ne_of_gt hc)) hlt
end

section
variable {X : Cx} {pins : List (Addr × Obj)} {σ : L2.St} {H : Hp} {s : Shared}
theorem gen_start2 {scope : Scope} {N : List Str} {cap : List (Option Nat)} {fp : List Addr} {code : Value} {a : Addr} {go : Obj} {A : Around} (I : Inv X pins σ H s) (G : GenOk2 X.N N cap X.env.scope scope)
    (hfp : ∀ b ∈ fp, FpOk X pins H b ∧ b < s.heap.objs.size) (hd : X.calm = true → A.handled = none) (hfr : A.frames = some (genv2 X scope s.heap.objs.size code :: X.stack)) {h' : Heap} {m : Str → Option Value} {gs : Array GenState} {tk : Nat}
    (kp : ∀ b o, s.heap.get? b = some o → h'.get? b = some o) (hns : h'.Ns s.heap.objs.size m) (ha : s.heap.objs.size < a) (hgo : h'.get? a = some go) (hgd : ∀ v, go.data ≠ .cell v) (hbare : AllBare gs)
    (hcl : ∀ c, s.heap.objs.size < c → (pushCells (s.heap.push { cls := .type "frame", data := .dict #[] }) scope.names).IsCell c none → h'.IsCell c none) :
    Inv (gcx2 X s H N (genv2 X scope s.heap.objs.size code) A fp (a, go)) [] (capS σ cap) H { s with gens := gs, toks := tk, heap := h' } := by
  have hfree : ∀ y ∈ scope.names, y.2 = .free → ∃ c, X.env.cells.lookup y.1 = some c := fun y hy e => by
    rcases G.free y hy e with k | k
    · exact I.ok.has _ (.inl k)
    · exact I.ok.has _ (.inr k)
  have accm : ∀ {y c}, (y, c) ∈ cloFrom X.env.cells scope.names [] → X.env.cells.lookup y = some c ∧ (y, NameKind.free) ∈ scope.names := fun {y c} hm => by
    rcases cloFrom_mem hm with hm | ⟨h1, h2⟩
    · cases hm
    · obtain ⟨c1, hc⟩ := hfree _ h1 rfl
      have hc : X.env.cells.lookup y = some c1 := hc
      refine ⟨?_, h1⟩
      rw [h2, hc]
      rfl
  have clt : ∀ {y c}, X.env.cells.lookup y = some c → c < s.heap.objs.size := fun {y c} e => by
    obtain ⟨v, z⟩ := I.cell y c e
    exact z.lt
  have accl : ∀ p ∈ cloFrom X.env.cells scope.names [], p.2 < s.heap.objs.size + 1 := fun p hp => Nat.lt_succ_of_lt (clt (accm (y := p.1) (c := p.2) hp).1)
  have cm : ∀ {y c}, (cellsFrom (s.heap.objs.size + 1) scope.names (cloFrom X.env.cells scope.names [])).lookup y = some c → (X.env.cells.lookup y = some c ∧ c < s.heap.objs.size ∧ (y, NameKind.free) ∈ scope.names) ∨ (s.heap.objs.size < c ∧ (y, NameKind.cell) ∈ scope.names ∧ h'.IsCell c none) := fun {y c} e => by
    have hm := PySem.mem_of_lookup e
    rcases cf_mem _ _ _ _ _ hm with h | ⟨h1, h2⟩
    · exact .inl ⟨(accm h).1, clt (accm h).1, (accm h).2⟩
    · refine .inr ⟨h1, h2, hcl c h1 ?_⟩
      have hz : (s.heap.push { cls := .type "frame", data := .dict #[] }).objs.size = s.heap.objs.size + 1 := Heap.size_push ..
      rw [← hz] at hm
      rcases oc_cells_mem hm with h | ⟨_, h⟩
      · have : c < s.heap.objs.size := clt (accm h).1
        exact absurd (Nat.lt_trans this h1) (Nat.lt_irrefl _)
      · exact h
  have chas : ∀ {y c}, (y, NameKind.free) ∈ scope.names → X.env.cells.lookup y = some c → (cellsFrom (s.heap.objs.size + 1) scope.names (cloFrom X.env.cells scope.names [])).lookup y = some c := fun {y c} hm hc => by
    have h1 := oc_acc_some scope.names (s.heap.objs.size + 1) (cloFrom X.env.cells scope.names []) y (by rw [NdefX.clo_has hfree hm hc]; rfl)
    obtain ⟨c', hc'⟩ := Option.isSome_iff_exists.mp h1
    rcases cm hc' with ⟨h2, _⟩ | ⟨_, h2, _⟩
    · rw [hc'] ; rw [hc] at h2; exact h2.symm
    · have a1 := G.one _ hm
      have a2 := G.one _ h2
      rw [a1] at a2
      cases a2
  refine ⟨⟨I.ok.mod, G.kind, I.ok.glob, rfl, Nat.le_refl _, fun y z c e1 e2 => ?_, fun y hy => ?_, fun y c z e => ?_, hd, hfr, .inr ⟨rfl, rfl⟩, fun b hb => ⟨?_, fun y c e => ?_⟩, I.bs, Nat.le_trans I.ok.bsz I.sz, fun b o e hb => ?_, fun b hb z => ?_, I.stack, I.stkFree⟩,
    rfl, hbare, Un.kept kp, ⟨m, hns, fun i x v e1 e2 e3 => ?_⟩, fun y c e => ?_, I.hok.fresh (Nat.le_refl _), fun y c e => ?_, fun p hp => ?_, I.hok.kept kp, ?_⟩
  · rcases cm e1 with ⟨h1, h2, _⟩ | ⟨h1, _⟩
    · rcases cm e2 with ⟨h3, _⟩ | ⟨h3, _⟩
      · exact I.ok.inj y z c h1 h3
      · exact absurd (Nat.lt_trans h2 h3) (Nat.lt_irrefl _)
    · exact cf_inj _ _ _ y z c accl (PySem.mem_of_lookup e1) (PySem.mem_of_lookup e2) h1
  · rcases hy with hy | hy
    · exact Option.isSome_iff_exists.mp (oc_cell_some scope.names _ _ y hy)
    · have hm := PySem.mem_of_lookup (show scope.names.lookup y = some .free from hy)
      obtain ⟨c, hc⟩ := hfree _ hm rfl
      exact ⟨c, chas hm hc⟩
  · have z : scope.names.lookup y = some .cell := of_decide_eq_true z
    rcases cm e with ⟨_, _, h3⟩ | ⟨h1, _⟩
    · have a1 := G.one _ h3
      rw [z] at a1
      cases a1
    · exact Nat.le_of_lt h1
  · exact Nat.ne_of_lt (hfp b hb).2
  · rcases cm e with ⟨h1, _⟩ | ⟨h1, _⟩
    · exact (hfp b hb).1.2.2.2.2.1 y c h1
    · exact fun z => by
        rw [z] at h1
        exact Nat.lt_asymm h1 (hfp b hb).2
  · rcases (hfp b hb).1.2.2.2.1 with z | z
    · exact I.ok.noex b o e z
    · exact absurd (Nat.lt_of_lt_of_le (Heap.lt_size e) (Nat.le_trans I.ok.bsz z)) (Nat.lt_irrefl _)
  · rcases List.mem_cons.mp (I.stkSub b z) with z | z
    · exact (hfp b hb).1.2.1 z
    · exact (hfp b hb).1.2.2.1 z
  · obtain ⟨j, c1, c2⟩ := capS_at e2
    obtain ⟨y, n1, n2, n3⟩ := G.at_ i j c1
    have e1 : N[i]? = some x := e1
    rw [n1] at e1
    cases e1
    have hm := PySem.mem_of_lookup n3
    have hvis : Vis X.env.scope x := (G.free _ hm rfl).elim (fun k => .inr (.inl k)) (fun k => .inr (.inr k))
    obtain ⟨m0, _, hl⟩ := I.loc
    obtain ⟨u, r, q⟩ := hl j x v n2 c2 hvis
    refine ⟨u, r, .inr ⟨.inr n3, ?_⟩⟩
    rcases q with ⟨k, _⟩ | ⟨_, c, hc, z⟩
    · have k : X.env.scope.names.lookup x = some .local := k
      rcases G.free _ hm rfl with k' | k' <;> rw [show X.env.scope.names.lookup x = _ from k'] at k <;> cases k
    · exact ⟨c, chas hm hc, z.keeps kp⟩
  · rcases cm e with ⟨h1, _⟩ | ⟨_, _, h1⟩
    · obtain ⟨v, z⟩ := I.cell y c h1
      exact ⟨v, z.keeps kp⟩
    · exact ⟨_, h1⟩
  · rcases cm e with ⟨h1, _⟩ | ⟨h1, _⟩
    · exact I.freeC y c h1
    · exact I.hok.fresh (Nat.le_of_lt h1)
  · obtain rfl : p = (a, go) := by simpa using hp
    refine ⟨hgo, I.hok.fresh (Nat.le_of_lt ha), Nat.ne_of_gt ha, fun z => ?_, hgd⟩
    rcases List.mem_cons.mp (I.stkSub a z) with z | z
    · have h1 := I.lt
      rw [← z] at h1
      exact Nat.lt_asymm h1 ha
    · exact I.nofs (Nat.le_of_lt ha) z
  · rw [capS_len]
    exact G.len
end

section
variable {X : Cx} {H4 : Hp} {s4 : Shared} {N : List Str} {cenv : Env} {fp : List Addr} {a it : Addr} {go : Obj} {elt tg iter : Expr} {scope : Scope} {pos : Pos} {tn : Nat → Heap → Prop} {J : It} {g : TG} {te : TE} {σ0 : L2.St} {stop : Bool} {Ag : Around} {Q : VK} {W : Nat → Nat → Hp → Prop}
theorem gen_seg2 (hc : X.calm = true) (T : Turn X.prog X.w X.K tg J fp it tn) (hfa : ∀ b ∈ fp, a ≠ b) (hco : cenv.scope.isCoroutine = false) {Y : Cx} (hY : Y = gcx2 X s4 H4 N cenv (Ag.over (.compLoop (.GeneratorExp elt [⟨tg, iter, [], 0⟩] scope pos) 0 (.ref it) .none cenv) []) fp (a, go))
    (pg : PG Y tg g) (pe : PE Y elt te) (step : Steps stop J g te σ0 Q W) :
    ∀ (m i n : Nat) (s₀ s : Shared) (H : Hp), m ≤ n → W i m H → Inv Y [] σ0 H s → tn i s.heap → (∀ b ∈ fp, H b = none) →
      Seg (model X.prog X.w) Ag (GRb Y σ0 stop Q) (GYb Y σ0 stop Q) n s₀ (.compLoop (.GeneratorExp elt [⟨tg, iter, [], 0⟩] scope pos) 0 (.ref it) .none cenv)
        ((model X.prog X.w).den (.compLoop (.GeneratorExp elt [⟨tg, iter, [], 0⟩] scope pos) 0 (.ref it) .none cenv)) [] s := by
  intro m
  induction m using Nat.strongRecOn with
  | ind m ih =>
    intro i n s₀ s H hn w I st nfp
    have stat : ∀ {σ' : L2.St} {H' : Hp} {s' : Shared}, Inv Y [] σ' H' s' → (∀ b ∈ fp, H' b = none) → ∀ b ∈ fp, FpOk Y [] H' b := fun {σ' H' s'} I' hn b hb => by
      subst hY
      exact ⟨hn b hb, (I'.ok.exf b hb).1, I'.ok.exfs b hb, .inl hb, fun x c e => (I'.ok.exf b hb).2 x c e, fun p hp => by
        obtain rfl : p = (a, go) := by simpa using hp
        exact hfa b hb⟩
    have hA : Ag.over (.compLoop (.GeneratorExp elt [⟨tg, iter, [], 0⟩] scope pos) 0 (.ref it) .none cenv) [] = Y.A := by rw [hY]
    have hP : Y.prog = X.prog := by rw [hY]
    have hW : Y.w = X.w := by rw [hY]
    have hK : Y.K = X.K := by rw [hY]
    have hE : Y.env = cenv := by rw [hY]
    have hX : Y.xe = fun _ _ => False := by rw [hY]
    have hC : Y.calm = true := by rw [hY]; exact hc
    show Seg _ Ag _ _ n s₀ _ ((compTurn (.GeneratorExp elt [⟨tg, iter, [], 0⟩] scope pos) 0 (.ref it) .none cenv).onRaise (leaving cenv)) [] s
    rw [compTurn_gen, Sem.onRaise_eq_wrap]
    refine seg_bind_wrap (wpAny_standAt ?_)
    rcases step i m H w with ⟨hstop, q⟩ | ⟨hgo, hm0, Nx, hNx, stp⟩
    · refine seg_bind_wrap (thnF ?_ fun r s1 (h1 : r = none ∧ Inv Y [] σ0 H s1) => ?_)
      · rw [hA]
        exact T.done Y hP hW hK hC i [] s σ0 H (fun _ _ => False) I (stat I nfp) st hstop
      · obtain ⟨rfl, I1⟩ := h1
        exact seg_end (.ok .next) (.inl ⟨.inr rfl, H, I1, q⟩)
    · refine seg_bind_wrap (thnF ?_ fun r s6 (h6 : ∃ u, r = some u ∧ wpAny (model X.prog X.w) Y.A (letOwnedTupleGo tg (.ref it) u) (fun _ s2 => ∃ x H', Inv Y [] σ0 H' s2 ∧ RelV x u ∧ J.yld i H x H' ∧ tn (i + 1) s2.heap ∧ ∀ b ∈ fp, H' b = none) (fun _ _ => False) s6) => ?_)
      · rw [hA]
        exact T.item Y hP hW hK hC i [] s σ0 H (fun _ _ => False) I (stat I nfp) st hgo
      obtain ⟨u, rfl, h6⟩ := h6
      refine seg_bind_wrap ?_
      rw [hA]
      refine thnF h6 fun _ s7 ⟨x, H7, I7, r7, y7, st7, n7⟩ => ?_
      have I7' := I7.pinned (stat I7 n7) (T.obj _ _ st7)
      have pgr := pg.run _ s7 _ H7 x u _ I7' r7 (stp x H7 y7)
      rw [hX, hP, hW, hE] at pgr
      refine seg_bind_wrap ?_
      rw [hA]
      refine thnF pgr fun _ s8 ⟨σ8, H8, I8, hw8, q8⟩ => ?_
      refine seg_bind_wrap (wpAny_of_eq (List.forIn_nil ..) ?_)
      simp only [if_true]
      have hy : ∀ v, yieldOut cenv v = yieldValue v := fun v => by simp only [yieldOut, hco, Bool.false_eq_true, if_false]
      simp only [hy]
      rw [Sem.bind_eq_wrap', Sem.bind_eq_wrap', Sem.wrap_wrap, Sem.wrap_wrap]
      have per := pe.run _ s8 σ8 H8 _ I8 q8
      rw [hX, hP, hW, hE] at per
      refine seg_wrap ?_
      rw [hA]
      refine thnF per fun z s9 ⟨yv, H9, I9, r9, b, hb, nx⟩ => ?_
      subst hb
      obtain rfl : z = Value.bool b := r9
      have pin' : ∀ b ∈ fp, ∀ o, s7.heap.get? b = some o → s9.heap.get? b = some o ∧ H9 b = none := fun b hb o e =>
        let z := I9.pin (b, o) (List.mem_append_right _ (List.mem_append_right _ (mem_pinsAt hb e)))
        ⟨z.1, z.2.1⟩
      have I10 : Inv Y [] σ0 H9 s9 := (I9.unpinned (pins := [])).weak hw8.1.symm hw8.2
      have st10 : tn (i + 1) s9.heap := T.keep _ _ _ st7 fun b hb o e => (pin' b hb o e).1
      have n10 : ∀ b ∈ fp, H9 b = none := fun b hb => by
        obtain ⟨o, e, _⟩ := T.obj _ _ st7 b hb
        exact (pin' b hb o e).2
      obtain ⟨n', rfl⟩ : ∃ n', n = n' + 1 := ⟨n - 1, by omega⟩
      refine seg_at (seg_yield rfl rfl rfl ⟨b, H9, rfl, I10, ?_⟩)
      by_cases hbs : b = stop
      · rw [if_pos hbs] at nx ⊢
        exact nx
      · rw [if_neg hbs] at nx ⊢
        intro s'' hh ho hg
        obtain ⟨m', hm, w'⟩ := hNx H9 nx
        refine seg_again rfl (ih m' hm (i + 1) n' s'' s'' H9 (by omega) w' (inv_gens I10 (fun b o e => by rw [hh]; exact e) ho hg) (by rw [hh]; exact st10) n10)
theorem gen_seg02 (hc : X.calm = true) (T : Turn X.prog X.w X.K tg J fp it tn) (hfa : ∀ b ∈ fp, a ≠ b) (hco : cenv.scope.isCoroutine = false) {Y : Cx} (hY : Y = gcx2 X s4 H4 N cenv (Ag.over (.compLoop (.GeneratorExp elt [⟨tg, iter, [], 0⟩] scope pos) 0 (.ref it) .none cenv) []) fp (a, go))
    (pg : PG Y tg g) (pe : PE Y elt te) (step : Steps stop J g te σ0 Q W) (m n : Nat) (s₀ s : Shared) (H : Hp) (hn : m ≤ n) (w : W 0 m H) (I : Inv Y [] σ0 H s) (st : tn 0 s.heap) (nfp : ∀ b ∈ fp, H b = none) :
      Seg (model X.prog X.w) Ag (GRb Y σ0 stop Q) (GYb Y σ0 stop Q) n s₀ (.compStart (.GeneratorExp elt [⟨tg, iter, [], 0⟩] scope pos) 0 (.ref it) .none cenv)
        ((model X.prog X.w).den (.compStart (.GeneratorExp elt [⟨tg, iter, [], 0⟩] scope pos) 0 (.ref it) .none cenv)) [] s := by
  have loop := gen_seg2 hc T hfa hco hY pg pe step m 0 n s₀ s H hn w I st nfp
  show Seg _ Ag _ _ n s₀ _ ((compStart (.GeneratorExp elt [⟨tg, iter, [], 0⟩] scope pos) 0 (.ref it) .none cenv).onRaise (leaving cenv)) [] s
  unfold compStart
  rw [Sem.onRaise_eq_wrap]
  show Seg _ Ag _ _ n s₀ _ ((ask >>= _).wrap _ _ _ _) [] s
  refine seg_bind_wrap (wpAny_askSetting ?_)
  split
  · exact seg_again rfl loop
  · first
      | exact seg_bind_wrap (wpAny_rule (seg_bind_wrap (wpAny_standAt (seg_bind_wrap (T.self _ 0 s _ _ st (seg_again rfl loop))))))
      | (refine seg_bind_wrap (wpAny_rule ?_); show Seg _ Ag _ _ n s₀ _ ((standAt iter.pos >>= _).wrap _ _ _ _) [] s; exact seg_bind_wrap (wpAny_standAt (seg_bind_wrap (T.self _ 0 s _ _ st (seg_again rfl loop)))))
end

section
variable {X : Cx}
theorem gen_made2 {pins : List (Addr × Obj)} {σ : L2.St} {H : Hp} {s : Shared} {c P : Addr} {elt tg iter : Expr} {gpos : Pos} {scope : Scope} {N : List Str} {cap : List (Option Nat)} {wi : TI} {R : It → Hp → Prop} {Q' : Value → Shared → Prop}
    (hd : X.A.handled = none) (hdp : X.A.depth < recursionLimit) (TB : GxR.TabB X.base X.mg c P) (hcode : X.env.code = .ref c) (G : GenOk2 X.N N cap X.env.scope scope) (hi : PI X tg iter wi)
    (hs : ∀ v, genFold iter X.env v = pure v) (I : Inv X pins σ H s) (h : wi σ H fun J H1 => GxR.TabG H1 P ∧ R J H1)
    (hQ : ∀ (J : It) (H1 H4 : Hp) (s4 s5 : Shared) (code : Value) (a it : Addr) (g : Nat) (go : Obj) (fp : List Addr) (tn : Nat → Heap → Prop), R J H1 → GxR.Tabbed P H1 H4 → Inv X pins σ H4 s4 → Turn X.prog X.w X.K tg J fp it tn → (∀ b ∈ fp, FpOk X pins H4 b ∧ b < s4.heap.objs.size) →
      tn 0 s5.heap → (∀ b ∈ fp, a ≠ b) → (∀ h : Heap, h.get? a = some go → h.IsGen a g) → s5.gens[g]? = some (.fresh (.compStart (.GeneratorExp elt [⟨tg, iter, [], 0⟩] scope gpos) 0 (.ref it) .none (genv2 X scope s4.heap.objs.size code))) →
      (∀ A : Around, A.handled = none → A.frames = some (genv2 X scope s4.heap.objs.size code :: X.stack) → Inv (gcx2 X s4 H4 N (genv2 X scope s4.heap.objs.size code) A fp (a, go)) [] (capS σ cap) H4 s5) → Q' (.ref a) s5) :
    wpAny (model X.prog X.w) X.A (eval (.GeneratorExp elt [⟨tg, iter, [], 0⟩] scope gpos) X.env) Q' X.xe s := by
  have hfree : ∀ y ∈ scope.names, y.2 = .free → ∃ c, X.env.cells.lookup y.1 = some c := fun y hy e => by
    rcases G.free y hy e with k | k
    · exact I.ok.has _ (.inl k)
    · exact I.ok.has _ (.inr k)
  refine gen_make2 G.co (closure_ok hfree) G.dot G.kind hdp ?_ hs
  refine thn (hi.run pins s σ H _ I h) fun xv s1 hx => thn hx fun itv s2 h2 => ?_
  obtain ⟨it, fp, tn, J, H2, e, I2, T, st2, f2, q⟩ := h2
  subst e
  obtain ⟨⟨ps, hP, ht⟩, q⟩ := q
  refine ⟨I2.nolimit, ?_⟩
  have hPs : s2.heap.get? P = some { cls := .none, data := .fields ps } := I2.hok P _ hP
  have cd : PySem.W.CodeHd s2.heap c P := TB.code.keeps I2.bk
  have hfP : ∀ b ∈ fp, b ≠ P := fun b hb z => by
    have := (f2 b hb).1
    rw [z, hP] at this
    cases this
  have cont : ∀ (code : Value) (h3 : Heap) (tk : Nat) (more : Array Value), Heap.ExtBut P s2.heap h3 → s2.heap.objs.size ≤ h3.objs.size → h3.get? P = some { cls := .none, data := .fields (ps ++ more) } → TriplesOk (ps ++ more).toList →
      wpAny (model X.prog X.w) X.A (builtinsFor X.env.globals X.env.builtins) (fun bi s₄ =>
        ∀ h' : Heap, h'.Ns s₄.heap.objs.size (fun y => if y = ".0" then some (.ref it) else none) → (∀ b o, s₄.heap.get? b = some o → h'.get? b = some o) → (∀ c, s₄.heap.objs.size < c → (pushCells (s₄.heap.push { cls := .type "frame", data := .dict #[] }) scope.names).IsCell c none → h'.IsCell c none) → s₄.heap.objs.size < h'.objs.size →
          Q' (.ref h'.objs.size) { s₄ with
            gens := s₄.gens.push (.fresh (.compStart (.GeneratorExp elt [⟨tg, iter, [], 0⟩] scope gpos) 0 (.ref it) .none (genEnv scope (cellsFrom (s₄.heap.objs.size + 1) scope.names (cloFrom X.env.cells scope.names [])) s₄.heap.objs.size code bi X.env))),
            toks := s₄.toks + 1 + 1 + 1,
            heap := h'.push { cls := .type "generator", data := .fields #[.int s₄.gens.size 0, .str "<genexpr>" (s₄.toks + 1), .str (X.env.qual ++ "<genexpr>") (s₄.toks + 1 + 1)] } }) X.xe { s2 with heap := h3, toks := tk } := by
    intro code h3 tk more hx hsz hP3 ht3
    have I3 : Inv X pins σ (upd H2 P (.tbl (ps ++ more))) { s2 with heap := h3, toks := tk } := GxR.inv_tab (more := more) (h' := h3) (g' := s2.gens) (d' := s2.drawn) (t' := tk) I2 hP (fun b o hb e => hx b o hb e) hP3 I2.bare
    obtain ⟨bm, ob, e1, e2, e3, e4, e5, e6, e7, e8⟩ := TB.bm
    refine wpAny_builtinsFor (m := X.mg) (by rw [I3.ok.glob]; exact I3.mod.glob.keeps I3.bk) e1 e2 (I3.bk _ _ e5) e6 e7 e8 ?_
    intro h' hn' keep' hcl' hsz'
    have hsz' : h3.objs.size < h'.objs.size := hsz'
    have keep' : ∀ b o, h3.get? b = some o → h'.get? b = some o := keep'
    generalize hgo : ({ cls := .type "generator", data := .fields #[.int s2.gens.size 0, .str "<genexpr>" (tk + 1), .str (X.env.qual ++ "<genexpr>") (tk + 1 + 1)] } : Obj) = go
    have hgd0 : go.data = .fields #[.int s2.gens.size 0, .str "<genexpr>" (tk + 1), .str (X.env.qual ++ "<genexpr>") (tk + 1 + 1)] := by rw [← hgo]
    have hgc : go.cls = .type "generator" := by rw [← hgo]
    have hgsl : go.slots = #[] := by rw [← hgo]
    have hgp : (h'.push go).get? h'.objs.size = some go := by rw [← hgo]; exact Heap.get?_push_size _ rfl
    have fsz : ∀ b ∈ fp, b < s2.heap.objs.size := fun b hb => by
      obtain ⟨o, e, _⟩ := T.obj _ _ st2 b hb
      exact Heap.lt_size e
    have kpf : ∀ b o, b ≠ P → s2.heap.get? b = some o → (h'.push go).get? b = some o := fun b o hb e => Heap.get?_push_of_some _ (keep' b o (hx b o hb e))
    refine hQ J H2 (upd H2 P (.tbl (ps ++ more))) { s2 with heap := h3, toks := tk } _ code h'.objs.size it s2.gens.size go fp tn q ⟨⟨ps ++ more, upd_same, ht3⟩, fun b hb => upd_ne hb⟩ I3 T (fun b hb => ⟨⟨?_, (f2 b hb).2⟩, Nat.lt_of_lt_of_le (fsz b hb) hsz⟩)
      (T.keep _ _ _ st2 fun b hb o e => kpf b o (hfP b hb) e) (fun b hb => ?_) (fun h e => ⟨go, _, _, e, hgc, hgd0, hgsl⟩) (Array.getElem?_push_size ..) fun A hA hf => ?_
    · rw [upd_ne (hfP b hb)]
      exact (f2 b hb).1
    · have h1 := fsz b hb
      intro z
      rw [← z] at h1
      exact absurd (Nat.lt_of_lt_of_le h1 hsz) (Nat.lt_asymm hsz')
    · exact gen_start2 (gs := _) I3 G (fun b hb => ⟨⟨by rw [upd_ne (hfP b hb)]; exact (f2 b hb).1, (f2 b hb).2⟩, Nat.lt_of_lt_of_le (fsz b hb) hsz⟩) (fun _ => hA) hf (fun b o e => Heap.get?_push_of_some _ (keep' b o e)) (hn'.push _) hsz' hgp
        (fun v z => by rw [hgd0] at z; cases z) (I2.bare.push rfl) (fun c hc x => (hcl' c hc x).keeps fun b o e => Heap.get?_push_of_some _ e)
  cases hf : codeAmong gpos ps.toList with
  | none =>
    refine wpAny_genexprCodeX hcode (cd.code hPs ht) (cd.tab hPs) hf fun c' h' tk hx hge hlt hco' _ htab' _ => ?_
    obtain ⟨o1, vs, f1, tf, fl, tg, inF, tx, tt, op, _, _, _, _, _, _, _, _, _, htr, _⟩ := hco'
    exact cont _ h' tk _ hx (Nat.le_trans hge (Nat.le_of_lt hlt)) htab'.2 htr
  | some cv =>
    refine wpAny_genexprCode_hit hcode (cd.code hPs ht) hf ?_
    exact cont cv s2.heap s2.toks #[] (Heap.ExtBut.refl _ _) (Nat.le_refl _) (by rw [Array.append_empty]; exact hPs) (by rw [Array.append_empty]; exact ht)
end

section
variable {X : Cx} {c P : Addr} {elt tg iter : Expr} {gpos p pos : Pos} {scope : Scope} {N : List Str} {cap : List (Option Nat)} {wi : TI} {g : TG} {te : TE} {k : Nat}
theorem gen_asleep2 {pins : List (Addr × Obj)} {σ : L2.St} {s4 s5 : Shared} {H4 : Hp} {J : It} {Q : VK} {stop : Bool} {code : Value} {a it : Addr} {gn : Nat} {go : Obj} {fp : List Addr} {tn : Nat → Heap → Prop} {W : Nat → Nat → Hp → Prop} {m : Nat}
    (hc : X.calm = true) (hr : Room (k + 1) X.A) (hco : scope.isCoroutine = false) (hfr : X.A.frames = some X.stack)
    (pg : ∀ (s : Shared) (H : Hp) (C : Addr) (code : Value) (A : Around) (fp : List Addr) (go : Addr × Obj), PG (gcx2 X s H N (genv2 X scope C code) A fp go) tg g)
    (pe : ∀ (s : Shared) (H : Hp) (C : Addr) (code : Value) (A : Around) (fp : List Addr) (go : Addr × Obj), Room k A → PE (gcx2 X s H N (genv2 X scope C code) A fp go) elt te)
    (I4 : Inv X pins σ H4 s4) (T : Turn X.prog X.w X.K tg J fp it tn) (f4 : ∀ b ∈ fp, FpOk X pins H4 b ∧ b < s4.heap.objs.size) (st : tn 0 s5.heap) (hfa : ∀ b ∈ fp, a ≠ b)
    (hgs : s5.gens[gn]? = some (.fresh (.compStart (.GeneratorExp elt [⟨tg, iter, [], 0⟩] scope gpos) 0 (.ref it) .none (genv2 X scope s4.heap.objs.size code))))
    (hY : ∀ A : Around, A.handled = none → A.frames = some (genv2 X scope s4.heap.objs.size code :: X.stack) → Inv (gcx2 X s4 H4 N (genv2 X scope s4.heap.objs.size code) A fp (a, go)) [] (capS σ cap) H4 s5)
    (w : W 0 m H4) (step : Steps stop J g te (capS σ cap) Q W) :
    ∃ Y : Cx, Y.prog = X.prog ∧ Y.w = X.w ∧ (a, go) ∈ Y.pn ∧ Inv Y [] (capS σ cap) H4 s5 ∧ Asleep Y (capS σ cap) stop Q X.A gn m s5 ∧ ∀ H' s', Inv Y [] (capS σ cap) H' s' → Inv X pins σ H' s' := by
  have hov : ∀ (A : Around), A.over (.compLoop (.GeneratorExp elt [⟨tg, iter, [], 0⟩] scope gpos) 0 (.ref it) .none (genv2 X scope s4.heap.objs.size code)) [] = A.deeper (genv2 X scope s4.heap.objs.size code) := fun A => over_gen
  have hA1 : (X.A.in1.in1.deeper (genv2 X scope s4.heap.objs.size code)).handled = none := hr.hd
  have hA2 : (X.A.in1.in1.deeper (genv2 X scope s4.heap.objs.size code)).frames = some (genv2 X scope s4.heap.objs.size code :: X.stack) := Around.frames_deeper hfr
  have I5 := hY _ hA1 hA2
  have hrm : Room k (X.A.in1.in1.deeper (genv2 X scope s4.heap.objs.size code)) := ⟨hr.hd, by have := hr.dp; show X.A.depth + 1 + 3 * k + 5 < _; omega, by have := hr.un; show X.A.units + 1 + 1 + 3 + 16 * k + 200 < _; omega⟩
  refine ⟨gcx2 X s4 H4 N (genv2 X scope s4.heap.objs.size code) (X.A.in1.in1.deeper (genv2 X scope s4.heap.objs.size code)) fp (a, go), rfl, rfl, List.mem_singleton.mpr rfl, I5, ⟨_, hgs, rfl, ?_⟩, fun H' s' I' => I4.call' (ch := fp) I'.os I'.base I'.hok I'.bare fun b hb => ⟨(f4 b hb).1.2.2.2.1, (f4 b hb).1.2.1, (f4 b hb).1.2.2.2.2.1, (f4 b hb).1.2.2.2.2.2⟩⟩
  exact gen_seg02 (Ag := X.A.in1.in1) (X := X) (s4 := s4) (H4 := H4) (N := N) (cenv := genv2 X scope s4.heap.objs.size code) (fp := fp) (a := a) (go := go) hc T hfa hco (by rw [hov]) (pg s4 H4 _ code _ fp (a, go)) (pe s4 H4 _ code _ fp (a, go) hrm) step m m _ _ H4 (Nat.le_refl _) w
    (inv_gens I5 (fun _ _ e => e) rfl (allBare_setGen I5.bare rfl)) st fun b hb => (f4 b hb).1.1
theorem pe_allG2 (hc : X.calm = true) (hr : Room (k + 1) X.A) (hgl : Gl X "all") (hm : X.mg "all" = none) (TB : GxR.TabB X.base X.mg c P) (hcode : X.env.code = .ref c) (G : GenOk2 X.N N cap X.env.scope scope) (hi : PI X tg iter wi)
    (pg : ∀ (s : Shared) (H : Hp) (C : Addr) (code : Value) (A : Around) (fp : List Addr) (go : Addr × Obj), PG (gcx2 X s H N (genv2 X scope C code) A fp go) tg g)
    (pe : ∀ (s : Shared) (H : Hp) (C : Addr) (code : Value) (A : Around) (fp : List Addr) (go : Addr × Obj), Room k A → PE (gcx2 X s H N (genv2 X scope C code) A fp go) elt te)
    (hs : ∀ v, genFold iter X.env v = pure v) (hb : bootBuiltins "all" = some (.builtin "all") := by rfl)
    (he : starEach [.GeneratorExp elt [⟨tg, iter, [], 0⟩] scope gpos] X.env = (false, eval (.GeneratorExp elt [⟨tg, iter, [], 0⟩] scope gpos) X.env) :: starEach [] X.env := by rfl) :
    PE X (.Call (.Name "all" p) [.GeneratorExp elt [⟨tg, iter, [], 0⟩] scope gpos] [] pos) (tGen P false wi g te cap) := by
  refine ⟨fun pins s σ H Q I h => ?_⟩
  refine wpAny_Call_Name_kw (ld_blt I hgl hm hb ?_)
  refine PyProof.Rows.callWith_builtin1 ?_ he (by rfl)
  rw [he]
  show wpAny _ _ (spliced ((false, eval (.GeneratorExp elt [⟨tg, iter, [], 0⟩] scope gpos) X.env) :: backTo pos (starEach [] X.env))) _ _ s
  refine Calls.spliced_cons (gen_made2 hr.hd (by have := hr.dp; omega) TB hcode G hi hs I h fun J H1 H4 s4 s5 code a it gn go fp tn hR hT I4 T f4 st hfa hgen hgs hY => ?_)
  refine Calls.spliced_nil ?_
  obtain ⟨W, ⟨m, w⟩, step⟩ := hR H4 hT
  obtain ⟨Y, hY1, hY2, hpn, I5, hsl, back⟩ := gen_asleep2 hc hr G.co I.ok.frames pg pe I4 T f4 st hfa hgs hY w step
  refine call_function_tree F.kind_all F.plain_all F.entry_all (F.args_all1 _) ?_
  unfold Builtin.«all»
  refine wpAny_bind (m := oneArg "all" _) (wpAny_pure ?_)
  refine wpAny_bind (wpAny_pyIter_gen (hgen _ (I5.pin (a, go) (List.mem_append_left _ hpn)).1) ?_)
  rw [← hY1, ← hY2]
  exact wpAny_pure ⟨plainId_quiet F.plain_all_loop _, all_run hgen hpn hr.hd (by have := hr.dp; omega) (fun s' H' b I' q => ⟨.bl b, H', back _ _ I', rfl, q⟩) m s5 H4 I5 hsl⟩
theorem pe_anyG2 (hc : X.calm = true) (hr : Room (k + 1) X.A) (hgl : Gl X "any") (hm : X.mg "any" = none) (TB : GxR.TabB X.base X.mg c P) (hcode : X.env.code = .ref c) (G : GenOk2 X.N N cap X.env.scope scope) (hi : PI X tg iter wi)
    (pg : ∀ (s : Shared) (H : Hp) (C : Addr) (code : Value) (A : Around) (fp : List Addr) (go : Addr × Obj), PG (gcx2 X s H N (genv2 X scope C code) A fp go) tg g)
    (pe : ∀ (s : Shared) (H : Hp) (C : Addr) (code : Value) (A : Around) (fp : List Addr) (go : Addr × Obj), Room k A → PE (gcx2 X s H N (genv2 X scope C code) A fp go) elt te)
    (hs : ∀ v, genFold iter X.env v = pure v) (hb : bootBuiltins "any" = some (.builtin "any") := by rfl)
    (he : starEach [.GeneratorExp elt [⟨tg, iter, [], 0⟩] scope gpos] X.env = (false, eval (.GeneratorExp elt [⟨tg, iter, [], 0⟩] scope gpos) X.env) :: starEach [] X.env := by rfl) :
    PE X (.Call (.Name "any" p) [.GeneratorExp elt [⟨tg, iter, [], 0⟩] scope gpos] [] pos) (tGen P true wi g te cap) := by
  refine ⟨fun pins s σ H Q I h => ?_⟩
  refine wpAny_Call_Name_kw (ld_blt I hgl hm hb ?_)
  refine PyProof.Rows.callWith_builtin1 ?_ he (by rfl)
  rw [he]
  show wpAny _ _ (spliced ((false, eval (.GeneratorExp elt [⟨tg, iter, [], 0⟩] scope gpos) X.env) :: backTo pos (starEach [] X.env))) _ _ s
  refine Calls.spliced_cons (gen_made2 hr.hd (by have := hr.dp; omega) TB hcode G hi hs I h fun J H1 H4 s4 s5 code a it gn go fp tn hR hT I4 T f4 st hfa hgen hgs hY => ?_)
  refine Calls.spliced_nil ?_
  obtain ⟨W, ⟨m, w⟩, step⟩ := hR H4 hT
  obtain ⟨Y, hY1, hY2, hpn, I5, hsl, back⟩ := gen_asleep2 hc hr G.co I.ok.frames pg pe I4 T f4 st hfa hgs hY w step
  refine call_function_tree F.kind_any F.plain_any F.entry_any (F.args_any1 _) ?_
  unfold Builtin.«any»
  refine wpAny_bind (m := oneArg "any" _) (wpAny_pure ?_)
  refine wpAny_bind (wpAny_pyIter_gen (hgen _ (I5.pin (a, go) (List.mem_append_left _ hpn)).1) ?_)
  rw [← hY1, ← hY2]
  exact wpAny_pure ⟨plainId_quiet F.plain_any_loop _, any_run hgen hpn hr.hd (by have := hr.dp; omega) (fun s' H' b I' q => ⟨.bl b, H', back _ _ I', rfl, q⟩) m s5 H4 I5 hsl⟩
end

section
variable {m : Bool} {T : List Addr} {K : PySem.W.Frag} {X : Cx} {c P : Addr} {elt tg iter : Expr} {gpos p pos : Pos} {scope : Scope} {N : List Str} {cap : List (Option Nat)} {wi : TI} {g : TG} {te : TE} {k : Nat} {fi : FnL} {gf : Dt → Rho → Option Rho} {is : List Nat} {fe : Fn}
theorem de_allG2 (hr : Room (k + 1) X.A) (TB : GxR.TabB X.base X.mg c P) (hP : P ∈ T) (hm : X.mg "all" = none) (hi : DI false T K X tg iter wi fi) (ok : genB2 X.N N cap X.env.scope scope = true)
    (hg : ∀ (s : Shared) (H : Hp) (C : Addr) (code : Value) (A : Around) (fp : List Addr) (go : Addr × Obj), DG T K (gcx2 X s H N (genv2 X scope C code) A fp go) tg g gf is)
    (he : ∀ (s : Shared) (H : Hp) (C : Addr) (code : Value) (A : Around) (fp : List Addr) (go : Addr × Obj), Room k A → DE false T K (gcx2 X s H N (genv2 X scope C code) A fp go) elt te fe)
    (hn : capD cap = true := by rfl) (hs : is.all (fun i => decide (cap[i]? = some none)) = true := by rfl)
    (hc : X.calm = true := by rfl) (hcode : X.env.code = .ref c := by rfl) (hgl : Gl X "all" := by rfl) (hf : ∀ v, genFold iter X.env v = pure v := by intro _; rfl)
    (hst : starEach [.GeneratorExp elt [⟨tg, iter, [], 0⟩] scope gpos] X.env = (false, eval (.GeneratorExp elt [⟨tg, iter, [], 0⟩] scope gpos) X.env) :: starEach [] X.env := by rfl) :
    DE m T K X (.Call (.Name "all" p) [.GeneratorExp elt [⟨tg, iter, [], 0⟩] scope gpos] [] pos) (tGen P false wi g te cap) (fGen false fi cap gf fe) :=
  ⟨pe_allG2 hc hr hgl hm TB hcode (genOk2_by ok) hi.pi (fun s H C code A fp go => (hg s H C code A fp go).pg) (fun s H C code A fp go r => (he s H C code A fp go r).pe) hf rfl hst,
   sd_gen (k := false) hP hi.sd (hg { } (fun _ => none) 0 .none X.A [] (0, default)).sd (he { } (fun _ => none) 0 .none X.A [] (0, default) (hr.mono (Nat.le_succ k))).sd hn fun i hi => of_decide_eq_true (List.all_eq_true.mp hs i hi)⟩
theorem de_anyG2 (hr : Room (k + 1) X.A) (TB : GxR.TabB X.base X.mg c P) (hP : P ∈ T) (hm : X.mg "any" = none) (hi : DI false T K X tg iter wi fi) (ok : genB2 X.N N cap X.env.scope scope = true)
    (hg : ∀ (s : Shared) (H : Hp) (C : Addr) (code : Value) (A : Around) (fp : List Addr) (go : Addr × Obj), DG T K (gcx2 X s H N (genv2 X scope C code) A fp go) tg g gf is)
    (he : ∀ (s : Shared) (H : Hp) (C : Addr) (code : Value) (A : Around) (fp : List Addr) (go : Addr × Obj), Room k A → DE false T K (gcx2 X s H N (genv2 X scope C code) A fp go) elt te fe)
    (hn : capD cap = true := by rfl) (hs : is.all (fun i => decide (cap[i]? = some none)) = true := by rfl)
    (hc : X.calm = true := by rfl) (hcode : X.env.code = .ref c := by rfl) (hgl : Gl X "any" := by rfl) (hf : ∀ v, genFold iter X.env v = pure v := by intro _; rfl)
    (hst : starEach [.GeneratorExp elt [⟨tg, iter, [], 0⟩] scope gpos] X.env = (false, eval (.GeneratorExp elt [⟨tg, iter, [], 0⟩] scope gpos) X.env) :: starEach [] X.env := by rfl) :
    DE m T K X (.Call (.Name "any" p) [.GeneratorExp elt [⟨tg, iter, [], 0⟩] scope gpos] [] pos) (tGen P true wi g te cap) (fGen true fi cap gf fe) :=
  ⟨pe_anyG2 hc hr hgl hm TB hcode (genOk2_by ok) hi.pi (fun s H C code A fp go => (hg s H C code A fp go).pg) (fun s H C code A fp go r => (he s H C code A fp go r).pe) hf rfl hst,
   sd_gen (k := false) hP hi.sd (hg { } (fun _ => none) 0 .none X.A [] (0, default)).sd (he { } (fun _ => none) 0 .none X.A [] (0, default) (hr.mono (Nat.le_succ k))).sd hn fun i hi => of_decide_eq_true (List.all_eq_true.mp hs i hi)⟩
end
end EL
end

section
set_option Elab.async false
set_option maxRecDepth 100000
set_option maxHeartbeats 4000000
/-! EL: len of a dict, sorted of a dict's int keys (fewer than 64). -/
namespace EL
open PySem PySem.Spec PySem.W PyProof.Rows L2 HT
def gLenK : List Dt → Option Dt
  | [.dcK ks _] => some (.int ks.length)
  | _ => none
theorem kLenK {T : List Addr} {X : Cx} {K : PySem.W.Frag} : CallR X (.builtin "len") (fun xs H Q => ∃ a kvs, xs = [V.ref a] ∧ H a = some (.dK kvs) ∧ Q (.int kvs.length) H) ∧
    CallD T K (fun xs H Q => ∃ a kvs, xs = [V.ref a] ∧ H a = some (.dK kvs) ∧ Q (.int kvs.length) H) gLenK := ⟨call_lenD, fun W H vs ds c Q g wl r h q => by
  match ds, h with
  | x0 :: _ :: _, h => cases x0 <;> cases h
  | [d], h =>
    obtain ⟨v, rfl, r1⟩ := repA1 r
    cases r1 with
    | @dcK a ks xs dd h1 n l ra =>
      cases h
      refine ⟨a, _, rfl, h1, q _ H (Ext.refl H) g ?_⟩
      have e : (ks.zip xs).length = ks.length := by rw [List.length_zip, l, Nat.min_self]
      rw [e]
      exact .int _
    | _ => cases h⟩
theorem fl_lenK : ∀ ds c, gLenK ds = some c → c.free = true := fun ds c h => by
  unfold gLenK at h
  split at h
  · cases h; rfl
  · cases h
def intK : List Key → Option (List Int)
  | [] => some []
  | .inl i :: ks => (intK ks).bind fun ns => some (i :: ns)
  | .inr _ :: _ => none
theorem intK_some : ∀ {ks : List Key} {ns : List Int}, intK ks = some ns → ks = ns.map Sum.inl
  | [], ns, h => by cases h; rfl
  | .inl i :: ks, ns, h => by
    obtain ⟨ms, h1, h2⟩ := obind (show (intK ks).bind _ = some ns from h)
    cases h2
    rw [intK_some h1]
    rfl
  | .inr _ :: ks, ns, h => by cases h
theorem intK_map : ∀ ns : List Int, intK (ns.map Sum.inl) = some ns
  | [] => rfl
  | i :: ns => by
    show (intK (ns.map Sum.inl)).bind _ = _
    rw [intK_map ns]
    rfl
def gSortDK : List Dt → Option (List Dt)
  | [.dcK ks _] => (intK ks).bind fun ns => if ns.length < 64 then some ((sortI ns).map Dt.int) else none
  | _ => none
def rSortDK : List V → Hp → VK → Prop := fun xs H Q => ∃ (a : Addr) (kvs : List (Key × V)) (ks : List Int), xs = [.ref a] ∧ Rd H a (.dK kvs) ∧ kvs.map (·.1) = ks.map Sum.inl ∧ ks.length < 64 ∧
    ∀ (ys : List Int) (p : Addr), ys.Perm ks → ys.Pairwise (· ≤ ·) → H p = none → Q (.ref p) (upd H p (.lst (ys.map V.int)))
section
variable {T : List Addr} {X : Cx} {K : PySem.W.Frag} {e : Expr} {tr : TA} {fr : FnL} {pos : Pos}
theorem df_sortDK {q : Pos} (hm : X.mg "sorted" = none) (ha : DA false T K X [e] tr fr) (hc : X.calm = true := by rfl) (hg : Gl X "sorted" := by rfl) (hv : bootBuiltins "sorted" = some (.builtin "sorted") := by decide +kernel)
    (he : starEach [e] X.env = (false, eval e X.env) :: starEach [] X.env := by rfl) (hpl : (backTo pos (starEach [] X.env)).any (·.1) = false := by rfl) :
    DF T K X (.Call (.Name "sorted" q) [e] [] pos) (tCB rSortDK tr) (fNL gSortDK fr) := ⟨pe_callB (call_sortedDI hc) hg hm hv ha.pa (by decide) (by decide) he hpl, fun W ρ σ H d Q gd rp e q => by
  obtain ⟨ds, ea, e⟩ := obind e
  refine ha.sd W ρ σ H ds _ gd rp ea fun vs H1 e1 g1 r1 => ?_
  show rSortDK vs H1 Q
  match ds, e, r1 with
  | [.dcK ks xs], e, r1 =>
    obtain ⟨v, rfl, r2⟩ := repA1 r1
    cases r2 with
    | @dcK a _ us _ h1 n l ra =>
      obtain ⟨ns, h2, h3⟩ := obind e
      by_cases h64 : ns.length < 64
      · rw [if_pos h64] at h3
        cases h3
        have hk := intK_some h2
        refine ⟨a, _, ns, rfl, .of h1, ?_, h64, fun ys p hp hs hn => ?_⟩
        · rw [List.map_fst_zip (by rw [l]; exact Nat.le_refl _), hk]
        · have e9 := sortI_one hp hs
          subst e9
          refine q p _ _ (e1.trans (Ext.new hn)) (g1.newL hn ?_) (e1.there p hn) upd_same (repA_ints _)
          rw [List.length_map, (sortI_perm ns).length_eq]
          exact small64 h64
      · rw [if_neg h64] at h3; cases h3
  | [.non], e, _ => cases e
  | [.bl _], e, _ => cases e
  | [.int _], e, _ => cases e
  | [.str _], e, _ => cases e
  | [.tup _], e, _ => cases e
  | [.lst _], e, _ => cases e
  | [.scr _], e, _ => cases e
  | [.dcT _ _], e, _ => cases e
  | x0 :: y0 :: r0, e, _ => cases x0 <;> cases e⟩
end
end EL
end

section
set_option Elab.async false
set_option maxRecDepth 100000
/-! functions of the slots, printed by gen.py -/
namespace LK
open PySem PySem.Spec PyProof.Rows L2 EL

/- def place_behind(m, turns): slots 0:m 1:turns -/
noncomputable def F_place_behind : FnS := (sRet (f2 (gI cMod Int.fmod) (fN gSumA (fAc (fV 1) fA0)) (fV 0)))
noncomputable def R_place_behind : List Dt → Option Dt := runF 2 F_place_behind

/- def told_turns(m, steps, place): slots 0:m 1:steps 2:place 3:known 4:ways 5:longer 6:now 7:turns 8:step 9:after -/
noncomputable def F_told_turns : FnS := (sSeq (sSetN 3 (fDisp1 (fC (.int 0)) (fTup fA0)))
  (sSeq (sSet 4 (fLst (fLstL (fAc (fTup (fAc (fC (.int 0)) (fAc (fTup fA0) fA0))) fA0))))
  (sSeq (sWhile (fTru (fV 4)) [true, true, true, true, true, false, false, false, false, false]
   (sSeq (sSetF 5 (fLstL fA0))
  (sSeq (sFor (f1L gItems (fV 4)) (hTup 2 (hCons (hName 6) (hCons (hName 7) hNil))) [true, true, true, true, false, true, false, false, false, false]
   (sFor (f1L gItems (fV 1)) (hName 8) [true, true, true, true, false, true, true, true, false, false]
   (sSeq (sSet 9 (f2 (gI cMod Int.fmod) (f2 gAdd (fV 6) (fV 8)) (fV 0)))
  (sIf (fDNotIn (fV 9) (fVb 3)) (sSeq (sDPutD 3 (fV 9) (f2 gAdd (fV 7) (fTup (fAc (fV 8) fA0))))
  (sMut 5 gAppend (fAc (fTup (fAc (fV 9) (fAc (f2 gAdd (fV 7) (fTup (fAc (fV 8) fA0))) fA0))) fA0))) sNil))))
  (sFrz [5] (sSet 4 (fV 5))))))
  (sFrz [3] (sRet (f2 gDGet1 (fV 3) (fV 2)))))))
noncomputable def R_told_turns : List Dt → Option Dt := runF 10 F_told_turns

/- def is_turn_bar(m, steps, place, d): slots 0:m 1:steps 2:place 3:d -/
noncomputable def F_is_turn_bar : FnS := (sSeq (sIf (fOr (fCmp (gII bLt) (fV 3) (fC (.int 1))) (fOr (fCmp gNe (f2 (gI cMod Int.fmod) (fV 0) (fV 3)) (fC (.int 0))) (fCmp gEq (f2 (gI cMod Int.fmod) (fV 2) (fV 3)) (fC (.int 0))))) (sRet (fC (.bl false))) sNil)
  (sRet (fGen false (f1L gItems (fV 1)) [none, some 3] (hName 0) (fOfB (fCmp gEq (f2 (gI cMod Int.fmod) (fV 0) (fV 1)) (fC (.int 0)))))))
noncomputable def R_is_turn_bar : List Dt → Option Dt := runF 4 F_is_turn_bar

/- def turn_bar(m, steps, place): slots 0:m 1:steps 2:place 3:whole 4:step 5:d -/
noncomputable def F_turn_bar : FnS := (sSeq (sSet 3 (fV 0))
  (sSeq (sFor (f1L gItems (fV 1)) (hName 4) [false, false, true, true, false, false]
   (sSet 3 (fN gGcd (fAc (fV 3) (fAc (fV 4) fA0)))))
  (sSeq (sIf (fCmp gEq (f2 (gI cMod Int.fmod) (fV 2) (fV 3)) (fC (.int 0))) (sRet (fC .non)) sNil)
  (sRet (fN gMinL (fAc (fLst (fComp (fNL gRng2 (fAc (fC (.int 1)) (fAc (f2 gAdd (fV 3) (fC (.int 1))) fA0))) (hName 5) (fAnd (fCmp gEq (f2 (gI cMod Int.fmod) (fV 3) (fV 5)) (fC (.int 0))) (fCmp gNe (f2 (gI cMod Int.fmod) (fV 2) (fV 5)) (fC (.int 0)))) (fV 5) [5])) fA0))))))
noncomputable def R_turn_bar : List Dt → Option Dt := runF 6 F_turn_bar

/- def _law_cell(script, k): slots 0:script 1:k -/
noncomputable def F_f_law_cell : FnS := (sSeq (sIf (fCmp (gII bLt) (fV 1) (fN gLen (fAc (fV 0) fA0))) (sRet (f2 gIx (fV 0) (fV 1))) sNil)
  (sRet (f2 gAdd (f2 gMul (fC (.int 5)) (fV 1)) (fC (.int 3)))))
noncomputable def R_f_law_cell : List Dt → Option Dt := runF 2 F_f_law_cell

/- def _law_draws(cell, count): slots 0:cell 1:count 2:rest 3:digits 4:seed 5:draws 6:k 7:mixed -/
noncomputable def F_f_law_draws : FnS := (sSeq (sSet 2 (fN gAbs (fAc (fN gInt (fAc (fV 0) fA0)) fA0)))
  (sSeq (sSet 3 (fOfB (fCmp (gII bGe) (fV 2) (f2 (gI cPow fun i j => i ^ j.toNat) (fC (.int 10)) (fC (.int 18))))))
  (sSeq (sSet 4 (fV 2))
  (sSeq (sSetF 5 (fLstL fA0))
  (sSeq (sFor (fNL gRng1 (fAc (fV 1) fA0)) (hName 6) [false, false, true, true, true, true, false, false]
   (sIf (fAnd (fTru (fV 3)) (fCmp (gII bGt) (fV 2) (fC (.int 0)))) (sSeq (sMut 5 gAppend (fAc (f2 (gI cMod Int.fmod) (fN gInt (fAc (fV 2) fA0)) (fC (.int 5040))) fA0))
  (sSet 2 (f2 (gI cDiv Int.fdiv) (fV 2) (fC (.int 5040))))) (sSeq (sSet 7 (f2 (gI cMod Int.fmod) (fN gInt (fAc (f2 gAdd (f2 gAdd (f2 gMul (fV 4) (fC (.int 48271))) (f2 gMul (f2 gAdd (fV 6) (fC (.int 1))) (fC (.int 69621)))) (fC (.int 11))) fA0)) (fC (.int 2147483647))))
  (sSeq (sSet 7 (f2 (gI cMod Int.fmod) (fN gInt (fAc (f2 gAdd (f2 gMul (fV 7) (fV 7)) (f2 gMul (fC (.int 40692)) (f2 gAdd (fV 6) (fC (.int 3))))) fA0)) (fC (.int 2147483399))))
  (sMut 5 gAppend (fAc (f2 (gI cMod Int.fmod) (fN gInt (fAc (f2 (gI cDiv Int.fdiv) (fV 7) (fC (.int 64))) fA0)) (fC (.int 5040))) fA0))))))
  (sFrz [5] (sRet (fV 5))))))))
noncomputable def R_f_law_draws : List Dt → Option Dt := runF 8 F_f_law_draws

/- def _law_is_integer(value): slots 0:value -/
noncomputable def F_f_law_is_integer : FnS := (sRet (fAndV (fIsi "int" (fV 0)) (fOfB (fNot (fB (fIsi "bool" (fV 0)))))))
noncomputable def R_f_law_is_integer : List Dt → Option Dt := runF 1 F_f_law_is_integer

/- def _law_is(value, due): slots 0:value 1:due 2:at -/
noncomputable def F_f_law_is (r : List Dt → Option Dt) : FnS := (sSeq (sIf (fCmp gIsN (fV 1) (fC .non)) (sRet (fOfB (fCmp gIsN (fV 0) (fC .non)))) sNil)
  (sSeq (sIf (fTru (fIsi "bool" (fV 1))) (sRet (fAndV (fIsi "bool" (fV 0)) (fOfB (fCmp gEq (fV 0) (fV 1))))) sNil)
  (sSeq (sIf (fTru (fIsi "int" (fV 1))) (sRet (fAndV (fFn 1 R_f_law_is_integer (fAc (fV 0) fA0)) (fOfB (fCmp gEq (fV 0) (fV 1))))) sNil)
  (sSeq (sIf (fTru (fIsi "str" (fV 1))) (sRet (fAndV (fIsi "str" (fV 0)) (fOfB (fCmp gEq (fV 0) (fV 1))))) sNil)
  (sSeq (sIf (fOr (fNot (fTru (fIsi "tuple" (fV 0)))) (fCmp gNe (fN gLen (fAc (fV 0) fA0)) (fN gLen (fAc (fV 1) fA0)))) (sRet (fC (.bl false))) sNil)
  (sRet (fN gAll (fAc (fLst (fComp (fNL gRng1 (fAc (fN gLen (fAc (fV 1) fA0)) fA0)) (hName 2) fYes (fFn 2 r (fAc (f2 gIx (fV 0) (fV 2)) (fAc (f2 gIx (fV 1) (fV 2)) fA0))) [2])) fA0))))))))
noncomputable def Rn_f_law_is : Nat → List Dt → Option Dt
  | 0 => fun _ => none
  | k + 1 => runF 3 (F_f_law_is (Rn_f_law_is k))
noncomputable def R_f_law_is : List Dt → Option Dt := Rn_f_law_is 6

/- def _law_floor(draws, way): slots 0:draws 1:way 2:share 3:m 4:at 5:steps -/
noncomputable def F_f_law_floor : FnS := (sSeq (sSet 2 (fIf (fCmp gEq (fV 1) (fC (.int 0))) (f2 gAdd (fC (.int 1)) (f2 (gI cMod Int.fmod) (fN gInt (fAc (f2 gIx (fV 0) (fC (.int 0))) fA0)) (fC (.int 4)))) (f2 gAdd (fC (.int 2)) (f2 (gI cMod Int.fmod) (fN gInt (fAc (f2 gIx (fV 0) (fC (.int 0))) fA0)) (fC (.int 4))))))
  (sSeq (sSet 3 (f2 gMul (fV 2) (f2 gAdd (fC (.int 1)) (f2 (gI cMod Int.fmod) (fN gInt (fAc (f2 gIx (fV 0) (fC (.int 1))) fA0)) (f2 (gI cDiv Int.fdiv) (fC (.int 24)) (fV 2))))))
  (sSeq (sSet 5 (fLst (fComp (fNL gRng1 (fAc (f2 (gI cMod Int.fmod) (fN gInt (fAc (f2 gIx (fV 0) (fC (.int 6))) fA0)) (fC (.int 5))) fA0)) (hName 4) fYes (f2 gMul (fV 2) (f2 (gI cMod Int.fmod) (fN gInt (fAc (f2 gIx (fV 0) (f2 gAdd (fC (.int 2)) (fV 4))) fA0)) (f2 (gI cDiv Int.fdiv) (fC (.int 60)) (fV 2)))) [4])))
  (sSeq (sIf (fAnd (fCmp gEq (fV 1) (fC (.int 1))) (fCmp gEq (f2 (gI cMod Int.fmod) (fN gInt (fAc (f2 gIx (fV 0) (fC (.int 7))) fA0)) (fC (.int 3))) (fC (.int 0)))) (sSet 5 (fSl (fV 5) fNoP (fPart (fC (.int 1))))) sNil)
  (sRet (fTup (fAc (fV 3) (fAc (fN gTuple (fAc (fLst (fNL gSSet (fAc (fV 5) fA0))) fA0)) fA0))))))))
noncomputable def R_f_law_floor : List Dt → Option Dt := runF 6 F_f_law_floor

/- def _law_reached(m, steps): slots 0:m 1:steps 2:best 3:turn 4:fresh 5:place 6:step 7:turns -/
noncomputable def F_f_law_reached : FnS := (sSeq (sSetN 2 (fDisp1 (fC (.int 0)) (fTup fA0)))
  (sSeq (sFor (fNL gRng1 (fAc (fV 0) fA0)) (hName 3) [true, true, true, false, false, false, false, false]
   (sSeq (sSet 4 (fLst (fLstL fA0)))
  (sSeq (sFor (fNL gSortDK (fAc (fVb 2) fA0)) (hName 5) [true, true, true, true, true, false, false, false]
   (sIf (fCmp gEq (fN gLen (fAc (f2 gDGet (fVb 2) (fV 5)) fA0)) (fV 3)) (sSet 4 (f2 gAdd (fV 4) (fLst (fComp (f1L gItems (fV 1)) (hName 6) fYes (fTup (fAc (f2 (gI cMod Int.fmod) (f2 gAdd (fV 5) (fV 6)) (fV 0)) (fAc (f2 gAdd (fFree (f2 gDGet (fVb 2) (fV 5))) (fTup (fAc (fV 6) fA0))) fA0))) [6])))) sNil))
  (sFor (fNL gSortD (fAc (fV 4) fA0)) (hTup 2 (hCons (hName 5) (hCons (hName 7) hNil))) [true, true, true, false, false, false, false, false]
   (sIf (fDNotIn (fV 5) (fVb 2)) (sDPutD 2 (fV 5) (fV 7)) sNil)))))
  (sFrz [2] (sRet (fV 2)))))
noncomputable def R_f_law_reached : List Dt → Option Dt := runF 8 F_f_law_reached

/- def _law_bar(m, steps, place, d): slots 0:m 1:steps 2:place 3:d 4:step -/
noncomputable def F_f_law_bar : FnS := (sRet (fAndV (fOfB (fCmp (gII bGe) (fV 3) (fC (.int 1)))) (fAndV (fOfB (fCmp gEq (f2 (gI cMod Int.fmod) (fV 0) (fV 3)) (fC (.int 0)))) (fAndV (fOfB (fCmp gNe (f2 (gI cMod Int.fmod) (fV 2) (fV 3)) (fC (.int 0)))) (fN gAll (fAc (fLst (fComp (f1L gItems (fV 1)) (hName 4) fYes (fOfB (fCmp gEq (f2 (gI cMod Int.fmod) (fV 4) (fV 3)) (fC (.int 0)))) [4])) fA0))))))
noncomputable def R_f_law_bar : List Dt → Option Dt := runF 5 F_f_law_bar

/- def law(script): slots 0:script 1:way 2:m 3:steps 4:best 5:place 6:d 7:bars 8:more 9:at 10:turns 11:turn -/
noncomputable def F_law : FnS := (sSeq (sFor (fNL gRng1 (fAc (fC (.int 2)) fA0)) (hName 1) [true, false, false, false, false, false, false, false, false, false, false, false]
   (sSeq (sAsg (fFn 2 R_f_law_floor (fAc (fFn 2 R_f_law_draws (fAc (fFn 2 R_f_law_cell (fAc (fV 0) (fAc (fV 1) fA0))) (fAc (fC (.int 8)) fA0))) (fAc (fV 1) fA0))) (hTup 2 (hCons (hName 2) (hCons (hName 3) hNil))))
  (sSeq (sSet 4 (fFn 2 R_f_law_reached (fAc (fV 2) (fAc (fV 3) fA0))))
  (sSeq (sIf (fAnd (fCmp gEq (fV 1) (fC (.int 1))) (fCmp gEq (fN gLenK (fAc (fV 4) fA0)) (fV 2))) (sRet (fC (.bl false))) sNil)
  (sSeq (sFor (fNL gRng1 (fAc (fV 2) fA0)) (hName 5) [true, true, true, true, true, false, false, false, false, false, false, false]
   (sSeq (sSet 7 (fLst (fComp (fNL gRng2 (fAc (fC (.int 1)) (fAc (f2 gAdd (fV 2) (fC (.int 1))) fA0))) (hName 6) (fTru (fFn 4 R_f_law_bar (fAc (fV 2) (fAc (fV 3) (fAc (fV 5) (fAc (fV 6) fA0)))))) (fV 6) [6])))
  (sSeq (sIf (fCmp gNe (fOfB (fDIn (fV 5) (fV 4))) (fOfB (fCmp gEq (fN gLen (fAc (fV 7) fA0)) (fC (.int 0))))) (sRet (fC (.bl false))) sNil)
  (sSeq (sIf (fNot (fTru (fFn 2 R_f_law_is (fAc (fFn 3 R_told_turns (fAc (fV 2) (fAc (fV 3) (fAc (fV 5) fA0)))) (fAc (fIf (fDIn (fV 5) (fV 4)) (f2 gDGet (fV 4) (fV 5)) (fC .non)) fA0))))) (sRet (fC (.bl false))) sNil)
  (sIf (fNot (fTru (fFn 2 R_f_law_is (fAc (fFn 3 R_turn_bar (fAc (fV 2) (fAc (fV 3) (fAc (fV 5) fA0)))) (fAc (fIf (fCmp (gII bGt) (fN gLen (fAc (fV 7) fA0)) (fC (.int 0))) (f2 gIx (fV 7) (fC (.int 0))) (fC .non)) fA0))))) (sRet (fC (.bl false))) sNil)))))
  (sSeq (sSet 8 (fFn 2 R_f_law_draws (fAc (fFn 2 R_f_law_cell (fAc (fV 0) (fAc (f2 gAdd (fC (.int 2)) (fV 1)) fA0))) (fAc (fC (.int 16)) fA0))))
  (sSeq (sSet 10 (fN gTuple (fAc (fLst (fComp (fNL gRng1 (fAc (f2 (gI cMod Int.fmod) (fN gInt (fAc (f2 gIx (fV 8) (fC (.int 8))) fA0)) (fC (.int 8))) fA0)) (hName 9) fYes (f2 (gI cMod Int.fmod) (fN gInt (fAc (f2 gIx (fV 8) (fV 9)) fA0)) (fC (.int 60))) [9])) fA0)))
  (sSeq (sIf (fNot (fTru (fFn 2 R_f_law_is (fAc (fFn 2 R_place_behind (fAc (fV 2) (fAc (fV 10) fA0))) (fAc (f2 (gI cMod Int.fmod) (fN gSumA (fAc (fV 10) fA0)) (fV 2)) fA0))))) (sRet (fC (.bl false))) sNil)
  (sSeq (sFor (fNL gRng1 (fAc (fC (.int 7)) fA0)) (hName 11) [true, false, true, true, false, false, false, false, true, false, false, false]
   (sSeq (sSet 6 (f2 gIx (fTup (fAc (fC (.int 0)) (fAc (f2 gMinus (fC (.int 0)) (fC (.int 1))) (fAc (fV 2) (fAc (f2 gMul (f2 (gI cPow fun i j => i ^ j.toNat) (fC (.int 10)) (fC (.int 20))) (fV 2)) (fAc (fC (.int 2)) (fAc (fC (.int 3)) (fAc (f2 gAdd (fC (.int 1)) (f2 (gI cMod Int.fmod) (fN gInt (fAc (f2 gIx (fV 8) (f2 gAdd (fC (.int 9)) (fV 11))) fA0)) (fC (.int 24)))) fA0)))))))) (fV 11)))
  (sSeq (sSet 5 (f2 (gI cMod Int.fmod) (f2 (gI cDiv Int.fdiv) (fN gInt (fAc (f2 gIx (fV 8) (f2 gAdd (fC (.int 9)) (fV 11))) fA0)) (fC (.int 24))) (fV 2)))
  (sIf (fNot (fTru (fFn 2 R_f_law_is (fAc (fFn 4 R_is_turn_bar (fAc (fV 2) (fAc (fV 3) (fAc (fV 5) (fAc (fV 6) fA0))))) (fAc (fFn 4 R_f_law_bar (fAc (fV 2) (fAc (fV 3) (fAc (fV 5) (fAc (fV 6) fA0))))) fA0))))) (sRet (fC (.bl false))) sNil))))
  (sFor (fNL gRng2 (fAc (fC (.int 1)) (fAc (f2 gAdd (fV 2) (fC (.int 1))) fA0))) (hName 6) [true, false, true, true, false, false, false, false, false, false, false, false]
   (sIf (fNot (fTru (fFn 2 R_f_law_is (fAc (fFn 4 R_is_turn_bar (fAc (fV 2) (fAc (fV 3) (fAc (f2 gMinus (fV 2) (fC (.int 1))) (fAc (fV 6) fA0))))) (fAc (fFn 4 R_f_law_bar (fAc (fV 2) (fAc (fV 3) (fAc (f2 gMinus (fV 2) (fC (.int 1))) (fAc (fV 6) fA0))))) fA0))))) (sRet (fC (.bl false))) sNil)))))))))))
  (sRet (fC (.bl true))))
noncomputable def R_law : List Dt → Option Dt := runF 12 F_law

end LK
end

section
set_option Elab.async false
set_option maxRecDepth 100000
set_option maxHeartbeats 4000000
/-! the derivations, printed by gen.py -/
namespace LK
open PySem PySem.Spec PyProof.Rows L2 EL
def topS (i : Nat) : Stmt := PySem.Challenge.pw_breadward_k36_whole_floors_that_are_turn.main.body.getD i (.Pass ⟨0, 0, 0, 0⟩)
abbrev s_place_behind : Stmt := topS 2
theorem sc_place_behind : FnScope ["m", "turns"] ["m", "turns"] (defScope s_place_behind) := ⟨rfl, rfl, rfl, by decide +kernel, rfl, by decide +kernel, by decide +kernel⟩
abbrev s_told_turns : Stmt := topS 3
theorem sc_told_turns : FnScope ["m", "steps", "place", "known", "ways", "longer", "now", "turns", "step", "after"] ["m", "steps", "place"] (defScope s_told_turns) := ⟨rfl, rfl, rfl, by decide +kernel, rfl, by decide +kernel, by decide +kernel⟩
abbrev s_is_turn_bar : Stmt := topS 4
theorem sc_is_turn_bar : FnScope ["m", "steps", "place", "d"] ["m", "steps", "place", "d"] (defScope s_is_turn_bar) := ⟨rfl, rfl, rfl, by decide +kernel, rfl, by decide +kernel, by decide +kernel⟩
abbrev s_turn_bar : Stmt := topS 5
theorem sc_turn_bar : FnScope ["m", "steps", "place", "whole", "step", "d"] ["m", "steps", "place"] (defScope s_turn_bar) := ⟨rfl, rfl, rfl, by decide +kernel, rfl, by decide +kernel, by decide +kernel⟩
abbrev s_f_law_cell : Stmt := topS 7
theorem sc_f_law_cell : FnScope ["script", "k"] ["script", "k"] (defScope s_f_law_cell) := ⟨rfl, rfl, rfl, by decide +kernel, rfl, by decide +kernel, by decide +kernel⟩
abbrev s_f_law_draws : Stmt := topS 8
theorem sc_f_law_draws : FnScope ["cell", "count", "rest", "digits", "seed", "draws", "k", "mixed"] ["cell", "count"] (defScope s_f_law_draws) := ⟨rfl, rfl, rfl, by decide +kernel, rfl, by decide +kernel, by decide +kernel⟩
abbrev s_f_law_is_integer : Stmt := topS 9
theorem sc_f_law_is_integer : FnScope ["value"] ["value"] (defScope s_f_law_is_integer) := ⟨rfl, rfl, rfl, by decide +kernel, rfl, by decide +kernel, by decide +kernel⟩
abbrev s_f_law_is : Stmt := topS 10
theorem sc_f_law_is : FnScope ["value", "due", "at"] ["value", "due"] (defScope s_f_law_is) := ⟨rfl, rfl, rfl, by decide +kernel, rfl, by decide +kernel, by decide +kernel⟩
abbrev s_f_law_floor : Stmt := topS 11
theorem sc_f_law_floor : FnScope ["draws", "way", "share", "m", "at", "steps"] ["draws", "way"] (defScope s_f_law_floor) := ⟨rfl, rfl, rfl, by decide +kernel, rfl, by decide +kernel, by decide +kernel⟩
abbrev s_f_law_reached : Stmt := topS 12
theorem sc_f_law_reached : FnScope ["m", "steps", "best", "turn", "fresh", "place", "step", "turns"] ["m", "steps"] (defScope s_f_law_reached) := ⟨rfl, rfl, rfl, by decide +kernel, rfl, by decide +kernel, by decide +kernel⟩
abbrev s_f_law_bar : Stmt := topS 13
theorem sc_f_law_bar : FnScope ["m", "steps", "place", "d", "step"] ["m", "steps", "place", "d"] (defScope s_f_law_bar) := ⟨rfl, rfl, rfl, by decide +kernel, rfl, by decide +kernel, by decide +kernel⟩
abbrev s_law : Stmt := topS 14
theorem sc_law : FnScope ["script", "way", "m", "steps", "best", "place", "d", "bars", "more", "at", "turns", "turn"] ["script"] (defScope s_law) := ⟨rfl, rfl, rfl, by decide +kernel, rfl, by decide +kernel, by decide +kernel⟩
/-- what the top leaves -/
structure Top (K : PySem.W.Frag) (mg : Str → Option Value) where
  f_place_behind : Addr
  d_place_behind : FuncData
  F_place_behind : Fun K "place_behind" "place_behind" s_place_behind f_place_behind d_place_behind
  b_place_behind : Binds K d_place_behind ["m", "turns"] []
  g_place_behind : mg "place_behind" = some (.ref f_place_behind)
  f_told_turns : Addr
  d_told_turns : FuncData
  F_told_turns : Fun K "told_turns" "told_turns" s_told_turns f_told_turns d_told_turns
  b_told_turns : Binds K d_told_turns ["m", "steps", "place"] []
  g_told_turns : mg "told_turns" = some (.ref f_told_turns)
  f_is_turn_bar : Addr
  d_is_turn_bar : FuncData
  F_is_turn_bar : Fun K "is_turn_bar" "is_turn_bar" s_is_turn_bar f_is_turn_bar d_is_turn_bar
  b_is_turn_bar : Binds K d_is_turn_bar ["m", "steps", "place", "d"] []
  g_is_turn_bar : mg "is_turn_bar" = some (.ref f_is_turn_bar)
  f_turn_bar : Addr
  d_turn_bar : FuncData
  F_turn_bar : Fun K "turn_bar" "turn_bar" s_turn_bar f_turn_bar d_turn_bar
  b_turn_bar : Binds K d_turn_bar ["m", "steps", "place"] []
  g_turn_bar : mg "turn_bar" = some (.ref f_turn_bar)
  f_f_law_cell : Addr
  d_f_law_cell : FuncData
  F_f_law_cell : Fun K "_law_cell" "_law_cell" s_f_law_cell f_f_law_cell d_f_law_cell
  b_f_law_cell : Binds K d_f_law_cell ["script", "k"] []
  g_f_law_cell : mg "_law_cell" = some (.ref f_f_law_cell)
  f_f_law_draws : Addr
  d_f_law_draws : FuncData
  F_f_law_draws : Fun K "_law_draws" "_law_draws" s_f_law_draws f_f_law_draws d_f_law_draws
  b_f_law_draws : Binds K d_f_law_draws ["cell", "count"] []
  g_f_law_draws : mg "_law_draws" = some (.ref f_f_law_draws)
  f_f_law_is_integer : Addr
  d_f_law_is_integer : FuncData
  F_f_law_is_integer : Fun K "_law_is_integer" "_law_is_integer" s_f_law_is_integer f_f_law_is_integer d_f_law_is_integer
  b_f_law_is_integer : Binds K d_f_law_is_integer ["value"] []
  g_f_law_is_integer : mg "_law_is_integer" = some (.ref f_f_law_is_integer)
  f_f_law_is : Addr
  d_f_law_is : FuncData
  F_f_law_is : Fun K "_law_is" "_law_is" s_f_law_is f_f_law_is d_f_law_is
  b_f_law_is : Binds K d_f_law_is ["value", "due"] []
  g_f_law_is : mg "_law_is" = some (.ref f_f_law_is)
  f_f_law_floor : Addr
  d_f_law_floor : FuncData
  F_f_law_floor : Fun K "_law_floor" "_law_floor" s_f_law_floor f_f_law_floor d_f_law_floor
  b_f_law_floor : Binds K d_f_law_floor ["draws", "way"] []
  g_f_law_floor : mg "_law_floor" = some (.ref f_f_law_floor)
  f_f_law_reached : Addr
  d_f_law_reached : FuncData
  F_f_law_reached : Fun K "_law_reached" "_law_reached" s_f_law_reached f_f_law_reached d_f_law_reached
  b_f_law_reached : Binds K d_f_law_reached ["m", "steps"] []
  g_f_law_reached : mg "_law_reached" = some (.ref f_f_law_reached)
  f_f_law_bar : Addr
  d_f_law_bar : FuncData
  F_f_law_bar : Fun K "_law_bar" "_law_bar" s_f_law_bar f_f_law_bar d_f_law_bar
  b_f_law_bar : Binds K d_f_law_bar ["m", "steps", "place", "d"] []
  g_f_law_bar : mg "_law_bar" = some (.ref f_f_law_bar)
  f_law : Addr
  d_law : FuncData
  F_law : Fun K "law" "law" s_law f_law d_law
  b_law : Binds K d_law ["script"] []
  g_law : mg "law" = some (.ref f_law)
  t_is_turn_bar : Addr
  p_is_turn_bar : Addr
  c_is_turn_bar : d_is_turn_bar.code = .ref t_is_turn_bar
  m_abs : mg "abs" = none
  m_all : mg "all" = none
  m_bool : mg "bool" = none
  m_int : mg "int" = none
  m_isinstance : mg "isinstance" = none
  m_len : mg "len" = none
  m_min : mg "min" = none
  m_range : mg "range" = none
  m_set : mg "set" = none
  m_sorted : mg "sorted" = none
  m_str : mg "str" = none
  m_sum : mg "sum" = none
  m_tuple : mg "tuple" = none
  m_gcd : mg "gcd" = some (.builtin "math.gcd")
section
variable {K : PySem.W.Frag} {mg : Str → Option Value}
def Top.T (Z : Top K mg) : List Addr := [Z.p_is_turn_bar]
def Top.cs (Z : Top K mg) : List (Addr × Addr) := [(Z.t_is_turn_bar, Z.p_is_turn_bar)]
theorem mT_is_turn_bar (Z : Top K mg) : Z.p_is_turn_bar ∈ Z.T := List.Mem.head _
theorem mC_is_turn_bar (Z : Top K mg) : (Z.t_is_turn_bar, Z.p_is_turn_bar) ∈ Z.cs := List.Mem.head _
end
section
variable {P : Program} {w : World} {K : PySem.W.Frag} {mg : Str → Option Value} {base : Heap}
theorem ok_place_behind (Z : Top K mg) (TT : ∀ p ∈ Z.cs, GxR.TabB base mg p.1 p.2) : FnOk P w K mg base CX0 1 Z.f_place_behind Z.d_place_behind ["m", "turns"] (spOf Z.T K 2 R_place_behind) := by
  refine ok_defC (T := Z.T) Z.F_place_behind sc_place_behind (fun cdv hcd A outer s H E hr => ?_)
  exact ⟨_, _, (dss_one (ds_ret (de_op oMod (DE.flat (de_callB (kSumA rfl rfl) Z.m_sum (by decide +kernel) (da_cons (de_var 1) da_nil)) (fl_N fl_sumA)) (de_var 0))))⟩
theorem ok_told_turns (Z : Top K mg) (TT : ∀ p ∈ Z.cs, GxR.TabB base mg p.1 p.2) : FnOk P w K mg base CX0 1 Z.f_told_turns Z.d_told_turns ["m", "steps", "place"] (spOf Z.T K 3 R_told_turns) := by
  refine ok_defC (T := Z.T) Z.F_told_turns sc_told_turns (fun cdv hcd A outer s H E hr => ?_)
  exact ⟨_, _, (dss_cons (ds_setN (i := 3) sc_told_turns.nd (dn_disp1 de_int (de_tup da_nil)))
    (dss_cons (ds_set (i := 4) sc_told_turns.nd (DF.de (df_lst (da_cons (de_tup (da_cons de_int (da_cons (de_tup da_nil) da_nil))) da_nil))))
    (dss_cons (ds_while [true, true, true, true, true, false, false, false, false, false] PassesOwn.never (dt_tru (de_var 4))
   (dss_cons (ds_setF (i := 5) sc_told_turns.nd (df_lst da_nil))
    (dss_cons (ds_for [true, true, true, true, false, true, false, false, false, false] PassesOwn.never rfl (di_seq (de_var 4)) (dg_tup rfl (dgs_cons (dg_name 6 sc_told_turns.nd) (dgs_cons (dg_name 7 sc_told_turns.nd) dgs_nil)))
   (dss_one (ds_for [true, true, true, true, false, true, true, true, false, false] PassesOwn.never rfl (di_seq (de_var 1)) (dg_name 8 sc_told_turns.nd)
   (dss_cons (ds_set (i := 9) sc_told_turns.nd (de_op oMod (de_op (oAdd rfl) (de_var 6) (de_var 8)) (de_var 0)))
    (dss_one (ds_if (dt_dnotin (hu1 hr) (de_var 9) (dp_var 3)) (dss_cons (ds_dput (i := 3) (hu1 hr) (de_var 9) (de_op (oAdd rfl) (de_var 7) (de_tup (da_cons (de_var 8) da_nil))))
    (dss_one (ds_meth (i := 5) PySem.F.plainAttrs_list PySem.F.slot_list_append PySem.F.type_list_append mt_append uAppend (by exact (da_cons (de_tup (da_cons (de_var 9) (da_cons (de_op (oAdd rfl) (de_var 7) (de_tup (da_cons (de_var 8) da_nil))) da_nil))) da_nil))))) dss_nil))))))
    (dss_one (DS.frz [5] (ds_set (i := 4) sc_told_turns.nd (de_var 5)))))))
    (dss_one (DS.frz [3] (ds_ret (de_dget1 (hu1 hr) (de_var 3) (de_var 2))))))))⟩
theorem ok_is_turn_bar (Z : Top K mg) (TT : ∀ p ∈ Z.cs, GxR.TabB base mg p.1 p.2) : FnOk P w K mg base CX0 2 Z.f_is_turn_bar Z.d_is_turn_bar ["m", "steps", "place", "d"] (spOf Z.T K 4 R_is_turn_bar) := by
  refine ok_defC (T := Z.T) Z.F_is_turn_bar sc_is_turn_bar (fun cdv hcd A outer s H E hr => ?_)
  exact ⟨_, _, (dss_cons (ds_if (DW.dt (dw_or (dt_cmp cLt (de_var 3) de_int) (dw_or (dt_cmp (cNe rfl hr.units) (de_op oMod (de_var 0) (de_var 3)) de_int) (dw_or1 (dt_cmp (cEq rfl hr.units) (de_op oMod (de_var 2) (de_var 3)) de_int))))) (dss_one (ds_ret de_bl)) dss_nil)
    (dss_one (ds_ret (de_allG (k := 0) (N := ["step", "d"]) (cap := [none, some 3]) (hr.mono (by omega)) (TT _ (mC_is_turn_bar Z)) (mT_is_turn_bar Z) Z.m_all (di_seq (de_var 1)) (by kernel_rfl) (fun _ _ _ _ _ _ _ => (dg_name 0 (show (["step", "d"] : List Str).Nodup by decide))) (fun _ _ _ _ _ _ _ hr => (de_cmp (cEq rfl hr.units) (de_op oMod (de_var 0) (de_var 1)) de_int)) (hcode := hcd.symm.trans Z.c_is_turn_bar)))))⟩
theorem ok_turn_bar (Z : Top K mg) (TT : ∀ p ∈ Z.cs, GxR.TabB base mg p.1 p.2) : FnOk P w K mg base CX0 1 Z.f_turn_bar Z.d_turn_bar ["m", "steps", "place"] (spOf Z.T K 3 R_turn_bar) := by
  refine ok_defC (T := Z.T) Z.F_turn_bar sc_turn_bar (fun cdv hcd A outer s H E hr => ?_)
  exact ⟨_, _, (dss_cons (ds_set (i := 3) sc_turn_bar.nd (de_var 0))
    (dss_cons (ds_for [false, false, true, true, false, false] PassesOwn.never rfl (di_seq (de_var 1)) (dg_name 4 sc_turn_bar.nd)
   (dss_one (ds_set (i := 3) sc_turn_bar.nd (DE.flat (de_callM kGcd Z.m_gcd (da_cons (de_var 3) (da_cons (de_var 4) da_nil))) (fl_N fl_gcd)))))
    (dss_cons (ds_if (dt_cmp (cEq rfl hr.units) (de_op oMod (de_var 2) (de_var 3)) de_int) (dss_one (ds_ret de_non)) dss_nil)
    (dss_one (ds_ret (DE.flat (de_callB (kMinL rfl rfl) Z.m_min (by decide +kernel) (da_cons (DF.de (df_lc (own := [("d", 5)]) rfl sc_turn_bar.nd (di_range2 (da_cons de_int (da_cons (de_op (oAdd rfl) (de_var 3) de_int) da_nil)) Z.m_range) (by kernel_rfl) (fun _ _ _ _ _ => (dg_name 5 sc_turn_bar.nd)) (fun _ _ _ _ _ => (dts_one (DW.dt (dw_and (dt_cmp (cEq rfl hr.units) (de_op oMod (de_var 3) (de_var 5)) de_int) (dw_and1 (dt_cmp (cNe rfl hr.units) (de_op oMod (de_var 2) (de_var 5)) de_int)))))) (fun _ _ _ _ _ => (de_var 5)))) da_nil)) (fl_N fl_minL)))))))⟩
theorem ok_f_law_cell (Z : Top K mg) (TT : ∀ p ∈ Z.cs, GxR.TabB base mg p.1 p.2) : FnOk P w K mg base CX0 1 Z.f_f_law_cell Z.d_f_law_cell ["script", "k"] (spOf Z.T K 2 R_f_law_cell) := by
  refine ok_defC (T := Z.T) Z.F_f_law_cell sc_f_law_cell (fun cdv hcd A outer s H E hr => ?_)
  exact ⟨_, _, (dss_cons (ds_if (dt_cmp cLt (de_var 1) (de_callB (kLen rfl) Z.m_len (by decide +kernel) (da_cons (de_var 0) da_nil))) (dss_one (ds_ret (de_ix (de_var 0) (de_var 1)))) dss_nil)
    (dss_one (ds_ret (de_op (oAdd rfl) (de_op oMul de_int (de_var 1)) de_int))))⟩
theorem ok_f_law_draws (Z : Top K mg) (TT : ∀ p ∈ Z.cs, GxR.TabB base mg p.1 p.2) : FnOk P w K mg base CX0 1 Z.f_f_law_draws Z.d_f_law_draws ["cell", "count"] (spOf Z.T K 2 R_f_law_draws) := by
  refine ok_defC (T := Z.T) Z.F_f_law_draws sc_f_law_draws (fun cdv hcd A outer s H E hr => ?_)
  exact ⟨_, _, (dss_cons (ds_set (i := 2) sc_f_law_draws.nd (DE.flat (de_callB kAbs Z.m_abs (by decide +kernel) (da_cons (de_callT kInt Z.m_int (by decide +kernel) (da_cons (de_var 0) da_nil)) da_nil)) (fl_N fl_abs)))
    (dss_cons (ds_set (i := 3) sc_f_law_draws.nd (de_cmp cGe (de_var 2) (de_op oPow de_int de_int)))
    (dss_cons (ds_set (i := 4) sc_f_law_draws.nd (de_var 2))
    (dss_cons (ds_setF (i := 5) sc_f_law_draws.nd (df_lst da_nil))
    (dss_cons (ds_for [false, false, true, true, true, true, false, false] PassesOwn.never rfl (di_range1 (da_cons (de_var 1) da_nil) Z.m_range) (dg_name 6 sc_f_law_draws.nd)
   (dss_one (ds_if (DW.dt (dw_and (dt_tru (de_var 3)) (dw_and1 (dt_cmp cGt (de_var 2) de_int)))) (dss_cons (ds_meth (i := 5) PySem.F.plainAttrs_list PySem.F.slot_list_append PySem.F.type_list_append mt_append uAppend (by exact (da_cons (de_op oMod (DE.flat (de_callT kInt Z.m_int (by decide +kernel) (da_cons (de_var 2) da_nil)) (fl_N fl_int)) de_int) da_nil)))
    (dss_one (ds_set (i := 2) sc_f_law_draws.nd (de_op oDiv (de_var 2) de_int)))) (dss_cons (ds_set (i := 7) sc_f_law_draws.nd (de_op oMod (DE.flat (de_callT kInt Z.m_int (by decide +kernel) (da_cons (de_op (oAdd rfl) (de_op (oAdd rfl) (de_op oMul (de_var 4) de_int) (de_op oMul (de_op (oAdd rfl) (de_var 6) de_int) de_int)) de_int) da_nil)) (fl_N fl_int)) de_int))
    (dss_cons (ds_set (i := 7) sc_f_law_draws.nd (de_op oMod (DE.flat (de_callT kInt Z.m_int (by decide +kernel) (da_cons (de_op (oAdd rfl) (de_op oMul (de_var 7) (de_var 7)) (de_op oMul de_int (de_op (oAdd rfl) (de_var 6) de_int))) da_nil)) (fl_N fl_int)) de_int))
    (dss_one (ds_meth (i := 5) PySem.F.plainAttrs_list PySem.F.slot_list_append PySem.F.type_list_append mt_append uAppend (by exact (da_cons (de_op oMod (DE.flat (de_callT kInt Z.m_int (by decide +kernel) (da_cons (de_op oDiv (de_var 7) de_int) da_nil)) (fl_N fl_int)) de_int) da_nil)))))))))
    (dss_one (DS.frz [5] (ds_ret (de_var 5)))))))))⟩
theorem ok_f_law_is_integer (Z : Top K mg) (TT : ∀ p ∈ Z.cs, GxR.TabB base mg p.1 p.2) : FnOk P w K mg base CX0 1 Z.f_f_law_is_integer Z.d_f_law_is_integer ["value"] (spOf Z.T K 1 R_f_law_is_integer) := by
  refine ok_defC (T := Z.T) Z.F_f_law_is_integer sc_f_law_is_integer (fun cdv hcd A outer s H E hr => ?_)
  exact ⟨_, _, (dss_one (ds_ret (de_and (de_isi (tys := "int") (de_var 0) Z.m_isinstance Z.m_int) (de_one (de_not (de_isi (tys := "bool") (de_var 0) Z.m_isinstance Z.m_bool))))))⟩
theorem ok_f_law_is (Z : Top K mg) (TT : ∀ p ∈ Z.cs, GxR.TabB base mg p.1 p.2) : FnOk P w K mg base CX0 7 Z.f_f_law_is Z.d_f_law_is ["value", "due"] (spOf Z.T K 2 R_f_law_is) := by
  have O_f_law_is_integer := ok_f_law_is_integer (P := P) (w := w) (base := base) Z TT
  have step : ∀ k r, FnOk P w K mg base CX0 (1 + k) Z.f_f_law_is Z.d_f_law_is ["value", "due"] (spOf Z.T K 2 r) → FnOk P w K mg base CX0 (1 + k + 1) Z.f_f_law_is Z.d_f_law_is ["value", "due"] (spOf Z.T K 2 (runF 3 (F_f_law_is r))) := fun k r G => by
    refine ok_defC (T := Z.T) Z.F_f_law_is sc_f_law_is (fun cdv hcd A outer s H E hrG => ?_)
    have hr := hrG
    exact ⟨_, _, (dss_cons (ds_if (dt_cmp cIsN (de_var 1) de_non) (dss_one (ds_ret (de_cmp cIsN (de_var 0) de_non))) dss_nil)
    (dss_cons (ds_if (dt_tru (de_isi (tys := "bool") (de_var 1) Z.m_isinstance Z.m_bool)) (dss_one (ds_ret (de_and (de_isi (tys := "bool") (de_var 0) Z.m_isinstance Z.m_bool) (de_one (de_cmp (cEq rfl hr.units) (de_var 0) (de_var 1)))))) dss_nil)
    (dss_cons (ds_if (dt_tru (de_isi (tys := "int") (de_var 1) Z.m_isinstance Z.m_int)) (dss_one (ds_ret (de_and (de_call O_f_law_is_integer (hr.mono (by omega)) Z.g_f_law_is_integer Z.F_f_law_is_integer.kp Z.b_f_law_is_integer (da_cons (de_var 0) da_nil)) (de_one (de_cmp (cEq rfl hr.units) (de_var 0) (de_var 1)))))) dss_nil)
    (dss_cons (ds_if (dt_tru (de_isi (tys := "str") (de_var 1) Z.m_isinstance Z.m_str)) (dss_one (ds_ret (de_and (de_isi (tys := "str") (de_var 0) Z.m_isinstance Z.m_str) (de_one (de_cmp (cEq rfl hr.units) (de_var 0) (de_var 1)))))) dss_nil)
    (dss_cons (ds_if (DW.dt (dw_or (dt_not (dt_tru (de_isi (tys := "tuple") (de_var 0) Z.m_isinstance Z.m_tuple))) (dw_or1 (dt_cmp (cNe rfl hr.units) (de_callB (kLen rfl) Z.m_len (by decide +kernel) (da_cons (de_var 0) da_nil)) (de_callB (kLen rfl) Z.m_len (by decide +kernel) (da_cons (de_var 1) da_nil)))))) (dss_one (ds_ret de_bl)) dss_nil)
    (dss_one (ds_ret (DE.flat (de_callB (kAll rfl rfl) Z.m_all (by decide +kernel) (da_cons (DF.de (df_lc (own := [("at", 2)]) rfl sc_f_law_is.nd (di_range1 (da_cons (de_callB (kLen rfl) Z.m_len (by decide +kernel) (da_cons (de_var 1) da_nil)) da_nil) Z.m_range) (by kernel_rfl) (fun _ _ _ _ _ => (dg_name 2 sc_f_law_is.nd)) (fun _ _ _ _ _ => dts_nil) (fun _ _ _ _ _ => (de_call G hrG Z.g_f_law_is Z.F_f_law_is.kp Z.b_f_law_is (da_cons (de_ix (de_var 0) (de_var 2)) (da_cons (de_ix (de_var 1) (de_var 2)) da_nil)))))) da_nil)) (fl_N fl_all)))))))))⟩
  have all : ∀ k, FnOk P w K mg base CX0 (1 + k) Z.f_f_law_is Z.d_f_law_is ["value", "due"] (spOf Z.T K 2 (Rn_f_law_is k)) := fun k => by
    induction k with
    | zero => exact ok_none
    | succ k ih => exact step k _ ih
  exact all 6
theorem ok_f_law_floor (Z : Top K mg) (TT : ∀ p ∈ Z.cs, GxR.TabB base mg p.1 p.2) : FnOk P w K mg base CX0 1 Z.f_f_law_floor Z.d_f_law_floor ["draws", "way"] (spOf Z.T K 2 R_f_law_floor) := by
  refine ok_defC (T := Z.T) Z.F_f_law_floor sc_f_law_floor (fun cdv hcd A outer s H E hr => ?_)
  exact ⟨_, _, (dss_cons (ds_set (i := 2) sc_f_law_floor.nd (de_ifExp (dt_cmp (cEq rfl hr.units) (de_var 1) de_int) (de_op (oAdd rfl) de_int (de_op oMod (DE.flat (de_callT kInt Z.m_int (by decide +kernel) (da_cons (de_ix (de_var 0) de_int) da_nil)) (fl_N fl_int)) de_int)) (de_op (oAdd rfl) de_int (de_op oMod (DE.flat (de_callT kInt Z.m_int (by decide +kernel) (da_cons (de_ix (de_var 0) de_int) da_nil)) (fl_N fl_int)) de_int))))
    (dss_cons (ds_set (i := 3) sc_f_law_floor.nd (de_op oMul (de_var 2) (de_op (oAdd rfl) de_int (de_op oMod (DE.flat (de_callT kInt Z.m_int (by decide +kernel) (da_cons (de_ix (de_var 0) de_int) da_nil)) (fl_N fl_int)) (de_op oDiv de_int (de_var 2))))))
    (dss_cons (ds_setLcI (i := 5) (own := [("at", 4)]) rfl sc_f_law_floor.nd (di_range1 (da_cons (de_op oMod (de_callT kInt Z.m_int (by decide +kernel) (da_cons (de_ix (de_var 0) de_int) da_nil)) de_int) da_nil) Z.m_range) (by kernel_rfl) (fun _ _ _ _ _ => (dg_name 4 sc_f_law_floor.nd)) (fun _ _ _ _ _ => dts_nil) (fun _ _ _ _ _ => (de_op oMul (de_var 2) (de_op oMod (DE.flat (de_callT kInt Z.m_int (by decide +kernel) (da_cons (de_ix (de_var 0) (de_op (oAdd rfl) de_int (de_var 4))) da_nil)) (fl_N fl_int)) (de_op oDiv de_int (de_var 2))))))
    (dss_cons (ds_if (DW.dt (dw_and (dt_cmp (cEq rfl hr.units) (de_var 1) de_int) (dw_and1 (dt_cmp (cEq rfl hr.units) (de_op oMod (de_callT kInt Z.m_int (by decide +kernel) (da_cons (de_ix (de_var 0) de_int) da_nil)) de_int) de_int)))) (dss_one (ds_set (i := 5) sc_f_law_floor.nd (de_slice (de_var 5) do_none (do_some de_int)))) dss_nil)
    (dss_one (ds_ret (de_tup (da_cons (de_var 3) (da_cons (de_callT (kTuple rfl) Z.m_tuple (by decide +kernel) (da_cons (DF.de (df_sortedSet rfl Z.m_sorted Z.m_set (da_cons (de_var 5) da_nil))) da_nil)) da_nil)))))))))⟩
theorem ok_f_law_reached (Z : Top K mg) (TT : ∀ p ∈ Z.cs, GxR.TabB base mg p.1 p.2) : FnOk P w K mg base CX0 1 Z.f_f_law_reached Z.d_f_law_reached ["m", "steps"] (spOf Z.T K 2 R_f_law_reached) := by
  refine ok_defC (T := Z.T) Z.F_f_law_reached sc_f_law_reached (fun cdv hcd A outer s H E hr => ?_)
  exact ⟨_, _, (dss_cons (ds_setN (i := 2) sc_f_law_reached.nd (dn_disp1 de_int (de_tup da_nil)))
    (dss_cons (ds_for [true, true, true, false, false, false, false, false] PassesOwn.never rfl (di_range1 (da_cons (de_var 0) da_nil) Z.m_range) (dg_name 3 sc_f_law_reached.nd)
   (dss_cons (ds_set (i := 4) sc_f_law_reached.nd (DF.de (df_lst da_nil)))
    (dss_cons (ds_for [true, true, true, true, true, false, false, false] PassesOwn.never rfl (di_new (df_sortDK Z.m_sorted (da_cons (dp_var 2) da_nil))) (dg_name 5 sc_f_law_reached.nd)
   (dss_one (ds_if (dt_cmp (cEq rfl hr.units) (de_callB (kLen rfl) Z.m_len (by decide +kernel) (da_cons (de_dget (hu1 hr) (dp_var 2) (de_var 5)) da_nil)) (de_var 3)) (dss_one (ds_set (i := 4) sc_f_law_reached.nd (de_op (oAdd rfl) (de_var 4) (DF.de (df_lc (own := [("step", 6)]) rfl sc_f_law_reached.nd (di_seq (de_var 1)) (by kernel_rfl) (fun _ _ _ _ _ => (dg_name 6 sc_f_law_reached.nd)) (fun _ _ _ _ _ => dts_nil) (fun _ _ _ _ _ => (de_tup (da_cons (de_op oMod (de_op (oAdd rfl) (de_var 5) (de_var 6)) (de_var 0)) (da_cons (de_op (oAdd rfl) (DE.free (de_dget (hu1 hr) (dp_var 2) (de_var 5))) (de_tup (da_cons (de_var 6) da_nil))) da_nil))))))))) dss_nil)))
    (dss_one (ds_for [true, true, true, false, false, false, false, false] PassesOwn.never rfl (di_new (df_sortD hr.units Z.m_sorted (da_cons (de_var 4) da_nil))) (dg_tup rfl (dgs_cons (dg_name 5 sc_f_law_reached.nd) (dgs_cons (dg_name 7 sc_f_law_reached.nd) dgs_nil)))
   (dss_one (ds_if (dt_dnotin (hu1 hr) (de_var 5) (dp_var 2)) (dss_one (ds_dput (i := 2) (hu1 hr) (de_var 5) (de_var 7))) dss_nil)))))))
    (dss_one (DS.frz [2] (ds_ret (de_var 2))))))⟩
theorem ok_f_law_bar (Z : Top K mg) (TT : ∀ p ∈ Z.cs, GxR.TabB base mg p.1 p.2) : FnOk P w K mg base CX0 1 Z.f_f_law_bar Z.d_f_law_bar ["m", "steps", "place", "d"] (spOf Z.T K 4 R_f_law_bar) := by
  refine ok_defC (T := Z.T) Z.F_f_law_bar sc_f_law_bar (fun cdv hcd A outer s H E hr => ?_)
  exact ⟨_, _, (dss_one (ds_ret (de_and (de_cmp cGe (de_var 3) de_int) (de_and (de_cmp (cEq rfl hr.units) (de_op oMod (de_var 0) (de_var 3)) de_int) (de_and (de_cmp (cNe rfl hr.units) (de_op oMod (de_var 2) (de_var 3)) de_int) (de_one (DE.flat (de_callB (kAll rfl rfl) Z.m_all (by decide +kernel) (da_cons (DF.de (df_lc (own := [("step", 4)]) rfl sc_f_law_bar.nd (di_seq (de_var 1)) (by kernel_rfl) (fun _ _ _ _ _ => (dg_name 4 sc_f_law_bar.nd)) (fun _ _ _ _ _ => dts_nil) (fun _ _ _ _ _ => (de_cmp (cEq rfl hr.units) (de_op oMod (de_var 4) (de_var 3)) de_int)))) da_nil)) (fl_N fl_all))))))))⟩
theorem ok_law (Z : Top K mg) (TT : ∀ p ∈ Z.cs, GxR.TabB base mg p.1 p.2) : FnOk P w K mg base CX0 8 Z.f_law Z.d_law ["script"] (spOf Z.T K 1 R_law) := by
  have O_f_law_floor := ok_f_law_floor (P := P) (w := w) (base := base) Z TT
  have O_f_law_reached := ok_f_law_reached (P := P) (w := w) (base := base) Z TT
  have O_f_law_draws := ok_f_law_draws (P := P) (w := w) (base := base) Z TT
  have O_f_law_cell := ok_f_law_cell (P := P) (w := w) (base := base) Z TT
  have O_f_law_is := ok_f_law_is (P := P) (w := w) (base := base) Z TT
  have O_place_behind := ok_place_behind (P := P) (w := w) (base := base) Z TT
  have O_f_law_bar := ok_f_law_bar (P := P) (w := w) (base := base) Z TT
  have O_told_turns := ok_told_turns (P := P) (w := w) (base := base) Z TT
  have O_turn_bar := ok_turn_bar (P := P) (w := w) (base := base) Z TT
  have O_is_turn_bar := ok_is_turn_bar (P := P) (w := w) (base := base) Z TT
  refine ok_defC (T := Z.T) Z.F_law sc_law (fun cdv hcd A outer s H E hr => ?_)
  exact ⟨_, _, (dss_cons (ds_for [true, false, false, false, false, false, false, false, false, false, false, false] PassesOwn.never rfl (di_range1 (da_cons de_int da_nil) Z.m_range) (dg_name 1 sc_law.nd)
   (dss_cons (ds_asg (de_call O_f_law_floor (hr.mono (by omega)) Z.g_f_law_floor Z.F_f_law_floor.kp Z.b_f_law_floor (da_cons (de_call O_f_law_draws (hr.mono (by omega)) Z.g_f_law_draws Z.F_f_law_draws.kp Z.b_f_law_draws (da_cons (de_call O_f_law_cell (hr.mono (by omega)) Z.g_f_law_cell Z.F_f_law_cell.kp Z.b_f_law_cell (da_cons (de_var 0) (da_cons (de_var 1) da_nil))) (da_cons de_int da_nil))) (da_cons (de_var 1) da_nil))) (dg_tup rfl (dgs_cons (dg_name 2 sc_law.nd) (dgs_cons (dg_name 3 sc_law.nd) dgs_nil))))
    (dss_cons (ds_set (i := 4) sc_law.nd (de_call O_f_law_reached (hr.mono (by omega)) Z.g_f_law_reached Z.F_f_law_reached.kp Z.b_f_law_reached (da_cons (de_var 2) (da_cons (de_var 3) da_nil))))
    (dss_cons (ds_if (DW.dt (dw_and (dt_cmp (cEq rfl hr.units) (de_var 1) de_int) (dw_and1 (dt_cmp (cEq rfl hr.units) (de_callB kLenK Z.m_len (by decide +kernel) (da_cons (de_var 4) da_nil)) (de_var 2))))) (dss_one (ds_ret de_bl)) dss_nil)
    (dss_cons (ds_for [true, true, true, true, true, false, false, false, false, false, false, false] PassesOwn.never rfl (di_range1 (da_cons (de_var 2) da_nil) Z.m_range) (dg_name 5 sc_law.nd)
   (dss_cons (ds_setLcI (i := 7) (own := [("d", 6)]) rfl sc_law.nd (di_range2 (da_cons de_int (da_cons (de_op (oAdd rfl) (de_var 2) de_int) da_nil)) Z.m_range) (by kernel_rfl) (fun _ _ _ _ _ => (dg_name 6 sc_law.nd)) (fun _ _ _ _ _ => (dts_one (dt_tru (de_call O_f_law_bar (hr.mono (by omega)) Z.g_f_law_bar Z.F_f_law_bar.kp Z.b_f_law_bar (da_cons (de_var 2) (da_cons (de_var 3) (da_cons (de_var 5) (da_cons (de_var 6) da_nil)))))))) (fun _ _ _ _ _ => (de_var 6)))
    (dss_cons (ds_if (dt_cmp (cNe rfl hr.units) (de_din (hu1 hr) (de_var 5) (de_var 4)) (de_cmp (cEq rfl hr.units) (de_callB (kLen rfl) Z.m_len (by decide +kernel) (da_cons (de_var 7) da_nil)) de_int)) (dss_one (ds_ret de_bl)) dss_nil)
    (dss_cons (ds_if (dt_not (dt_tru (de_call O_f_law_is (hr.mono (by omega)) Z.g_f_law_is Z.F_f_law_is.kp Z.b_f_law_is (da_cons (de_call O_told_turns (hr.mono (by omega)) Z.g_told_turns Z.F_told_turns.kp Z.b_told_turns (da_cons (de_var 2) (da_cons (de_var 3) (da_cons (de_var 5) da_nil)))) (da_cons (de_ifExp (dt_din (hu1 hr) (de_var 5) (de_var 4)) (de_dget (hu1 hr) (de_var 4) (de_var 5)) de_non) da_nil))))) (dss_one (ds_ret de_bl)) dss_nil)
    (dss_one (ds_if (dt_not (dt_tru (de_call O_f_law_is (hr.mono (by omega)) Z.g_f_law_is Z.F_f_law_is.kp Z.b_f_law_is (da_cons (de_call O_turn_bar (hr.mono (by omega)) Z.g_turn_bar Z.F_turn_bar.kp Z.b_turn_bar (da_cons (de_var 2) (da_cons (de_var 3) (da_cons (de_var 5) da_nil)))) (da_cons (de_ifExp (dt_cmp cGt (de_callB (kLen rfl) Z.m_len (by decide +kernel) (da_cons (de_var 7) da_nil)) de_int) (de_ix (de_var 7) de_int) de_non) da_nil))))) (dss_one (ds_ret de_bl)) dss_nil))))))
    (dss_cons (ds_set (i := 8) sc_law.nd (de_call O_f_law_draws (hr.mono (by omega)) Z.g_f_law_draws Z.F_f_law_draws.kp Z.b_f_law_draws (da_cons (de_call O_f_law_cell (hr.mono (by omega)) Z.g_f_law_cell Z.F_f_law_cell.kp Z.b_f_law_cell (da_cons (de_var 0) (da_cons (de_op (oAdd rfl) de_int (de_var 1)) da_nil))) (da_cons de_int da_nil))))
    (dss_cons (ds_set (i := 10) sc_law.nd (de_callT (kTuple rfl) Z.m_tuple (by decide +kernel) (da_cons (DF.de (df_lc (own := [("at", 9)]) rfl sc_law.nd (di_range1 (da_cons (de_op oMod (de_callT kInt Z.m_int (by decide +kernel) (da_cons (de_ix (de_var 8) de_int) da_nil)) de_int) da_nil) Z.m_range) (by kernel_rfl) (fun _ _ _ _ _ => (dg_name 9 sc_law.nd)) (fun _ _ _ _ _ => dts_nil) (fun _ _ _ _ _ => (de_op oMod (DE.flat (de_callT kInt Z.m_int (by decide +kernel) (da_cons (de_ix (de_var 8) (de_var 9)) da_nil)) (fl_N fl_int)) de_int)))) da_nil)))
    (dss_cons (ds_if (dt_not (dt_tru (de_call O_f_law_is (hr.mono (by omega)) Z.g_f_law_is Z.F_f_law_is.kp Z.b_f_law_is (da_cons (de_call O_place_behind (hr.mono (by omega)) Z.g_place_behind Z.F_place_behind.kp Z.b_place_behind (da_cons (de_var 2) (da_cons (de_var 10) da_nil))) (da_cons (de_op oMod (de_callB (kSumA rfl rfl) Z.m_sum (by decide +kernel) (da_cons (de_var 10) da_nil)) (de_var 2)) da_nil))))) (dss_one (ds_ret de_bl)) dss_nil)
    (dss_cons (ds_for [true, false, true, true, false, false, false, false, true, false, false, false] PassesOwn.never rfl (di_range1 (da_cons de_int da_nil) Z.m_range) (dg_name 11 sc_law.nd)
   (dss_cons (ds_set (i := 6) sc_law.nd (de_ix (de_tup (da_cons de_int (da_cons (de_op oSub de_int de_int) (da_cons (de_var 2) (da_cons (de_op oMul (de_op oPow de_int de_int) (de_var 2)) (da_cons de_int (da_cons de_int (da_cons (de_op (oAdd rfl) de_int (de_op oMod (DE.flat (de_callT kInt Z.m_int (by decide +kernel) (da_cons (de_ix (de_var 8) (de_op (oAdd rfl) de_int (de_var 11))) da_nil)) (fl_N fl_int)) de_int)) da_nil)))))))) (de_var 11)))
    (dss_cons (ds_set (i := 5) sc_law.nd (de_op oMod (de_op oDiv (DE.flat (de_callT kInt Z.m_int (by decide +kernel) (da_cons (de_ix (de_var 8) (de_op (oAdd rfl) de_int (de_var 11))) da_nil)) (fl_N fl_int)) de_int) (de_var 2)))
    (dss_one (ds_if (dt_not (dt_tru (de_call O_f_law_is (hr.mono (by omega)) Z.g_f_law_is Z.F_f_law_is.kp Z.b_f_law_is (da_cons (de_call O_is_turn_bar (hr.mono (by omega)) Z.g_is_turn_bar Z.F_is_turn_bar.kp Z.b_is_turn_bar (da_cons (de_var 2) (da_cons (de_var 3) (da_cons (de_var 5) (da_cons (de_var 6) da_nil))))) (da_cons (de_call O_f_law_bar (hr.mono (by omega)) Z.g_f_law_bar Z.F_f_law_bar.kp Z.b_f_law_bar (da_cons (de_var 2) (da_cons (de_var 3) (da_cons (de_var 5) (da_cons (de_var 6) da_nil))))) da_nil))))) (dss_one (ds_ret de_bl)) dss_nil)))))
    (dss_one (ds_for [true, false, true, true, false, false, false, false, false, false, false, false] PassesOwn.never rfl (di_range2 (da_cons de_int (da_cons (de_op (oAdd rfl) (de_var 2) de_int) da_nil)) Z.m_range) (dg_name 6 sc_law.nd)
   (dss_one (ds_if (dt_not (dt_tru (de_call O_f_law_is (hr.mono (by omega)) Z.g_f_law_is Z.F_f_law_is.kp Z.b_f_law_is (da_cons (de_call O_is_turn_bar (hr.mono (by omega)) Z.g_is_turn_bar Z.F_is_turn_bar.kp Z.b_is_turn_bar (da_cons (de_var 2) (da_cons (de_var 3) (da_cons (de_op oSub (de_var 2) de_int) (da_cons (de_var 6) da_nil))))) (da_cons (de_call O_f_law_bar (hr.mono (by omega)) Z.g_f_law_bar Z.F_f_law_bar.kp Z.b_f_law_bar (da_cons (de_var 2) (da_cons (de_var 3) (da_cons (de_op oSub (de_var 2) de_int) (da_cons (de_var 6) da_nil))))) da_nil))))) (dss_one (ds_ret de_bl)) dss_nil)))))))))))))
    (dss_one (ds_ret de_bl)))⟩
end
section
variable {P : Program} {w : World}
theorem law_end {K : PySem.W.Frag} {h : Heap} {mg : Str → Option Value} {fa : Addr} (X : K.In h) (G : h.Ns mainGlobals mg) (hfa : mg "law" = some (.ref fa))
    {f0 : Addr} {od0 an0 : Option Addr} {sl0 : Array (Option Value)} {oc0 kV0 dc0 pm0 cd0 ct0 : Value}
    {f1 : Addr} {od1 an1 : Option Addr} {sl1 : Array (Option Value)} {oc1 kV1 dc1 pm1 cd1 ct1 : Value}
    {f2 : Addr} {od2 an2 : Option Addr} {sl2 : Array (Option Value)} {oc2 kV2 dc2 pm2 cd2 ct2 : Value}
    {f3 : Addr} {od3 an3 : Option Addr} {sl3 : Array (Option Value)} {oc3 kV3 dc3 pm3 cd3 ct3 : Value}
    {f4 : Addr} {od4 an4 : Option Addr} {sl4 : Array (Option Value)} {oc4 kV4 dc4 pm4 cd4 ct4 : Value}
    {f5 : Addr} {od5 an5 : Option Addr} {sl5 : Array (Option Value)} {oc5 kV5 dc5 pm5 cd5 ct5 : Value}
    {f6 : Addr} {od6 an6 : Option Addr} {sl6 : Array (Option Value)} {oc6 kV6 dc6 pm6 cd6 ct6 : Value}
    {f7 : Addr} {od7 an7 : Option Addr} {sl7 : Array (Option Value)} {oc7 kV7 dc7 pm7 cd7 ct7 : Value}
    {f8 : Addr} {od8 an8 : Option Addr} {sl8 : Array (Option Value)} {oc8 kV8 dc8 pm8 cd8 ct8 : Value}
    {f9 : Addr} {od9 an9 : Option Addr} {sl9 : Array (Option Value)} {oc9 kV9 dc9 pm9 cd9 ct9 : Value}
    {f10 : Addr} {od10 an10 : Option Addr} {sl10 : Array (Option Value)} {oc10 kV10 dc10 pm10 cd10 ct10 : Value}
    {f11 : Addr} {od11 an11 : Option Addr} {sl11 : Array (Option Value)} {oc11 kV11 dc11 pm11 cd11 ct11 : Value}
    (a0 : PySem.W.nsIn K mainGlobals "place_behind" = some (some (.ref f0))) (l0 : K.lookup f0 = some ⟨oc0, od0, .func (PySem.W.fnOf "place_behind" "place_behind" (defArgs s_place_behind) (defBody s_place_behind) (defScope s_place_behind) .none kV0 dc0 pm0 an0 cd0 ct0), sl0⟩) (c0 : PySem.W.codeIn K cd0 "place_behind" = true) (k0 : PySem.W.keepIn K (.ref f0) = true)
    (a1 : PySem.W.nsIn K mainGlobals "told_turns" = some (some (.ref f1))) (l1 : K.lookup f1 = some ⟨oc1, od1, .func (PySem.W.fnOf "told_turns" "told_turns" (defArgs s_told_turns) (defBody s_told_turns) (defScope s_told_turns) .none kV1 dc1 pm1 an1 cd1 ct1), sl1⟩) (c1 : PySem.W.codeIn K cd1 "told_turns" = true) (k1 : PySem.W.keepIn K (.ref f1) = true)
    (a2 : PySem.W.nsIn K mainGlobals "is_turn_bar" = some (some (.ref f2))) (l2 : K.lookup f2 = some ⟨oc2, od2, .func (PySem.W.fnOf "is_turn_bar" "is_turn_bar" (defArgs s_is_turn_bar) (defBody s_is_turn_bar) (defScope s_is_turn_bar) .none kV2 dc2 pm2 an2 cd2 ct2), sl2⟩) (c2 : PySem.W.codeIn K cd2 "is_turn_bar" = true) (k2 : PySem.W.keepIn K (.ref f2) = true)
    (a3 : PySem.W.nsIn K mainGlobals "turn_bar" = some (some (.ref f3))) (l3 : K.lookup f3 = some ⟨oc3, od3, .func (PySem.W.fnOf "turn_bar" "turn_bar" (defArgs s_turn_bar) (defBody s_turn_bar) (defScope s_turn_bar) .none kV3 dc3 pm3 an3 cd3 ct3), sl3⟩) (c3 : PySem.W.codeIn K cd3 "turn_bar" = true) (k3 : PySem.W.keepIn K (.ref f3) = true)
    (a4 : PySem.W.nsIn K mainGlobals "_law_cell" = some (some (.ref f4))) (l4 : K.lookup f4 = some ⟨oc4, od4, .func (PySem.W.fnOf "_law_cell" "_law_cell" (defArgs s_f_law_cell) (defBody s_f_law_cell) (defScope s_f_law_cell) .none kV4 dc4 pm4 an4 cd4 ct4), sl4⟩) (c4 : PySem.W.codeIn K cd4 "_law_cell" = true) (k4 : PySem.W.keepIn K (.ref f4) = true)
    (a5 : PySem.W.nsIn K mainGlobals "_law_draws" = some (some (.ref f5))) (l5 : K.lookup f5 = some ⟨oc5, od5, .func (PySem.W.fnOf "_law_draws" "_law_draws" (defArgs s_f_law_draws) (defBody s_f_law_draws) (defScope s_f_law_draws) .none kV5 dc5 pm5 an5 cd5 ct5), sl5⟩) (c5 : PySem.W.codeIn K cd5 "_law_draws" = true) (k5 : PySem.W.keepIn K (.ref f5) = true)
    (a6 : PySem.W.nsIn K mainGlobals "_law_is_integer" = some (some (.ref f6))) (l6 : K.lookup f6 = some ⟨oc6, od6, .func (PySem.W.fnOf "_law_is_integer" "_law_is_integer" (defArgs s_f_law_is_integer) (defBody s_f_law_is_integer) (defScope s_f_law_is_integer) .none kV6 dc6 pm6 an6 cd6 ct6), sl6⟩) (c6 : PySem.W.codeIn K cd6 "_law_is_integer" = true) (k6 : PySem.W.keepIn K (.ref f6) = true)
    (a7 : PySem.W.nsIn K mainGlobals "_law_is" = some (some (.ref f7))) (l7 : K.lookup f7 = some ⟨oc7, od7, .func (PySem.W.fnOf "_law_is" "_law_is" (defArgs s_f_law_is) (defBody s_f_law_is) (defScope s_f_law_is) .none kV7 dc7 pm7 an7 cd7 ct7), sl7⟩) (c7 : PySem.W.codeIn K cd7 "_law_is" = true) (k7 : PySem.W.keepIn K (.ref f7) = true)
    (a8 : PySem.W.nsIn K mainGlobals "_law_floor" = some (some (.ref f8))) (l8 : K.lookup f8 = some ⟨oc8, od8, .func (PySem.W.fnOf "_law_floor" "_law_floor" (defArgs s_f_law_floor) (defBody s_f_law_floor) (defScope s_f_law_floor) .none kV8 dc8 pm8 an8 cd8 ct8), sl8⟩) (c8 : PySem.W.codeIn K cd8 "_law_floor" = true) (k8 : PySem.W.keepIn K (.ref f8) = true)
    (a9 : PySem.W.nsIn K mainGlobals "_law_reached" = some (some (.ref f9))) (l9 : K.lookup f9 = some ⟨oc9, od9, .func (PySem.W.fnOf "_law_reached" "_law_reached" (defArgs s_f_law_reached) (defBody s_f_law_reached) (defScope s_f_law_reached) .none kV9 dc9 pm9 an9 cd9 ct9), sl9⟩) (c9 : PySem.W.codeIn K cd9 "_law_reached" = true) (k9 : PySem.W.keepIn K (.ref f9) = true)
    (a10 : PySem.W.nsIn K mainGlobals "_law_bar" = some (some (.ref f10))) (l10 : K.lookup f10 = some ⟨oc10, od10, .func (PySem.W.fnOf "_law_bar" "_law_bar" (defArgs s_f_law_bar) (defBody s_f_law_bar) (defScope s_f_law_bar) .none kV10 dc10 pm10 an10 cd10 ct10), sl10⟩) (c10 : PySem.W.codeIn K cd10 "_law_bar" = true) (k10 : PySem.W.keepIn K (.ref f10) = true)
    (a11 : PySem.W.nsIn K mainGlobals "law" = some (some (.ref f11))) (l11 : K.lookup f11 = some ⟨oc11, od11, .func (PySem.W.fnOf "law" "law" (defArgs s_law) (defBody s_law) (defScope s_law) .none kV11 dc11 pm11 an11 cd11 ct11), sl11⟩) (c11 : PySem.W.codeIn K cd11 "law" = true) (k11 : PySem.W.keepIn K (.ref f11) = true)
    (z0 : PySem.W.nsIn K mainGlobals "abs" = some none)
    (z1 : PySem.W.nsIn K mainGlobals "all" = some none)
    (z2 : PySem.W.nsIn K mainGlobals "bool" = some none)
    (z3 : PySem.W.nsIn K mainGlobals "int" = some none)
    (z4 : PySem.W.nsIn K mainGlobals "isinstance" = some none)
    (z5 : PySem.W.nsIn K mainGlobals "len" = some none)
    (z6 : PySem.W.nsIn K mainGlobals "min" = some none)
    (z7 : PySem.W.nsIn K mainGlobals "range" = some none)
    (z8 : PySem.W.nsIn K mainGlobals "set" = some none)
    (z9 : PySem.W.nsIn K mainGlobals "sorted" = some none)
    (z10 : PySem.W.nsIn K mainGlobals "str" = some none)
    (z11 : PySem.W.nsIn K mainGlobals "sum" = some none)
    (z12 : PySem.W.nsIn K mainGlobals "tuple" = some none)
    {q : Program} (own : ∀ (y : Str) (f : Addr), ((recsOf q).any fun e => e.name == y) = true → mg y = some (.ref f) → LamX.OwnTab K f h)
    {tc2 tp2 : Addr} {te2 : Value} {td2 : Option Addr} {tv2 : Array Value} {ts2 : Array (Option Value)} (q2 : ((recsOf q).any fun e => e.name == "is_turn_bar") = true) (t2 : cd2 = .ref tc2) (e2 : K.lookup tc2 = some ⟨te2, td2, .fields tv2, ts2⟩) (v2 : tv2[11]? = some (.ref tp2)) (n2 : K.lookup tp2 = none) (r2 : PySem.W.codeHdIn K tc2 tp2 = true)
    (y0 : PySem.W.nsIn K mainGlobals "gcd" = some (some (.builtin "math.gcd")))
    : ∃ (fd : FuncData) (cs : List (Addr × Addr)), (∀ p ∈ cs, h.get? p.2 = some { cls := .none, data := .fields #[] }) ∧ (∀ p ∈ cs, K.lookup p.2 = none) ∧ (∀ p ∈ cs, PySem.W.CodeHd h p.1 p.2) ∧ (∀ (s : Shared) (v : Value), BindsTo s fd ⟨[v], []⟩ [("script", v)]) ∧ ∀ base : Heap, K.In base → base.Ns mainGlobals mg → (∀ p ∈ cs, GxR.TabB base mg p.1 p.2) → FnOk P w K mg base L2.CX0 8 fa fd ["script"] (spOf (cs.map (·.2)) K 1 R_law) := by
  have F0 := fun_mk (st := s_place_behind) l0 c0 k0
  have F1 := fun_mk (st := s_told_turns) l1 c1 k1
  have F2 := fun_mk (st := s_is_turn_bar) l2 c2 k2
  have F3 := fun_mk (st := s_turn_bar) l3 c3 k3
  have F4 := fun_mk (st := s_f_law_cell) l4 c4 k4
  have F5 := fun_mk (st := s_f_law_draws) l5 c5 k5
  have F6 := fun_mk (st := s_f_law_is_integer) l6 c6 k6
  have F7 := fun_mk (st := s_f_law_is) l7 c7 k7
  have F8 := fun_mk (st := s_f_law_floor) l8 c8 k8
  have F9 := fun_mk (st := s_f_law_reached) l9 c9 k9
  have F10 := fun_mk (st := s_f_law_bar) l10 c10 k10
  have F11 := fun_mk (st := s_law) l11 c11 k11
  let Z : Top K mg := {
    f_place_behind := f0, d_place_behind := _, F_place_behind := F0, b_place_behind := F0.binds (ps := ["m", "turns"]) fun _ _ _ _ _ _ us hl => match us, hl with | [_, _], _ => rfl, g_place_behind := PySem.W.mg_of X G a0,
    f_told_turns := f1, d_told_turns := _, F_told_turns := F1, b_told_turns := F1.binds (ps := ["m", "steps", "place"]) fun _ _ _ _ _ _ us hl => match us, hl with | [_, _, _], _ => rfl, g_told_turns := PySem.W.mg_of X G a1,
    f_is_turn_bar := f2, d_is_turn_bar := _, F_is_turn_bar := F2, b_is_turn_bar := F2.binds (ps := ["m", "steps", "place", "d"]) fun _ _ _ _ _ _ us hl => match us, hl with | [_, _, _, _], _ => rfl, g_is_turn_bar := PySem.W.mg_of X G a2,
    f_turn_bar := f3, d_turn_bar := _, F_turn_bar := F3, b_turn_bar := F3.binds (ps := ["m", "steps", "place"]) fun _ _ _ _ _ _ us hl => match us, hl with | [_, _, _], _ => rfl, g_turn_bar := PySem.W.mg_of X G a3,
    f_f_law_cell := f4, d_f_law_cell := _, F_f_law_cell := F4, b_f_law_cell := F4.binds (ps := ["script", "k"]) fun _ _ _ _ _ _ us hl => match us, hl with | [_, _], _ => rfl, g_f_law_cell := PySem.W.mg_of X G a4,
    f_f_law_draws := f5, d_f_law_draws := _, F_f_law_draws := F5, b_f_law_draws := F5.binds (ps := ["cell", "count"]) fun _ _ _ _ _ _ us hl => match us, hl with | [_, _], _ => rfl, g_f_law_draws := PySem.W.mg_of X G a5,
    f_f_law_is_integer := f6, d_f_law_is_integer := _, F_f_law_is_integer := F6, b_f_law_is_integer := F6.binds (ps := ["value"]) fun _ _ _ _ _ _ us hl => match us, hl with | [_], _ => rfl, g_f_law_is_integer := PySem.W.mg_of X G a6,
    f_f_law_is := f7, d_f_law_is := _, F_f_law_is := F7, b_f_law_is := F7.binds (ps := ["value", "due"]) fun _ _ _ _ _ _ us hl => match us, hl with | [_, _], _ => rfl, g_f_law_is := PySem.W.mg_of X G a7,
    f_f_law_floor := f8, d_f_law_floor := _, F_f_law_floor := F8, b_f_law_floor := F8.binds (ps := ["draws", "way"]) fun _ _ _ _ _ _ us hl => match us, hl with | [_, _], _ => rfl, g_f_law_floor := PySem.W.mg_of X G a8,
    f_f_law_reached := f9, d_f_law_reached := _, F_f_law_reached := F9, b_f_law_reached := F9.binds (ps := ["m", "steps"]) fun _ _ _ _ _ _ us hl => match us, hl with | [_, _], _ => rfl, g_f_law_reached := PySem.W.mg_of X G a9,
    f_f_law_bar := f10, d_f_law_bar := _, F_f_law_bar := F10, b_f_law_bar := F10.binds (ps := ["m", "steps", "place", "d"]) fun _ _ _ _ _ _ us hl => match us, hl with | [_, _, _, _], _ => rfl, g_f_law_bar := PySem.W.mg_of X G a10,
    f_law := f11, d_law := _, F_law := F11, b_law := F11.binds (ps := ["script"]) fun _ _ _ _ _ _ us hl => match us, hl with | [_], _ => rfl, g_law := PySem.W.mg_of X G a11,
    t_is_turn_bar := tc2, p_is_turn_bar := tp2, c_is_turn_bar := t2,
    m_abs := PySem.W.mg_none_of X G z0,
    m_all := PySem.W.mg_none_of X G z1,
    m_bool := PySem.W.mg_none_of X G z2,
    m_int := PySem.W.mg_none_of X G z3,
    m_isinstance := PySem.W.mg_none_of X G z4,
    m_len := PySem.W.mg_none_of X G z5,
    m_min := PySem.W.mg_none_of X G z6,
    m_range := PySem.W.mg_none_of X G z7,
    m_set := PySem.W.mg_none_of X G z8,
    m_sorted := PySem.W.mg_none_of X G z9,
    m_str := PySem.W.mg_none_of X G z10,
    m_sum := PySem.W.mg_none_of X G z11,
    m_tuple := PySem.W.mg_none_of X G z12,
    m_gcd := PySem.W.mg_of X G y0 }
  have e := hfa.symm.trans Z.g_law
  cases e
  refine ⟨Z.d_law, Z.cs, (allc (own_tab (own "is_turn_bar" f2 q2 (PySem.W.mg_of X G a2)) l2 rfl t2 e2 v2) alln), (allc (n2) alln), (allc (PySem.W.codeHd_of_K X r2) alln), fun s v => .of_eq rfl, fun base _ _ TT => ok_law Z TT⟩
end
end LK
end

section
set_option Elab.async false
set_option maxRecDepth 100000
namespace LK
open PySem EL

theorem cell_ok (ns : List Int) (k : Int) (h0 : 0 ≤ k) (h1 : k ≤ 1000) : ∃ c : Int, R_f_law_cell [.scr ns, .int k] = some (.int c) := by
  unfold R_f_law_cell
  rw [runF_a]
  unfold F_f_law_cell
  by_cases h : k < ns.length
  · refine ⟨ns.getD k.toNat 0, ?_⟩
    have e : L2.atI ns k = some (ns.getD k.toNat 0) := by
      rw [atI_ok h0 (by omega)]
      simp [List.getD, show k.toNat < ns.length by omega]
    simp [h, gIx_s, e]
  · refine ⟨5 * k + 3, ?_⟩
    simp [h, cMul_l]

theorem draws_ok (c n : Int) (h0 : 0 ≤ n) (h1 : n ≤ 1000) : ∃ ds : List Int, R_f_law_draws [.int c, .int n] = some (.lst (ds.map .int)) ∧ ds.length = n.toNat ∧ ∀ x ∈ ds, 0 ≤ x ∧ x < 5040 := by
  have body : ∀ (rest seed : Int) (dg : Bool) (ks : List Int), 0 ≤ rest → ks.length ≤ 1000 → ∃ fl, forGo (hName 6) [false, false, true, true, true, true, false, false]
      (sIf (fAnd (fTru (fV 3)) (fCmp (gII bGt) (fV 2) (fC (.int 0)))) (sSeq (sMut 5 gAppend (fAc (f2 (gI cMod Int.fmod) (fN gInt (fAc (fV 2) fA0)) (fC (.int 5040))) fA0))
  (sSet 2 (f2 (gI cDiv Int.fdiv) (fV 2) (fC (.int 5040))))) (sSeq (sSet 7 (f2 (gI cMod Int.fmod) (fN gInt (fAc (f2 gAdd (f2 gAdd (f2 gMul (fV 4) (fC (.int 48271))) (f2 gMul (f2 gAdd (fV 6) (fC (.int 1))) (fC (.int 69621)))) (fC (.int 11))) fA0)) (fC (.int 2147483647))))
  (sSeq (sSet 7 (f2 (gI cMod Int.fmod) (fN gInt (fAc (f2 gAdd (f2 gMul (fV 7) (fV 7)) (f2 gMul (fC (.int 40692)) (f2 gAdd (fV 6) (fC (.int 3))))) fA0)) (fC (.int 2147483399))))
  (sMut 5 gAppend (fAc (f2 (gI cMod Int.fmod) (fN gInt (fAc (f2 (gI cDiv Int.fdiv) (fV 7) (fC (.int 64))) fA0)) (fC (.int 5040))) fA0)))))
      (ks.map Dt.int) [.un, .un, .im (.int rest), .im (.bl dg), .im (.int seed), .ow [], .un, .un] = some fl ∧
      ∃ (r : Int) (ds : List Int), fl = .nx [.un, .un, .im (.int r), .im (.bl dg), .im (.int seed), .ow (ds.map .int), .un, .un] ∧ ds.length = ks.length ∧ ∀ x ∈ ds, 0 ≤ x ∧ x < 5040 := by
    intro rest seed dg ks hr hk
    refine for_inv (fun rem ρ => ∃ (r : Int) (ds js : List Int), rem = js.map Dt.int ∧ ρ = [.un, .un, .im (.int r), .im (.bl dg), .im (.int seed), .ow (ds.map .int), .un, .un] ∧ 0 ≤ r ∧ ds.length + js.length = ks.length ∧ ∀ x ∈ ds, 0 ≤ x ∧ x < 5040)
      _ (fun d rem ρ h => ?_) (fun ρ h => ?_) _ _ ⟨rest, [], ks, rfl, rfl, hr, by simp, by simp⟩
    · obtain ⟨r, ds, js, e1, rfl, h2, h3, h4⟩ := h
      cases js with
      | nil => simp at e1
      | cons j js =>
        simp only [List.map_cons, List.cons.injEq] at e1
        obtain ⟨rfl, rfl⟩ := e1
        have hlen : ds.length < sizeLine := size_gt (by simp at h3; omega)
        have m1 : ∀ x : Int, 0 ≤ x.fmod 5040 ∧ x.fmod 5040 < 5040 := fun x => ⟨Int.fmod_nonneg_of_pos x (by omega), Int.fmod_lt_of_pos x (by omega)⟩
        by_cases hc : dg = true ∧ 0 < r
        · obtain ⟨rfl, hr0⟩ := hc
          refine ⟨.nx [.un, .un, .im (.int (r.fdiv 5040)), .im (.bl true), .im (.int seed), .ow ((ds ++ [r.fmod 5040]).map .int), .un, .un], ?_, r.fdiv 5040, ds ++ [r.fmod 5040], js, rfl, rfl, ?_, ?_, ?_⟩
          · simp [turn, hr0, cMod_of, cDiv_of, hlen]
          · rw [Int.fdiv_eq_ediv_of_nonneg _ (by omega)]; omega
          · simp at h3 ⊢; omega
          · intro x hx
            rcases List.mem_append.mp hx with hx | hx
            · exact h4 x hx
            · rw [List.mem_singleton.mp hx]; exact m1 r
        · have hc' : (dg && decide (0 < r)) = false := by
            cases dg <;> simp_all
          generalize hm1 : (seed * 48271 + (j + 1) * 69621 + 11).fmod 2147483647 = a1
          have ha1 : 0 ≤ a1 ∧ a1 < 2147483647 := by rw [← hm1]; exact ⟨Int.fmod_nonneg_of_pos _ (by omega), Int.fmod_lt_of_pos _ (by omega)⟩
          generalize hm2 : (a1 * a1 + 40692 * (j + 3)).fmod 2147483399 = a2
          refine ⟨.nx [.un, .un, .im (.int r), .im (.bl dg), .im (.int seed), .ow ((ds ++ [(a2.fdiv 64).fmod 5040]).map .int), .un, .un], ?_, r, ds ++ [(a2.fdiv 64).fmod 5040], js, rfl, rfl, h2, ?_, ?_⟩
          · have h5 : (if dg = true then some (decide (0 < r)) else some false) = some false := by
              cases dg <;> simp_all
            simp [turn, h5, cMod_of, cDiv_of, hlen, cMul_r, cMul_l, hm1, hm2, cMul_l (show -1000000000000000000 ≤ a1 by omega) (show a1 ≤ 1000000000000000000 by omega)]
          · simp at h3 ⊢; omega
          · intro x hx
            rcases List.mem_append.mp hx with hx | hx
            · exact h4 x hx
            · rw [List.mem_singleton.mp hx]; exact m1 _
    · obtain ⟨r, ds, js, e1, rfl, h2, h3, h4⟩ := h
      have : js = [] := by simpa using e1.symm
      subst this
      exact ⟨r, ds, rfl, by simpa using h3, h4⟩
  unfold R_f_law_draws
  rw [runF_a]
  unfold F_f_law_draws
  have hp : cPow 10 18 = true := by decide
  have hge : 0 ≤ (if c < 0 then -c else c) := by split <;> omega
  obtain ⟨fl, e1, r, ds, rfl, h5, h6⟩ := body (if c < 0 then -c else c) (if c < 0 then -c else c) (decide (10 ^ 18 ≤ (if c < 0 then -c else c))) (rgI 0 n) hge (by rw [rgI_length]; omega)
  refine ⟨ds, ?_, by rw [h5, rgI_length]; omega, h6⟩
  simp [hp, rng1_of (show -1000000000 ≤ n by omega) (show n ≤ 1000000000 by omega)]
  simp at e1
  rw [e1]
  simp [frz]
theorem isinteger_i (i : Int) : R_f_law_is_integer [.int i] = some (.bl true) := by
  unfold R_f_law_is_integer
  rw [runF_a]
  unfold F_f_law_is_integer
  have h1 : isiB (Dt.int i).ty "int" = true := by simp only [Dt.ty]; decide
  have h2 : isiB (Dt.int i).ty "bool" = false := by simp only [Dt.ty]; decide
  simp [h1, h2]
theorem is_non (k : Nat) : Rn_f_law_is (k + 1) [.non, .non] = some (.bl true) := by
  show runF 3 (F_f_law_is _) _ = _
  rw [runF_a]
  unfold F_f_law_is
  simp
theorem is_int (k : Nat) (i : Int) : Rn_f_law_is (k + 1) [.int i, .int i] = some (.bl true) := by
  show runF 3 (F_f_law_is _) _ = _
  rw [runF_a]
  unfold F_f_law_is
  have h1 : isiB (Dt.int i).ty "int" = true := by simp only [Dt.ty]; decide
  have h2 : isiB (Dt.int i).ty "bool" = false := by simp only [Dt.ty]; decide
  simp [h1, h2, isinteger_i]
theorem is_bl (k : Nat) (i : Bool) : Rn_f_law_is (k + 1) [.bl i, .bl i] = some (.bl true) := by
  show runF 3 (F_f_law_is _) _ = _
  rw [runF_a]
  unfold F_f_law_is
  have h2 : isiB (Dt.bl i).ty "bool" = true := by simp only [Dt.ty]; decide
  simp [h2]
theorem is_tup (k : Nat) (ds : List Dt) (hn : ds.length ≤ 1000) (h : ∀ d ∈ ds, Rn_f_law_is k [d, d] = some (.bl true)) : Rn_f_law_is (k + 1) [.tup ds, .tup ds] = some (.bl true) := by
  show runF 3 (F_f_law_is _) _ = _
  rw [runF_a]
  unfold F_f_law_is
  have h1 : isiB (Dt.tup ds).ty "bool" = false := by simp only [Dt.ty]; decide
  have h2 : isiB (Dt.tup ds).ty "int" = false := by simp only [Dt.ty]; decide
  have h3 : isiB (Dt.tup ds).ty "str" = false := by simp only [Dt.ty]; decide
  have h4 : isiB (Dt.tup ds).ty "tuple" = true := by simp only [Dt.ty]; decide
  have h5 : compGo [.im (.tup ds), .im (.tup ds), .un] (hName 2) fYes (fFn 2 (Rn_f_law_is k) (fAc (f2 gIx (fV 0) (fV 2)) (fAc (f2 gIx (fV 1) (fV 2)) fA0))) ((rgI 0 ds.length).map Dt.int) = some ((rgI 0 ds.length).map fun _ => Dt.bl true) := by
    refine comp_all Dt.int (fun _ => Dt.bl true) _ fun x hx => ⟨_, rfl, rfl, ?_⟩
    rw [mem_rgI] at hx
    simp
    rw [atI_ok hx.1 (by omega)]
    simp
    exact h _ (List.getElem_mem _)
  have h6 : (rgI 0 ds.length).map (fun _ => Dt.bl true) = ((rgI 0 ds.length).map (fun _ => true)).map Dt.bl := by rw [List.map_map]; rfl
  rw [sSeq_nx (ρ' := [.im (.tup ds), .im (.tup ds), .un]) (by simp)]
  rw [sSeq_nx (ρ' := [.im (.tup ds), .im (.tup ds), .un]) (by simp [h1])]
  rw [sSeq_nx (ρ' := [.im (.tup ds), .im (.tup ds), .un]) (by simp [h2])]
  rw [sSeq_nx (ρ' := [.im (.tup ds), .im (.tup ds), .un]) (by simp [h3])]
  rw [sSeq_nx (ρ' := [.im (.tup ds), .im (.tup ds), .un]) (by simp [h4])]
  have h9 : ∀ g : FnL, g [.im (.tup ds), .im (.tup ds), .un] = some ((rgI 0 ds.length).map fun _ => Dt.bl true) → (sRet (fN gAll (fAc (fLst g) fA0)) [.im (.tup ds), .im (.tup ds), .un]).bind endOf = some (.bl true) := by
    intro g hg
    simp only [sRet_a, fN_a, fAc_a, fLst_a, fA0_a, hg, Option.bind_some, h6, gAll_l]
    simp
  refine h9 _ ?_
  refine fComp_of (ds := (rgI 0 ds.length).map Dt.int) ?_ rfl (by rw [List.length_map, rgI_length]; omega) h5
  simp [rng1_of (show (-1000000000 : Int) ≤ ds.length by omega) (show (ds.length : Int) ≤ 1000000000 by omega)]
theorem is_int' (i : Int) : R_f_law_is [.int i, .int i] = some (.bl true) := is_int 5 i
theorem is_non' : R_f_law_is [.non, .non] = some (.bl true) := is_non 5
theorem is_bl' (b : Bool) : R_f_law_is [.bl b, .bl b] = some (.bl true) := is_bl 5 b
theorem is_en2 (q : Int × Int) : R_f_law_is [en2 q, en2 q] = some (.bl true) := is_tup 5 _ (by simp) (by
  intro d hd
  rcases List.mem_cons.mp hd with rfl | hd
  · exact is_int 4 _
  · rw [List.mem_singleton.mp hd]; exact is_int 4 _)
theorem draws_dl (ns : List Int) (k n : Int) (h0 : 0 ≤ k) (h1 : k ≤ 1000) (n0 : 0 ≤ n) (n1 : n ≤ 1000) : ∃ (c : Int) (dn : List Nat), R_f_law_cell [.scr ns, .int k] = some (.int c) ∧ R_f_law_draws [.int c, .int n] = some (.lst (dl dn)) ∧ dn.length = n.toNat := by
  obtain ⟨c, hc⟩ := cell_ok ns k h0 h1
  obtain ⟨ds, e1, e2, e3⟩ := draws_ok c n n0 n1
  have e4 : ds.map Dt.int = dl (ds.map Int.toNat) := by
    unfold dl
    rw [List.map_map]
    refine List.map_congr_left fun x hx => ?_
    show Dt.int x = Dt.int (x.toNat : Int)
    rw [Int.toNat_of_nonneg (e3 x hx).1]
  rw [e4] at e1
  exact ⟨c, ds.map Int.toNat, hc, e1, by rw [List.length_map, e2]⟩
theorem cut_dl (dn : List Nat) (a b : Nat) (h : a ≤ b) (hb : b ≤ dn.length) : cutL (dl dn) (some (a : Int)) (some (b : Int)) = dl ((dn.drop a).take (b - a)) := by
  unfold cutL dl
  rw [List.length_map, HT.sIx_nat, HT.sIx_nat, Nat.min_eq_left hb, Nat.min_eq_left (by omega), List.map_take, List.map_drop]
theorem minLL_ints (x : Int) (l : List Int) : gMinD [.lst ((x :: l).map Dt.int)] = some (.int (l.foldl min x)) := minT_ints x l
end LK
end

section
set_option Elab.async false
set_option maxRecDepth 100000
/-! common helpers of laws, over CX -/
namespace LK
open PySem EL
open PySem.W (AlikeAll dataLt alike alikeAll)
abbrev tI (S : List Int) : Dt := .tup (S.map Dt.int)
abbrev lI (S : List Int) : Dt := .lst (S.map Dt.int)
abbrev nE (x : Nat) : Dt := .int (x : Nat)
theorem rgN (n : Nat) : (rgI 0 (n : Int)).map Dt.int = (List.range n).map nE := by
  unfold rgI
  rw [List.map_map]
  have : ((n : Int) - 0).toNat = n := by omega
  rw [this]
  refine List.map_congr_left fun x _ => ?_
  show Dt.int (0 + (x : Int)) = Dt.int (x : Int)
  rw [Int.zero_add]
theorem rngN {n : Nat} (h : n ≤ 1000000000) : gRng1 [.int (n : Nat)] = some ((List.range n).map nE) := by
  rw [rng1_of (by omega) (by omega), rgN]
theorem cut_take {α : Type} (xs : List α) (n : Nat) (h : n ≤ xs.length) : cutL xs none (some (n : Int)) = xs.take n := by
  unfold cutL
  rw [HT.sIx_nat, Nat.min_eq_left h]
  simp [HT.sIx]
theorem cut_drop {α : Type} (xs : List α) (n : Nat) (h : n ≤ xs.length) : cutL xs (some (n : Int)) none = xs.drop n := by
  unfold cutL
  rw [HT.sIx_nat, Nat.min_eq_left h]
  simp [HT.sIx]
  exact List.take_of_length_le (by simp)
theorem is_tI (l : List Int) (h : l.length ≤ 1000) : R_f_law_is [tI l, tI l] = some (.bl true) := is_tup 5 _ (by rw [List.length_map]; exact h) (by
  intro d hd
  obtain ⟨x, _, rfl⟩ := List.mem_map.mp hd
  exact is_int 4 x)
theorem ints_of {l : List Dt} (h : ∀ d ∈ l, ∃ i, d = .int i) : ∃ m : List Int, l = m.map Dt.int := by
  induction l with
  | nil => exact ⟨[], rfl⟩
  | cons d l ih =>
    obtain ⟨i, rfl⟩ := h d List.mem_cons_self
    obtain ⟨m, rfl⟩ := ih fun x hx => h x (List.mem_cons_of_mem _ hx)
    exact ⟨i :: m, rfl⟩
theorem atI_end {α : Type} (f : α → Dt) (ps : List α) (x : α) : L2.atI ((ps ++ [x]).map f) (-1) = some (f x) := by
  rw [atI_neg (by omega) (by rw [List.length_map, List.length_append, List.length_singleton]; omega)]
  congr 1
  rw [List.getElem_map]
  congr 1
  have : (-1 + (((ps ++ [x]).map f).length : Int)).toNat = ps.length := by
    rw [List.length_map, List.length_append, List.length_singleton]; omega
  simp only [this]
  simp
theorem rgI_sorted (a b : Int) : (rgI a b).Pairwise (· < ·) := by
  unfold rgI
  rw [List.pairwise_map]
  exact List.pairwise_lt_range.imp fun h => by omega
def optD : Option Int → Dt
  | none => .non
  | some i => .int i
theorem is_optD (o : Option Int) : R_f_law_is [optD o, optD o] = some (.bl true) := by
  cases o with
  | none => exact is_non'
  | some i => exact is_int' i
def optP : Option (Int × Int) → Dt
  | none => .non
  | some q => en2 q
theorem is_optP (o : Option (Int × Int)) : R_f_law_is [optP o, optP o] = some (.bl true) := by
  cases o with
  | none => exact is_non'
  | some i => exact is_en2 i
theorem head_lst {α : Type} (f : α → Dt) (l : List α) : (if decide ((0 : Int) < ((l.map f).length : Int)) = true then L2.atI (l.map f) 0 else some Dt.non) = some (match l.head? with | some x => f x | none => .non) := by
  cases l with
  | nil => rfl
  | cons x l =>
    rw [if_pos (decide_eq_true (by simp only [List.map_cons, List.length_cons]; omega))]
    rw [List.map_cons, atI_c0]
    rfl
theorem head_i (l : List Int) : (if decide ((0 : Int) < ((l.map Dt.int).length : Int)) = true then L2.atI (l.map Dt.int) 0 else some Dt.non) = some (optD l.head?) := by
  rw [head_lst]
  cases l <;> rfl
theorem head_p (l : List (Int × Int)) : (if decide ((0 : Int) < ((l.map en2).length : Int)) = true then L2.atI (l.map en2) 0 else some Dt.non) = some (optP l.head?) := by
  rw [head_lst]
  cases l <;> rfl
theorem zip_all (f : Int → Nat → Bool) : ∀ (ro : List Int) (k : Nat), (ro.zipIdx k).all (fun q => f q.1 q.2) = (List.range ro.length).all fun d => f (ro.getD d 0) (k + d)
  | [], k => rfl
  | r :: ro, k => by
    rw [List.zipIdx_cons, List.all_cons, zip_all f ro (k + 1), List.length_cons, List.range_succ_eq_map, List.all_cons, List.all_map]
    congr 1
    refine congrFun (congrArg List.all rfl |>.trans rfl) _ |>.trans ?_
    congr 1
    funext d
    show f (ro.getD d 0) (k + 1 + d) = f ((r :: ro).getD (d + 1) 0) (k + (d + 1))
    rw [show k + 1 + d = k + (d + 1) by omega]
    rfl
theorem notin_lints (i : Int) (l : List Int) : gNotIn (.int i) (.lst (l.map Dt.int)) = some (decide (i ∉ l)) := by
  unfold gNotIn
  rw [in_lints]
  by_cases h : i ∈ l <;> simp [h]
theorem ro_at {ro : List Int} {d : Nat} (h : d < ro.length) : L2.atI (ro.map Dt.int) (d : Int) = some (.int (ro.getD d 0)) := by
  rw [atI_map_int (by omega) (by omega)]
  simp
/-! least and greatest of ints -/
def mnL : List Int → Int
  | [] => 0
  | x :: l => l.foldl min x
def mxL : List Int → Int
  | [] => 0
  | x :: l => l.foldl max x
theorem foldl_min_mem : ∀ (l : List Int) (x : Int), l.foldl min x ∈ x :: l
  | [], x => by simp
  | y :: l, x => by
    have := foldl_min_mem l (min x y)
    rw [List.foldl_cons]
    rcases List.mem_cons.mp this with h | h
    · rw [h]
      by_cases hh : x ≤ y
      · rw [Int.min_eq_left hh]; exact List.mem_cons_self
      · rw [Int.min_eq_right (by omega)]; exact List.mem_cons_of_mem _ List.mem_cons_self
    · exact List.mem_cons_of_mem _ (List.mem_cons_of_mem _ h)
theorem foldl_min_le : ∀ (l : List Int) (x y : Int), y ∈ x :: l → l.foldl min x ≤ y
  | [], x, y, h => by rw [List.mem_singleton.mp h]; exact Int.le_refl _
  | z :: l, x, y, h => by
    rw [List.foldl_cons]
    have h0 := foldl_min_le l (min x z) (min x z) List.mem_cons_self
    rcases List.mem_cons.mp h with h | h
    · subst h; omega
    · rcases List.mem_cons.mp h with h | h
      · subst h; omega
      · exact foldl_min_le l _ y (List.mem_cons_of_mem _ h)
theorem mnL_mem {l : List Int} (h : l ≠ []) : mnL l ∈ l := by
  cases l with
  | nil => exact absurd rfl h
  | cons x l => exact foldl_min_mem l x
theorem mnL_le {l : List Int} {y : Int} (h : y ∈ l) : mnL l ≤ y := by
  cases l with
  | nil => cases h
  | cons x l => exact foldl_min_le l x y h
theorem foldl_max_mem : ∀ (l : List Int) (x : Int), l.foldl max x ∈ x :: l
  | [], x => by simp
  | y :: l, x => by
    have := foldl_max_mem l (max x y)
    rw [List.foldl_cons]
    rcases List.mem_cons.mp this with h | h
    · rw [h]
      by_cases hh : y ≤ x
      · rw [Int.max_eq_left hh]; exact List.mem_cons_self
      · rw [Int.max_eq_right (by omega)]; exact List.mem_cons_of_mem _ List.mem_cons_self
    · exact List.mem_cons_of_mem _ (List.mem_cons_of_mem _ h)
theorem foldl_max_le : ∀ (l : List Int) (x y : Int), y ∈ x :: l → y ≤ l.foldl max x
  | [], x, y, h => by rw [List.mem_singleton.mp h]; exact Int.le_refl _
  | z :: l, x, y, h => by
    rw [List.foldl_cons]
    have h0 := foldl_max_le l (max x z) (max x z) List.mem_cons_self
    rcases List.mem_cons.mp h with h | h
    · subst h; omega
    · rcases List.mem_cons.mp h with h | h
      · subst h; omega
      · exact foldl_max_le l _ y (List.mem_cons_of_mem _ h)
theorem mxL_mem {l : List Int} (h : l ≠ []) : mxL l ∈ l := by
  cases l with
  | nil => exact absurd rfl h
  | cons x l => exact foldl_max_mem l x
theorem mxL_le {l : List Int} {y : Int} (h : y ∈ l) : y ≤ mxL l := by
  cases l with
  | nil => cases h
  | cons x l => exact foldl_max_le l x y h
theorem bestI (l : List Int) (x : Int) : bestD (fun y a => dataLt a y) (.int x) (l.map Dt.int) = .int (l.foldl max x) := by
  have h := bestD_py (fun y a => dataLt a y) (l.map Dt.int) (.int x)
  rw [pyA_ints] at h
  have h2 := W.maxD_ints x l
  unfold W.maxD at h2
  have h3 : (Dt.int x).py = PyData.int x := by simp [Dt.py]
  rw [h3, h2] at h
  have h4 : (Dt.int (l.foldl max x)).py = PyData.int (l.foldl max x) := by simp [Dt.py]
  rw [← h4] at h
  exact (py_inj _ _ h.symm (by simp [Dt.py, PyData.canLay0])).symm
theorem best_ints (x : Int) (l : List Int) : cdc (AlikeAll (Dt.pyA (.int x :: l.map Dt.int)) ∧ PyData.canLayAll0 (Dt.pyA (.int x :: l.map Dt.int)) = true ∧ PyData.depthAll (Dt.pyA (.int x :: l.map Dt.int)) ≤ 60) = true := by
  have := cdc_t (p := AlikeAll (Dt.pyA ((x :: l).map Dt.int)) ∧ PyData.canLayAll0 (Dt.pyA ((x :: l).map Dt.int)) = true ∧ PyData.depthAll (Dt.pyA ((x :: l).map Dt.int)) ≤ 60) ⟨alike_ints x l, lay_ints (x :: l), Nat.le_trans (depth_ints (x :: l)) (by omega)⟩
  rw [List.map_cons] at this
  exact this
theorem minD_l {l : List Int} (h : l ≠ []) : gMinD [lI l] = some (.int (mnL l)) := by
  cases l with
  | nil => exact absurd rfl h
  | cons x l => exact minLL_ints x l
theorem minD_t {l : List Int} (h : l ≠ []) : gMinD [tI l] = some (.int (mnL l)) := by
  cases l with
  | nil => exact absurd rfl h
  | cons x l => exact minT_ints x l
theorem maxD_l {l : List Int} (h : l ≠ []) : gMaxD [lI l] = some (.int (mxL l)) := by
  cases l with
  | nil => exact absurd rfl h
  | cons x l =>
    show (if cdc _ = true then some (bestD (fun y a => dataLt a y) (.int x) (l.map Dt.int)) else none) = _
    rw [if_pos (best_ints x l), bestI]
    rfl
theorem maxD_t {l : List Int} (h : l ≠ []) : gMaxD [tI l] = some (.int (mxL l)) := by
  cases l with
  | nil => exact absurd rfl h
  | cons x l =>
    show (if cdc _ = true then some (bestD (fun y a => dataLt a y) (.int x) (l.map Dt.int)) else none) = _
    rw [if_pos (best_ints x l), bestI]
    rfl
theorem maxDf_l (l : List Int) (d : Dt) : gMaxDf (lI l) d = some (if l = [] then d else .int (mxL l)) := by
  cases l with
  | nil => rfl
  | cons x l =>
    show (if cdc _ = true then some (bestD (fun y a => dataLt a y) (.int x) (l.map Dt.int)) else none) = _
    rw [if_pos (best_ints x l), bestI]
    rfl
theorem maxDf_t (l : List Int) (d : Dt) : gMaxDf (tI l) d = some (if l = [] then d else .int (mxL l)) := by
  cases l with
  | nil => rfl
  | cons x l =>
    show (if cdc _ = true then some (bestD (fun y a => dataLt a y) (.int x) (l.map Dt.int)) else none) = _
    rw [if_pos (best_ints x l), bestI]
    rfl
/-- the first of a walk upwards -/
theorem find_up {p : Int → Bool} {a b m : Int} (h1 : a ≤ m) (h2 : m < b) (h3 : p m = true) (h4 : ∀ l, a ≤ l → l < m → p l = false) : (rgI a b).find? p = some m := by
  have hm : m ∈ rgI a b := mem_rgI.mpr ⟨h1, h2⟩
  cases hq : (rgI a b).find? p with
  | none =>
    rw [List.find?_eq_none] at hq
    exact absurd h3 (hq m hm)
  | some x =>
    obtain ⟨hx, as, bs, e, hn⟩ := List.find?_eq_some_iff_append.mp hq
    have hs := rgI_sorted a b
    have hxm : x ∈ rgI a b := by rw [e]; simp
    rw [mem_rgI] at hxm
    rw [e] at hm hs
    rcases List.mem_append.mp hm with h | h
    · have := hn m h
      rw [h3] at this
      cases this
    · rcases List.mem_cons.mp h with h | h
      · rw [h]
      · have := (List.pairwise_append.mp hs).2.1
        have := (List.pairwise_cons.mp this).1 m h
        have := h4 x hxm.1 this
        rw [hx] at this
        cases this
end LK
end

section
set_option Elab.async false
set_option maxRecDepth 100000
namespace LK
open EL (lexB)
theorem lex_tri : ∀ a b : List Int, lexB a b = false → lexB b a = false → a = b
  | [], [], _, _ => rfl
  | [], _ :: _, h, _ => by cases h
  | _ :: _, [], _, h => by cases h
  | x :: xs, y :: ys, h1, h2 => by
    unfold lexB at h1 h2
    by_cases e : x = y
    · subst e
      rw [if_pos rfl] at h1 h2
      rw [lex_tri xs ys h1 h2]
    · rw [if_neg e, decide_eq_false_iff_not] at h1
      rw [if_neg fun h => e h.symm, decide_eq_false_iff_not] at h2
      omega
theorem lex_trans : ∀ a b c : List Int, lexB a b = true → lexB b c = true → lexB a c = true
  | [], [], _, h, _ => by cases h
  | [], _ :: _, [], _, h => by cases h
  | [], _ :: _, _ :: _, _, _ => rfl
  | _ :: _, [], _, h, _ => by cases h
  | _ :: _, _ :: _, [], _, h => by cases h
  | x :: xs, y :: ys, z :: zs, h1, h2 => by
    unfold lexB at h1 h2 ⊢
    by_cases e1 : x = y
    · subst e1
      rw [if_pos rfl] at h1
      by_cases e2 : x = z
      · subst e2
        rw [if_pos rfl] at h2 ⊢
        exact lex_trans xs ys zs h1 h2
      · rw [if_neg e2] at h2 ⊢
        exact h2
    · rw [if_neg e1, decide_eq_true_eq] at h1
      by_cases e2 : y = z
      · subst e2
        rw [if_neg e1, decide_eq_true_eq]
        exact h1
      · rw [if_neg e2, decide_eq_true_eq] at h2
        rw [if_neg (by omega), decide_eq_true_eq]
        omega
/-! the least pair -/
abbrev PR := Int × List Int
def pLt (a b : PR) : Bool := if a.1 = b.1 then lexB a.2 b.2 else decide (a.1 < b.1)
def minP (a b : PR) : PR := if pLt b a = true then b else a
theorem pLt_tri {a b : PR} (h1 : pLt a b = false) (h2 : pLt b a = false) : a = b := by
  unfold pLt at h1 h2
  obtain ⟨x, u⟩ := a
  obtain ⟨y, v⟩ := b
  simp only at h1 h2
  by_cases e : x = y
  · subst e
    rw [if_pos rfl] at h1 h2
    rw [lex_tri _ _ h1 h2]
  · rw [if_neg e, decide_eq_false_iff_not] at h1
    rw [if_neg fun h => e h.symm, decide_eq_false_iff_not] at h2
    omega
theorem pLt_trans {a b c : PR} (h1 : pLt a b = true) (h2 : pLt b c = true) : pLt a c = true := by
  unfold pLt at h1 h2 ⊢
  by_cases e1 : a.1 = b.1
  · rw [if_pos e1] at h1
    by_cases e2 : b.1 = c.1
    · rw [if_pos e2] at h2
      rw [if_pos (e1.trans e2)]
      exact lex_trans _ _ _ h1 h2
    · rw [if_neg e2] at h2
      rw [if_neg (fun h => e2 (e1.symm.trans h)), e1]
      exact h2
  · rw [if_neg e1, decide_eq_true_eq] at h1
    by_cases e2 : b.1 = c.1
    · rw [if_neg (fun h => e1 (h.trans e2.symm)), ← e2]
      exact decide_eq_true h1
    · rw [if_neg e2, decide_eq_true_eq] at h2
      rw [if_neg (by omega)]
      exact decide_eq_true (by omega)
theorem nlt_trans {a b c : PR} (h1 : pLt c b = false) (h2 : pLt b a = false) : pLt c a = false := by
  cases h : pLt c a with
  | false => rfl
  | true =>
    cases hb : pLt b c with
    | true =>
      rw [pLt_trans hb h] at h2
      cases h2
    | false =>
      rw [pLt_tri h1 hb] at h
      rw [h] at h2
      cases h2
theorem lexB_self (a : List Int) : lexB a a = false := by
  induction a with
  | nil => rfl
  | cons b a ih => unfold lexB; rw [if_pos rfl]; exact ih
theorem pLt_self (a : PR) : pLt a a = false := by unfold pLt; rw [if_pos rfl]; exact lexB_self _
theorem pLt_asy {a b : PR} (h : pLt a b = true) : pLt b a = false := by
  cases h2 : pLt b a with
  | false => rfl
  | true =>
    have := pLt_trans h h2
    rw [pLt_self] at this
    cases this
theorem minP_l (a b : PR) : pLt a (minP a b) = false := by
  unfold minP
  split
  · rename_i h; exact pLt_asy h
  · exact pLt_self a
theorem minP_r (a b : PR) : pLt b (minP a b) = false := by
  unfold minP
  split
  · exact pLt_self b
  · rename_i h; exact Bool.eq_false_iff.mpr h
theorem minP_or (a b : PR) : minP a b = a ∨ minP a b = b := by
  unfold minP
  split
  · exact .inr rfl
  · exact .inl rfl
theorem best_spec (g : List Nat → PR) (p : List Nat → Bool) : ∀ (L : List (List Nat)) (a : PR), ((L.foldl (fun a H => if p H = true then minP a (g H) else a) a) = a ∨ ∃ H ∈ L, p H = true ∧ (L.foldl (fun a H => if p H = true then minP a (g H) else a) a) = g H) ∧ pLt a (L.foldl (fun a H => if p H = true then minP a (g H) else a) a) = false ∧ ∀ H ∈ L, p H = true → pLt (g H) (L.foldl (fun a H => if p H = true then minP a (g H) else a) a) = false
  | [], a => ⟨.inl rfl, pLt_self a, fun H hH => by cases hH⟩
  | G :: L, a => by
    rw [List.foldl_cons]
    obtain ⟨h1, h2, h3⟩ := best_spec g p L (if p G = true then minP a (g G) else a)
    by_cases hG : p G = true
    · rw [if_pos hG] at h1 h2 h3 ⊢
      refine ⟨?_, nlt_trans (minP_l _ _) h2, fun H hH hp => ?_⟩
      · rcases h1 with h1 | ⟨H, q1, q2, q3⟩
        · rcases minP_or a (g G) with e | e
          · exact .inl (h1.trans e)
          · exact .inr ⟨G, List.mem_cons_self, hG, h1.trans e⟩
        · exact .inr ⟨H, List.mem_cons_of_mem _ q1, q2, q3⟩
      · rcases List.mem_cons.mp hH with rfl | hH
        · exact nlt_trans (minP_r _ _) h2
        · exact h3 H hH hp
    · rw [if_neg hG] at h1 h2 h3 ⊢
      refine ⟨?_, h2, fun H hH hp => ?_⟩
      · rcases h1 with h1 | ⟨H, q1, q2, q3⟩
        · exact .inl h1
        · exact .inr ⟨H, List.mem_cons_of_mem _ q1, q2, q3⟩
      · rcases List.mem_cons.mp hH with rfl | hH
        · exact absurd hp hG
        · exact h3 H hH hp
def mnP : List PR → PR
  | [] => (0, [])
  | x :: l => l.foldl minP x
theorem mnP_spec' : ∀ (l : List PR) (x : PR), l.foldl minP x ∈ x :: l ∧ ∀ y ∈ x :: l, pLt y (l.foldl minP x) = false
  | [], x => ⟨List.mem_cons_self, fun y hy => by rw [List.mem_singleton.mp hy]; exact pLt_self x⟩
  | z :: l, x => by
    rw [List.foldl_cons]
    obtain ⟨h1, h2⟩ := mnP_spec' l (minP x z)
    refine ⟨?_, fun y hy => ?_⟩
    · rcases List.mem_cons.mp h1 with e | h1
      · rw [e]
        rcases minP_or x z with e | e <;> rw [e]
        · exact List.mem_cons_self
        · exact List.mem_cons_of_mem _ List.mem_cons_self
      · exact List.mem_cons_of_mem _ (List.mem_cons_of_mem _ h1)
    · rcases List.mem_cons.mp hy with rfl | hy
      · exact nlt_trans (minP_l _ _) (h2 _ List.mem_cons_self)
      · rcases List.mem_cons.mp hy with rfl | hy
        · exact nlt_trans (minP_r _ _) (h2 _ List.mem_cons_self)
        · exact h2 y (List.mem_cons_of_mem _ hy)
theorem mnP_spec {l : List PR} (h : l ≠ []) : mnP l ∈ l ∧ ∀ y ∈ l, pLt y (mnP l) = false := by
  cases l with
  | nil => exact absurd rfl h
  | cons x l => exact mnP_spec' l x
/-! sets -/
def subsL : Nat → List (List Nat)
  | 0 => [[]]
  | n + 1 => subsL n ++ (subsL n).map fun o => o ++ [n]
theorem subs_in : ∀ n H, H ∈ subsL n → H.Pairwise (· < ·) ∧ ∀ x ∈ H, x < n
  | 0, H, h => by
    rw [List.mem_singleton.mp h]
    exact ⟨List.Pairwise.nil, fun x hx => by cases hx⟩
  | n + 1, H, h => by
    rcases List.mem_append.mp h with h | h
    · obtain ⟨h1, h2⟩ := subs_in n H h
      exact ⟨h1, fun x hx => by have := h2 x hx; omega⟩
    · obtain ⟨o, ho, rfl⟩ := List.mem_map.mp h
      obtain ⟨h1, h2⟩ := subs_in n o ho
      refine ⟨List.pairwise_append.mpr ⟨h1, List.pairwise_singleton _ _, fun a ha b hb => by rw [List.mem_singleton.mp hb]; exact h2 a ha⟩, fun x hx => ?_⟩
      rcases List.mem_append.mp hx with hx | hx
      · have := h2 x hx; omega
      · rw [List.mem_singleton.mp hx]; omega
theorem subs_all : ∀ n (H : List Nat), H.Pairwise (· < ·) → (∀ x ∈ H, x < n) → H ∈ subsL n
  | 0, H, _, h => by
    cases H with
    | nil => exact List.mem_singleton.mpr rfl
    | cons x H => have := h x List.mem_cons_self; omega
  | n + 1, H, hp, h => by
    rcases List.eq_nil_or_concat H with rfl | ⟨o, x, e⟩
    · exact List.mem_append.mpr (.inl (subs_all n [] hp fun x hx => by cases hx))
    · have e : H = o ++ [x] := by rw [e, List.concat_eq_append]
      subst e
      rw [List.pairwise_append] at hp
      have hx := h x (by simp)
      by_cases en : x = n
      · subst en
        refine List.mem_append.mpr (.inr (List.mem_map.mpr ⟨o, subs_all x o hp.1 fun y hy => hp.2.2 y hy x (by simp), rfl⟩))
      · refine List.mem_append.mpr (.inl (subs_all n _ (List.pairwise_append.mpr hp) fun y hy => ?_))
        rcases List.mem_append.mp hy with hy | hy
        · have := hp.2.2 y hy x (by simp); omega
        · rw [List.mem_singleton.mp hy]; omega
theorem up_len : ∀ (l : List Nat) (b m : Nat), l.Pairwise (· < ·) → (∀ x ∈ l, b ≤ x ∧ x < m) → l.length ≤ m - b
  | [], _, _, _, _ => by simp
  | x :: l, b, m, hp, h => by
    rw [List.pairwise_cons] at hp
    have h1 := h x List.mem_cons_self
    have := up_len l (x + 1) m hp.2 fun y hy => ⟨hp.1 y hy, (h y (List.mem_cons_of_mem _ hy)).2⟩
    rw [List.length_cons]
    omega
theorem nodup_le {α : Type} [DecidableEq α] : ∀ (l m : List α), l.Nodup → (∀ x ∈ l, x ∈ m) → l.length ≤ m.length
  | [], _, _, _ => by simp
  | x :: l, m, hd, h => by
    have hd2 := List.nodup_cons.mp hd
    have hx := h x List.mem_cons_self
    have := nodup_le l (m.erase x) hd2.2 fun y hy => by
      have hne : y ≠ x := fun e => hd2.1 (by rw [← e]; exact hy)
      exact (List.mem_erase_of_ne hne).mpr (h y (List.mem_cons_of_mem _ hy))
    rw [List.length_erase_of_mem hx] at this
    have : 0 < m.length := List.length_pos_of_mem hx
    rw [List.length_cons]
    omega
theorem lexB_app : ∀ (p q : List Int) (a b : List Int), p.length = q.length → lexB p q = true → lexB (p ++ a) (q ++ b) = true
  | [], [], _, _, _, h => by cases h
  | [], _ :: _, _, _, h, _ => by cases h
  | _ :: _, [], _, _, h, _ => by cases h
  | x :: p, y :: q, a, b, hl, h => by
    rw [List.cons_append, List.cons_append]
    unfold lexB at h ⊢
    by_cases e : x = y
    · rw [if_pos e] at h ⊢
      exact lexB_app p q a b (by simpa using hl) h
    · rw [if_neg e] at h ⊢
      exact h
theorem lexB_same : ∀ (p : List Int) (a b : List Int), lexB (p ++ a) (p ++ b) = lexB a b
  | [], _, _ => rfl
  | x :: p, a, b => by
    rw [List.cons_append, List.cons_append]
    conv => lhs; unfold lexB
    rw [if_pos rfl]
    exact lexB_same p a b
/-! breadth first, the least rows of turns -/
def candE (m : Nat) (S : List Nat) (e : PR) : List PR := S.map fun (s : Nat) => (Int.fmod (e.1 + (s : Int)) (m : Int), e.2 ++ [(s : Int)])
def cand (m : Nat) (S : List Nat) (W : List PR) : List PR := W.flatMap (candE m S)
def news (K : List Int) : List PR → List PR
  | [] => []
  | e :: C => if e.1 ∈ K then news K C else e :: news (K ++ [e.1]) C
def keysA (A : List PR) : List Int := A.map (·.1)
theorem keys_perm {A B : List PR} (h : B.Perm A) : (keysA B).Perm (keysA A) := h.map fun e : PR => e.1
def lookA (A : List PR) (p : Int) : Option (List Int) := (A.find? fun e => decide (e.1 = p)).map (·.2)
theorem lexB_asy {a b : List Int} (h : lexB a b = true) : lexB b a = false := by
  cases h2 : lexB b a with
  | false => rfl
  | true =>
    have := lex_trans _ _ _ h h2
    rw [lexB_self] at this
    cases this
theorem news_mem : ∀ (C : List PR) (K : List Int), C.Pairwise (fun a b => a.1 = b.1 → lexB b.2 a.2 = false) → ∀ x, x ∈ news K C ↔ x ∈ C ∧ x.1 ∉ K ∧ ∀ y ∈ C, y.1 = x.1 → lexB y.2 x.2 = false
  | [], K, _, x => by
    unfold news
    constructor
    · intro h; cases h
    · intro h; cases h.1
  | e :: C, K, hp, x => by
    have hp' := List.pairwise_cons.mp hp
    unfold news
    by_cases he : e.1 ∈ K
    · rw [if_pos he, news_mem C K hp'.2 x]
      constructor
      · rintro ⟨h1, h2, h3⟩
        refine ⟨List.mem_cons_of_mem _ h1, h2, fun y hy e' => ?_⟩
        rcases List.mem_cons.mp hy with rfl | hy
        · exact absurd (e' ▸ he) h2
        · exact h3 y hy e'
      · rintro ⟨h1, h2, h3⟩
        rcases List.mem_cons.mp h1 with rfl | h1
        · exact absurd he h2
        · exact ⟨h1, h2, fun y hy e' => h3 y (List.mem_cons_of_mem _ hy) e'⟩
    · rw [if_neg he, List.mem_cons, news_mem C (K ++ [e.1]) hp'.2 x]
      constructor
      · rintro (rfl | ⟨h1, h2, h3⟩)
        · refine ⟨List.mem_cons_self, he, fun y hy e' => ?_⟩
          rcases List.mem_cons.mp hy with rfl | hy
          · exact lexB_self _
          · exact hp'.1 y hy e'.symm
        · rw [List.mem_append, List.mem_singleton] at h2
          refine ⟨List.mem_cons_of_mem _ h1, fun h => h2 (.inl h), fun y hy e' => ?_⟩
          rcases List.mem_cons.mp hy with rfl | hy
          · exact absurd (.inr e'.symm) h2
          · exact h3 y hy e'
      · rintro ⟨h1, h2, h3⟩
        rcases List.mem_cons.mp h1 with rfl | h1
        · exact .inl rfl
        · by_cases e' : e.1 = x.1
          · have q1 := h3 e List.mem_cons_self e'
            have q2 := hp'.1 x h1 e'
            have := lex_tri _ _ q1 q2
            exact .inl (Prod.ext e'.symm this.symm)
          · refine .inr ⟨h1, ?_, fun y hy e' => h3 y (List.mem_cons_of_mem _ hy) e'⟩
            rw [List.mem_append, List.mem_singleton]
            rintro (h | h)
            · exact h2 h
            · exact e' h.symm
theorem news_keys : ∀ (C : List PR) (K : List Int), (keysA (news K C)).Nodup ∧ ∀ x ∈ news K C, x.1 ∉ K
  | [], K => ⟨List.nodup_nil, fun _ h => absurd h List.not_mem_nil⟩
  | e :: C, K => by
    unfold news
    by_cases he : e.1 ∈ K
    · rw [if_pos he]
      exact news_keys C K
    · rw [if_neg he]
      obtain ⟨h1, h2⟩ := news_keys C (K ++ [e.1])
      refine ⟨List.nodup_cons.mpr ⟨fun h => ?_, h1⟩, fun x hx => ?_⟩
      · obtain ⟨x, hx, e'⟩ := List.mem_map.mp h
        exact h2 x hx (List.mem_append.mpr (.inr (List.mem_singleton.mpr e')))
      · rcases List.mem_cons.mp hx with rfl | hx
        · exact he
        · exact fun h => h2 x hx (List.mem_append.mpr (.inl h))
theorem news_sub : ∀ (C : List PR) (K : List Int), (news K C).Sublist C
  | [], K => List.Sublist.slnil
  | e :: C, K => by
    unfold news
    split
    · exact (news_sub C K).cons _
    · exact (news_sub C _).cons₂ _
theorem news_cover : ∀ (C : List PR) (K : List Int), ∀ c ∈ C, c.1 ∈ K ∨ c.1 ∈ keysA (news K C)
  | [], K, c, h => absurd h List.not_mem_nil
  | e :: C, K, c, h => by
    unfold news
    by_cases he : e.1 ∈ K
    · rw [if_pos he]
      rcases List.mem_cons.mp h with rfl | h
      · exact .inl he
      · exact news_cover C K c h
    · rw [if_neg he]
      rcases List.mem_cons.mp h with rfl | h
      · exact .inr List.mem_cons_self
      · rcases news_cover C (K ++ [e.1]) c h with h | h
        · rcases List.mem_append.mp h with h | h
          · exact .inl h
          · exact .inr (by rw [List.mem_singleton.mp h]; exact List.mem_cons_self)
        · exact .inr (List.mem_cons_of_mem _ h)
def lv (m : Nat) (S : List Nat) : Nat → List PR × List PR
  | 0 => ([(0, [])], [(0, [])])
  | t + 1 => ((lv m S t).1 ++ news (keysA (lv m S t).1) (cand m S (lv m S t).2), news (keysA (lv m S t).1) (cand m S (lv m S t).2))
section
variable (m : Nat) (S : List Nat)
structure LvOk (t : Nat) (A W : List PR) : Prop where
  nod : (keysA A).Nodup
  rng : ∀ e ∈ A, 0 ≤ e.1 ∧ e.1 < (m : Int)
  wlex : W.Pairwise fun a b => lexB a.2 b.2 = true
  le : ∀ e ∈ A, e.2.length ≤ t
  wfil : (A.filter fun e => decide (e.2.length = t)) = W
  long : W ≠ [] → t < A.length
  shut : ∀ e ∈ A, e ∈ W ∨ ∀ s ∈ S, Int.fmod (e.1 + (s : Int)) (m : Int) ∈ keysA A
  zero : (0 : Int) ∈ keysA A
  div : ∀ d : Nat, d ∣ m → (∀ s ∈ S, d ∣ s) → ∀ e ∈ A, (d : Int) ∣ e.1
theorem cand_lex (hS : S.Pairwise (· < ·)) {W : List PR} {t : Nat} (hw : W.Pairwise fun a b => lexB a.2 b.2 = true) (hl : ∀ e ∈ W, e.2.length = t) : (cand m S W).Pairwise fun a b => lexB a.2 b.2 = true := by
  unfold cand
  rw [List.pairwise_flatMap]
  refine ⟨fun e he => ?_, ?_⟩
  · unfold candE
    rw [List.pairwise_map]
    refine hS.imp fun {a b} h => ?_
    show lexB (e.2 ++ [(a : Int)]) (e.2 ++ [(b : Int)]) = true
    rw [lexB_same]
    show (if (a : Int) = (b : Int) then lexB [] [] else decide ((a : Int) < (b : Int))) = true
    rw [if_neg (by omega), decide_eq_true_eq]
    omega
  · refine List.Pairwise.imp_of_mem (fun {a b} ha hb h x hx y hy => ?_) hw
    unfold candE at hx hy
    obtain ⟨s, _, rfl⟩ := List.mem_map.mp hx
    obtain ⟨s', _, rfl⟩ := List.mem_map.mp hy
    exact lexB_app _ _ _ _ (by rw [hl a ha, hl b hb]) h
theorem filt_none {α : Type} {p : α → Bool} {l : List α} (h : ∀ x ∈ l, p x = false) : l.filter p = [] := by
  rw [List.filter_eq_nil_iff]
  intro x hx e
  rw [h x hx] at e
  cases e
theorem lv_ok (hm : 1 ≤ m) (hS : S.Pairwise (· < ·)) : ∀ t, LvOk m S t (lv m S t).1 (lv m S t).2
  | 0 => {
      nod := by show ([0] : List Int).Nodup; simp
      rng := fun e he => by rw [List.mem_singleton.mp he]; show (0 : Int) ≤ 0 ∧ (0 : Int) < (m : Int); omega
      wlex := List.pairwise_singleton _ _
      le := fun e he => by rw [List.mem_singleton.mp he]; exact Nat.le_refl _
      wfil := rfl
      long := fun _ => Nat.zero_lt_one
      shut := fun e he => .inl he
      zero := List.mem_singleton.mpr rfl
      div := fun d _ _ e he => by rw [List.mem_singleton.mp he]; exact Int.dvd_zero _ }
  | t + 1 => by
    have ih := lv_ok hm hS t
    have hwl : ∀ e ∈ (lv m S t).2, e.2.length = t := fun e he => by
      rw [← ih.wfil, List.mem_filter, decide_eq_true_eq] at he
      exact he.2
    have hwa : ∀ e ∈ (lv m S t).2, e ∈ (lv m S t).1 := fun e he => by
      rw [← ih.wfil, List.mem_filter] at he
      exact he.1
    have hcl := cand_lex m S hS ih.wlex hwl
    obtain ⟨n1, n2⟩ := news_keys (cand m S (lv m S t).2) (keysA (lv m S t).1)
    have hsub := news_sub (cand m S (lv m S t).2) (keysA (lv m S t).1)
    have hcov := news_cover (cand m S (lv m S t).2) (keysA (lv m S t).1)
    have hcm : ∀ c ∈ cand m S (lv m S t).2, ∃ e ∈ (lv m S t).2, ∃ s ∈ S, c = (Int.fmod (e.1 + (s : Int)) (m : Int), e.2 ++ [(s : Int)]) := fun c hc => by
      obtain ⟨e, he, hc⟩ := List.mem_flatMap.mp hc
      obtain ⟨s, hs, rfl⟩ := List.mem_map.mp hc
      exact ⟨e, he, s, hs, rfl⟩
    have hcn : (lv m S t).2 = [] → cand m S (lv m S t).2 = [] := fun h => by rw [h]; rfl
    show LvOk m S (t + 1) ((lv m S t).1 ++ news (keysA (lv m S t).1) (cand m S (lv m S t).2)) (news (keysA (lv m S t).1) (cand m S (lv m S t).2))
    generalize (lv m S t).1 = A at *
    generalize (lv m S t).2 = W at *
    have hnl : ∀ e ∈ news (keysA A) (cand m S W), e.2.length = t + 1 := fun e he => by
      obtain ⟨f, hf, s, hs, rfl⟩ := hcm e (hsub.subset he)
      show (f.2 ++ [(s : Int)]).length = t + 1
      rw [List.length_append, hwl f hf]
      rfl
    have hk : keysA (A ++ news (keysA A) (cand m S W)) = keysA A ++ keysA (news (keysA A) (cand m S W)) := List.map_append
    refine { nod := ?_, rng := fun e he => ?_, wlex := hcl.sublist hsub, le := fun e he => ?_, wfil := ?_, long := fun h => ?_, shut := fun e he => ?_, zero := ?_, div := fun d h1 h2 e he => ?_ }
    · rw [hk, List.nodup_append]
      refine ⟨ih.nod, n1, fun a ha b hb e => ?_⟩
      obtain ⟨x, hx, rfl⟩ := List.mem_map.mp hb
      exact n2 x hx (e ▸ ha)
    · rcases List.mem_append.mp he with he | he
      · exact ih.rng e he
      · obtain ⟨f, hf, s, hs, rfl⟩ := hcm e (hsub.subset he)
        exact ⟨Int.fmod_nonneg_of_pos _ (by omega), Int.fmod_lt_of_pos _ (by omega)⟩
    · rcases List.mem_append.mp he with he | he
      · have := ih.le e he; omega
      · have := hnl e he; omega
    · rw [List.filter_append, filt_none fun x hx => decide_eq_false (by have := ih.le x hx; omega), List.filter_eq_self.mpr fun x hx => decide_eq_true (hnl x hx)]
      rfl
    · have hwn : W ≠ [] := fun e => h (by rw [hcn e]; rfl)
      have := ih.long hwn
      have h2 := List.length_pos_iff.mpr h
      rw [List.length_append]
      omega
    · rcases List.mem_append.mp he with he | he
      · rcases ih.shut e he with h | h
        · refine .inr fun s hs => ?_
          have hc : (Int.fmod (e.1 + (s : Int)) (m : Int), e.2 ++ [(s : Int)]) ∈ cand m S W := List.mem_flatMap.mpr ⟨e, h, List.mem_map.mpr ⟨s, hs, rfl⟩⟩
          rw [hk, List.mem_append]
          exact hcov _ hc
        · refine .inr fun s hs => ?_
          rw [hk, List.mem_append]
          exact .inl (h s hs)
      · exact .inl he
    · rw [hk, List.mem_append]
      exact .inl ih.zero
    · rcases List.mem_append.mp he with he | he
      · exact ih.div d h1 h2 e he
      · obtain ⟨f, hf, s, hs, rfl⟩ := hcm e (hsub.subset he)
        have q := ih.div d h1 h2 f (hwa f hf)
        show (d : Int) ∣ Int.fmod (f.1 + (s : Int)) (m : Int)
        rw [Int.fmod_eq_emod_of_nonneg _ (by omega)]
        have r1 : (d : Int) ∣ (m : Int) := Int.natCast_dvd_natCast.mpr h1
        have r2 : (d : Int) ∣ (s : Int) := Int.natCast_dvd_natCast.mpr (h2 s hs)
        have r3 := Int.dvd_add q r2
        have r4 : (d : Int) ∣ (m : Int) * ((f.1 + (s : Int)) / (m : Int)) := Int.dvd_trans r1 (Int.dvd_mul_right _ _)
        rw [Int.emod_def]
        exact Int.dvd_sub r3 r4
theorem keys_le (hm : 1 ≤ m) (hS : S.Pairwise (· < ·)) (t : Nat) : (lv m S t).1.length ≤ m := by
  have ok := lv_ok m S hm hS t
  have := nodup_le (keysA (lv m S t).1) ((List.range m).map fun (i : Nat) => (i : Int)) ok.nod fun x hx => by
    obtain ⟨e, he, rfl⟩ := List.mem_map.mp hx
    have := ok.rng e he
    exact List.mem_map.mpr ⟨e.1.toNat, List.mem_range.mpr (by omega), by omega⟩
  rw [List.length_map, List.length_range] at this
  have e : (keysA (lv m S t).1).length = (lv m S t).1.length := List.length_map ..
  omega
theorem last_nil (hm : 1 ≤ m) (hS : S.Pairwise (· < ·)) : (lv m S m).2 = [] := by
  apply Classical.byContradiction
  intro h
  have := (lv_ok m S hm hS m).long h
  have := keys_le m S hm hS m
  omega
theorem stays {t : Nat} (h : (lv m S t).2 = []) : lv m S (t + 1) = lv m S t := by
  show ((lv m S t).1 ++ news (keysA (lv m S t).1) (cand m S (lv m S t).2), news (keysA (lv m S t).1) (cand m S (lv m S t).2)) = lv m S t
  rw [h]
  show ((lv m S t).1 ++ [], []) = lv m S t
  rw [List.append_nil]
  exact Prod.ext rfl h.symm
theorem stays' {t : Nat} (h : (lv m S t).2 = []) : ∀ k, lv m S (t + k) = lv m S t
  | 0 => rfl
  | k + 1 => by
    have ih := stays' h k
    rw [← Nat.add_assoc, stays m S (by rw [ih]; exact h), ih]
/-! all found -/
def allA : List PR := (lv m S m).1
def inR (x : Int) : Prop := x ∈ keysA (allA m S)
theorem R_rng (hm : 1 ≤ m) (hS : S.Pairwise (· < ·)) {x : Int} (h : inR m S x) : 0 ≤ x ∧ x < (m : Int) := by
  obtain ⟨e, he, rfl⟩ := List.mem_map.mp h
  exact (lv_ok m S hm hS m).rng e he
theorem R_step (hm : 1 ≤ m) (hS : S.Pairwise (· < ·)) {x : Int} (h : inR m S x) {s : Nat} (hs : s ∈ S) : inR m S ((x + (s : Int)) % (m : Int)) := by
  obtain ⟨e, he, rfl⟩ := List.mem_map.mp h
  rcases (lv_ok m S hm hS m).shut e he with h | h
  · rw [last_nil m S hm hS] at h
    cases h
  · have := h s hs
    rw [Int.fmod_eq_emod_of_nonneg _ (by omega)] at this
    exact this
def Tr (t : Nat) : Prop := ∀ x : Int, inR m S x → inR m S ((x + (t : Int)) % (m : Int))
theorem Tr_add {a b : Nat} (ha : Tr m S a) (hb : Tr m S b) : Tr m S (a + b) := fun x hx => by
  have := hb _ (ha x hx)
  rw [Int.emod_add_emod] at this
  rw [Int.natCast_add, ← Int.add_assoc]
  exact this
theorem Tr_zero (hm : 1 ≤ m) (hS : S.Pairwise (· < ·)) : Tr m S 0 := fun x hx => by
  have := R_rng m S hm hS hx
  rw [Int.emod_eq_of_lt (by omega) (by omega)]
  simpa using hx
theorem Tr_m (hm : 1 ≤ m) (hS : S.Pairwise (· < ·)) : Tr m S m := fun x hx => by
  have := R_rng m S hm hS hx
  rw [Int.add_emod_right, Int.emod_eq_of_lt (by omega) (by omega)]
  exact hx
theorem Tr_mul (hm : 1 ≤ m) (hS : S.Pairwise (· < ·)) {a : Nat} (ha : Tr m S a) : ∀ k, Tr m S (k * a)
  | 0 => by rw [Nat.zero_mul]; exact Tr_zero m S hm hS
  | k + 1 => by rw [Nat.succ_mul]; exact Tr_add m S (Tr_mul hm hS ha k) ha
theorem Tr_sub (hm : 1 ≤ m) (hS : S.Pairwise (· < ·)) {a b : Nat} (ha : Tr m S a) (hb : Tr m S b) (h : b ≤ a) : Tr m S (a - b) := fun x hx => by
  have := Tr_add m S ha (Tr_mul m S hm hS hb (m - 1)) x hx
  have e : (x + ((a + (m - 1) * b : Nat) : Int)) % (m : Int) = (x + ((a - b : Nat) : Int)) % (m : Int) := by
    have e1 : ((a + (m - 1) * b : Nat) : Int) = ((a - b : Nat) : Int) + (b : Int) * (m : Int) := by
      have : a + (m - 1) * b = (a - b) + b * m := by
        obtain ⟨k, rfl⟩ : ∃ k, m = k + 1 := ⟨m - 1, by omega⟩
        rw [Nat.add_sub_cancel, Nat.mul_succ, Nat.mul_comm b k]
        omega
      rw [this, Int.natCast_add, Int.natCast_mul]
    rw [e1, ← Int.add_assoc, Int.add_mul_emod_self_right]
  rw [e] at this
  exact this
theorem Tr_mod (hm : 1 ≤ m) (hS : S.Pairwise (· < ·)) {a b : Nat} (ha : Tr m S a) (hb : Tr m S b) : Tr m S (a % b) := by
  have h := Nat.div_add_mod a b
  have : a % b = a - (a / b) * b := by rw [Nat.mul_comm]; omega
  rw [this]
  exact Tr_sub m S hm hS ha (Tr_mul m S hm hS hb _) (by rw [Nat.mul_comm]; omega)
theorem Tr_gcd (hm : 1 ≤ m) (hS : S.Pairwise (· < ·)) : ∀ a b : Nat, Tr m S a → Tr m S b → Tr m S (Nat.gcd a b) := by
  intro a
  induction a using Nat.strongRecOn with
  | _ a ih =>
    intro b ha hb
    by_cases h0 : a = 0
    · subst h0
      rw [Nat.gcd_zero_left]
      exact hb
    · rw [Nat.gcd_rec]
      exact ih (b % a) (Nat.mod_lt _ (by omega)) a (Tr_mod m S hm hS hb ha) ha
def gG : Nat := S.foldl Nat.gcd m
theorem gfold_dvd : ∀ (l : List Nat) (a : Nat), l.foldl Nat.gcd a ∣ a ∧ (∀ s ∈ l, l.foldl Nat.gcd a ∣ s) ∧ ∀ d, d ∣ a → (∀ s ∈ l, d ∣ s) → d ∣ l.foldl Nat.gcd a
  | [], a => ⟨Nat.dvd_refl _, fun _ h => absurd h List.not_mem_nil, fun d h _ => h⟩
  | s :: l, a => by
    obtain ⟨h1, h2, h3⟩ := gfold_dvd l (Nat.gcd a s)
    rw [List.foldl_cons]
    refine ⟨Nat.dvd_trans h1 (Nat.gcd_dvd_left _ _), fun x hx => ?_, fun d hd hs => ?_⟩
    · rcases List.mem_cons.mp hx with rfl | hx
      · exact Nat.dvd_trans h1 (Nat.gcd_dvd_right _ _)
      · exact h2 x hx
    · exact h3 d (Nat.dvd_gcd hd (hs s List.mem_cons_self)) fun x hx => hs x (List.mem_cons_of_mem _ hx)
theorem Tr_G (hm : 1 ≤ m) (hS : S.Pairwise (· < ·)) : Tr m S (gG m S) := by
  have : ∀ (l : List Nat) (a : Nat), (∀ s ∈ l, s ∈ S) → Tr m S a → Tr m S (l.foldl Nat.gcd a) := by
    intro l
    induction l with
    | nil => intro a _ h; exact h
    | cons s l ih =>
      intro a hl h
      rw [List.foldl_cons]
      exact ih _ (fun x hx => hl x (List.mem_cons_of_mem _ hx)) (Tr_gcd m S hm hS a s h fun x hx => R_step m S hm hS hx (hl s List.mem_cons_self))
  exact this S m (fun _ h => h) (Tr_m m S hm hS)
theorem R_iff (hm : 1 ≤ m) (hS : S.Pairwise (· < ·)) (p : Nat) (hp : p < m) : inR m S (p : Int) ↔ gG m S ∣ p := by
  obtain ⟨g1, g2, g3⟩ := gfold_dvd S m
  constructor
  · intro h
    obtain ⟨e, he, e'⟩ := List.mem_map.mp h
    have := (lv_ok m S hm hS m).div (gG m S) g1 g2 e he
    rw [e'] at this
    exact Int.natCast_dvd_natCast.mp this
  · rintro ⟨k, hk⟩
    have h0 : inR m S 0 := (lv_ok m S hm hS m).zero
    have := Tr_mul m S hm hS (Tr_G m S hm hS) k 0 h0
    rw [Nat.mul_comm, ← hk, Int.zero_add, Int.emod_eq_of_lt (by omega) (by omega)] at this
    exact this
theorem G_pos (hm : 1 ≤ m) : 1 ≤ gG m S ∧ gG m S ≤ m := by
  have h := (gfold_dvd S m).1
  have h1 : gG m S ≤ m := Nat.le_of_dvd (by omega) h
  refine ⟨?_, h1⟩
  apply Classical.byContradiction
  intro hn
  have : gG m S = 0 := by omega
  have h : gG m S ∣ m := h
  rw [this, Nat.zero_dvd] at h
  omega
/-! bars -/
def barP (p d : Nat) : Bool := decide (m % d = 0) && (!decide (p % d = 0) && S.all fun s => decide (s % d = 0))
theorem barP_iff (p d : Nat) : barP m S p d = true ↔ d ∣ gG m S ∧ ¬ d ∣ p := by
  obtain ⟨g1, g2, g3⟩ := gfold_dvd S m
  unfold barP
  rw [Bool.and_eq_true, Bool.and_eq_true, Bool.not_eq_true', decide_eq_true_eq, decide_eq_false_iff_not, List.all_eq_true]
  constructor
  · rintro ⟨h1, h2, h3⟩
    exact ⟨g3 d (Nat.dvd_of_mod_eq_zero h1) fun s hs => Nat.dvd_of_mod_eq_zero (of_decide_eq_true (h3 s hs)), fun h => h2 (Nat.mod_eq_zero_of_dvd h)⟩
  · rintro ⟨h1, h2⟩
    exact ⟨Nat.mod_eq_zero_of_dvd (Nat.dvd_trans h1 g1), fun h => h2 (Nat.dvd_of_mod_eq_zero h), fun s hs => decide_eq_true (Nat.mod_eq_zero_of_dvd (Nat.dvd_trans h1 (g2 s hs)))⟩
def bars (p : Nat) : List Nat := (List.range' 1 m).filter (barP m S p)
theorem bars_nil (hm : 1 ≤ m) (p : Nat) : bars m S p = [] ↔ gG m S ∣ p := by
  obtain ⟨p1, p2⟩ := G_pos m S hm
  unfold bars
  rw [List.filter_eq_nil_iff]
  constructor
  · intro h
    apply Classical.byContradiction
    intro hn
    exact h (gG m S) (by rw [List.mem_range']; exact ⟨gG m S - 1, by omega, by omega⟩) ((barP_iff m S p _).mpr ⟨Nat.dvd_refl _, hn⟩)
  · intro h d _ hd
    obtain ⟨h1, h2⟩ := (barP_iff m S p d).mp hd
    exact h2 (Nat.dvd_trans h1 h)
theorem bars_G (hm : 1 ≤ m) (p : Nat) : bars m S p = (List.range' 1 (gG m S)).filter fun d => decide (gG m S % d = 0) && !decide (p % d = 0) := by
  obtain ⟨p1, p2⟩ := G_pos m S hm
  unfold bars
  have e : List.range' 1 m = List.range' 1 (gG m S) ++ List.range' (1 + gG m S) (m - gG m S) := by
    have := List.range'_append (s := 1) (m := gG m S) (n := m - gG m S) (step := 1)
    rw [Nat.one_mul, show gG m S + (m - gG m S) = m by omega] at this
    exact this.symm
  rw [e, List.filter_append, filt_none (l := List.range' (1 + gG m S) (m - gG m S)) fun d hd => ?_, List.append_nil]
  · refine List.filter_congr fun d hd => ?_
    apply Bool.eq_iff_iff.mpr
    rw [barP_iff, Bool.and_eq_true, decide_eq_true_eq, Bool.not_eq_true', decide_eq_false_iff_not]
    constructor
    · rintro ⟨h1, h2⟩
      exact ⟨Nat.mod_eq_zero_of_dvd h1, fun h => h2 (Nat.dvd_of_mod_eq_zero h)⟩
    · rintro ⟨h1, h2⟩
      exact ⟨Nat.dvd_of_mod_eq_zero h1, fun h => h2 (Nat.mod_eq_zero_of_dvd h)⟩
  · rw [List.mem_range'] at hd
    obtain ⟨i, hi, rfl⟩ := hd
    cases h : barP m S p (1 + gG m S + 1 * i) with
    | false => rfl
    | true =>
      have := Nat.le_of_dvd (by omega) ((barP_iff m S p _).mp h).1
      omega
theorem few_all (hm : 2 ≤ m) (hS : S.Pairwise (· < ·)) (q : Nat) (hq : 2 ≤ q) (h1 : q ∣ m) (h2 : ∀ s ∈ S, q ∣ s) : (allA m S).length ≠ m := by
  intro e
  have ok := lv_ok m S (by omega) hS m
  have : ¬ inR m S (1 : Int) := fun h => by
    obtain ⟨e, he, e'⟩ := List.mem_map.mp h
    have := ok.div q h1 h2 e he
    rw [e'] at this
    have := Int.le_of_dvd (by omega) this
    omega
  have hle := nodup_le ((1 : Int) :: keysA (allA m S)) ((List.range m).map fun (i : Nat) => (i : Int)) (List.nodup_cons.mpr ⟨this, ok.nod⟩) fun x hx => by
    rcases List.mem_cons.mp hx with rfl | hx
    · exact List.mem_map.mpr ⟨1, List.mem_range.mpr (by omega), rfl⟩
    · obtain ⟨e, he, rfl⟩ := List.mem_map.mp hx
      have := ok.rng e he
      exact List.mem_map.mpr ⟨e.1.toNat, List.mem_range.mpr (by omega), by omega⟩
  rw [List.length_cons, List.length_map, List.length_range] at hle
  have e2 : (keysA (allA m S)).length = (allA m S).length := List.length_map ..
  omega
/-! the law's way: the same found in another order -/
theorem look_perm {A B : List PR} (hp : B.Perm A) (hn : (keysA A).Nodup) (p : Int) : lookA B p = lookA A p := by
  have key : ∀ (L : List PR), (keysA L).Nodup → ∀ e ∈ L, lookA L e.1 = some e.2 := by
    intro L hL e he
    unfold lookA
    cases hf : L.find? fun x => decide (x.1 = e.1) with
    | none =>
      rw [List.find?_eq_none] at hf
      exact absurd (decide_eq_true rfl) (hf e he)
    | some x =>
      have h1 : x.1 = e.1 := of_decide_eq_true (List.find?_some (p := fun x : PR => decide (x.1 = e.1)) hf)
      have h2 := List.mem_of_find?_eq_some hf
      have : x = e := by
        have hL' : L.Pairwise fun a b => a.1 ≠ b.1 := List.pairwise_map.mp hL
        apply Classical.byContradiction
        intro hne
        rcases List.mem_iff_getElem.mp h2 with ⟨i, hi, rfl⟩
        rcases List.mem_iff_getElem.mp he with ⟨j, hj, rfl⟩
        rcases Nat.lt_trichotomy i j with h | h | h
        · exact List.pairwise_iff_getElem.mp hL' i j hi hj h h1
        · subst h; exact hne rfl
        · exact List.pairwise_iff_getElem.mp hL' j i hj hi h h1.symm
      rw [this]
      rfl
  have hnB : (keysA B).Nodup := (keys_perm hp).nodup_iff.mpr hn
  by_cases h : ∃ e ∈ A, e.1 = p
  · obtain ⟨e, he, rfl⟩ := h
    rw [key A hn e he, key B hnB e (hp.mem_iff.mpr he)]
  · have f : ∀ L : List PR, (∀ e ∈ L, e.1 ≠ p) → lookA L p = none := fun L hL => by
      unfold lookA
      rw [List.find?_eq_none.mpr fun x hx e => hL x hx (of_decide_eq_true e)]
      rfl
    rw [f A fun e he e' => h ⟨e, he, e'⟩, f B fun e he e' => h ⟨e, hp.mem_iff.mp he, e'⟩]
theorem look_mem {A : List PR} (hn : (keysA A).Nodup) {e : PR} (he : e ∈ A) : lookA A e.1 = some e.2 := by
  unfold lookA
  cases hf : A.find? fun x => decide (x.1 = e.1) with
  | none =>
    rw [List.find?_eq_none] at hf
    exact absurd (decide_eq_true rfl) (hf e he)
  | some x =>
    have h1 : x.1 = e.1 := of_decide_eq_true (List.find?_some (p := fun x : PR => decide (x.1 = e.1)) hf)
    have h2 := List.mem_of_find?_eq_some hf
    have : x = e := by
      have hL' : A.Pairwise fun a b => a.1 ≠ b.1 := List.pairwise_map.mp hn
      apply Classical.byContradiction
      intro hne
      rcases List.mem_iff_getElem.mp h2 with ⟨i, hi, rfl⟩
      rcases List.mem_iff_getElem.mp he with ⟨j, hj, rfl⟩
      rcases Nat.lt_trichotomy i j with h | h | h
      · exact List.pairwise_iff_getElem.mp hL' i j hi hj h h1
      · subst h; exact hne rfl
      · exact List.pairwise_iff_getElem.mp hL' j i hj hi h h1.symm
    rw [this]
    rfl
def pLe (a b : PR) : Bool := !pLt b a
theorem pLe_trans (a b c : PR) (h1 : pLe a b = true) (h2 : pLe b c = true) : pLe a c = true := by
  unfold pLe at *
  rw [Bool.not_eq_true'] at *
  exact nlt_trans h2 h1
theorem pLe_total (a b : PR) : (pLe a b || pLe b a) = true := by
  unfold pLe
  cases h : pLt b a with
  | false => rfl
  | true => rw [pLt_asy h]; rfl
def srtP (l : List PR) : List PR := l.mergeSort pLe
/-- the candidates as the law finds them: place after place -/
def freshB (t : Nat) (B : List PR) (ks : List Int) : List PR := ks.flatMap fun p => match lookA B p with
  | some tr => if tr.length = t then candE m S (p, tr) else []
  | none => []
theorem fresh_perm {t : Nat} {A B W : List PR} {ks : List Int} (hp : B.Perm A) (hn : (keysA A).Nodup) (hw : (A.filter fun e => decide (e.2.length = t)) = W) (hk : ks.Perm (keysA B)) : (freshB m S t B ks).Perm (cand m S W) := by
  have h1 : ks.Perm (keysA A) := hk.trans (keys_perm hp)
  have h2 : (freshB m S t B ks).Perm (freshB m S t B (keysA A)) := h1.flatMap_right _
  refine h2.trans ?_
  have e : freshB m S t B (keysA A) = cand m S W := by
    unfold freshB keysA cand
    rw [List.flatMap_map, ← hw]
    have hl : ∀ e ∈ A, lookA B e.1 = some e.2 := fun e he => by rw [look_perm hp hn, look_mem hn he]
    clear hw h1 h2 hk hp hn
    induction A with
    | nil => rfl
    | cons e A ih =>
      rw [List.flatMap_cons, List.filter_cons, ih fun x hx => hl x (List.mem_cons_of_mem _ hx), hl e List.mem_cons_self]
      show (if e.2.length = t then candE m S (e.1, e.2) else []) ++ _ = _
      by_cases h : e.2.length = t
      · rw [if_pos h, if_pos (decide_eq_true h), List.flatMap_cons]
      · rw [if_neg h, if_neg (by simpa using h)]
        rfl
  rw [e]
theorem law_step (hm : 1 ≤ m) (hS : S.Pairwise (· < ·)) {t : Nat} {B : List PR} {ks : List Int} (hp : B.Perm (lv m S t).1) (hk : ks.Perm (keysA B)) : (B ++ news (keysA B) (srtP (freshB m S t B ks))).Perm (lv m S (t + 1)).1 := by
  have ok := lv_ok m S hm hS t
  have hwl : ∀ e ∈ (lv m S t).2, e.2.length = t := fun e he => by
    rw [← ok.wfil, List.mem_filter, decide_eq_true_eq] at he
    exact he.2
  have hcl := cand_lex m S hS ok.wlex hwl
  have hfp := fresh_perm m S hp ok.nod ok.wfil hk
  have hsp : (srtP (freshB m S t B ks)).Perm (cand m S (lv m S t).2) := (List.mergeSort_perm _ _).trans hfp
  show (B ++ news (keysA B) (srtP (freshB m S t B ks))).Perm ((lv m S t).1 ++ news (keysA (lv m S t).1) (cand m S (lv m S t).2))
  refine hp.append ?_
  have q1 : (cand m S (lv m S t).2).Pairwise (fun a b => a.1 = b.1 → lexB b.2 a.2 = false) := hcl.imp fun {a b} h (_ : a.1 = b.1) => lexB_asy h
  have q2 : (srtP (freshB m S t B ks)).Pairwise (fun a b => a.1 = b.1 → lexB b.2 a.2 = false) := (List.pairwise_mergeSort pLe_trans pLe_total _).imp fun {a b} h e => by
    unfold pLe at h
    rw [Bool.not_eq_true'] at h
    unfold pLt at h
    rw [if_pos e.symm] at h
    exact h
  have hkm : ∀ x : Int, x ∈ keysA B ↔ x ∈ keysA (lv m S t).1 := fun x => (keys_perm hp).mem_iff
  have nd : ∀ (K : List Int) (C : List PR), (news K C).Nodup := fun K C => by
    have := (news_keys C K).1
    unfold keysA at this
    have h2 : (news K C).Pairwise fun a b => a.1 ≠ b.1 := List.pairwise_map.mp this
    exact h2.imp fun h e => h (by rw [e])
  refine (List.perm_ext_iff_of_nodup (nd _ _) (nd _ _)).mpr fun x => ?_
  rw [news_mem _ _ q2, news_mem _ _ q1, hsp.mem_iff, hkm]
  constructor
  · rintro ⟨h1, h2, h3⟩
    exact ⟨h1, h2, fun y hy => h3 y (hsp.mem_iff.mpr hy)⟩
  · rintro ⟨h1, h2, h3⟩
    exact ⟨h1, h2, fun y hy => h3 y (hsp.mem_iff.mp hy)⟩
end
end LK
end

section
set_option Elab.async false
set_option maxRecDepth 100000
namespace LK
open PySem EL
open PySem.W (AlikeAll dataLt alike alikeAll)
theorem rngL (L : Nat) (h : L ≤ 1000) : gRng1 [.int ((L : Int) - 1)] = some ((List.range (L - 1)).map nE) := by
  by_cases h0 : L = 0
  · subst h0
    rw [rng1_of (by omega) (by omega)]
    rfl
  · rw [show ((L : Int) - 1) = ((L - 1 : Nat) : Int) by omega]
    exact rngN (by omega)
theorem rgN2 {a b : Nat} : (rgI (a : Int) (b : Int)).map Dt.int = (List.range' a (b - a)).map nE := by
  unfold rgI
  rw [List.map_map, show ((b : Int) - (a : Int)).toNat = b - a by omega, List.range'_eq_map_range, List.map_map]
  refine List.map_congr_left fun x _ => ?_
  show Dt.int ((a : Int) + (x : Int)) = Dt.int ((a + x : Nat) : Int)
  rw [Int.natCast_add]
theorem ro_at1 {ro : List Int} {d : Nat} (h : d + 1 < ro.length) : L2.atI (ro.map Dt.int) ((d : Int) + 1) = some (.int (ro.getD (d + 1) 0)) := ro_at (d := d + 1) h
theorem at_rows {l : List (List Int)} {i : Nat} (h : i < l.length) : L2.atI (l.map tI) (i : Int) = some (tI (l.getD i [])) := by
  rw [atI_mapf tI (by omega) (by omega)]
  simp [List.getD, h]
theorem cut_take' {α : Type} (xs : List α) (n : Nat) : cutL xs none (some (n : Int)) = xs.take n := by
  unfold cutL
  rw [HT.sIx_nat]
  simp [HT.sIx]
theorem cut_drop' {α : Type} (xs : List α) (n : Nat) : cutL xs (some (n : Int)) none = xs.drop n := by
  unfold cutL
  rw [HT.sIx_nat]
  simp [HT.sIx]
  rcases Nat.le_total n xs.length with h | h
  · rw [Nat.min_eq_left h]
    exact List.take_of_length_le (by simp)
  · rw [Nat.min_eq_right h, List.drop_eq_nil_of_le h, List.drop_eq_nil_of_le (Nat.le_refl _)]
    simp
theorem cut_two {α : Type} (xs : List α) (a b : Nat) : cutL xs (some (a : Int)) (some (b : Int)) = (xs.take b).drop a := by
  unfold cutL
  rw [HT.sIx_nat, HT.sIx_nat, List.drop_take]
  rcases Nat.le_total a xs.length with h | h
  · rw [Nat.min_eq_left h]
    rcases Nat.le_total b xs.length with h2 | h2
    · rw [Nat.min_eq_left h2]
    · rw [Nat.min_eq_right h2, List.take_of_length_le (by rw [List.length_drop]; exact Nat.le_refl _), List.take_of_length_le (by rw [List.length_drop]; omega)]
  · rw [Nat.min_eq_right h, List.drop_eq_nil_of_le (Nat.le_refl _), List.drop_eq_nil_of_le h, List.take_nil, List.take_nil]
theorem enD_list (l : List Int) : enD 0 (l.map Dt.int) = (List.range l.length).map fun i => Dt.tup [nE i, .int (l.getD i 0)] := by
  refine List.ext_getElem? fun i => ?_
  rw [enD_get, List.getElem?_map, List.getElem?_map]
  by_cases h : i < l.length
  · rw [List.getElem?_range h]
    simp [List.getD, h]
  · rw [List.getElem?_eq_none (by omega), List.getElem?_eq_none (by simp; omega)]
    rfl
def nI (H : List Nat) : List Int := H.map fun (x : Nat) => (x : Int)
theorem nI_len (H : List Nat) : (nI H).length = H.length := by unfold nI; rw [List.length_map]
theorem rg1 (L : Nat) : (rgI 1 (L : Int)).map Dt.int = (List.range (L - 1)).map fun a => nE (a + 1) := by
  have := rgN2 (a := 1) (b := L)
  refine Eq.trans this ?_
  rw [List.range'_eq_map_range, List.map_map]
  refine List.map_congr_left fun a _ => ?_
  show nE (1 + a) = nE (a + 1)
  rw [Nat.add_comm]
def eP (p : PR) : Dt := .tup [.int p.1, tI p.2]
theorem eP_py (p : PR) : (eP p).py = PySem.W.Datum.toD (p.1, (⟨p.2⟩ : PySem.W.Tup Int)) := by
  show (Dt.tup [.int p.1, .tup (p.2.map Dt.int)]).py = PyData.tuple [.int p.1, .tuple (p.2.map PyData.int)]
  simp only [Dt.py, Dt.pyA, pyA_ints]
theorem eP_lt (a b : PR) : dataLt (eP a).py (eP b).py = pLt a b := by
  rw [eP_py, eP_py]
  have h := PySem.W.DatumOrd.lt_eq (α := Int × PySem.W.Tup Int) (a.1, ⟨a.2⟩) (b.1, ⟨b.2⟩)
  refine h.trans ?_
  unfold pLt
  show (if a.1 = b.1 then PySem.W.listLt a.2 b.2 else decide (a.1 < b.1)) = _
  rw [lexB_eq]
theorem eP_alike (a b : PR) : alike (eP a).py (eP b).py = true := by
  rw [eP_py, eP_py]
  exact PySem.W.DatumOrd.alike (α := Int × PySem.W.Tup Int) (a.1, ⟨a.2⟩) (b.1, ⟨b.2⟩)
theorem eP_none (a : PR) : (eP a).py ≠ .none := by rw [eP_py]; exact PySem.W.DatumOrd.notNone (α := Int × PySem.W.Tup Int) (a.1, ⟨a.2⟩)
theorem eP_lay (a : PR) : (eP a).py.canLay0 = true := by
  unfold eP
  rw [Dt.py, PyData.canLay0, Dt.pyA, Dt.pyA, Dt.pyA, PyData.canLayAll0, PyData.canLayAll0, PyData.canLayAll0, Dt.py, Dt.py, PyData.canLay0, PyData.canLay0, lay_ints]
  rfl
theorem eP_depth (a : PR) : (eP a).py.depth ≤ 5 := by
  have := depth_ints a.2
  unfold eP
  simp only [Dt.py, Dt.pyA, PyData.depth, PyData.depthAll]
  omega

theorem nI_items (H : List Nat) : (nI H).map Dt.int = H.map nE := by unfold nI; rw [List.map_map]; rfl
theorem items_nI (H : List Nat) : gItems (tI (nI H)) = some (H.map nE) := by
  show gItems (.tup ((nI H).map Dt.int)) = _
  rw [gItems_t, nI_items]
/-! pairs in order -/
theorem okP (l : List PR) : okSort (l.map eP) := by
  refine ⟨?_, ?_, ?_, ?_, ?_⟩
  · induction l with
    | nil => simp [Dt.pyA, PyData.canLayAll0]
    | cons r l ih =>
      rw [List.map_cons, Dt.pyA, PyData.canLayAll0, ih, Bool.and_true]
      exact eP_lay r
  · intro d hd d' hd'
    rw [List.map_map] at hd hd'
    obtain ⟨a, _, rfl⟩ := List.mem_map.mp hd
    obtain ⟨b, _, rfl⟩ := List.mem_map.mp hd'
    exact eP_alike a b
  · refine .inl fun d hd => ?_
    rw [List.map_map] at hd
    obtain ⟨a, _, rfl⟩ := List.mem_map.mp hd
    exact ⟨_, _, eP_py a⟩
  · have : PyData.depthAll (Dt.pyA (l.map eP)) ≤ 5 := by
      induction l with
      | nil => simp [Dt.pyA, PyData.depthAll]
      | cons r l ih =>
        rw [List.map_cons, Dt.pyA, PyData.depthAll]
        have := eP_depth r
        omega
    omega
  · refine freeA_mem.mpr fun d hd => ?_
    obtain ⟨a, _, rfl⟩ := List.mem_map.mp hd
    show Dt.freeA [.int a.1, tI a.2] = true
    refine freeA_mem.mpr fun d hd => ?_
    rcases List.mem_cons.mp hd with rfl | hd
    · rfl
    · rw [List.mem_singleton.mp hd]
      show Dt.freeA (a.2.map Dt.int) = true
      refine freeA_mem.mpr fun d hd => ?_
      obtain ⟨i, _, rfl⟩ := List.mem_map.mp hd
      rfl
theorem gSortD_P (l : List PR) : gSortD [.lst (l.map eP)] = some ((srtP l).map eP) := by
  show (if cdc _ = true then some (sortD _) else none) = _
  rw [if_pos (cdc_t (okP l))]
  congr 1
  unfold sortD srtP
  rw [List.map_mergeSort]
  intro a _ b _
  show pLe a b = !dataLt (eP b).py (eP a).py
  rw [eP_lt]
  rfl
/-! tables -/
def ksA (A : List PR) : List L2.Key := A.map fun e => Sum.inl e.1
def dA (A : List PR) : Dt := .dcK (ksA A) (A.map fun e => tI e.2)
theorem valD_A (p : Int) : ∀ A : List PR, valD (ksA A) (A.map fun e => tI e.2) (.inl p) = (lookA A p).map tI
  | [] => rfl
  | e :: A => by
    have ih := valD_A p A
    unfold ksA lookA at *
    rw [List.map_cons, List.map_cons, List.find?_cons]
    unfold valD
    by_cases h : e.1 = p
    · rw [if_pos (by rw [h]), decide_eq_true h]
      rfl
    · rw [if_neg (fun z => h (Sum.inl.inj z)), decide_eq_false h]
      exact ih
theorem look_A (A : List PR) (p : Int) : gDLook (dA A) (.int p) = some ((lookA A p).map tI) := by
  rw [← valD_A]
  rfl
theorem look_some (A : List PR) (p : Int) : (lookA A p).isSome = decide (p ∈ keysA A) := by
  unfold lookA keysA
  apply Bool.eq_iff_iff.mpr
  rw [Option.isSome_map, List.find?_isSome, decide_eq_true_eq, List.mem_map]
  constructor
  · rintro ⟨e, he, h⟩
    exact ⟨e, he, of_decide_eq_true h⟩
  · rintro ⟨e, he, h⟩
    exact ⟨e, he, decide_eq_true h⟩
theorem put_A (A : List PR) (p : Int) (t : List Int) (h : p ∉ keysA A) (hl : A.length ≤ 100000) : gDPut (dA A) (.int p) (tI t) = some (dA (A ++ [(p, t)])) := by
  have hk : (Sum.inl p : L2.Key) ∉ ksA A := fun h2 => by
    obtain ⟨e, he, e'⟩ := List.mem_map.mp h2
    exact h (List.mem_map.mpr ⟨e, he, Sum.inl.inj e'⟩)
  show (some (Sum.inl p : L2.Key)).bind (fun k => if (ksA A).length ≤ 100000 then some (Dt.dcK (putKs (ksA A) k) (putVs (ksA A) (A.map fun e => tI e.2) k (tI t))) else none) = _
  rw [Option.bind_some, if_pos (by unfold ksA; rw [List.length_map]; exact hl)]
  unfold putKs putVs
  rw [if_neg hk, if_neg hk]
  unfold dA ksA
  rw [List.map_append, List.map_append]
  rfl
def addC (st : List PR × List PR) (c : PR) : List PR × List PR := if c.1 ∈ keysA st.1 then st else (st.1 ++ [c], st.2 ++ [c])
theorem addC_news : ∀ (C : List PR) (st : List PR × List PR), C.foldl addC st = (st.1 ++ news (keysA st.1) C, st.2 ++ news (keysA st.1) C)
  | [], st => by show st = _; unfold news; rw [List.append_nil, List.append_nil]
  | c :: C, st => by
    rw [List.foldl_cons, addC_news C]
    unfold addC
    conv => rhs; unfold news
    by_cases h : c.1 ∈ keysA st.1
    · rw [if_pos h, if_pos h]
    · rw [if_neg h, if_neg h]
      have e : keysA (st.1 ++ [c]) = keysA st.1 ++ [c.1] := List.map_append
      show (st.1 ++ [c] ++ news (keysA (st.1 ++ [c])) C, st.2 ++ [c] ++ news (keysA (st.1 ++ [c])) C) = _
      rw [e, List.append_assoc, List.append_assoc]
      rfl
theorem addC_len (C : List PR) (st : List PR × List PR) : (C.foldl addC st).1.length ≤ st.1.length + C.length ∧ (C.foldl addC st).2.length ≤ st.2.length + C.length := by
  rw [addC_news]
  have := (news_sub C (keysA st.1)).length_le
  show (st.1 ++ _).length ≤ _ ∧ (st.2 ++ _).length ≤ _
  rw [List.length_append, List.length_append]
  omega
theorem while_run {c : FnB} {mk : List Bool} {F : FnS} (st : Nat → Rho) (T : Nat) (fl : Fl) (h1 : ∀ t, t < T → whStep c mk F 0 (st t) = some (.inl (st (t + 1)))) (h2 : whStep c mk F 0 (st T) = some (.inr fl)) : itO (whStep c mk F) (st 0) = some fl := by
  have key : ∀ (n t i : Nat), t + n = T → itN (whStep c mk F) (n + 1) i (st t) = some fl := by
    intro n
    induction n with
    | zero =>
      intro t i h
      have : t = T := by omega
      subst this
      show (whStep c mk F 0 (st t)).bind _ = _
      rw [h2]
      rfl
    | succ n ih =>
      intro t i h
      show (whStep c mk F 0 (st t)).bind _ = _
      rw [h1 t (by omega)]
      exact ih (t + 1) (i + 1) (by omega)
  exact itO_of (key T 0 0 (by omega))
def optR : Option (List Int) → Dt
  | none => .non
  | some y => tI y
def cE (m : Nat) (e : PR) (s : Nat) : PR := (Int.fmod (e.1 + (s : Int)) (m : Int), e.2 ++ [(s : Int)])
theorem candE_eq (m : Nat) (S : List Nat) (e : PR) : candE m S e = S.map (cE m e) := rfl
theorem tt_in (m : Nat) (hm : 1 ≤ m) (S : List Nat) (p : Int) (e : PR) (he : e.2.length ≤ 1000) (st : List PR × List PR) (h1 : st.1.length ≤ 1000) (h2 : st.2.length ≤ 1000) (s : Nat) : turn (hName 8) [true, true, true, true, false, true, true, true, false, false] (sSeq (sSet 9 (f2 (gI cMod Int.fmod) (f2 gAdd (fV 6) (fV 8)) (fV 0)))
  (sIf (fDNotIn (fV 9) (fVb 3)) (sSeq (sDPutD 3 (fV 9) (f2 gAdd (fV 7) (fTup (fAc (fV 8) fA0))))
  (sMut 5 gAppend (fAc (fTup (fAc (fV 9) (fAc (f2 gAdd (fV 7) (fTup (fAc (fV 8) fA0))) fA0))) fA0))) sNil)) (nE s) [.im (nE m), .im (tI (nI S)), .im (.int p), .od (dA st.1), .un, .ow (st.2.map eP), .im (.int e.1), .im (tI e.2), .un, .un] = some (.nx [.im (nE m), .im (tI (nI S)), .im (.int p), .od (dA (addC st (cE m e s)).1), .un, .ow ((addC st (cE m e s)).2.map eP), .im (.int e.1), .im (tI e.2), .un, .un]) := by
  have c : cMod (e.1 + (s : Int)) (m : Int) = true := cMod_of (by omega)
  have ga : gAdd (tI e.2) (.tup [nE s]) = some (tI (e.2 ++ [(s : Int)])) := by
    show gAdd (.tup (e.2.map Dt.int)) _ = _
    rw [gAdd_tt (by rw [List.length_map]; omega) (by simp)]
    simp [tI]
  have hz : (st.2.map eP).length < sizeLine := by rw [List.length_map]; exact size_gt (by omega)
  have hk := look_A st.1 (Int.fmod (e.1 + (s : Int)) (m : Int))
  have hs := look_some st.1 (Int.fmod (e.1 + (s : Int)) (m : Int))
  have s0 : ((sSet 9 (f2 (gI cMod Int.fmod) (f2 gAdd (fV 6) (fV 8)) (fV 0))) : FnS) [.im (nE m), .im (tI (nI S)), .im (.int p), .od (dA st.1), .un, .ow (st.2.map eP), .im (.int e.1), .im (tI e.2), .im (nE s), .un] = some (.nx [.im (nE m), .im (tI (nI S)), .im (.int p), .od (dA st.1), .un, .ow (st.2.map eP), .im (.int e.1), .im (tI e.2), .im (nE s), .im (.int (Int.fmod (e.1 + (s : Int)) (m : Int)))]) := by
    simp only [sSet_a, f2_a, fV_a, getS_s, getS_z, Option.bind_some, gAdd_i, gI_i, c, if_true, setS_s, setS_z]
  have hput := put_A st.1 (Int.fmod (e.1 + (s : Int)) (m : Int)) (e.2 ++ [(s : Int)])
  unfold addC cE
  show turn _ _ _ _ _ = some (.nx [.im (nE m), .im (tI (nI S)), .im (.int p), .od (dA (if Int.fmod (e.1 + (s : Int)) (m : Int) ∈ keysA st.1 then st else (st.1 ++ [(Int.fmod (e.1 + (s : Int)) (m : Int), e.2 ++ [(s : Int)])], st.2 ++ [(Int.fmod (e.1 + (s : Int)) (m : Int), e.2 ++ [(s : Int)])])).1), .un, .ow ((if Int.fmod (e.1 + (s : Int)) (m : Int) ∈ keysA st.1 then st else (st.1 ++ [(Int.fmod (e.1 + (s : Int)) (m : Int), e.2 ++ [(s : Int)])], st.2 ++ [(Int.fmod (e.1 + (s : Int)) (m : Int), e.2 ++ [(s : Int)])])).2.map eP), .im (.int e.1), .im (tI e.2), .un, .un])
  generalize Int.fmod (e.1 + (s : Int)) (m : Int) = q at *
  have hin : fDNotIn (fV 9) (fVb 3) [.im (nE m), .im (tI (nI S)), .im (.int p), .od (dA st.1), .un, .ow (st.2.map eP), .im (.int e.1), .im (tI e.2), .im (nE s), .im (.int q)] = some (!decide (q ∈ keysA st.1)) := by
    unfold fDNotIn
    simp only [fV_a, fVb_a, getS_s, getS_z, Option.bind_some, hk, Option.isSome_map, hs]
  by_cases hc : q ∈ keysA st.1
  · rw [decide_eq_true hc] at hin
    rw [if_pos hc, turn_nx (hName_a 8 _ _) (ρ2 := [.im (nE m), .im (tI (nI S)), .im (.int p), .od (dA st.1), .un, .ow (st.2.map eP), .im (.int e.1), .im (tI e.2), .im (nE s), .im (.int q)])]
    · rfl
    · simp only [setS_s, setS_z]
      rw [sSeq_nx s0, sIf_a, hin, Option.bind_some, if_neg (by simp)]
      rfl
  · rw [decide_eq_false hc] at hin
    have hput := hput hc (by omega)
    rw [if_neg hc, turn_nx (hName_a 8 _ _) (ρ2 := [.im (nE m), .im (tI (nI S)), .im (.int p), .od (dA (st.1 ++ [(q, e.2 ++ [(s : Int)])])), .un, .ow ((st.2 ++ [(q, e.2 ++ [(s : Int)])]).map eP), .im (.int e.1), .im (tI e.2), .im (nE s), .im (.int q)])]
    · rfl
    · simp only [setS_s, setS_z]
      rw [sSeq_nx s0, sIf_a, hin, Option.bind_some, if_pos Bool.not_false, sSeq_nx (ρ' := [.im (nE m), .im (tI (nI S)), .im (.int p), .od (dA (st.1 ++ [(q, e.2 ++ [(s : Int)])])), .un, .ow (st.2.map eP), .im (.int e.1), .im (tI e.2), .im (nE s), .im (.int q)]) (by
        unfold sDPutD
        rw [show ownedD [.im (nE m), .im (tI (nI S)), .im (.int p), .od (dA st.1), .un, .ow (st.2.map eP), .im (.int e.1), .im (tI e.2), .im (nE s), .im (.int q)] 3 = some (dA st.1) from rfl]
        simp only [f2_a, fTup_a, fAc_a, fA0_a, fV_a, getS_s, getS_z, Option.bind_some, List.length_cons, List.length_nil, Nat.reduceAdd, Nat.reduceLeDiff, if_true, ga, hput, setS_s, setS_z])]
      rw [List.length_map] at hz
      simp [ga, hz, eP]
theorem tt_mid (m : Nat) (hm : 1 ≤ m) (S : List Nat) (hS : S.length ≤ 10) (p : Int) (e : PR) (he : e.2.length ≤ 1000) (st : List PR × List PR) (h1 : st.1.length ≤ 900) (h2 : st.2.length ≤ 900) : turn (hTup 2 (hCons (hName 6) (hCons (hName 7) hNil))) [true, true, true, true, false, true, false, false, false, false] (sFor (f1L gItems (fV 1)) (hName 8) [true, true, true, true, false, true, true, true, false, false]
   (sSeq (sSet 9 (f2 (gI cMod Int.fmod) (f2 gAdd (fV 6) (fV 8)) (fV 0)))
  (sIf (fDNotIn (fV 9) (fVb 3)) (sSeq (sDPutD 3 (fV 9) (f2 gAdd (fV 7) (fTup (fAc (fV 8) fA0))))
  (sMut 5 gAppend (fAc (fTup (fAc (fV 9) (fAc (f2 gAdd (fV 7) (fTup (fAc (fV 8) fA0))) fA0))) fA0))) sNil))) (eP e) [.im (nE m), .im (tI (nI S)), .im (.int p), .od (dA st.1), .un, .ow (st.2.map eP), .un, .un, .un, .un] = some (.nx [.im (nE m), .im (tI (nI S)), .im (.int p), .od (dA ((candE m S e).foldl addC st).1), .un, .ow (((candE m S e).foldl addC st).2.map eP), .un, .un, .un, .un]) := by
  have loop := for_fold (gf := (hName 8)) (mk := [true, true, true, true, false, true, true, true, false, false]) (F := (sSeq (sSet 9 (f2 (gI cMod Int.fmod) (f2 gAdd (fV 6) (fV 8)) (fV 0)))
  (sIf (fDNotIn (fV 9) (fVb 3)) (sSeq (sDPutD 3 (fV 9) (f2 gAdd (fV 7) (fTup (fAc (fV 8) fA0))))
  (sMut 5 gAppend (fAc (fTup (fAc (fV 9) (fAc (f2 gAdd (fV 7) (fTup (fAc (fV 8) fA0))) fA0))) fA0))) sNil))) (S := fun st : List PR × List PR => [.im (nE m), .im (tI (nI S)), .im (.int p), .od (dA st.1), .un, .ow (st.2.map eP), .im (.int e.1), .im (tI e.2), .un, .un]) nE (fun st s => addC st (cE m e s)) (fun st r => st.1.length + r.length ≤ 1000 ∧ st.2.length + r.length ≤ 1000) S st ⟨by omega, by omega⟩ (fun st s r h => by
    rw [List.length_cons] at h
    refine ⟨tt_in m hm S p e he st (by omega) (by omega) s, ?_⟩
    have := addC_len [cE m e s] st
    rw [List.foldl_cons, List.foldl_nil, List.length_singleton] at this
    omega)
  have ef : S.foldl (fun st s => addC st (cE m e s)) st = (candE m S e).foldl addC st := by rw [candE_eq, List.foldl_map]
  rw [ef] at loop
  have hit : hTup 2 (hCons (hName 6) (hCons (hName 7) hNil)) (eP e) [.im (nE m), .im (tI (nI S)), .im (.int p), .od (dA st.1), .un, .ow (st.2.map eP), .un, .un, .un, .un] = some [.im (nE m), .im (tI (nI S)), .im (.int p), .od (dA st.1), .un, .ow (st.2.map eP), .im (.int e.1), .im (tI e.2), .un, .un] := rfl
  rw [turn_nx hit (ρ2 := [.im (nE m), .im (tI (nI S)), .im (.int p), .od (dA ((candE m S e).foldl addC st).1), .un, .ow (((candE m S e).foldl addC st).2.map eP), .im (.int e.1), .im (tI e.2), .un, .un])]
  · rfl
  · rw [sFor_a]
    simp only [f1L_a, fV_a, getS_s, getS_z, Option.bind_some, items_nI, clr_t, clr_f, clr_n]
    exact loop
theorem cand_fold (m : Nat) (S : List Nat) (W : List PR) (st : List PR × List PR) : W.foldl (fun st e => (candE m S e).foldl addC st) st = (cand m S W).foldl addC st := by
  unfold cand
  induction W generalizing st with
  | nil => rfl
  | cons e W ih => rw [List.foldl_cons, ih, List.flatMap_cons, List.foldl_append]
theorem tt_step (m : Nat) (hm : 1 ≤ m) (hm2 : m ≤ 40) (S : List Nat) (hS : S.Pairwise (· < ·)) (hSl : S.length ≤ 10) (p : Int) (t : Nat) (ht : t < m) (hne : (lv m S t).2 ≠ []) : whStep (fTru (fV 4)) [true, true, true, true, true, false, false, false, false, false] (sSeq (sSetF 5 (fLstL fA0))
  (sSeq (sFor (f1L gItems (fV 4)) (hTup 2 (hCons (hName 6) (hCons (hName 7) hNil))) [true, true, true, true, false, true, false, false, false, false]
   (sFor (f1L gItems (fV 1)) (hName 8) [true, true, true, true, false, true, true, true, false, false]
   (sSeq (sSet 9 (f2 (gI cMod Int.fmod) (f2 gAdd (fV 6) (fV 8)) (fV 0)))
  (sIf (fDNotIn (fV 9) (fVb 3)) (sSeq (sDPutD 3 (fV 9) (f2 gAdd (fV 7) (fTup (fAc (fV 8) fA0))))
  (sMut 5 gAppend (fAc (fTup (fAc (fV 9) (fAc (f2 gAdd (fV 7) (fTup (fAc (fV 8) fA0))) fA0))) fA0))) sNil))))
  (sFrz [5] (sSet 4 (fV 5))))) 0 [.im (nE m), .im (tI (nI S)), .im (.int p), .od (dA (lv m S t).1), .im (.lst ((lv m S t).2.map eP)), .un, .un, .un, .un, .un] = some (.inl [.im (nE m), .im (tI (nI S)), .im (.int p), .od (dA (lv m S (t + 1)).1), .im (.lst ((lv m S (t + 1)).2.map eP)), .un, .un, .un, .un, .un]) := by
  have ok := lv_ok m S hm hS t
  have hAl := keys_le m S hm hS t
  have hWs : (lv m S t).2.length ≤ (lv m S t).1.length := by rw [← ok.wfil]; exact List.length_filter_le ..
  have hwl : ∀ e ∈ (lv m S t).2, e.2.length = t := fun e he => by
    rw [← ok.wfil, List.mem_filter, decide_eq_true_eq] at he
    exact he.2
  have e1 : lv m S (t + 1) = (((lv m S t).1 ++ news (keysA (lv m S t).1) (cand m S (lv m S t).2)), news (keysA (lv m S t).1) (cand m S (lv m S t).2)) := rfl
  rw [e1]
  generalize (lv m S t).1 = A at *
  generalize (lv m S t).2 = W at *
  have loop := for_fold (gf := (hTup 2 (hCons (hName 6) (hCons (hName 7) hNil)))) (mk := [true, true, true, true, false, true, false, false, false, false]) (F := (sFor (f1L gItems (fV 1)) (hName 8) [true, true, true, true, false, true, true, true, false, false]
   (sSeq (sSet 9 (f2 (gI cMod Int.fmod) (f2 gAdd (fV 6) (fV 8)) (fV 0)))
  (sIf (fDNotIn (fV 9) (fVb 3)) (sSeq (sDPutD 3 (fV 9) (f2 gAdd (fV 7) (fTup (fAc (fV 8) fA0))))
  (sMut 5 gAppend (fAc (fTup (fAc (fV 9) (fAc (f2 gAdd (fV 7) (fTup (fAc (fV 8) fA0))) fA0))) fA0))) sNil)))) (S := fun st : List PR × List PR => [.im (nE m), .im (tI (nI S)), .im (.int p), .od (dA st.1), .un, .ow (st.2.map eP), .un, .un, .un, .un]) eP (fun st e => (candE m S e).foldl addC st) (fun st r => st.1.length + 10 * r.length ≤ 800 ∧ st.2.length + 10 * r.length ≤ 800 ∧ ∀ e ∈ r, e.2.length ≤ 1000) W (A, []) ⟨by show A.length + _ ≤ _; omega, by show 0 + 10 * W.length ≤ 800; omega, fun e he => by rw [hwl e he]; omega⟩ (fun st e r h => by
    obtain ⟨q1, q2, q3⟩ := h
    rw [List.length_cons] at q1 q2
    refine ⟨tt_mid m hm S hSl p e (q3 e List.mem_cons_self) st (by omega) (by omega), ?_⟩
    have := addC_len (candE m S e) st
    rw [candE_eq, List.length_map] at this
    rw [candE_eq]
    exact ⟨by omega, by omega, fun x hx => q3 x (List.mem_cons_of_mem _ hx)⟩)
  rw [cand_fold, addC_news] at loop
  have loop : forGo (hTup 2 (hCons (hName 6) (hCons (hName 7) hNil))) [true, true, true, true, false, true, false, false, false, false] (sFor (f1L gItems (fV 1)) (hName 8) [true, true, true, true, false, true, true, true, false, false]
   (sSeq (sSet 9 (f2 (gI cMod Int.fmod) (f2 gAdd (fV 6) (fV 8)) (fV 0)))
  (sIf (fDNotIn (fV 9) (fVb 3)) (sSeq (sDPutD 3 (fV 9) (f2 gAdd (fV 7) (fTup (fAc (fV 8) fA0))))
  (sMut 5 gAppend (fAc (fTup (fAc (fV 9) (fAc (f2 gAdd (fV 7) (fTup (fAc (fV 8) fA0))) fA0))) fA0))) sNil))) (W.map eP) [.im (nE m), .im (tI (nI S)), .im (.int p), .od (dA A), .un, .ow ([].map eP), .un, .un, .un, .un] = some (.nx [.im (nE m), .im (tI (nI S)), .im (.int p), .od (dA (A ++ news (keysA A) (cand m S W))), .un, .ow ((news (keysA A) (cand m S W)).map eP), .un, .un, .un, .un]) := loop
  generalize news (keysA A) (cand m S W) = N at loop
  have ht' : fTru (fV 4) [.im (nE m), .im (tI (nI S)), .im (.int p), .od (dA A), .im (.lst (W.map eP)), .un, .un, .un, .un, .un] = some true := by
    cases W with
    | nil => exact absurd rfl hne
    | cons e W => rfl
  unfold whStep
  rw [ht', Option.bind_some, if_pos rfl]
  rw [sSeq_nx (ρ' := [.im (nE m), .im (tI (nI S)), .im (.int p), .od (dA A), .im (.lst (W.map eP)), .ow ([].map eP), .un, .un, .un, .un]) rfl, sSeq_nx (ρ' := [.im (nE m), .im (tI (nI S)), .im (.int p), .od (dA (A ++ N)), .un, .ow (N.map eP), .un, .un, .un, .un]) (by
    rw [sFor_a]
    simp only [f1L_a, fV_a, getS_s, getS_z, Option.bind_some, gItems_l, clr_t, clr_f, clr_n]
    exact loop)]
  rfl
theorem leastT {P : Nat → Prop} : ∀ n, P n → ∃ m, P m ∧ ∀ k, k < m → ¬ P k := by
  intro n
  induction n using Nat.strongRecOn with
  | _ n ih =>
    intro h
    by_cases hc : ∃ k, k < n ∧ P k
    · obtain ⟨k, hk, hp⟩ := hc
      exact ih k hk hp
    · exact ⟨n, h, fun k hk hp => hc ⟨k, hk, hp⟩⟩
theorem told_ok (m : Nat) (hm : 1 ≤ m) (hm2 : m ≤ 40) (S : List Nat) (hS : S.Pairwise (· < ·)) (hSl : S.length ≤ 10) (p : Int) : R_told_turns [nE m, tI (nI S), .int p] = some (optR (lookA (allA m S) p)) := by
  obtain ⟨T, hT, hmin⟩ := leastT (P := fun t => (lv m S t).2 = []) m (last_nil m S hm hS)
  have hTm : T ≤ m := Nat.le_of_not_lt fun h => hmin m h (last_nil m S hm hS)
  have hall : lv m S m = lv m S T := by
    have := stays' m S hT (m - T)
    rw [show T + (m - T) = m by omega] at this
    exact this
  have run := while_run (c := fTru (fV 4)) (mk := [true, true, true, true, true, false, false, false, false, false]) (F := (sSeq (sSetF 5 (fLstL fA0))
  (sSeq (sFor (f1L gItems (fV 4)) (hTup 2 (hCons (hName 6) (hCons (hName 7) hNil))) [true, true, true, true, false, true, false, false, false, false]
   (sFor (f1L gItems (fV 1)) (hName 8) [true, true, true, true, false, true, true, true, false, false]
   (sSeq (sSet 9 (f2 (gI cMod Int.fmod) (f2 gAdd (fV 6) (fV 8)) (fV 0)))
  (sIf (fDNotIn (fV 9) (fVb 3)) (sSeq (sDPutD 3 (fV 9) (f2 gAdd (fV 7) (fTup (fAc (fV 8) fA0))))
  (sMut 5 gAppend (fAc (fTup (fAc (fV 9) (fAc (f2 gAdd (fV 7) (fTup (fAc (fV 8) fA0))) fA0))) fA0))) sNil))))
  (sFrz [5] (sSet 4 (fV 5)))))) (fun t => [.im (nE m), .im (tI (nI S)), .im (.int p), .od (dA (lv m S t).1), .im (.lst ((lv m S t).2.map eP)), .un, .un, .un, .un, .un]) T (.nx [.im (nE m), .im (tI (nI S)), .im (.int p), .od (dA (lv m S T).1), .im (.lst ((lv m S T).2.map eP)), .un, .un, .un, .un, .un]) (fun t ht => tt_step m hm hm2 S hS hSl p t (by omega) (hmin t ht)) (by
    show whStep _ _ _ 0 [.im (nE m), .im (tI (nI S)), .im (.int p), .od (dA (lv m S T).1), .im (.lst ((lv m S T).2.map eP)), .un, .un, .un, .un, .un] = _
    rw [hT]
    rfl)
  unfold R_told_turns
  rw [runF_a]
  unfold F_told_turns
  show Option.bind (sSeq _ _ [.im (nE m), .im (tI (nI S)), .im (.int p), .un, .un, .un, .un, .un, .un, .un]) endOf = _
  have hget : gDGet1 (dA (allA m S)) (.int p) = some (optR (lookA (allA m S) p)) := by
    unfold gDGet1
    rw [look_A, Option.bind_some]
    cases lookA (allA m S) p <;> rfl
  rw [sSeq_nx (ρ' := [.im (nE m), .im (tI (nI S)), .im (.int p), .od (dA (lv m S 0).1), .un, .un, .un, .un, .un, .un]) rfl, sSeq_nx (ρ' := [.im (nE m), .im (tI (nI S)), .im (.int p), .od (dA (lv m S 0).1), .im (.lst ((lv m S 0).2.map eP)), .un, .un, .un, .un, .un]) rfl, sSeq_nx (ρ' := [.im (nE m), .im (tI (nI S)), .im (.int p), .od (dA (allA m S)), .im (.lst ((lv m S T).2.map eP)), .un, .un, .un, .un, .un]) (by
    rw [sWhile_a]
    simp only [clr_t, clr_f, clr_n]
    unfold allA
    rw [hall]
    exact run)]
  show ((gDGet1 (dA (allA m S)) (.int p)).bind fun d => some (Fl.rt d)).bind endOf = _
  rw [hget]
  rfl
end LK
end

section
set_option Elab.async false
set_option maxRecDepth 100000
namespace LK
open PySem EL
/-! the law's way -/
def Bt (m : Nat) (S : List Nat) : Nat → List PR
  | 0 => [(0, [])]
  | t + 1 => Bt m S t ++ news (keysA (Bt m S t)) (srtP (freshB m S t (Bt m S t) (sortI (keysA (Bt m S t)))))
theorem Bt_perm (m : Nat) (hm : 1 ≤ m) (S : List Nat) (hS : S.Pairwise (· < ·)) : ∀ t, (Bt m S t).Perm (lv m S t).1
  | 0 => List.Perm.refl _
  | t + 1 => law_step m S hm hS (Bt_perm m hm S hS t) (sortI_perm _)
def pick (m : Nat) (S : List Nat) (t : Nat) (B : List PR) (p : Int) : List PR := match lookA B p with
  | some tr => if tr.length = t then candE m S (p, tr) else []
  | none => []
theorem fresh_eq (m : Nat) (S : List Nat) (t : Nat) (B : List PR) (ks : List Int) : freshB m S t B ks = ks.flatMap (pick m S t B) := rfl
theorem free_tI (l : List Int) : (tI l).free = true := by
  show Dt.freeA (l.map Dt.int) = true
  refine freeA_mem.mpr fun d hd => ?_
  obtain ⟨i, _, rfl⟩ := List.mem_map.mp hd
  rfl
theorem intK_ks (A : List PR) : intK (ksA A) = some (keysA A) := by
  have := intK_map (keysA A)
  unfold keysA at *
  rw [List.map_map] at this
  exact this
theorem rd_place (m : Nat) (hm : 1 ≤ m) (S : List Nat) (hSl : S.length ≤ 10) (t : Nat) (B : List PR) (hB : ∀ e ∈ B, e.2.length ≤ 1000) (F : List PR) (hF : F.length ≤ 3000) (q : Int) (hq : q ∈ keysA B) : turn (hName 5) [true, true, true, true, true, false, false, false] (sIf (fCmp gEq (fN gLen (fAc (f2 gDGet (fVb 2) (fV 5)) fA0)) (fV 3)) (sSet 4 (f2 gAdd (fV 4) (fLst (fComp (f1L gItems (fV 1)) (hName 6) fYes (fTup (fAc (f2 (gI cMod Int.fmod) (f2 gAdd (fV 5) (fV 6)) (fV 0)) (fAc (f2 gAdd (fFree (f2 gDGet (fVb 2) (fV 5))) (fTup (fAc (fV 6) fA0))) fA0))) [6])))) sNil) (.int q) [.im (nE m), .im (tI (nI S)), .od (dA B), .im (nE t), .im (.lst (F.map eP)), .un, .un, .un] = some (.nx [.im (nE m), .im (tI (nI S)), .od (dA B), .im (nE t), .im (.lst ((F ++ pick m S t B q).map eP)), .un, .un, .un]) := by
  have hsm := look_some B q
  rw [decide_eq_true hq] at hsm
  obtain ⟨tr, htr⟩ := Option.isSome_iff_exists.mp hsm
  have hk := look_A B q
  rw [htr] at hk
  have hget : gDGet (dA B) (.int q) = some (tI tr) := by
    unfold gDGet
    rw [hk]
    rfl
  have htl : tr.length ≤ 1000 := by
    unfold lookA at htr
    cases hf : B.find? fun e => decide (e.1 = q) with
    | none => rw [hf] at htr; cases htr
    | some e =>
      rw [hf] at htr
      cases htr
      exact hB e (List.mem_of_find?_eq_some hf)
  have hlen : gLen [tI tr] = some (nE tr.length) := by
    show gLen [.tup _] = _
    rw [gLen_t, List.length_map]
  have hpk : pick m S t B q = if tr.length = t then candE m S (q, tr) else [] := by unfold pick; rw [htr]
  by_cases ht : tr.length = t
  · have d : decide ((tr.length : Int) = (t : Int)) = true := decide_eq_true (by omega)
    rw [if_pos ht] at hpk
    rw [hpk]
    have k1 : (fComp (f1L gItems (fV 1)) (hName 6) fYes (fTup (fAc (f2 (gI cMod Int.fmod) (f2 gAdd (fV 5) (fV 6)) (fV 0)) (fAc (f2 gAdd (fFree (f2 gDGet (fVb 2) (fV 5))) (fTup (fAc (fV 6) fA0))) fA0))) [6]) [.im (nE m), .im (tI (nI S)), .od (dA B), .im (nE t), .im (.lst (F.map eP)), .im (.int q), .un, .un] = some ((candE m S (q, tr)).map eP) := by
      refine fComp_of (ds := S.map nE) ?_ rfl (by rw [List.length_map]; omega) ?_
      · simp only [f1L_a, fV_a, getS_s, getS_z, Option.bind_some, items_nI]
      · rw [candE_eq, List.map_map]
        refine comp_all nE _ _ (fun s hs => ⟨[.im (nE m), .im (tI (nI S)), .od (dA B), .im (nE t), .im (.lst (F.map eP)), .im (.int q), .im (nE s), .un], rfl, rfl, ?_⟩)
        have c : cMod (q + (s : Int)) (m : Int) = true := cMod_of (by omega)
        have ga : gAdd (tI tr) (.tup [nE s]) = some (tI (tr ++ [(s : Int)])) := by
          show gAdd (.tup (tr.map Dt.int)) _ = _
          rw [gAdd_tt (by rw [List.length_map]; omega) (by simp)]
          simp [tI]
        simp only [fTup_a, f2_a, fFree_a, fAc_a, fA0_a, fV_a, fVb_a, getS_s, getS_z, Option.bind_some, gAdd_i, gI_i, c, if_true, hget, free_tI, ga, List.length_cons, List.length_nil, Nat.reduceAdd, Nat.reduceLeDiff]
        rfl
    have hcl : (candE m S (q, tr)).length ≤ 10 := by rw [candE_eq, List.length_map]; exact hSl
    have ga : gAdd (.lst (F.map eP)) (.lst ((candE m S (q, tr)).map eP)) = some (.lst ((F ++ candE m S (q, tr)).map eP)) := by
      rw [gAdd_ll (by rw [List.length_map]; omega) (by rw [List.length_map]; omega), List.map_append]
    rw [turn_nx (hName_a 5 _ _) (ρ2 := [.im (nE m), .im (tI (nI S)), .od (dA B), .im (nE t), .im (.lst ((F ++ candE m S (q, tr)).map eP)), .im (.int q), .un, .un])]
    · rfl
    · simp only [setS_s, setS_z, sIf_a, fCmp_a, fN_a, fAc_a, fA0_a, f2_a, fV_a, fVb_a, getS_s, getS_z, Option.bind_some, hget, hlen, gEq_i, d, if_true, sSet_a, fLst_a, k1, ga]
  · have d : decide ((tr.length : Int) = (t : Int)) = false := decide_eq_false (by omega)
    rw [if_neg ht] at hpk
    rw [hpk, List.append_nil]
    rw [turn_nx (hName_a 5 _ _) (ρ2 := [.im (nE m), .im (tI (nI S)), .od (dA B), .im (nE t), .im (.lst (F.map eP)), .im (.int q), .un, .un])]
    · rfl
    · simp only [setS_s, setS_z, sIf_a, fCmp_a, fN_a, fAc_a, fA0_a, f2_a, fV_a, fVb_a, getS_s, getS_z, Option.bind_some, hget, hlen, gEq_i, d, Bool.false_eq_true, if_false, sNil_a]
def addB (B : List PR) (c : PR) : List PR := if c.1 ∈ keysA B then B else B ++ [c]
theorem addB_news : ∀ (C B : List PR), C.foldl addB B = B ++ news (keysA B) C
  | [], B => by show B = _; unfold news; rw [List.append_nil]
  | c :: C, B => by
    rw [List.foldl_cons, addB_news C]
    unfold addB
    conv => rhs; unfold news
    by_cases h : c.1 ∈ keysA B
    · rw [if_pos h, if_pos h]
    · rw [if_neg h, if_neg h]
      have e : keysA (B ++ [c]) = keysA B ++ [c.1] := List.map_append
      rw [e, List.append_assoc]
      rfl
theorem rd_put (m : Nat) (S : List Nat) (B : List PR) (hB : B.length ≤ 90000) (c : PR) : turn (hTup 2 (hCons (hName 5) (hCons (hName 7) hNil))) [true, true, true, false, false, false, false, false] (sIf (fDNotIn (fV 5) (fVb 2)) (sDPutD 2 (fV 5) (fV 7)) sNil) (eP c) [.im (nE m), .im (tI (nI S)), .od (dA B), .un, .un, .un, .un, .un] = some (.nx [.im (nE m), .im (tI (nI S)), .od (dA (addB B c)), .un, .un, .un, .un, .un]) := by
  have hk := look_A B c.1
  have hs := look_some B c.1
  have hit : hTup 2 (hCons (hName 5) (hCons (hName 7) hNil)) (eP c) [.im (nE m), .im (tI (nI S)), .od (dA B), .un, .un, .un, .un, .un] = some [.im (nE m), .im (tI (nI S)), .od (dA B), .un, .un, .im (.int c.1), .un, .im (tI c.2)] := rfl
  have hin : fDNotIn (fV 5) (fVb 2) [.im (nE m), .im (tI (nI S)), .od (dA B), .un, .un, .im (.int c.1), .un, .im (tI c.2)] = some (!decide (c.1 ∈ keysA B)) := by
    unfold fDNotIn
    simp only [fV_a, fVb_a, getS_s, getS_z, Option.bind_some, hk, Option.isSome_map, hs]
  unfold addB
  by_cases hc : c.1 ∈ keysA B
  · rw [decide_eq_true hc] at hin
    rw [if_pos hc, turn_nx hit (ρ2 := [.im (nE m), .im (tI (nI S)), .od (dA B), .un, .un, .im (.int c.1), .un, .im (tI c.2)])]
    · rfl
    · rw [sIf_a, hin, Option.bind_some, if_neg (by simp)]
      rfl
  · rw [decide_eq_false hc] at hin
    have hput := put_A B c.1 c.2 hc (by omega)
    rw [if_neg hc, turn_nx hit (ρ2 := [.im (nE m), .im (tI (nI S)), .od (dA (B ++ [c])), .un, .un, .im (.int c.1), .un, .im (tI c.2)])]
    · rfl
    · rw [sIf_a, hin, Option.bind_some, if_pos Bool.not_false]
      unfold sDPutD
      rw [show ownedD [.im (nE m), .im (tI (nI S)), .od (dA B), .un, .un, .im (.int c.1), .un, .im (tI c.2)] 2 = some (dA B) from rfl]
      simp only [fV_a, getS_s, getS_z, Option.bind_some, hput, setS_s, setS_z]
theorem pick_len (m : Nat) (S : List Nat) (hSl : S.length ≤ 10) (t : Nat) (B : List PR) (q : Int) : (pick m S t B q).length ≤ 10 := by
  unfold pick
  split
  · split
    · rw [candE_eq, List.length_map]; exact hSl
    · exact Nat.zero_le _
  · exact Nat.zero_le _
theorem flat_fold {α β : Type} (f : α → List β) : ∀ (l : List α) (F : List β), l.foldl (fun F a => F ++ f a) F = F ++ l.flatMap f
  | [], F => by simp
  | a :: l, F => by rw [List.foldl_cons, flat_fold f l, List.flatMap_cons, List.append_assoc]
theorem rd_turn (m : Nat) (hm : 1 ≤ m) (hm2 : m ≤ 40) (S : List Nat) (hS : S.Pairwise (· < ·)) (hSl : S.length ≤ 10) (t : Nat) (ht : t < m) : turn (hName 3) [true, true, true, false, false, false, false, false] (sSeq (sSet 4 (fLst (fLstL fA0)))
  (sSeq (sFor (fNL gSortDK (fAc (fVb 2) fA0)) (hName 5) [true, true, true, true, true, false, false, false]
   (sIf (fCmp gEq (fN gLen (fAc (f2 gDGet (fVb 2) (fV 5)) fA0)) (fV 3)) (sSet 4 (f2 gAdd (fV 4) (fLst (fComp (f1L gItems (fV 1)) (hName 6) fYes (fTup (fAc (f2 (gI cMod Int.fmod) (f2 gAdd (fV 5) (fV 6)) (fV 0)) (fAc (f2 gAdd (fFree (f2 gDGet (fVb 2) (fV 5))) (fTup (fAc (fV 6) fA0))) fA0))) [6])))) sNil))
  (sFor (fNL gSortD (fAc (fV 4) fA0)) (hTup 2 (hCons (hName 5) (hCons (hName 7) hNil))) [true, true, true, false, false, false, false, false]
   (sIf (fDNotIn (fV 5) (fVb 2)) (sDPutD 2 (fV 5) (fV 7)) sNil)))) (nE t) [.im (nE m), .im (tI (nI S)), .od (dA (Bt m S t)), .un, .un, .un, .un, .un] = some (.nx [.im (nE m), .im (tI (nI S)), .od (dA (Bt m S (t + 1))), .un, .un, .un, .un, .un]) := by
  have ok := lv_ok m S hm hS t
  have hp := Bt_perm m hm S hS t
  have hBl : (Bt m S t).length ≤ m := by rw [hp.length_eq]; exact keys_le m S hm hS t
  have hB2 : ∀ e ∈ Bt m S t, e.2.length ≤ 1000 := fun e he => by
    have := ok.le e (hp.mem_iff.mp he)
    omega
  show turn (hName 3) [true, true, true, false, false, false, false, false] (sSeq (sSet 4 (fLst (fLstL fA0)))
  (sSeq (sFor (fNL gSortDK (fAc (fVb 2) fA0)) (hName 5) [true, true, true, true, true, false, false, false]
   (sIf (fCmp gEq (fN gLen (fAc (f2 gDGet (fVb 2) (fV 5)) fA0)) (fV 3)) (sSet 4 (f2 gAdd (fV 4) (fLst (fComp (f1L gItems (fV 1)) (hName 6) fYes (fTup (fAc (f2 (gI cMod Int.fmod) (f2 gAdd (fV 5) (fV 6)) (fV 0)) (fAc (f2 gAdd (fFree (f2 gDGet (fVb 2) (fV 5))) (fTup (fAc (fV 6) fA0))) fA0))) [6])))) sNil))
  (sFor (fNL gSortD (fAc (fV 4) fA0)) (hTup 2 (hCons (hName 5) (hCons (hName 7) hNil))) [true, true, true, false, false, false, false, false]
   (sIf (fDNotIn (fV 5) (fVb 2)) (sDPutD 2 (fV 5) (fV 7)) sNil)))) (nE t) [.im (nE m), .im (tI (nI S)), .od (dA (Bt m S t)), .un, .un, .un, .un, .un] = some (.nx [.im (nE m), .im (tI (nI S)), .od (dA (Bt m S t ++ news (keysA (Bt m S t)) (srtP (freshB m S t (Bt m S t) (sortI (keysA (Bt m S t))))))), .un, .un, .un, .un, .un])
  generalize Bt m S t = B at *
  have hkl : (sortI (keysA B)).length = B.length := by rw [(sortI_perm _).length_eq]; exact List.length_map _
  have hsk : gSortDK [dA B] = some ((sortI (keysA B)).map Dt.int) := by
    show (intK (ksA B)).bind _ = _
    rw [intK_ks, Option.bind_some, if_pos (by have : (keysA B).length = B.length := List.length_map _; omega)]
  have hmem : ∀ q ∈ sortI (keysA B), q ∈ keysA B := fun q hq => (sortI_perm _).mem_iff.mp hq
  rw [fresh_eq]
  generalize sortI (keysA B) = ks at *
  have loop1 := for_fold (gf := (hName 5)) (mk := [true, true, true, true, true, false, false, false]) (F := (sIf (fCmp gEq (fN gLen (fAc (f2 gDGet (fVb 2) (fV 5)) fA0)) (fV 3)) (sSet 4 (f2 gAdd (fV 4) (fLst (fComp (f1L gItems (fV 1)) (hName 6) fYes (fTup (fAc (f2 (gI cMod Int.fmod) (f2 gAdd (fV 5) (fV 6)) (fV 0)) (fAc (f2 gAdd (fFree (f2 gDGet (fVb 2) (fV 5))) (fTup (fAc (fV 6) fA0))) fA0))) [6])))) sNil)) (S := fun F : List PR => [.im (nE m), .im (tI (nI S)), .od (dA B), .im (nE t), .im (.lst (F.map eP)), .un, .un, .un]) Dt.int (fun F q => F ++ pick m S t B q) (fun F r => F.length + 10 * r.length ≤ 2000 ∧ ∀ q ∈ r, q ∈ keysA B) ks [] ⟨by show 0 + 10 * ks.length ≤ 2000; omega, hmem⟩ (fun F q r h => by
    obtain ⟨q1, q2⟩ := h
    rw [List.length_cons] at q1
    refine ⟨rd_place m hm S hSl t B hB2 F (by omega) q (q2 q List.mem_cons_self), ?_, fun x hx => q2 x (List.mem_cons_of_mem _ hx)⟩
    have := pick_len m S hSl t B q
    rw [List.length_append]
    omega)
  rw [flat_fold, List.nil_append] at loop1
  have hFl : (ks.flatMap (pick m S t B)).length ≤ 10 * ks.length := by
    clear loop1 hmem hsk hkl
    induction ks with
    | nil => simp
    | cons q ks ih =>
      have := pick_len m S hSl t B q
      rw [List.flatMap_cons, List.length_append, List.length_cons]
      omega
  generalize ks.flatMap (pick m S t B) = F at *
  have hsp : (srtP F).length = F.length := (List.mergeSort_perm F pLe).length_eq
  have loop2 := for_fold (gf := (hTup 2 (hCons (hName 5) (hCons (hName 7) hNil)))) (mk := [true, true, true, false, false, false, false, false]) (F := (sIf (fDNotIn (fV 5) (fVb 2)) (sDPutD 2 (fV 5) (fV 7)) sNil)) (S := fun B : List PR => [.im (nE m), .im (tI (nI S)), .od (dA B), .un, .un, .un, .un, .un]) eP addB (fun B r => B.length + r.length ≤ 5000) (srtP F) B (by omega) (fun B c r h => by
    rw [List.length_cons] at h
    refine ⟨rd_put m S B (by omega) c, ?_⟩
    unfold addB
    split
    · omega
    · rw [List.length_append, List.length_singleton]; omega)
  rw [addB_news] at loop2
  rw [turn_nx (hName_a 3 _ _) (ρ2 := [.im (nE m), .im (tI (nI S)), .od (dA (B ++ news (keysA B) (srtP F))), .un, .un, .un, .un, .un])]
  · rfl
  · simp only [setS_s, setS_z]
    rw [sSeq_nx (ρ' := [.im (nE m), .im (tI (nI S)), .od (dA B), .im (nE t), .im (.lst (([] : List PR).map eP)), .un, .un, .un]) rfl, sSeq_nx (ρ' := [.im (nE m), .im (tI (nI S)), .od (dA B), .im (nE t), .im (.lst (F.map eP)), .un, .un, .un]) (by
      rw [sFor_a]
      simp only [fNL_a, fAc_a, fA0_a, fVb_a, getS_s, getS_z, Option.bind_some, hsk, clr_t, clr_f, clr_n]
      exact loop1), sFor_a]
    simp only [fNL_a, fAc_a, fA0_a, fV_a, getS_s, getS_z, Option.bind_some, gSortD_P, clr_t, clr_f, clr_n]
    exact loop2
def lawA (m : Nat) (S : List Nat) : List PR := Bt m S m
theorem reached_ok (m : Nat) (hm : 1 ≤ m) (hm2 : m ≤ 40) (S : List Nat) (hS : S.Pairwise (· < ·)) (hSl : S.length ≤ 10) : R_f_law_reached [nE m, tI (nI S)] = some (dA (lawA m S)) := by
  have loop : ∀ (l t : Nat), t + l = m → forGo (hName 3) [true, true, true, false, false, false, false, false] (sSeq (sSet 4 (fLst (fLstL fA0)))
  (sSeq (sFor (fNL gSortDK (fAc (fVb 2) fA0)) (hName 5) [true, true, true, true, true, false, false, false]
   (sIf (fCmp gEq (fN gLen (fAc (f2 gDGet (fVb 2) (fV 5)) fA0)) (fV 3)) (sSet 4 (f2 gAdd (fV 4) (fLst (fComp (f1L gItems (fV 1)) (hName 6) fYes (fTup (fAc (f2 (gI cMod Int.fmod) (f2 gAdd (fV 5) (fV 6)) (fV 0)) (fAc (f2 gAdd (fFree (f2 gDGet (fVb 2) (fV 5))) (fTup (fAc (fV 6) fA0))) fA0))) [6])))) sNil))
  (sFor (fNL gSortD (fAc (fV 4) fA0)) (hTup 2 (hCons (hName 5) (hCons (hName 7) hNil))) [true, true, true, false, false, false, false, false]
   (sIf (fDNotIn (fV 5) (fVb 2)) (sDPutD 2 (fV 5) (fV 7)) sNil)))) ((List.range' t l).map nE) [.im (nE m), .im (tI (nI S)), .od (dA (Bt m S t)), .un, .un, .un, .un, .un] = some (.nx [.im (nE m), .im (tI (nI S)), .od (dA (Bt m S m)), .un, .un, .un, .un, .un]) := by
    intro l
    induction l with
    | zero => intro t h; rw [show t = m by omega]; rfl
    | succ l ih =>
      intro t h
      rw [List.range'_succ, List.map_cons, forGo_cons, rd_turn m hm hm2 S hS hSl t (by omega)]
      exact ih (t + 1) (by omega)
  have l1 := loop m 0 (by omega)
  rw [← List.range_eq_range'] at l1
  unfold R_f_law_reached
  rw [runF_a]
  unfold F_f_law_reached
  show Option.bind (sSeq _ _ [.im (nE m), .im (tI (nI S)), .un, .un, .un, .un, .un, .un]) endOf = _
  rw [sSeq_nx (ρ' := [.im (nE m), .im (tI (nI S)), .od (dA (Bt m S 0)), .un, .un, .un, .un, .un]) rfl, sSeq_nx (ρ' := [.im (nE m), .im (tI (nI S)), .od (dA (Bt m S m)), .un, .un, .un, .un, .un]) (by
    rw [sFor_a]
    simp only [fNL_a, fAc_a, fA0_a, fV_a, getS_s, getS_z, Option.bind_some, rngN (show m ≤ 1000000000 by omega), clr_t, clr_f, clr_n]
    exact l1)]
  rfl
theorem law_look (m : Nat) (hm : 1 ≤ m) (S : List Nat) (hS : S.Pairwise (· < ·)) (p : Int) : lookA (lawA m S) p = lookA (allA m S) p := look_perm (Bt_perm m hm S hS m) (lv_ok m S hm hS m).nod p
theorem law_len (m : Nat) (hm : 1 ≤ m) (S : List Nat) (hS : S.Pairwise (· < ·)) : (lawA m S).length = (allA m S).length := (Bt_perm m hm S hS m).length_eq
end LK
end

section
set_option Elab.async false
set_option maxRecDepth 100000
namespace LK
open PySem EL
/-! bars -/
def barX (m : Nat) (S : List Nat) (p d : Int) : Bool := decide (1 ≤ d) && (decide (Int.fmod (m : Int) d = 0) && (!decide (Int.fmod p d = 0) && S.all fun (s : Nat) => decide (Int.fmod (s : Int) d = 0)))
theorem barX_nat (m : Nat) (S : List Nat) (p d : Nat) (hd : 1 ≤ d) : barX m S (p : Int) (d : Int) = barP m S p d := by
  have aux : ∀ x : Nat, decide (Int.fmod (x : Int) (d : Int) = 0) = decide (x % d = 0) := fun x => by
    rw [nm, decide_eq_decide]
    omega
  unfold barX barP
  rw [decide_eq_true (by omega), Bool.true_and, aux, aux]
  congr 2
  congr 1
  funext s
  exact aux s
theorem behind_ok (m : Nat) (hm : 1 ≤ m) (l : List Int) : R_place_behind [nE m, tI l] = some (.int (Int.fmod l.sum (m : Int))) := by
  have c : cMod l.sum (m : Int) = true := cMod_of (by omega)
  unfold R_place_behind
  rw [runF_a]
  unfold F_place_behind
  show Option.bind (sRet _ [.im (nE m), .im (tI l)]) endOf = _
  have hs : gSumA [tI l] = some (.int l.sum) := gSumA_t l
  simp only [sRet_a, f2_a, fN_a, fAc_a, fA0_a, fV_a, getS_s, getS_z, Option.bind_some, hs, gI_i, c, if_true, endOf_rt]
theorem pbar_ok (m : Nat) (S : List Nat) (p d : Int) : R_is_turn_bar [nE m, tI (nI S), .int p, .int d] = some (.bl (barX m S p d)) := by
  unfold R_is_turn_bar
  rw [runF_a]
  unfold F_is_turn_bar
  show Option.bind (sSeq _ _ [.im (nE m), .im (tI (nI S)), .im (.int p), .im (.int d)]) endOf = _
  unfold barX
  by_cases h1 : 1 ≤ d
  · have d1 : decide (d < 1) = false := decide_eq_false (by omega)
    have c1 : cMod (m : Int) d = true := cMod_of (by omega)
    have c2 : cMod p d = true := cMod_of (by omega)
    rw [decide_eq_true h1, Bool.true_and]
    cases h2 : decide (Int.fmod (m : Int) d = 0) with
    | false =>
      rw [sSeq_rt (d := .bl false) (by
        simp only [sIf_a, fOr_a, fCmp_a, f2_a, fC_a, fV_a, getS_s, getS_z, Option.bind_some, gII_i, bLt_a, d1, Bool.false_eq_true, if_false, gI_i, c1, if_true, gNe_i, h2, Bool.not_false, sRet_a])]
      rfl
    | true =>
      cases h3 : decide (Int.fmod p d = 0) with
      | true =>
        rw [sSeq_rt (d := .bl false) (by
          simp only [sIf_a, fOr_a, fCmp_a, f2_a, fC_a, fV_a, getS_s, getS_z, Option.bind_some, gII_i, bLt_a, d1, Bool.false_eq_true, if_false, gI_i, c1, c2, if_true, gNe_i, gEq_i, h2, h3, Bool.not_true, sRet_a])]
        rfl
      | false =>
        have eg : ((fGen false (f1L gItems (fV 1)) [none, some 3] (hName 0) (fOfB (fCmp gEq (f2 (gI cMod Int.fmod) (fV 0) (fV 1)) (fC (.int 0))))) : Fn) [.im (nE m), .im (tI (nI S)), .im (.int p), .im (.int d)] = some (.bl (S.all fun (s : Nat) => decide (Int.fmod (s : Int) d = 0))) := by
          rw [fGen_a]
          simp only [f1L_a, fV_a, getS_s, getS_z, Option.bind_some, items_nI, capR_n, capR_0, capR_s]
          rw [gen_all nE (fun s => decide (Int.fmod (s : Int) d = 0)) S fun s _ => ⟨[.im (nE s), .im (.int d)], rfl, by
            have c3 : cMod (s : Int) d = true := cMod_of (by omega)
            simp only [fOfB_a, fCmp_a, f2_a, fC_a, fV_a, getS_s, getS_z, Option.bind_some, gI_i, c3, if_true, gEq_i]⟩]
          rfl
        rw [sSeq_nx (ρ' := [.im (nE m), .im (tI (nI S)), .im (.int p), .im (.int d)]) (by
          simp only [sIf_a, fOr_a, fCmp_a, f2_a, fC_a, fV_a, getS_s, getS_z, Option.bind_some, gII_i, bLt_a, d1, Bool.false_eq_true, if_false, gI_i, c1, c2, if_true, gNe_i, gEq_i, h2, h3, Bool.not_true, sNil_a]), sRet_a, eg]
        rfl
  · have d1 : decide (d < 1) = true := decide_eq_true (by omega)
    rw [decide_eq_false h1, Bool.false_and]
    rw [sSeq_rt (d := .bl false) (by
      simp only [sIf_a, fOr_a, fCmp_a, fC_a, fV_a, getS_s, getS_z, Option.bind_some, gII_i, bLt_a, d1, if_true, sRet_a])]
    rfl
theorem lbar_ok (m : Nat) (S : List Nat) (hS : S.length ≤ 100) (p d : Int) : R_f_law_bar [nE m, tI (nI S), .int p, .int d] = some (.bl (barX m S p d)) := by
  unfold R_f_law_bar
  rw [runF_a]
  unfold F_f_law_bar
  show Option.bind (sRet _ [.im (nE m), .im (tI (nI S)), .im (.int p), .im (.int d), .un]) endOf = _
  unfold barX
  by_cases h1 : 1 ≤ d
  · have d1 : decide (1 ≤ d) = true := decide_eq_true h1
    have c1 : cMod (m : Int) d = true := cMod_of (by omega)
    have c2 : cMod p d = true := cMod_of (by omega)
    have k1 : (fComp (f1L gItems (fV 1)) (hName 4) fYes (fOfB (fCmp gEq (f2 (gI cMod Int.fmod) (fV 4) (fV 3)) (fC (.int 0)))) [4]) [.im (nE m), .im (tI (nI S)), .im (.int p), .im (.int d), .un] = some ((S.map fun (s : Nat) => decide (Int.fmod (s : Int) d = 0)).map Dt.bl) := by
      refine fComp_of (ds := S.map nE) ?_ rfl (by rw [List.length_map]; omega) ?_
      · simp only [f1L_a, fV_a, getS_s, getS_z, Option.bind_some, items_nI]
      · rw [List.map_map]
        refine comp_all nE _ _ (fun s hs => ⟨[.im (nE m), .im (tI (nI S)), .im (.int p), .im (.int d), .im (nE s)], rfl, rfl, ?_⟩)
        have c3 : cMod (s : Int) d = true := cMod_of (by omega)
        simp only [fOfB_a, fCmp_a, f2_a, fC_a, fV_a, getS_s, getS_z, Option.bind_some, gI_i, c3, if_true, gEq_i, Function.comp]
    have hall : (S.map fun (s : Nat) => decide (Int.fmod (s : Int) d = 0)).all id = S.all fun (s : Nat) => decide (Int.fmod (s : Int) d = 0) := by rw [List.all_map]; rfl
    simp only [sRet_a, fAndV_a, fB_a, fOfB_a, fCmp_a, f2_a, fC_a, fV_a, getS_s, getS_z, Option.bind_some, gII_i, bGe_a, d1, if_true, gI_i, c1, c2, gEq_i, gNe_i, fN_a, fAc_a, fA0_a, fLst_a, k1, gAll_l, hall]
    cases decide (Int.fmod (m : Int) d = 0) <;> cases decide (Int.fmod p d = 0) <;> rfl
  · have d1 : decide (1 ≤ d) = false := decide_eq_false h1
    simp only [sRet_a, fAndV_a, fB_a, fOfB_a, fCmp_a, fC_a, fV_a, getS_s, getS_z, Option.bind_some, gII_i, bGe_a, d1, Bool.false_eq_true, if_false]
    rfl
theorem minL_ok {l : List Int} (h : l ≠ []) : gMinL [.lst (l.map Dt.int)] = some (.int (mnL l)) := by
  show ((ints? (l.map Dt.int)).bind fun ns => (minL ns).bind fun k => some (Dt.int k)) = _
  rw [ints?_map, Option.bind_some]
  obtain ⟨k, hk⟩ : ∃ k, minL l = some k := by
    cases l with
    | nil => exact absurd rfl h
    | cons x l => exact ⟨_, rfl⟩
  rw [hk, Option.bind_some, minL_is hk (mnL_mem h) fun y hy => mnL_le hy]
def optN : Option Nat → Dt
  | none => .non
  | some d => nE d
theorem mn_head (l : List Nat) (h : l.Pairwise (· < ·)) (a : Nat) (ha : l.head? = some a) : mnL (nI l) = (a : Int) := by
  cases l with
  | nil => cases ha
  | cons x l =>
    have hax : x = a := Option.some.inj ha
    have hne : nI (x :: l) ≠ [] := fun e => by cases e
    have h1 := mnL_mem hne
    have h2 : mnL (nI (x :: l)) ≤ (x : Int) := mnL_le (List.mem_cons_self)
    obtain ⟨y, hy, e⟩ := List.mem_map.mp h1
    rw [← e] at h2 ⊢
    rcases List.mem_cons.mp hy with e' | hy
    · rw [e', hax]
    · have := (List.pairwise_cons.mp h).1 y hy
      omega
theorem turnbar_ok (m : Nat) (hm : 1 ≤ m) (hm2 : m ≤ 1000) (S : List Nat) (p : Nat) : R_turn_bar [nE m, tI (nI S), nE p] = some (optN (bars m S p).head?) := by
  obtain ⟨g1, g2⟩ := G_pos m S hm
  have loop := for_fold (gf := (hName 4)) (mk := [false, false, true, true, false, false]) (F := (sSet 3 (fN gGcd (fAc (fV 3) (fAc (fV 4) fA0))))) (S := fun g : Nat => [.un, .un, .im (nE p), .im (nE g), .un, .un]) nE Nat.gcd (fun _ _ => True) S m trivial (fun g s r _ => ⟨by
    rw [turn_nx (hName_a 4 _ _) (ρ2 := [.un, .un, .im (nE p), .im (nE (Nat.gcd g s)), .im (nE s), .un])]
    · rfl
    · simp only [setS_s, setS_z, sSet_a, fN_a, fAc_a, fA0_a, fV_a, getS_s, getS_z, Option.bind_some, gGcd_i, Int.natAbs_natCast], trivial⟩)
  have loop : forGo _ _ _ (S.map nE) [.un, .un, .im (nE p), .im (nE m), .un, .un] = some (.nx [.un, .un, .im (nE p), .im (nE (gG m S)), .un, .un]) := loop
  have hb := bars_nil m S hm p
  have hG := bars_G m S hm p
  have hsrt : (bars m S p).Pairwise (· < ·) := by
    unfold bars
    exact (List.pairwise_lt_range' (step := 1)).sublist List.filter_sublist
  generalize gG m S = G at *
  have c1 : cMod (p : Int) (G : Int) = true := cMod_of (by omega)
  have f1 : Int.fmod (p : Int) (G : Int) = ((p % G : Nat) : Int) := nm _ _
  unfold R_turn_bar
  rw [runF_a]
  unfold F_turn_bar
  show Option.bind (sSeq _ _ [.im (nE m), .im (tI (nI S)), .im (nE p), .un, .un, .un]) endOf = _
  rw [sSeq_nx (ρ' := [.im (nE m), .im (tI (nI S)), .im (nE p), .im (nE m), .un, .un]) rfl, sSeq_nx (ρ' := [.un, .un, .im (nE p), .im (nE G), .un, .un]) (by
    rw [sFor_a]
    simp only [f1L_a, fV_a, getS_s, getS_z, Option.bind_some, items_nI, clr_t, clr_f, clr_n]
    exact loop)]
  by_cases hd : G ∣ p
  · have d1 : decide (((p % G : Nat) : Int) = 0) = true := decide_eq_true (by rw [Nat.mod_eq_zero_of_dvd hd]; rfl)
    rw [hb.mpr hd]
    rw [sSeq_rt (d := .non) (by
      simp only [sIf_a, fCmp_a, f2_a, fC_a, fV_a, getS_s, getS_z, Option.bind_some, gI_i, c1, if_true, f1, gEq_i, d1, sRet_a])]
    rfl
  · have hpm : p % G ≠ 0 := fun h => hd (Nat.dvd_of_mod_eq_zero h)
    have d1 : decide (((p % G : Nat) : Int) = 0) = false := decide_eq_false (by omega)
    have hne : bars m S p ≠ [] := fun h => hd (hb.mp h)
    have k1 : (fComp (fNL gRng2 (fAc (fC (.int 1)) (fAc (f2 gAdd (fV 3) (fC (.int 1))) fA0))) (hName 5) (fAnd (fCmp gEq (f2 (gI cMod Int.fmod) (fV 3) (fV 5)) (fC (.int 0))) (fCmp gNe (f2 (gI cMod Int.fmod) (fV 2) (fV 5)) (fC (.int 0)))) (fV 5) [5]) [.un, .un, .im (nE p), .im (nE G), .un, .un] = some ((nI (bars m S p)).map Dt.int) := by
      rw [nI_items, hG]
      have e1 : (G : Int) + 1 = ((G + 1 : Nat) : Int) := by omega
      refine fComp_of (ds := (List.range' 1 G).map nE) ?_ rfl (by rw [List.length_map, List.length_range']; omega) ?_
      · simp only [fNL_a, fAc_a, fA0_a, f2_a, fC_a, fV_a, getS_s, getS_z, Option.bind_some, gAdd_i, e1, rng2_of (i := 1) (j := ((G + 1 : Nat) : Int)) (by omega) (by omega) (by omega) (by omega)]
        exact congrArg some (rgN2 (a := 1) (b := G + 1))
      · refine comp_map nE (fun d => decide (G % d = 0) && !decide (p % d = 0)) nE _ (fun d hd => ⟨[.un, .un, .im (nE p), .im (nE G), .un, .im (nE d)], rfl, ?_, fun _ => rfl⟩)
        rw [List.mem_range'] at hd
        have c2 : cMod (G : Int) (d : Int) = true := cMod_of (by omega)
        have c3 : cMod (p : Int) (d : Int) = true := cMod_of (by omega)
        have aux : ∀ x : Nat, decide (Int.fmod (x : Int) (d : Int) = 0) = decide (x % d = 0) := fun x => by
          rw [nm, decide_eq_decide]
          omega
        simp only [fAnd_a, fCmp_a, f2_a, fC_a, fV_a, getS_s, getS_z, Option.bind_some, gI_i, c2, c3, if_true, gEq_i, gNe_i, aux]
        cases decide (G % d = 0) <;> rfl
    have hn2 : nI (bars m S p) ≠ [] := fun e => hne (by
      have := congrArg List.length e
      rw [nI_len] at this
      exact List.length_eq_zero_iff.mp this)
    have hm := minL_ok hn2
    obtain ⟨a, ha⟩ : ∃ a, (bars m S p).head? = some a := by
      cases hb' : bars m S p with
      | nil => exact absurd hb' hne
      | cons a l => exact ⟨a, rfl⟩
    rw [mn_head _ hsrt a ha] at hm
    rw [ha, sSeq_nx (ρ' := [.un, .un, .im (nE p), .im (nE G), .un, .un]) (by
      simp only [sIf_a, fCmp_a, f2_a, fC_a, fV_a, getS_s, getS_z, Option.bind_some, gI_i, c1, if_true, f1, gEq_i, d1, Bool.false_eq_true, if_false, sNil_a])]
    simp only [sRet_a, fN_a, fAc_a, fA0_a, fLst_a, k1, Option.bind_some, hm, endOf_rt]
    rfl
end LK
end

section
set_option Elab.async false
set_option maxRecDepth 100000
namespace LK
open PySem EL
/-! the floor -/
theorem setN (l : List Nat) : ∃ S : List Nat, setI (nI l) = nI S ∧ S.Pairwise (· < ·) ∧ (∀ s ∈ S, s ∈ l) ∧ S.length ≤ l.length := by
  have hn : ∃ S : List Nat, setI (nI l) = nI S := by
    refine ⟨(setI (nI l)).map Int.toNat, ?_⟩
    unfold nI
    rw [List.map_map]
    refine Eq.trans (List.map_id' _).symm (List.map_congr_left fun r hr => ?_)
    obtain ⟨y, _, rfl⟩ := List.mem_map.mp ((mem_setI _ _).mp hr)
    show ((y : Nat) : Int) = ((((y : Nat) : Int).toNat : Nat) : Int)
    omega
  obtain ⟨S, e⟩ := hn
  have h1 : (setI (nI l)).Nodup := (sortI_perm _).nodup_iff.mpr (nodup_onceI (nI l))
  have h2 : (setI (nI l)).Pairwise (· < ·) := List.Pairwise.imp₂ (fun a b (p : a ≤ b) (q : a ≠ b) => by omega) (sortI_sorted _) h1
  have h3 := setI_length (nI l)
  rw [e] at h2 h3
  rw [nI_len, nI_len] at h3
  unfold nI at h2
  rw [List.pairwise_map] at h2
  refine ⟨S, e, h2.imp fun h => by omega, fun s hs => ?_, h3⟩
  have : (s : Int) ∈ nI l := by
    rw [← mem_setI, e]
    exact List.mem_map.mpr ⟨s, hs, rfl⟩
  obtain ⟨y, hy, e'⟩ := List.mem_map.mp this
  have : y = s := by omega
  exact this ▸ hy
theorem floor_ok (dn : List Nat) (hd : dn.length = 8) (w : Nat) (hw : w < 2) : ∃ (m : Nat) (S : List Nat), R_f_law_floor [.lst (dl dn), nE w] = some (.tup [nE m, tI (nI S)]) ∧ 1 ≤ m ∧ m ≤ 24 ∧ S.Pairwise (· < ·) ∧ S.length ≤ 4 ∧ (w = 1 → ∃ q, 2 ≤ q ∧ q ∣ m ∧ ∀ s ∈ S, q ∣ s) := by
  have a0 : L2.atI (dl dn) 0 = some (.int (dn.getD 0 0 : Nat)) := dl_at 0 (by omega) (by omega)
  have a1 : L2.atI (dl dn) 1 = some (.int (dn.getD 1 0 : Nat)) := dl_at 1 (by omega) (by omega)
  have a6 : L2.atI (dl dn) 6 = some (.int (dn.getD 6 0 : Nat)) := dl_at 6 (by omega) (by omega)
  have a7 : L2.atI (dl dn) 7 = some (.int (dn.getD 7 0 : Nat)) := dl_at 7 (by omega) (by omega)
  generalize dn.getD 0 0 = x0 at a0
  generalize dn.getD 1 0 = x1 at a1
  generalize dn.getD 6 0 = x6 at a6
  generalize dn.getD 7 0 = x7 at a7
  have c4 : cMod (x0 : Int) 4 = true := cMod_of (by omega)
  have f4 : Int.fmod (x0 : Int) 4 = ((x0 % 4 : Nat) : Int) := nm _ _
  have h4 : x0 % 4 < 4 := Nat.mod_lt _ (by omega)
  generalize x0 % 4 = y4 at f4 h4
  obtain ⟨sh, s1, s2, s3, e0⟩ : ∃ sh : Nat, 1 ≤ sh ∧ sh ≤ 5 ∧ (w = 1 → 2 ≤ sh) ∧ ((sSet 2 (fIf (fCmp gEq (fV 1) (fC (.int 0))) (f2 gAdd (fC (.int 1)) (f2 (gI cMod Int.fmod) (fN gInt (fAc (f2 gIx (fV 0) (fC (.int 0))) fA0)) (fC (.int 4)))) (f2 gAdd (fC (.int 2)) (f2 (gI cMod Int.fmod) (fN gInt (fAc (f2 gIx (fV 0) (fC (.int 0))) fA0)) (fC (.int 4)))))) : FnS) [.im (.lst (dl dn)), .im (nE w), .un, .un, .un, .un] = some (.nx [.im (.lst (dl dn)), .im (nE w), .im (nE sh), .un, .un, .un]) := by
    by_cases h : w = 0
    · have d : decide ((w : Int) = 0) = true := decide_eq_true (by omega)
      have e : (1 : Int) + (y4 : Int) = ((1 + y4 : Nat) : Int) := by omega
      refine ⟨1 + y4, by omega, by omega, by omega, ?_⟩
      simp only [sSet_a, fIf_a, fCmp_a, f2_a, fN_a, fAc_a, fA0_a, fC_a, fV_a, getS_s, getS_z, Option.bind_some, gEq_i, d, if_true, gIx_l, a0, gInt_i, gI_i, c4, f4, gAdd_i, e, setS_s, setS_z]
    · have d : decide ((w : Int) = 0) = false := decide_eq_false (by omega)
      have e : (2 : Int) + (y4 : Int) = ((2 + y4 : Nat) : Int) := by omega
      refine ⟨2 + y4, by omega, by omega, by omega, ?_⟩
      simp only [sSet_a, fIf_a, fCmp_a, f2_a, fN_a, fAc_a, fA0_a, fC_a, fV_a, getS_s, getS_z, Option.bind_some, gEq_i, d, Bool.false_eq_true, if_false, gIx_l, a0, gInt_i, gI_i, c4, if_true, f4, gAdd_i, e, setS_s, setS_z]
  have cd24 : cDiv (24 : Int) (sh : Int) = true := cDiv_of (by omega) (by omega) (by omega)
  have fd24 : Int.fdiv (24 : Int) (sh : Int) = ((24 / sh : Nat) : Int) := nq 24 sh
  have h24 : 1 ≤ 24 / sh := (Nat.le_div_iff_mul_le (by omega)).mpr (by omega)
  have m24 : sh * (24 / sh) ≤ 24 := Nat.mul_div_le 24 sh
  generalize 24 / sh = u at fd24 h24 m24
  have cu : cMod (x1 : Int) (u : Int) = true := cMod_of (by omega)
  have fu : Int.fmod (x1 : Int) (u : Int) = ((x1 % u : Nat) : Int) := nm _ _
  have hu : x1 % u < u := Nat.mod_lt _ (by omega)
  generalize x1 % u = v at fu hu
  have ev : (1 : Int) + (v : Int) = ((1 + v : Nat) : Int) := by omega
  have mu : cMul (sh : Int) ((1 + v : Nat) : Int) = true := cMul_l (by omega) (by omega)
  have em : (sh : Int) * ((1 + v : Nat) : Int) = ((sh * (1 + v) : Nat) : Int) := (Int.natCast_mul _ _).symm
  have hm1 : 1 ≤ sh * (1 + v) := Nat.mul_pos (by omega) (by omega)
  have hm2 : sh * (1 + v) ≤ 24 := Nat.le_trans (Nat.mul_le_mul_left sh (by omega)) m24
  have cd60 : cDiv (60 : Int) (sh : Int) = true := cDiv_of (by omega) (by omega) (by omega)
  have fd60 : Int.fdiv (60 : Int) (sh : Int) = ((60 / sh : Nat) : Int) := nq 60 sh
  have h60 : 1 ≤ 60 / sh := (Nat.le_div_iff_mul_le (by omega)).mpr (by omega)
  generalize 60 / sh = z at fd60 h60
  have c5 : cMod (x6 : Int) 5 = true := cMod_of (by omega)
  have f5 : Int.fmod (x6 : Int) 5 = ((x6 % 5 : Nat) : Int) := nm _ _
  have h5 : x6 % 5 < 5 := Nat.mod_lt _ (by omega)
  generalize x6 % 5 = n at f5 h5
  have k1 : (fComp (fNL gRng1 (fAc (f2 (gI cMod Int.fmod) (fN gInt (fAc (f2 gIx (fV 0) (fC (.int 6))) fA0)) (fC (.int 5))) fA0)) (hName 4) fYes (f2 gMul (fV 2) (f2 (gI cMod Int.fmod) (fN gInt (fAc (f2 gIx (fV 0) (f2 gAdd (fC (.int 2)) (fV 4))) fA0)) (f2 (gI cDiv Int.fdiv) (fC (.int 60)) (fV 2)))) [4]) [.im (.lst (dl dn)), .im (nE w), .im (nE sh), .im (nE (sh * (1 + v))), .un, .un] = some ((nI ((List.range n).map fun a => sh * (dn.getD (2 + a) 0 % z))).map Dt.int) := by
    refine fComp_of (ds := (List.range n).map nE) ?_ rfl (by rw [List.length_map, List.length_range]; omega) ?_
    · simp only [fNL_a, fAc_a, fA0_a, f2_a, fN_a, fC_a, fV_a, getS_s, getS_z, Option.bind_some, gIx_l, a6, gInt_i, gI_i, c5, if_true, f5, rngN (show n ≤ 1000000000 by omega)]
    · rw [nI_items, List.map_map]
      refine comp_all nE _ _ (fun a ha => ⟨[.im (.lst (dl dn)), .im (nE w), .im (nE sh), .im (nE (sh * (1 + v))), .im (nE a), .un], rfl, rfl, ?_⟩)
      rw [List.mem_range] at ha
      have e : L2.atI (dl dn) (2 + (a : Int)) = some (.int (dn.getD (2 + a) 0 : Nat)) := by
        have := dl_at (dn := dn) (2 + (a : Int)) (by omega) (by omega)
        rw [show (2 + (a : Int)).toNat = 2 + a by omega] at this
        exact this
      show _ = some (nE (sh * (dn.getD (2 + a) 0 % z)))
      generalize dn.getD (2 + a) 0 = y at e
      have cz : cMod (y : Int) (z : Int) = true := cMod_of (by omega)
      have fz : Int.fmod (y : Int) (z : Int) = ((y % z : Nat) : Int) := nm _ _
      have mz : cMul (sh : Int) ((y % z : Nat) : Int) = true := cMul_l (by omega) (by omega)
      have ez : (sh : Int) * ((y % z : Nat) : Int) = ((sh * (y % z) : Nat) : Int) := (Int.natCast_mul _ _).symm
      simp only [f2_a, fN_a, fAc_a, fA0_a, fC_a, fV_a, getS_s, getS_z, Option.bind_some, gAdd_i, gIx_l, e, gInt_i, gI_i, cd60, fd60, cz, fz, if_true, gMul_i, mz, ez]
  have hdl : ∀ y ∈ (List.range n).map (fun a => sh * (dn.getD (2 + a) 0 % z)), sh ∣ y := fun y hy => by
    obtain ⟨a, _, rfl⟩ := List.mem_map.mp hy
    exact Nat.dvd_mul_right _ _
  have hll : ((List.range n).map (fun a => sh * (dn.getD (2 + a) 0 % z))).length ≤ 4 := by rw [List.length_map, List.length_range]; omega
  generalize (List.range n).map (fun a => sh * (dn.getD (2 + a) 0 % z)) = l at k1 hdl hll
  have c3 : cMod (x7 : Int) 3 = true := cMod_of (by omega)
  obtain ⟨l2, l2l, l2d, e3⟩ : ∃ l2 : List Nat, l2.length ≤ 4 ∧ (∀ y ∈ l2, sh ∣ y) ∧ ((sIf (fAnd (fCmp gEq (fV 1) (fC (.int 1))) (fCmp gEq (f2 (gI cMod Int.fmod) (fN gInt (fAc (f2 gIx (fV 0) (fC (.int 7))) fA0)) (fC (.int 3))) (fC (.int 0)))) (sSet 5 (fSl (fV 5) fNoP (fPart (fC (.int 1))))) sNil) : FnS) [.im (.lst (dl dn)), .im (nE w), .im (nE sh), .im (nE (sh * (1 + v))), .un, .im (lI (nI l))] = some (.nx [.im (.lst (dl dn)), .im (nE w), .im (nE sh), .im (nE (sh * (1 + v))), .un, .im (lI (nI l2))]) := by
    by_cases h1 : w = 1
    · have d : decide ((w : Int) = 1) = true := decide_eq_true (by omega)
      by_cases h2 : Int.fmod (x7 : Int) 3 = 0
      · have ct : cutL ((nI l).map Dt.int) none (some (1 : Int)) = (nI (l.take 1)).map Dt.int := by
          rw [show (1 : Int) = ((1 : Nat) : Int) from rfl, cut_take', ← List.map_take]
          unfold nI
          rw [← List.map_take]
        refine ⟨l.take 1, by rw [List.length_take]; omega, fun y hy => hdl y (List.mem_of_mem_take hy), ?_⟩
        simp only [sIf_a, fAnd_a, fCmp_a, f2_a, fN_a, fAc_a, fA0_a, fC_a, fV_a, getS_s, getS_z, Option.bind_some, gEq_i, d, if_true, gIx_l, a7, gInt_i, gI_i, c3, h2, decide_true, sSet_a, fSl_a, fNoP_a, fPart_a, gSl_l, ct, setS_s, setS_z]
      · refine ⟨l, hll, hdl, ?_⟩
        simp only [sIf_a, fAnd_a, fCmp_a, f2_a, fN_a, fAc_a, fA0_a, fC_a, fV_a, getS_s, getS_z, Option.bind_some, gEq_i, d, if_true, gIx_l, a7, gInt_i, gI_i, c3, decide_eq_false h2, Bool.false_eq_true, if_false, sNil_a]
    · have d : decide ((w : Int) = 1) = false := decide_eq_false (by omega)
      refine ⟨l, hll, hdl, ?_⟩
      simp only [sIf_a, fAnd_a, fCmp_a, fC_a, fV_a, getS_s, getS_z, Option.bind_some, gEq_i, d, Bool.false_eq_true, if_false, sNil_a]
  obtain ⟨S, q1, q2, q3, q4⟩ := setN l2
  refine ⟨sh * (1 + v), S, ?_, hm1, hm2, q2, by omega, fun h => ⟨sh, s3 h, Nat.dvd_mul_right _ _, fun s hs => l2d s (q3 s hs)⟩⟩
  have hset : gSSet [lI (nI l2)] = some ((nI S).map Dt.int) := by
    have := gSSet_l (nI l2) (by have := setI_length (nI l2); rw [nI_len] at this; omega) (by rw [nI_len]; omega)
    rw [q1] at this
    exact this
  unfold R_f_law_floor
  rw [runF_a]
  unfold F_f_law_floor
  show Option.bind (sSeq _ _ [.im (.lst (dl dn)), .im (nE w), .un, .un, .un, .un]) endOf = _
  rw [sSeq_nx e0, sSeq_nx (ρ' := [.im (.lst (dl dn)), .im (nE w), .im (nE sh), .im (nE (sh * (1 + v))), .un, .un]) (by
    simp only [sSet_a, f2_a, fN_a, fAc_a, fA0_a, fC_a, fV_a, getS_s, getS_z, Option.bind_some, gIx_l, a1, gInt_i, gI_i, cd24, fd24, cu, fu, if_true, gAdd_i, ev, gMul_i, mu, em, setS_s, setS_z]), sSeq_nx (ρ' := [.im (.lst (dl dn)), .im (nE w), .im (nE sh), .im (nE (sh * (1 + v))), .un, .im (lI (nI l))]) (by
    simp only [sSet_a, fLst_a, k1, Option.bind_some, setS_s, setS_z]), sSeq_nx e3]
  simp only [sRet_a, fTup_a, fN_a, fNL_a, fAc_a, fA0_a, fLst_a, fV_a, getS_s, getS_z, Option.bind_some, hset, gTuple_l, List.length_cons, List.length_nil, Nat.reduceAdd, Nat.reduceLeDiff, if_true, endOf_rt]
/-! the law -/
theorem neb (a b : Bool) : gNe (.bl a) (.bl b) = some (!(a == b)) := by cases a <;> cases b <;> rfl
theorem is_optR (o : Option (List Int)) (h : ∀ y, o = some y → y.length ≤ 1000) : R_f_law_is [optR o, optR o] = some (.bl true) := by
  cases o with
  | none => exact is_non'
  | some y => exact is_tI y (h y rfl)
theorem is_optN (o : Option Nat) : R_f_law_is [optN o, optN o] = some (.bl true) := by
  cases o with
  | none => exact is_non'
  | some d => exact is_int' (d : Int)
theorem head_N (l : List Nat) : (if decide ((0 : Int) < ((l.map nE).length : Int)) = true then L2.atI (l.map nE) 0 else some Dt.non) = some (optN l.head?) := by
  rw [head_lst nE l]
  cases l <;> rfl
theorem place_turn (ns : List Int) (w m : Nat) (hm : 1 ≤ m) (hm2 : m ≤ 24) (S : List Nat) (hS : S.Pairwise (· < ·)) (hSl : S.length ≤ 4) (p : Nat) (hp : p < m) : turn (hName 5) [true, true, true, true, true, false, false, false, false, false, false, false] (sSeq (sSet 7 (fLst (fComp (fNL gRng2 (fAc (fC (.int 1)) (fAc (f2 gAdd (fV 2) (fC (.int 1))) fA0))) (hName 6) (fTru (fFn 4 R_f_law_bar (fAc (fV 2) (fAc (fV 3) (fAc (fV 5) (fAc (fV 6) fA0)))))) (fV 6) [6])))
  (sSeq (sIf (fCmp gNe (fOfB (fDIn (fV 5) (fV 4))) (fOfB (fCmp gEq (fN gLen (fAc (fV 7) fA0)) (fC (.int 0))))) (sRet (fC (.bl false))) sNil)
  (sSeq (sIf (fNot (fTru (fFn 2 R_f_law_is (fAc (fFn 3 R_told_turns (fAc (fV 2) (fAc (fV 3) (fAc (fV 5) fA0)))) (fAc (fIf (fDIn (fV 5) (fV 4)) (f2 gDGet (fV 4) (fV 5)) (fC .non)) fA0))))) (sRet (fC (.bl false))) sNil)
  (sIf (fNot (fTru (fFn 2 R_f_law_is (fAc (fFn 3 R_turn_bar (fAc (fV 2) (fAc (fV 3) (fAc (fV 5) fA0)))) (fAc (fIf (fCmp (gII bGt) (fN gLen (fAc (fV 7) fA0)) (fC (.int 0))) (f2 gIx (fV 7) (fC (.int 0))) (fC .non)) fA0))))) (sRet (fC (.bl false))) sNil)))) (nE p) [.im (.scr ns), .im (nE w), .im (nE m), .im (tI (nI S)), .im (dA (lawA m S)), .un, .un, .un, .un, .un, .un, .un] = some (.nx [.im (.scr ns), .im (nE w), .im (nE m), .im (tI (nI S)), .im (dA (lawA m S)), .un, .un, .un, .un, .un, .un, .un]) := by
  have ok := lv_ok m S hm hS m
  have k1 : (fComp (fNL gRng2 (fAc (fC (.int 1)) (fAc (f2 gAdd (fV 2) (fC (.int 1))) fA0))) (hName 6) (fTru (fFn 4 R_f_law_bar (fAc (fV 2) (fAc (fV 3) (fAc (fV 5) (fAc (fV 6) fA0)))))) (fV 6) [6]) [.im (.scr ns), .im (nE w), .im (nE m), .im (tI (nI S)), .im (dA (lawA m S)), .im (nE p), .un, .un, .un, .un, .un, .un] = some ((bars m S p).map nE) := by
    have e1 : (m : Int) + 1 = ((m + 1 : Nat) : Int) := by omega
    refine fComp_of (ds := (List.range' 1 m).map nE) ?_ rfl (by rw [List.length_map, List.length_range']; omega) ?_
    · simp only [fNL_a, fAc_a, fA0_a, f2_a, fC_a, fV_a, getS_s, getS_z, Option.bind_some, gAdd_i, e1, rng2_of (i := 1) (j := ((m + 1 : Nat) : Int)) (by omega) (by omega) (by omega) (by omega)]
      exact congrArg some (rgN2 (a := 1) (b := m + 1))
    · refine comp_map nE (barP m S p) nE _ (fun d hd => ⟨[.im (.scr ns), .im (nE w), .im (nE m), .im (tI (nI S)), .im (dA (lawA m S)), .im (nE p), .im (nE d), .un, .un, .un, .un, .un], rfl, ?_, fun _ => rfl⟩)
      rw [List.mem_range'] at hd
      have r := lbar_ok m S (by omega) (p : Int) (d : Int)
      rw [barX_nat m S p d (by omega)] at r
      simp only [fTru_a, fFn_a, fAc_a, fA0_a, fV_a, getS_s, getS_z, Option.bind_some, List.length_cons, List.length_nil, Nat.reduceAdd, if_true, r, tru_b]
  have hk := look_A (lawA m S) (p : Int)
  have hll := law_look m hm S hS (p : Int)
  have hbn : decide ((p : Int) ∈ keysA (lawA m S)) = decide (((bars m S p).length : Int) = 0) := by
    rw [decide_eq_decide]
    have h1 := (keys_perm (Bt_perm m hm S hS m)).mem_iff (a := (p : Int))
    have h2 := R_iff m S hm hS p hp
    have h3 := bars_nil m S hm p
    have h4 : ((p : Int) ∈ keysA (lawA m S)) ↔ bars m S p = [] := h1.trans (h2.trans h3.symm)
    rw [h4]
    constructor
    · intro h; rw [h]; rfl
    · intro h; exact List.length_eq_zero_iff.mp (by omega)
  have hin : fDIn (fV 5) (fV 4) [.im (.scr ns), .im (nE w), .im (nE m), .im (tI (nI S)), .im (dA (lawA m S)), .im (nE p), .un, .im (.lst ((bars m S p).map nE)), .un, .un, .un, .un] = some (decide ((p : Int) ∈ keysA (lawA m S))) := by
    unfold fDIn
    simp only [fV_a, getS_s, getS_z, Option.bind_some, hk, Option.isSome_map, look_some]
  have hget : (fIf (fDIn (fV 5) (fV 4)) (f2 gDGet (fV 4) (fV 5)) (fC .non)) [.im (.scr ns), .im (nE w), .im (nE m), .im (tI (nI S)), .im (dA (lawA m S)), .im (nE p), .un, .im (.lst ((bars m S p).map nE)), .un, .un, .un, .un] = some (optR (lookA (allA m S) (p : Int))) := by
    rw [fIf_a, hin, Option.bind_some, ← hll]
    have hs := look_some (lawA m S) (p : Int)
    cases hl : lookA (lawA m S) (p : Int) with
    | none =>
      rw [hl] at hs
      have hs : false = decide ((p : Int) ∈ keysA (lawA m S)) := hs
      rw [← hs]
      rfl
    | some y =>
      rw [hl] at hs hk
      have hs : true = decide ((p : Int) ∈ keysA (lawA m S)) := hs
      rw [← hs, if_pos rfl]
      simp only [f2_a, fV_a, getS_s, getS_z, Option.bind_some]
      unfold gDGet
      rw [hk]
      rfl
  have hopt : ∀ y, lookA (allA m S) (p : Int) = some y → y.length ≤ 1000 := fun y hy => by
    unfold lookA at hy
    cases hf : (allA m S).find? fun e => decide (e.1 = (p : Int)) with
    | none => rw [hf] at hy; cases hy
    | some e =>
      rw [hf] at hy
      cases hy
      have := ok.le e (List.mem_of_find?_eq_some hf)
      show e.2.length ≤ 1000
      omega
  have r1 := told_ok m hm (by omega) S hS (by omega) (p : Int)
  have r2 := turnbar_ok m hm (by omega) S p
  have i1 := is_optR _ hopt
  have i2 := is_optN (bars m S p).head?
  have hhd := head_N (bars m S p)
  have hlen : ((bars m S p).map nE).length = (bars m S p).length := List.length_map ..
  rw [hlen] at hhd
  rw [turn_nx (hName_a 5 _ _) (ρ2 := [.im (.scr ns), .im (nE w), .im (nE m), .im (tI (nI S)), .im (dA (lawA m S)), .im (nE p), .un, .im (.lst ((bars m S p).map nE)), .un, .un, .un, .un])]
  · rfl
  · simp only [setS_s, setS_z]
    rw [sSeq_nx (ρ' := [.im (.scr ns), .im (nE w), .im (nE m), .im (tI (nI S)), .im (dA (lawA m S)), .im (nE p), .un, .im (.lst ((bars m S p).map nE)), .un, .un, .un, .un]) (by
      simp only [sSet_a, fLst_a, k1, Option.bind_some, setS_s, setS_z]), sSeq_nx (ρ' := [.im (.scr ns), .im (nE w), .im (nE m), .im (tI (nI S)), .im (dA (lawA m S)), .im (nE p), .un, .im (.lst ((bars m S p).map nE)), .un, .un, .un, .un]) (by
      rw [sIf_a, fCmp_a, fOfB_a, hin]
      simp only [fOfB_a, fCmp_a, fN_a, fAc_a, fA0_a, fC_a, fV_a, getS_s, getS_z, Option.bind_some, gLen_l, List.length_map, gEq_i, hbn, neb, beq_self_eq_true, Bool.not_true, Bool.false_eq_true, if_false, sNil_a]), sSeq_nx (ρ' := [.im (.scr ns), .im (nE w), .im (nE m), .im (tI (nI S)), .im (dA (lawA m S)), .im (nE p), .un, .im (.lst ((bars m S p).map nE)), .un, .un, .un, .un]) (by
      simp only [sIf_a, fNot_a, fTru_a, fFn_a, fAc_a, fA0_a, hget, fV_a, getS_s, getS_z, Option.bind_some, List.length_cons, List.length_nil, Nat.reduceAdd, if_true, r1, i1, tru_b, Bool.not_true, Bool.false_eq_true, if_false, sNil_a])]
    simp only [sIf_a, fNot_a, fTru_a, fFn_a, fAc_a, fA0_a, fIf_a, fCmp_a, fN_a, f2_a, fC_a, fV_a, getS_s, getS_z, Option.bind_some, gLen_l, List.length_map, gII_i, bGt_a, gIx_l, hhd, List.length_cons, List.length_nil, Nat.reduceAdd, if_true, r2, i2, tru_b, Bool.not_true, Bool.false_eq_true, if_false, sNil_a]
theorem bar_same (m : Nat) (S : List Nat) (hSl : S.length ≤ 4) (p d : Int) (A1 : Fn) (ρ : Rho) (e0 : fV 2 ρ = some (nE m)) (e1 : fV 3 ρ = some (tI (nI S))) (e2 : A1 ρ = some (.int p)) (e3 : fV 6 ρ = some (.int d)) :
    sIf (fNot (fTru (fFn 2 R_f_law_is (fAc (fFn 4 R_is_turn_bar (fAc (fV 2) (fAc (fV 3) (fAc A1 (fAc (fV 6) fA0))))) (fAc (fFn 4 R_f_law_bar (fAc (fV 2) (fAc (fV 3) (fAc A1 (fAc (fV 6) fA0))))) fA0))))) (sRet (fC (.bl false))) sNil ρ = some (.nx ρ) := by
  have r1 := pbar_ok m S p d
  have r2 := lbar_ok m S (by omega) p d
  have i1 := is_bl' (barX m S p d)
  simp only [sIf_a, fNot_a, fTru_a, fFn_a, fAc_a, fA0_a, e0, e1, e2, e3, Option.bind_some, List.length_cons, List.length_nil, Nat.reduceAdd, if_true, r1, r2, i1, tru_b, Bool.not_true, Bool.false_eq_true, if_false, sNil_a]
theorem seven_turn (ns : List Int) (m : Nat) (hm : 1 ≤ m) (hm2 : m ≤ 24) (S : List Nat) (hSl : S.length ≤ 4) (dn : List Nat) (hd : dn.length = 16) (t : Nat) (ht : t < 7) : turn (hName 11) [true, false, true, true, false, false, false, false, true, false, false, false] (sSeq (sSet 6 (f2 gIx (fTup (fAc (fC (.int 0)) (fAc (f2 gMinus (fC (.int 0)) (fC (.int 1))) (fAc (fV 2) (fAc (f2 gMul (f2 (gI cPow fun i j => i ^ j.toNat) (fC (.int 10)) (fC (.int 20))) (fV 2)) (fAc (fC (.int 2)) (fAc (fC (.int 3)) (fAc (f2 gAdd (fC (.int 1)) (f2 (gI cMod Int.fmod) (fN gInt (fAc (f2 gIx (fV 8) (f2 gAdd (fC (.int 9)) (fV 11))) fA0)) (fC (.int 24)))) fA0)))))))) (fV 11)))
  (sSeq (sSet 5 (f2 (gI cMod Int.fmod) (f2 (gI cDiv Int.fdiv) (fN gInt (fAc (f2 gIx (fV 8) (f2 gAdd (fC (.int 9)) (fV 11))) fA0)) (fC (.int 24))) (fV 2)))
  (sIf (fNot (fTru (fFn 2 R_f_law_is (fAc (fFn 4 R_is_turn_bar (fAc (fV 2) (fAc (fV 3) (fAc (fV 5) (fAc (fV 6) fA0))))) (fAc (fFn 4 R_f_law_bar (fAc (fV 2) (fAc (fV 3) (fAc (fV 5) (fAc (fV 6) fA0))))) fA0))))) (sRet (fC (.bl false))) sNil))) (nE t) [.im (.scr ns), .un, .im (nE m), .im (tI (nI S)), .un, .un, .un, .un, .im (.lst (dl dn)), .un, .un, .un] = some (.nx [.im (.scr ns), .un, .im (nE m), .im (tI (nI S)), .un, .un, .un, .un, .im (.lst (dl dn)), .un, .un, .un]) := by
  have e : L2.atI (dl dn) (9 + (t : Int)) = some (.int (dn.getD (9 + t) 0 : Nat)) := by
    have := dl_at (dn := dn) (9 + (t : Int)) (by omega) (by omega)
    rw [show (9 + (t : Int)).toNat = 9 + t by omega] at this
    exact this
  generalize dn.getD (9 + t) 0 = y at e
  have c24 : cMod (y : Int) 24 = true := cMod_of (by omega)
  have d24 : cDiv (y : Int) 24 = true := cDiv_of (by omega) (by omega) (by omega)
  have cm : cMod (Int.fdiv (y : Int) 24) (m : Int) = true := cMod_of (by omega)
  have hp : cPow 10 20 = true := by decide
  have mu : cMul ((10 : Int) ^ (20 : Int).toNat) (m : Int) = true := cMul_r (by omega) (by omega)
  obtain ⟨d, hdd⟩ : ∃ d : Int, L2.atI ([0, 0 - 1, (m : Int), (10 : Int) ^ (20 : Int).toNat * (m : Int), 2, 3, 1 + Int.fmod (y : Int) 24].map Dt.int) (t : Int) = some (.int d) := ⟨_, ro_at (by simpa using ht)⟩
  have hdd' : gIx (.tup [.int 0, .int (0 - 1), nE m, .int ((10 : Int) ^ (20 : Int).toNat * (m : Int)), .int 2, .int 3, .int (1 + Int.fmod (y : Int) 24)]) (nE t) = some (.int d) := hdd
  rw [turn_nx (hName_a 11 _ _) (ρ2 := [.im (.scr ns), .un, .im (nE m), .im (tI (nI S)), .un, .im (.int (Int.fmod (Int.fdiv (y : Int) 24) (m : Int))), .im (.int d), .un, .im (.lst (dl dn)), .un, .un, .im (nE t)])]
  · rfl
  · simp only [setS_s, setS_z]
    rw [sSeq_nx (ρ' := [.im (.scr ns), .un, .im (nE m), .im (tI (nI S)), .un, .un, .im (.int d), .un, .im (.lst (dl dn)), .un, .un, .im (nE t)]) (by
      simp only [sSet_a, f2_a, fTup_a, fN_a, fAc_a, fA0_a, fC_a, fV_a, getS_s, getS_z, Option.bind_some, gMinus_i, gI_i, hp, if_true, gMul_i, mu, gAdd_i, gIx_l, e, gInt_i, c24, List.length_cons, List.length_nil, Nat.reduceAdd, Nat.reduceLeDiff, hdd', setS_s, setS_z]), sSeq_nx (ρ' := [.im (.scr ns), .un, .im (nE m), .im (tI (nI S)), .un, .im (.int (Int.fmod (Int.fdiv (y : Int) 24) (m : Int))), .im (.int d), .un, .im (.lst (dl dn)), .un, .un, .im (nE t)]) (by
      simp only [sSet_a, f2_a, fN_a, fAc_a, fA0_a, fC_a, fV_a, getS_s, getS_z, Option.bind_some, gAdd_i, gIx_l, e, gInt_i, gI_i, d24, cm, if_true, setS_s, setS_z])]
    exact bar_same m S hSl _ d (fV 5) _ rfl rfl rfl rfl
theorem last_turn (ns : List Int) (m : Nat) (hm : 1 ≤ m) (S : List Nat) (hSl : S.length ≤ 4) (d : Nat) : turn (hName 6) [true, false, true, true, false, false, false, false, false, false, false, false] (sIf (fNot (fTru (fFn 2 R_f_law_is (fAc (fFn 4 R_is_turn_bar (fAc (fV 2) (fAc (fV 3) (fAc (f2 gMinus (fV 2) (fC (.int 1))) (fAc (fV 6) fA0))))) (fAc (fFn 4 R_f_law_bar (fAc (fV 2) (fAc (fV 3) (fAc (f2 gMinus (fV 2) (fC (.int 1))) (fAc (fV 6) fA0))))) fA0))))) (sRet (fC (.bl false))) sNil) (nE d) [.im (.scr ns), .un, .im (nE m), .im (tI (nI S)), .un, .un, .un, .un, .un, .un, .un, .un] = some (.nx [.im (.scr ns), .un, .im (nE m), .im (tI (nI S)), .un, .un, .un, .un, .un, .un, .un, .un]) := by
  rw [turn_nx (hName_a 6 _ _) (ρ2 := [.im (.scr ns), .un, .im (nE m), .im (tI (nI S)), .un, .un, .im (nE d), .un, .un, .un, .un, .un])]
  · rfl
  · simp only [setS_s, setS_z]
    exact bar_same m S hSl ((m : Int) - 1) (d : Int) (f2 gMinus (fV 2) (fC (.int 1))) _ rfl rfl rfl rfl
theorem law_turn (ns : List Int) (w : Nat) (hw : w < 2) : turn (hName 1) [true, false, false, false, false, false, false, false, false, false, false, false] (sSeq (sAsg (fFn 2 R_f_law_floor (fAc (fFn 2 R_f_law_draws (fAc (fFn 2 R_f_law_cell (fAc (fV 0) (fAc (fV 1) fA0))) (fAc (fC (.int 8)) fA0))) (fAc (fV 1) fA0))) (hTup 2 (hCons (hName 2) (hCons (hName 3) hNil))))
  (sSeq (sSet 4 (fFn 2 R_f_law_reached (fAc (fV 2) (fAc (fV 3) fA0))))
  (sSeq (sIf (fAnd (fCmp gEq (fV 1) (fC (.int 1))) (fCmp gEq (fN gLenK (fAc (fV 4) fA0)) (fV 2))) (sRet (fC (.bl false))) sNil)
  (sSeq (sFor (fNL gRng1 (fAc (fV 2) fA0)) (hName 5) [true, true, true, true, true, false, false, false, false, false, false, false]
   (sSeq (sSet 7 (fLst (fComp (fNL gRng2 (fAc (fC (.int 1)) (fAc (f2 gAdd (fV 2) (fC (.int 1))) fA0))) (hName 6) (fTru (fFn 4 R_f_law_bar (fAc (fV 2) (fAc (fV 3) (fAc (fV 5) (fAc (fV 6) fA0)))))) (fV 6) [6])))
  (sSeq (sIf (fCmp gNe (fOfB (fDIn (fV 5) (fV 4))) (fOfB (fCmp gEq (fN gLen (fAc (fV 7) fA0)) (fC (.int 0))))) (sRet (fC (.bl false))) sNil)
  (sSeq (sIf (fNot (fTru (fFn 2 R_f_law_is (fAc (fFn 3 R_told_turns (fAc (fV 2) (fAc (fV 3) (fAc (fV 5) fA0)))) (fAc (fIf (fDIn (fV 5) (fV 4)) (f2 gDGet (fV 4) (fV 5)) (fC .non)) fA0))))) (sRet (fC (.bl false))) sNil)
  (sIf (fNot (fTru (fFn 2 R_f_law_is (fAc (fFn 3 R_turn_bar (fAc (fV 2) (fAc (fV 3) (fAc (fV 5) fA0)))) (fAc (fIf (fCmp (gII bGt) (fN gLen (fAc (fV 7) fA0)) (fC (.int 0))) (f2 gIx (fV 7) (fC (.int 0))) (fC .non)) fA0))))) (sRet (fC (.bl false))) sNil)))))
  (sSeq (sSet 8 (fFn 2 R_f_law_draws (fAc (fFn 2 R_f_law_cell (fAc (fV 0) (fAc (f2 gAdd (fC (.int 2)) (fV 1)) fA0))) (fAc (fC (.int 16)) fA0))))
  (sSeq (sSet 10 (fN gTuple (fAc (fLst (fComp (fNL gRng1 (fAc (f2 (gI cMod Int.fmod) (fN gInt (fAc (f2 gIx (fV 8) (fC (.int 8))) fA0)) (fC (.int 8))) fA0)) (hName 9) fYes (f2 (gI cMod Int.fmod) (fN gInt (fAc (f2 gIx (fV 8) (fV 9)) fA0)) (fC (.int 60))) [9])) fA0)))
  (sSeq (sIf (fNot (fTru (fFn 2 R_f_law_is (fAc (fFn 2 R_place_behind (fAc (fV 2) (fAc (fV 10) fA0))) (fAc (f2 (gI cMod Int.fmod) (fN gSumA (fAc (fV 10) fA0)) (fV 2)) fA0))))) (sRet (fC (.bl false))) sNil)
  (sSeq (sFor (fNL gRng1 (fAc (fC (.int 7)) fA0)) (hName 11) [true, false, true, true, false, false, false, false, true, false, false, false]
   (sSeq (sSet 6 (f2 gIx (fTup (fAc (fC (.int 0)) (fAc (f2 gMinus (fC (.int 0)) (fC (.int 1))) (fAc (fV 2) (fAc (f2 gMul (f2 (gI cPow fun i j => i ^ j.toNat) (fC (.int 10)) (fC (.int 20))) (fV 2)) (fAc (fC (.int 2)) (fAc (fC (.int 3)) (fAc (f2 gAdd (fC (.int 1)) (f2 (gI cMod Int.fmod) (fN gInt (fAc (f2 gIx (fV 8) (f2 gAdd (fC (.int 9)) (fV 11))) fA0)) (fC (.int 24)))) fA0)))))))) (fV 11)))
  (sSeq (sSet 5 (f2 (gI cMod Int.fmod) (f2 (gI cDiv Int.fdiv) (fN gInt (fAc (f2 gIx (fV 8) (f2 gAdd (fC (.int 9)) (fV 11))) fA0)) (fC (.int 24))) (fV 2)))
  (sIf (fNot (fTru (fFn 2 R_f_law_is (fAc (fFn 4 R_is_turn_bar (fAc (fV 2) (fAc (fV 3) (fAc (fV 5) (fAc (fV 6) fA0))))) (fAc (fFn 4 R_f_law_bar (fAc (fV 2) (fAc (fV 3) (fAc (fV 5) (fAc (fV 6) fA0))))) fA0))))) (sRet (fC (.bl false))) sNil))))
  (sFor (fNL gRng2 (fAc (fC (.int 1)) (fAc (f2 gAdd (fV 2) (fC (.int 1))) fA0))) (hName 6) [true, false, true, true, false, false, false, false, false, false, false, false]
   (sIf (fNot (fTru (fFn 2 R_f_law_is (fAc (fFn 4 R_is_turn_bar (fAc (fV 2) (fAc (fV 3) (fAc (f2 gMinus (fV 2) (fC (.int 1))) (fAc (fV 6) fA0))))) (fAc (fFn 4 R_f_law_bar (fAc (fV 2) (fAc (fV 3) (fAc (f2 gMinus (fV 2) (fC (.int 1))) (fAc (fV 6) fA0))))) fA0))))) (sRet (fC (.bl false))) sNil)))))))))) (nE w) [.im (.scr ns), .un, .un, .un, .un, .un, .un, .un, .un, .un, .un, .un] = some (.nx [.im (.scr ns), .un, .un, .un, .un, .un, .un, .un, .un, .un, .un, .un]) := by
  obtain ⟨c1, dn, e1, e2, e3⟩ := draws_dl ns (w : Int) 8 (by omega) (by omega) (by omega) (by omega)
  obtain ⟨m, S, r1, hm, hm2, hS, hSl, hq⟩ := floor_ok dn e3 w hw
  have r2 := reached_ok m hm (by omega) S hS (by omega)
  have hlen : gLenK [dA (lawA m S)] = some (nE (lawA m S).length) := by
    show some (Dt.int ((ksA (lawA m S)).length : Int)) = _
    unfold ksA
    rw [List.length_map]
  have s3 : ((sIf (fAnd (fCmp gEq (fV 1) (fC (.int 1))) (fCmp gEq (fN gLenK (fAc (fV 4) fA0)) (fV 2))) (sRet (fC (.bl false))) sNil) : FnS) [.im (.scr ns), .im (nE w), .im (nE m), .im (tI (nI S)), .im (dA (lawA m S)), .un, .un, .un, .un, .un, .un, .un] = some (.nx [.im (.scr ns), .im (nE w), .im (nE m), .im (tI (nI S)), .im (dA (lawA m S)), .un, .un, .un, .un, .un, .un, .un]) := by
    by_cases h1 : w = 1
    · have d : decide ((w : Int) = 1) = true := decide_eq_true (by omega)
      obtain ⟨q, q1, q2, q3⟩ := hq h1
      have hm3 : 2 ≤ m := Nat.le_trans q1 (Nat.le_of_dvd (by omega) q2)
      have hne := few_all m S hm3 hS q q1 q2 q3
      rw [← law_len m hm S hS] at hne
      have d2 : decide (((lawA m S).length : Int) = (m : Int)) = false := decide_eq_false (by omega)
      simp only [sIf_a, fAnd_a, fCmp_a, fN_a, fAc_a, fA0_a, fC_a, fV_a, getS_s, getS_z, Option.bind_some, gEq_i, d, if_true, hlen, d2, Bool.false_eq_true, if_false, sNil_a]
    · have d : decide ((w : Int) = 1) = false := decide_eq_false (by omega)
      simp only [sIf_a, fAnd_a, fCmp_a, fC_a, fV_a, getS_s, getS_z, Option.bind_some, gEq_i, d, Bool.false_eq_true, if_false, sNil_a]
  have loop1 := for_fold (gf := (hName 5)) (mk := [true, true, true, true, true, false, false, false, false, false, false, false]) (F := (sSeq (sSet 7 (fLst (fComp (fNL gRng2 (fAc (fC (.int 1)) (fAc (f2 gAdd (fV 2) (fC (.int 1))) fA0))) (hName 6) (fTru (fFn 4 R_f_law_bar (fAc (fV 2) (fAc (fV 3) (fAc (fV 5) (fAc (fV 6) fA0)))))) (fV 6) [6])))
  (sSeq (sIf (fCmp gNe (fOfB (fDIn (fV 5) (fV 4))) (fOfB (fCmp gEq (fN gLen (fAc (fV 7) fA0)) (fC (.int 0))))) (sRet (fC (.bl false))) sNil)
  (sSeq (sIf (fNot (fTru (fFn 2 R_f_law_is (fAc (fFn 3 R_told_turns (fAc (fV 2) (fAc (fV 3) (fAc (fV 5) fA0)))) (fAc (fIf (fDIn (fV 5) (fV 4)) (f2 gDGet (fV 4) (fV 5)) (fC .non)) fA0))))) (sRet (fC (.bl false))) sNil)
  (sIf (fNot (fTru (fFn 2 R_f_law_is (fAc (fFn 3 R_turn_bar (fAc (fV 2) (fAc (fV 3) (fAc (fV 5) fA0)))) (fAc (fIf (fCmp (gII bGt) (fN gLen (fAc (fV 7) fA0)) (fC (.int 0))) (f2 gIx (fV 7) (fC (.int 0))) (fC .non)) fA0))))) (sRet (fC (.bl false))) sNil))))) (S := fun _ : Unit => [.im (.scr ns), .im (nE w), .im (nE m), .im (tI (nI S)), .im (dA (lawA m S)), .un, .un, .un, .un, .un, .un, .un]) nE (fun s _ => s) (fun _ r => ∀ p ∈ r, p < m) (List.range m) () (fun p hp => List.mem_range.mp hp) (fun _ p r h => ⟨place_turn ns w m hm hm2 S hS hSl p (h p List.mem_cons_self), fun x hx => h x (List.mem_cons_of_mem _ hx)⟩)
  have ew : (2 : Int) + (w : Int) = ((2 + w : Nat) : Int) := by omega
  obtain ⟨c2, d2, e4, e5, e6⟩ := draws_dl ns ((2 + w : Nat) : Int) 16 (by omega) (by omega) (by omega) (by omega)
  have hd2 : d2.length = 16 := e6
  have a8 : L2.atI (dl d2) 8 = some (.int (d2.getD 8 0 : Nat)) := dl_at 8 (by omega) (by omega)
  have c8 : cMod ((d2.getD 8 0 : Nat) : Int) 8 = true := cMod_of (by omega)
  have f8 : Int.fmod ((d2.getD 8 0 : Nat) : Int) 8 = ((d2.getD 8 0 % 8 : Nat) : Int) := nm _ _
  have h8 : d2.getD 8 0 % 8 < 8 := Nat.mod_lt _ (by omega)
  generalize d2.getD 8 0 % 8 = n at f8 h8
  have k1 : (fComp (fNL gRng1 (fAc (f2 (gI cMod Int.fmod) (fN gInt (fAc (f2 gIx (fV 8) (fC (.int 8))) fA0)) (fC (.int 8))) fA0)) (hName 9) fYes (f2 (gI cMod Int.fmod) (fN gInt (fAc (f2 gIx (fV 8) (fV 9)) fA0)) (fC (.int 60))) [9]) [.im (.scr ns), .im (nE w), .im (nE m), .im (tI (nI S)), .im (dA (lawA m S)), .un, .un, .un, .im (.lst (dl d2)), .un, .un, .un] = some (((List.range n).map fun a => ((d2.getD a 0 % 60 : Nat) : Int)).map Dt.int) := by
    refine fComp_of (ds := (List.range n).map nE) ?_ rfl (by rw [List.length_map, List.length_range]; omega) ?_
    · simp only [fNL_a, fAc_a, fA0_a, f2_a, fN_a, fC_a, fV_a, getS_s, getS_z, Option.bind_some, gIx_l, a8, gInt_i, gI_i, c8, if_true, f8, rngN (show n ≤ 1000000000 by omega)]
    · rw [List.map_map]
      refine comp_all nE _ _ (fun a ha => ⟨[.im (.scr ns), .im (nE w), .im (nE m), .im (tI (nI S)), .im (dA (lawA m S)), .un, .un, .un, .im (.lst (dl d2)), .im (nE a), .un, .un], rfl, rfl, ?_⟩)
      rw [List.mem_range] at ha
      have e : L2.atI (dl d2) (a : Int) = some (.int (d2.getD a 0 : Nat)) := by
        have := dl_at (dn := d2) (a : Int) (by omega) (by omega)
        rw [Int.toNat_natCast] at this
        exact this
      show _ = some (Dt.int ((d2.getD a 0 % 60 : Nat) : Int))
      generalize d2.getD a 0 = y at e
      have c : cMod (y : Int) 60 = true := cMod_of (by omega)
      have f : Int.fmod (y : Int) 60 = ((y % 60 : Nat) : Int) := nm _ _
      simp only [f2_a, fN_a, fAc_a, fA0_a, fC_a, fV_a, getS_s, getS_z, Option.bind_some, gIx_l, e, gInt_i, gI_i, c, if_true, f]
  generalize (List.range n).map (fun a => ((d2.getD a 0 % 60 : Nat) : Int)) = ts at k1
  have r3 := behind_ok m hm ts
  have i3 := is_int' (Int.fmod ts.sum (m : Int))
  have cs : cMod ts.sum (m : Int) = true := cMod_of (by omega)
  have hsum : gSumA [tI ts] = some (.int ts.sum) := gSumA_t ts
  have loop2 := for_fold (gf := (hName 11)) (mk := [true, false, true, true, false, false, false, false, true, false, false, false]) (F := (sSeq (sSet 6 (f2 gIx (fTup (fAc (fC (.int 0)) (fAc (f2 gMinus (fC (.int 0)) (fC (.int 1))) (fAc (fV 2) (fAc (f2 gMul (f2 (gI cPow fun i j => i ^ j.toNat) (fC (.int 10)) (fC (.int 20))) (fV 2)) (fAc (fC (.int 2)) (fAc (fC (.int 3)) (fAc (f2 gAdd (fC (.int 1)) (f2 (gI cMod Int.fmod) (fN gInt (fAc (f2 gIx (fV 8) (f2 gAdd (fC (.int 9)) (fV 11))) fA0)) (fC (.int 24)))) fA0)))))))) (fV 11)))
  (sSeq (sSet 5 (f2 (gI cMod Int.fmod) (f2 (gI cDiv Int.fdiv) (fN gInt (fAc (f2 gIx (fV 8) (f2 gAdd (fC (.int 9)) (fV 11))) fA0)) (fC (.int 24))) (fV 2)))
  (sIf (fNot (fTru (fFn 2 R_f_law_is (fAc (fFn 4 R_is_turn_bar (fAc (fV 2) (fAc (fV 3) (fAc (fV 5) (fAc (fV 6) fA0))))) (fAc (fFn 4 R_f_law_bar (fAc (fV 2) (fAc (fV 3) (fAc (fV 5) (fAc (fV 6) fA0))))) fA0))))) (sRet (fC (.bl false))) sNil)))) (S := fun _ : Unit => [.im (.scr ns), .un, .im (nE m), .im (tI (nI S)), .un, .un, .un, .un, .im (.lst (dl d2)), .un, .un, .un]) nE (fun s _ => s) (fun _ r => ∀ t ∈ r, t < 7) (List.range 7) () (fun t ht => List.mem_range.mp ht) (fun _ t r h => ⟨seven_turn ns m hm hm2 S hSl d2 hd2 t (h t List.mem_cons_self), fun x hx => h x (List.mem_cons_of_mem _ hx)⟩)
  have loop3 := for_fold (gf := (hName 6)) (mk := [true, false, true, true, false, false, false, false, false, false, false, false]) (F := (sIf (fNot (fTru (fFn 2 R_f_law_is (fAc (fFn 4 R_is_turn_bar (fAc (fV 2) (fAc (fV 3) (fAc (f2 gMinus (fV 2) (fC (.int 1))) (fAc (fV 6) fA0))))) (fAc (fFn 4 R_f_law_bar (fAc (fV 2) (fAc (fV 3) (fAc (f2 gMinus (fV 2) (fC (.int 1))) (fAc (fV 6) fA0))))) fA0))))) (sRet (fC (.bl false))) sNil)) (S := fun _ : Unit => [.im (.scr ns), .un, .im (nE m), .im (tI (nI S)), .un, .un, .un, .un, .un, .un, .un, .un]) nE (fun s _ => s) (fun _ _ => True) (List.range' 1 m) () trivial (fun _ d r _ => ⟨last_turn ns m hm S hSl d, trivial⟩)
  have em : (m : Int) + 1 = ((m + 1 : Nat) : Int) := by omega
  have hrg : (rgI 1 ((m + 1 : Nat) : Int)).map Dt.int = (List.range' 1 m).map nE := rgN2 (a := 1) (b := m + 1)
  rw [turn_nx (hName_a 1 _ _) (ρ2 := [.im (.scr ns), .un, .im (nE m), .im (tI (nI S)), .un, .un, .un, .un, .un, .un, .un, .un])]
  · rfl
  · simp only [setS_s, setS_z]
    rw [sSeq_nx (ρ' := [.im (.scr ns), .im (nE w), .im (nE m), .im (tI (nI S)), .un, .un, .un, .un, .un, .un, .un, .un]) (by
      simp only [sAsg_a, fFn_a, fAc_a, fA0_a, fC_a, fV_a, getS_s, getS_z, Option.bind_some, List.length_cons, List.length_nil, Nat.reduceAdd, if_true, e1, e2, r1]
      rfl), sSeq_nx (ρ' := [.im (.scr ns), .im (nE w), .im (nE m), .im (tI (nI S)), .im (dA (lawA m S)), .un, .un, .un, .un, .un, .un, .un]) (by
      simp only [sSet_a, fFn_a, fAc_a, fA0_a, fV_a, getS_s, getS_z, Option.bind_some, List.length_cons, List.length_nil, Nat.reduceAdd, if_true, r2, setS_s, setS_z]), sSeq_nx s3, sSeq_nx (ρ' := [.im (.scr ns), .im (nE w), .im (nE m), .im (tI (nI S)), .im (dA (lawA m S)), .un, .un, .un, .un, .un, .un, .un]) (by
      rw [sFor_a]
      simp only [fNL_a, fAc_a, fA0_a, fV_a, getS_s, getS_z, Option.bind_some, rngN (show m ≤ 1000000000 by omega), clr_t, clr_f, clr_n]
      exact loop1), sSeq_nx (ρ' := [.im (.scr ns), .im (nE w), .im (nE m), .im (tI (nI S)), .im (dA (lawA m S)), .un, .un, .un, .im (.lst (dl d2)), .un, .un, .un]) (by
      simp only [sSet_a, fFn_a, fAc_a, fA0_a, f2_a, fC_a, fV_a, getS_s, getS_z, Option.bind_some, gAdd_i, ew, List.length_cons, List.length_nil, Nat.reduceAdd, if_true, e4, e5, setS_s, setS_z]), sSeq_nx (ρ' := [.im (.scr ns), .im (nE w), .im (nE m), .im (tI (nI S)), .im (dA (lawA m S)), .un, .un, .un, .im (.lst (dl d2)), .un, .im (tI ts), .un]) (by
      simp only [sSet_a, fN_a, fAc_a, fA0_a, fLst_a, k1, Option.bind_some, gTuple_l, setS_s, setS_z]), sSeq_nx (ρ' := [.im (.scr ns), .im (nE w), .im (nE m), .im (tI (nI S)), .im (dA (lawA m S)), .un, .un, .un, .im (.lst (dl d2)), .un, .im (tI ts), .un]) (by
      simp only [sIf_a, fNot_a, fTru_a, fFn_a, fAc_a, fA0_a, f2_a, fN_a, fV_a, getS_s, getS_z, Option.bind_some, hsum, gI_i, cs, List.length_cons, List.length_nil, Nat.reduceAdd, if_true, r3, i3, tru_b, Bool.not_true, Bool.false_eq_true, if_false, sNil_a]), sSeq_nx (ρ' := [.im (.scr ns), .un, .im (nE m), .im (tI (nI S)), .un, .un, .un, .un, .im (.lst (dl d2)), .un, .un, .un]) (by
      rw [sFor_a]
      simp only [fNL_a, fAc_a, fC_a, Option.bind_some, fA0_a, show gRng1 [.int 7] = some ((List.range 7).map nE) from rngN (n := 7) (by omega), clr_t, clr_f, clr_n]
      exact loop2)]
    rw [sFor_a]
    simp only [fNL_a, fAc_a, fA0_a, f2_a, fC_a, fV_a, getS_s, getS_z, Option.bind_some, gAdd_i, em, rng2_of (i := 1) (j := ((m + 1 : Nat) : Int)) (by omega) (by omega) (by omega) (by omega), hrg, clr_t, clr_f, clr_n]
    exact loop3
theorem law_true (ns : List Int) (hl : ns.length ≤ 63) : R_law [.scr ns] = some (.bl true) := by
  unfold R_law
  rw [runF_a]
  unfold F_law
  show Option.bind (sSeq _ _ [.im (.scr ns), .un, .un, .un, .un, .un, .un, .un, .un, .un, .un, .un]) endOf = _
  have loop := for_fold (gf := (hName 1)) (mk := [true, false, false, false, false, false, false, false, false, false, false, false]) (F := (sSeq (sAsg (fFn 2 R_f_law_floor (fAc (fFn 2 R_f_law_draws (fAc (fFn 2 R_f_law_cell (fAc (fV 0) (fAc (fV 1) fA0))) (fAc (fC (.int 8)) fA0))) (fAc (fV 1) fA0))) (hTup 2 (hCons (hName 2) (hCons (hName 3) hNil))))
  (sSeq (sSet 4 (fFn 2 R_f_law_reached (fAc (fV 2) (fAc (fV 3) fA0))))
  (sSeq (sIf (fAnd (fCmp gEq (fV 1) (fC (.int 1))) (fCmp gEq (fN gLenK (fAc (fV 4) fA0)) (fV 2))) (sRet (fC (.bl false))) sNil)
  (sSeq (sFor (fNL gRng1 (fAc (fV 2) fA0)) (hName 5) [true, true, true, true, true, false, false, false, false, false, false, false]
   (sSeq (sSet 7 (fLst (fComp (fNL gRng2 (fAc (fC (.int 1)) (fAc (f2 gAdd (fV 2) (fC (.int 1))) fA0))) (hName 6) (fTru (fFn 4 R_f_law_bar (fAc (fV 2) (fAc (fV 3) (fAc (fV 5) (fAc (fV 6) fA0)))))) (fV 6) [6])))
  (sSeq (sIf (fCmp gNe (fOfB (fDIn (fV 5) (fV 4))) (fOfB (fCmp gEq (fN gLen (fAc (fV 7) fA0)) (fC (.int 0))))) (sRet (fC (.bl false))) sNil)
  (sSeq (sIf (fNot (fTru (fFn 2 R_f_law_is (fAc (fFn 3 R_told_turns (fAc (fV 2) (fAc (fV 3) (fAc (fV 5) fA0)))) (fAc (fIf (fDIn (fV 5) (fV 4)) (f2 gDGet (fV 4) (fV 5)) (fC .non)) fA0))))) (sRet (fC (.bl false))) sNil)
  (sIf (fNot (fTru (fFn 2 R_f_law_is (fAc (fFn 3 R_turn_bar (fAc (fV 2) (fAc (fV 3) (fAc (fV 5) fA0)))) (fAc (fIf (fCmp (gII bGt) (fN gLen (fAc (fV 7) fA0)) (fC (.int 0))) (f2 gIx (fV 7) (fC (.int 0))) (fC .non)) fA0))))) (sRet (fC (.bl false))) sNil)))))
  (sSeq (sSet 8 (fFn 2 R_f_law_draws (fAc (fFn 2 R_f_law_cell (fAc (fV 0) (fAc (f2 gAdd (fC (.int 2)) (fV 1)) fA0))) (fAc (fC (.int 16)) fA0))))
  (sSeq (sSet 10 (fN gTuple (fAc (fLst (fComp (fNL gRng1 (fAc (f2 (gI cMod Int.fmod) (fN gInt (fAc (f2 gIx (fV 8) (fC (.int 8))) fA0)) (fC (.int 8))) fA0)) (hName 9) fYes (f2 (gI cMod Int.fmod) (fN gInt (fAc (f2 gIx (fV 8) (fV 9)) fA0)) (fC (.int 60))) [9])) fA0)))
  (sSeq (sIf (fNot (fTru (fFn 2 R_f_law_is (fAc (fFn 2 R_place_behind (fAc (fV 2) (fAc (fV 10) fA0))) (fAc (f2 (gI cMod Int.fmod) (fN gSumA (fAc (fV 10) fA0)) (fV 2)) fA0))))) (sRet (fC (.bl false))) sNil)
  (sSeq (sFor (fNL gRng1 (fAc (fC (.int 7)) fA0)) (hName 11) [true, false, true, true, false, false, false, false, true, false, false, false]
   (sSeq (sSet 6 (f2 gIx (fTup (fAc (fC (.int 0)) (fAc (f2 gMinus (fC (.int 0)) (fC (.int 1))) (fAc (fV 2) (fAc (f2 gMul (f2 (gI cPow fun i j => i ^ j.toNat) (fC (.int 10)) (fC (.int 20))) (fV 2)) (fAc (fC (.int 2)) (fAc (fC (.int 3)) (fAc (f2 gAdd (fC (.int 1)) (f2 (gI cMod Int.fmod) (fN gInt (fAc (f2 gIx (fV 8) (f2 gAdd (fC (.int 9)) (fV 11))) fA0)) (fC (.int 24)))) fA0)))))))) (fV 11)))
  (sSeq (sSet 5 (f2 (gI cMod Int.fmod) (f2 (gI cDiv Int.fdiv) (fN gInt (fAc (f2 gIx (fV 8) (f2 gAdd (fC (.int 9)) (fV 11))) fA0)) (fC (.int 24))) (fV 2)))
  (sIf (fNot (fTru (fFn 2 R_f_law_is (fAc (fFn 4 R_is_turn_bar (fAc (fV 2) (fAc (fV 3) (fAc (fV 5) (fAc (fV 6) fA0))))) (fAc (fFn 4 R_f_law_bar (fAc (fV 2) (fAc (fV 3) (fAc (fV 5) (fAc (fV 6) fA0))))) fA0))))) (sRet (fC (.bl false))) sNil))))
  (sFor (fNL gRng2 (fAc (fC (.int 1)) (fAc (f2 gAdd (fV 2) (fC (.int 1))) fA0))) (hName 6) [true, false, true, true, false, false, false, false, false, false, false, false]
   (sIf (fNot (fTru (fFn 2 R_f_law_is (fAc (fFn 4 R_is_turn_bar (fAc (fV 2) (fAc (fV 3) (fAc (f2 gMinus (fV 2) (fC (.int 1))) (fAc (fV 6) fA0))))) (fAc (fFn 4 R_f_law_bar (fAc (fV 2) (fAc (fV 3) (fAc (f2 gMinus (fV 2) (fC (.int 1))) (fAc (fV 6) fA0))))) fA0))))) (sRet (fC (.bl false))) sNil))))))))))) (S := fun _ : Unit => [.im (.scr ns), .un, .un, .un, .un, .un, .un, .un, .un, .un, .un, .un]) nE (fun s _ => s) (fun _ r => ∀ k ∈ r, k < 2) (List.range 2) () (fun k hk => List.mem_range.mp hk) (fun _ k r h => ⟨law_turn ns k (h k List.mem_cons_self), fun x hx => h x (List.mem_cons_of_mem _ hx)⟩)
  rw [sSeq_nx (ρ' := [.im (.scr ns), .un, .un, .un, .un, .un, .un, .un, .un, .un, .un, .un]) (by
    rw [sFor_a]
    simp only [fNL_a, fAc_a, fC_a, Option.bind_some, fA0_a, show gRng1 [.int 2] = some ((List.range 2).map nE) from rngN (n := 2) (by omega), clr_t, clr_f, clr_n]
    exact loop)]
  rfl
end LK
end

section
set_option Elab.async false
set_option maxRecDepth 100000
open PySem PySem.W PyProof.Rows
set_option maxHeartbeats 0 in
theorem PySem.Challenge.cw_breadward_k36_whole_floors_that_are_turn_holds : PySem.Challenge.rw_breadward_k36_whole_floors_that_are_turn.Holds := by
  w_on; o_law; k_head; (case hw => w_witness2)
  k_fill
  refine EL.walk_tab (l := PySem.Challenge.rw_breadward_k36_whole_floors_that_are_turn) (n := 63) (k := 8) (x := "script") (run := LK.R_law) rfl (by decide) rfl ⟨rfl, by decide, by decide⟩ (fun w h Y => PySem.W.kIn_of Y) ?F LK.law_true
  case F =>
    intro w mg fa h KX G hmg own
    refine' LK.law_end KX G hmg ?a0 ?l0 ?c0 ?k0 ?a1 ?l1 ?c1 ?k1 ?a2 ?l2 ?c2 ?k2 ?a3 ?l3 ?c3 ?k3 ?a4 ?l4 ?c4 ?k4 ?a5 ?l5 ?c5 ?k5 ?a6 ?l6 ?c6 ?k6 ?a7 ?l7 ?c7 ?k7 ?a8 ?l8 ?c8 ?k8 ?a9 ?l9 ?c9 ?k9 ?a10 ?l10 ?c10 ?k10 ?a11 ?l11 ?c11 ?k11 ?z0 ?z1 ?z2 ?z3 ?z4 ?z5 ?z6 ?z7 ?z8 ?z9 ?z10 ?z11 ?z12 own ?q2 ?t2 ?e2 ?v2 ?n2 ?r2 ?y0
    (case a0 => k_is)
    (case l0 => k_is)
    (case c0 => k_is)
    (case k0 => k_is)
    (case a1 => k_is)
    (case l1 => k_is)
    (case c1 => k_is)
    (case k1 => k_is)
    (case a2 => k_is)
    (case l2 => k_is)
    (case c2 => k_is)
    (case k2 => k_is)
    (case a3 => k_is)
    (case l3 => k_is)
    (case c3 => k_is)
    (case k3 => k_is)
    (case a4 => k_is)
    (case l4 => k_is)
    (case c4 => k_is)
    (case k4 => k_is)
    (case a5 => k_is)
    (case l5 => k_is)
    (case c5 => k_is)
    (case k5 => k_is)
    (case a6 => k_is)
    (case l6 => k_is)
    (case c6 => k_is)
    (case k6 => k_is)
    (case a7 => k_is)
    (case l7 => k_is)
    (case c7 => k_is)
    (case k7 => k_is)
    (case a8 => k_is)
    (case l8 => k_is)
    (case c8 => k_is)
    (case k8 => k_is)
    (case a9 => k_is)
    (case l9 => k_is)
    (case c9 => k_is)
    (case k9 => k_is)
    (case a10 => k_is)
    (case l10 => k_is)
    (case c10 => k_is)
    (case k10 => k_is)
    (case a11 => k_is)
    (case l11 => k_is)
    (case c11 => k_is)
    (case k11 => k_is)
    (case z0 => k_is)
    (case z1 => k_is)
    (case z2 => k_is)
    (case z3 => k_is)
    (case z4 => k_is)
    (case z5 => k_is)
    (case z6 => k_is)
    (case z7 => k_is)
    (case z8 => k_is)
    (case z9 => k_is)
    (case z10 => k_is)
    (case z11 => k_is)
    (case z12 => k_is)
    (case y0 => k_is)
    (case q2 => first | k_is | decide +kernel | kernel_rfl)
    (case t2 => first | rfl | k_is)
    (case e2 => first | k_is | decide +kernel | kernel_rfl)
    (case v2 => first | rfl | k_is)
    (case n2 => first | k_is | decide +kernel | kernel_rfl)
    (case r2 => first | k_is | decide +kernel | kernel_rfl)
end
