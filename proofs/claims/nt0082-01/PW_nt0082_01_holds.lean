import PyProof.Rows.All
import Wide.All
import OpenK.AllK
import Wide.FinOn
import Lean
import PySem.Challenge.RW_nt0082_01
open PyProof.Rows PySem PySem.Calls PySem.SeqAt PySem.W
set_option Elab.async false
set_option tactic.hygienic false
set_option maxRecDepth 100000
set_option maxHeartbeats 0
set_option linter.unusedVariables false
set_option linter.unusedSimpArgs false
namespace Mine
section
local macro_rules | `(tactic| o_head $_) => `(tactic| assumption)
theorem k0 : True := by
 refine (fun (_ : PySem.Challenge.rw_nt0082_01.row.Holds → PySem.Challenge.rw_nt0082_01.row.Holds) => trivial) fun hh => ?_
 k_head
end
-- o: begin
theorem and_e {a b G : Prop} (h : a ∧ b) (k : a → b → G) : G := k h.1 h.2
theorem oAA  {P0 : Prop} {P1 : Prop} {P2 : Prop} {G : Prop} (h : P0 ∧ P1 ∧ P2) (k : P0 → P1 → P2 → G) : G := k h.1 h.2.1 h.2.2
theorem oEA {α0 : Sort _} {P0 : α0 → Prop} {P1 : α0 → Prop} {G : Prop} (h : ∃ x0, P0 x0 ∧ P1 x0) (k : ∀ x0 : α0, P0 x0 → P1 x0 → G) : G := Exists.elim h fun x0 h => k x0 h.1 h.2
theorem oEE {α0 : Sort _} {α1 : Sort _} {P0 : α0 → α1 → Prop} {G : Prop} (h : ∃ x0, ∃ x1, P0 x0 x1) (k : ∀ x0 : α0, ∀ x1 : α1, P0 x0 x1 → G) : G := Exists.elim h fun x0 h => Exists.elim h fun x1 h => k x0 x1 h
theorem oAAA  {P0 : Prop} {P1 : Prop} {P2 : Prop} {P3 : Prop} {G : Prop} (h : P0 ∧ P1 ∧ P2 ∧ P3) (k : P0 → P1 → P2 → P3 → G) : G := k h.1 h.2.1 h.2.2.1 h.2.2.2
theorem oEAA {α0 : Sort _} {P0 : α0 → Prop} {P1 : α0 → Prop} {P2 : α0 → Prop} {G : Prop} (h : ∃ x0, P0 x0 ∧ P1 x0 ∧ P2 x0) (k : ∀ x0 : α0, P0 x0 → P1 x0 → P2 x0 → G) : G := Exists.elim h fun x0 h => k x0 h.1 h.2.1 h.2.2
theorem oEEA {α0 : Sort _} {α1 : Sort _} {P0 : α0 → α1 → Prop} {P1 : α0 → α1 → Prop} {G : Prop} (h : ∃ x0, ∃ x1, P0 x0 x1 ∧ P1 x0 x1) (k : ∀ x0 : α0, ∀ x1 : α1, P0 x0 x1 → P1 x0 x1 → G) : G := Exists.elim h fun x0 h => Exists.elim h fun x1 h => k x0 x1 h.1 h.2
theorem oEEE {α0 : Sort _} {α1 : Sort _} {α2 : Sort _} {P0 : α0 → α1 → α2 → Prop} {G : Prop} (h : ∃ x0, ∃ x1, ∃ x2, P0 x0 x1 x2) (k : ∀ x0 : α0, ∀ x1 : α1, ∀ x2 : α2, P0 x0 x1 x2 → G) : G := Exists.elim h fun x0 h => Exists.elim h fun x1 h => Exists.elim h fun x2 h => k x0 x1 x2 h
theorem oAEEA {α1 : Sort _} {α2 : Sort _} {P0 : Prop} {P1 : α1 → α2 → Prop} {P2 : α1 → α2 → Prop} {G : Prop} (h : P0 ∧ ∃ x1, ∃ x2, P1 x1 x2 ∧ P2 x1 x2) (k : P0 → ∀ x1 : α1, ∀ x2 : α2, P1 x1 x2 → P2 x1 x2 → G) : G := Exists.elim h.2 fun x1 h1 => Exists.elim h1 fun x2 h2 => k h.1 x1 x2 h2.1 h2.2
theorem oEAAA {α0 : Sort _} {P0 : α0 → Prop} {P1 : α0 → Prop} {P2 : α0 → Prop} {P3 : α0 → Prop} {G : Prop} (h : ∃ x0, P0 x0 ∧ P1 x0 ∧ P2 x0 ∧ P3 x0) (k : ∀ x0 : α0, P0 x0 → P1 x0 → P2 x0 → P3 x0 → G) : G := Exists.elim h fun x0 h => k x0 h.1 h.2.1 h.2.2.1 h.2.2.2
theorem oEEAA {α0 : Sort _} {α1 : Sort _} {P0 : α0 → α1 → Prop} {P1 : α0 → α1 → Prop} {P2 : α0 → α1 → Prop} {G : Prop} (h : ∃ x0, ∃ x1, P0 x0 x1 ∧ P1 x0 x1 ∧ P2 x0 x1) (k : ∀ x0 : α0, ∀ x1 : α1, P0 x0 x1 → P1 x0 x1 → P2 x0 x1 → G) : G := Exists.elim h fun x0 h => Exists.elim h fun x1 h => k x0 x1 h.1 h.2.1 h.2.2
theorem oEEEA {α0 : Sort _} {α1 : Sort _} {α2 : Sort _} {P0 : α0 → α1 → α2 → Prop} {P1 : α0 → α1 → α2 → Prop} {G : Prop} (h : ∃ x0, ∃ x1, ∃ x2, P0 x0 x1 x2 ∧ P1 x0 x1 x2) (k : ∀ x0 : α0, ∀ x1 : α1, ∀ x2 : α2, P0 x0 x1 x2 → P1 x0 x1 x2 → G) : G := Exists.elim h fun x0 h => Exists.elim h fun x1 h => Exists.elim h fun x2 h => k x0 x1 x2 h.1 h.2
theorem oEEAAA {α0 : Sort _} {α1 : Sort _} {P0 : α0 → α1 → Prop} {P1 : α0 → α1 → Prop} {P2 : α0 → α1 → Prop} {P3 : α0 → α1 → Prop} {G : Prop} (h : ∃ x0, ∃ x1, P0 x0 x1 ∧ P1 x0 x1 ∧ P2 x0 x1 ∧ P3 x0 x1) (k : ∀ x0 : α0, ∀ x1 : α1, P0 x0 x1 → P1 x0 x1 → P2 x0 x1 → P3 x0 x1 → G) : G := Exists.elim h fun x0 h => Exists.elim h fun x1 h => k x0 x1 h.1 h.2.1 h.2.2.1 h.2.2.2
theorem oEEEAA {α0 : Sort _} {α1 : Sort _} {α2 : Sort _} {P0 : α0 → α1 → α2 → Prop} {P1 : α0 → α1 → α2 → Prop} {P2 : α0 → α1 → α2 → Prop} {G : Prop} (h : ∃ x0, ∃ x1, ∃ x2, P0 x0 x1 x2 ∧ P1 x0 x1 x2 ∧ P2 x0 x1 x2) (k : ∀ x0 : α0, ∀ x1 : α1, ∀ x2 : α2, P0 x0 x1 x2 → P1 x0 x1 x2 → P2 x0 x1 x2 → G) : G := Exists.elim h fun x0 h => Exists.elim h fun x1 h => Exists.elim h fun x2 h => k x0 x1 x2 h.1 h.2.1 h.2.2
theorem oEEEAAA {α0 : Sort _} {α1 : Sort _} {α2 : Sort _} {P0 : α0 → α1 → α2 → Prop} {P1 : α0 → α1 → α2 → Prop} {P2 : α0 → α1 → α2 → Prop} {P3 : α0 → α1 → α2 → Prop} {G : Prop} (h : ∃ x0, ∃ x1, ∃ x2, P0 x0 x1 x2 ∧ P1 x0 x1 x2 ∧ P2 x0 x1 x2 ∧ P3 x0 x1 x2) (k : ∀ x0 : α0, ∀ x1 : α1, ∀ x2 : α2, P0 x0 x1 x2 → P1 x0 x1 x2 → P2 x0 x1 x2 → P3 x0 x1 x2 → G) : G := Exists.elim h fun x0 h => Exists.elim h fun x1 h => Exists.elim h fun x2 h => k x0 x1 x2 h.1 h.2.1 h.2.2.1 h.2.2.2
theorem oEEEAAAA {α0 : Sort _} {α1 : Sort _} {α2 : Sort _} {P0 : α0 → α1 → α2 → Prop} {P1 : α0 → α1 → α2 → Prop} {P2 : α0 → α1 → α2 → Prop} {P3 : α0 → α1 → α2 → Prop} {P4 : α0 → α1 → α2 → Prop} {G : Prop} (h : ∃ x0, ∃ x1, ∃ x2, P0 x0 x1 x2 ∧ P1 x0 x1 x2 ∧ P2 x0 x1 x2 ∧ P3 x0 x1 x2 ∧ P4 x0 x1 x2) (k : ∀ x0 : α0, ∀ x1 : α1, ∀ x2 : α2, P0 x0 x1 x2 → P1 x0 x1 x2 → P2 x0 x1 x2 → P3 x0 x1 x2 → P4 x0 x1 x2 → G) : G := Exists.elim h fun x0 h => Exists.elim h fun x1 h => Exists.elim h fun x2 h => k x0 x1 x2 h.1 h.2.1 h.2.2.1 h.2.2.2.1 h.2.2.2.2
theorem oEEEAAAAA {α0 : Sort _} {α1 : Sort _} {α2 : Sort _} {P0 : α0 → α1 → α2 → Prop} {P1 : α0 → α1 → α2 → Prop} {P2 : α0 → α1 → α2 → Prop} {P3 : α0 → α1 → α2 → Prop} {P4 : α0 → α1 → α2 → Prop} {P5 : α0 → α1 → α2 → Prop} {G : Prop} (h : ∃ x0, ∃ x1, ∃ x2, P0 x0 x1 x2 ∧ P1 x0 x1 x2 ∧ P2 x0 x1 x2 ∧ P3 x0 x1 x2 ∧ P4 x0 x1 x2 ∧ P5 x0 x1 x2) (k : ∀ x0 : α0, ∀ x1 : α1, ∀ x2 : α2, P0 x0 x1 x2 → P1 x0 x1 x2 → P2 x0 x1 x2 → P3 x0 x1 x2 → P4 x0 x1 x2 → P5 x0 x1 x2 → G) : G := Exists.elim h fun x0 h => Exists.elim h fun x1 h => Exists.elim h fun x2 h => k x0 x1 x2 h.1 h.2.1 h.2.2.1 h.2.2.2.1 h.2.2.2.2.1 h.2.2.2.2.2
theorem oEEEEEAAAA {α0 : Sort _} {α1 : Sort _} {α2 : Sort _} {α3 : Sort _} {α4 : Sort _} {P0 : α0 → α1 → α2 → α3 → α4 → Prop} {P1 : α0 → α1 → α2 → α3 → α4 → Prop} {P2 : α0 → α1 → α2 → α3 → α4 → Prop} {P3 : α0 → α1 → α2 → α3 → α4 → Prop} {P4 : α0 → α1 → α2 → α3 → α4 → Prop} {G : Prop} (h : ∃ x0, ∃ x1, ∃ x2, ∃ x3, ∃ x4, P0 x0 x1 x2 x3 x4 ∧ P1 x0 x1 x2 x3 x4 ∧ P2 x0 x1 x2 x3 x4 ∧ P3 x0 x1 x2 x3 x4 ∧ P4 x0 x1 x2 x3 x4) (k : ∀ x0 : α0, ∀ x1 : α1, ∀ x2 : α2, ∀ x3 : α3, ∀ x4 : α4, P0 x0 x1 x2 x3 x4 → P1 x0 x1 x2 x3 x4 → P2 x0 x1 x2 x3 x4 → P3 x0 x1 x2 x3 x4 → P4 x0 x1 x2 x3 x4 → G) : G := Exists.elim h fun x0 h => Exists.elim h fun x1 h => Exists.elim h fun x2 h => Exists.elim h fun x3 h => Exists.elim h fun x4 h => k x0 x1 x2 x3 x4 h.1 h.2.1 h.2.2.1 h.2.2.2.1 h.2.2.2.2
-- o: end
theorem no {P : Prop} (h : false = true) : P := Bool.noConfusion h
@[elab_as_elim] theorem gen {α : Type} {motive : α → Prop} (e : α) (k : ∀ y, motive y) : motive e := k e
theorem noO {α : Type} {a : α} {P : Prop} (h : none = some a) : P := nomatch h
/-- what is told of one object -/
inductive Lo where
 | lst (vs : List Value)
 | tup (vs : List Value)
 | ns (sc : Scope) (g : List (Str × Value)) (m : List (Str × Option Value))
 | cell (v : Option Value)
 | dS (f : Str → Option Value) (n : Nat)
 | dI (f : Int → Option Value) (n : Nat)
 | dT (xs : List (List Int × Addr × Value))
 | fld (c : String) (vs : List Value)
 | att (m : List (Str × Value))
 | raw (o : Obj)
noncomputable def lkm : List (Str × Option Value) → Str → Option (Option Value)
 | [], _ => none
 | (k, v) :: r, x => if x = k then some v else lkm r x
theorem lkm_c {k x : Str} {v : Option Value} {r} : lkm ((k, v) :: r) x = if x = k then some v else lkm r x := rfl
noncomputable def putm : List (Str × Option Value) → Str → Value → List (Str × Option Value)
 | [], _, _ => []
 | (k, v) :: r, x, u => if x = k then (k, some u) :: r else (k, v) :: putm r x u
theorem putm_c {k x : Str} {v : Option Value} {u : Value} {r} : putm ((k, v) :: r) x u = if x = k then (k, some u) :: r else (k, v) :: putm r x u := rfl
theorem lkm_putm (m : List (Str × Option Value)) (x : Str) (u : Value) (y : Str) (v : Option Value) (h : lkm (putm m x u) y = some v) :
  (y = x ∧ v = some u) ∨ (y ≠ x ∧ lkm m y = some v) := by
 induction m with
 | nil => cases h
 | cons p r ih =>
  obtain ⟨k, w⟩ := p
  rw [putm_c] at h
  by_cases hx : x = k
  ·rw [if_pos hx] at h
   rw [lkm_c] at h ⊢
   by_cases hy : y = k
   ·rw [if_pos hy] at h
    exact .inl ⟨hy.trans hx.symm, (Option.some.inj h).symm⟩
   ·rw [if_neg hy] at h
    exact .inr ⟨fun e => hy (e.trans hx), by rw [if_neg hy]; exact h⟩
  ·rw [if_neg hx] at h
   rw [lkm_c] at h ⊢
   by_cases hy : y = k
   ·rw [if_pos hy] at h ⊢
    exact .inr ⟨fun e => hx (e ▸ hy), h⟩
   ·rw [if_neg hy] at h ⊢
    exact ih h
noncomputable def lkv : List (Str × Value) → Str → Option Value
 | [], _ => none
 | (k, v) :: r, x => if x = k then some v else lkv r x
theorem lkv_c {k x : Str} {v : Value} {r} : lkv ((k, v) :: r) x = if x = k then some v else lkv r x := rfl
/-- the value of a name of the top, or of a built-in one -/
noncomputable def GlobIs (K : Frag) (x : Str) (v : Value) : Prop :=
 x ≠ "__debug__" ∧ (nsIn K mainGlobals x = some (some v) ∨ (nsIn K mainGlobals x = some none ∧ bootBuiltins x = some v ∧ x ≠ "__name__"))
section
variable (prog : Program) (w : World) (K : Frag)
noncomputable def Lo.Is : Lo → Obj → Prop
 | .lst vs, o => o.cls = .type "list" ∧ o.dict = none ∧ o.slots = #[] ∧ ∃ n, o.data = .seq vs.toArray n
 | .tup vs, o => o.cls = .type "tuple" ∧ ∃ n, o.data = .seq vs.toArray n
 | .ns sc g m, o => (∃ es ep, o.data = .dict es ep ∧ StrKeys es ∧ ∀ x v, lkm m x = some v → nsFind es x = v) ∧
   (∀ x v, lkm m x = some v → sc.names.lookup x = some .local ∧ x ≠ "__debug__") ∧ (∀ x v, lkv g x = some v → sc.names.lookup x = some .globalImplicit ∧ GlobIs K x v)
 | .cell v, o => o.data = .cell v
 | .dS f n, o => o.ExactDict ∧ ∃ es ep kvs, o.data = .dict es ep ∧ KeysOf (strKind prog w) es ∧ Pairs (strKind prog w) es.toList kvs ∧ (kvs.map (·.1)).Nodup ∧ kvs.length ≤ n ∧ ∀ k, valueAt kvs k = f k
 | .dI f n, o => o.ExactDict ∧ ∃ es ep kvs, o.data = .dict es ep ∧ KeysOf (intKind prog w) es ∧ Pairs (intKind prog w) es.toList kvs ∧ (kvs.map (·.1)).Nodup ∧ kvs.length ≤ n ∧ ∀ k, valueAt kvs k = f k
 | .dT xs, o => o.ExactDict ∧ ∃ es ep, o.data = .dict es ep ∧ es.toList = xs.map (entryOfKey (tupleKind (intKind prog w))) ∧ (xs.map (·.1)).Nodup
 | .fld c vs, o => o.cls = .type c ∧ o.data = .fields vs.toArray
 | .att m, o => ∃ es ep, o.data = .dict es ep ∧ StrKeys es ∧ es.size ≤ m.length ∧ ∀ x, nsFind es x = lkv m x
 | .raw o', o => o = o'
abbrev Fz := Addr → Option Lo
abbrev Led := List (Addr × Lo)
noncomputable def At (h : Heap) (a : Addr) (lo : Lo) : Prop := ∃ o, h.get? a = some o ∧ lo.Is prog w K o
variable {prog w K}
theorem At.lt {h : Heap} {a : Addr} {lo : Lo} (x : At prog w K h a lo) : a < h.objs.size := let ⟨_, e, _⟩ := x; Heap.lt_size e
theorem At.kept {h h' : Heap} {a : Addr} {lo : Lo} (x : At prog w K h a lo) (k : ∀ o, h.get? a = some o → h'.get? a = some o) : At prog w K h' a lo := let ⟨o, e, i⟩ := x; ⟨o, k o e, i⟩
variable (prog w K)
/-- what stands since the top was run -/
noncomputable def Base (z : Fz) : Prop := ∃ (hb : Heap) (mg mb : Str → Option Value), (∀ a o, hb.get? a = some o → z a = some (.raw o)) ∧ K.In hb ∧ hb.Ns mainGlobals mg ∧ hb.Ns builtinsNs mb ∧ hb.NoLimit ∧ (∀ x : Str, x ≠ "__name__" → mb x = bootBuiltins x) ∧ hb.BuiltinsAt mg 382
/-- the one table of the text's codes that changes: the lambda of form_sorted is laid there when first made -/
abbrev tb : Addr := 382
noncomputable def addrs (n : Led) : List Addr := n.map (·.1)
/-- the table: empty, or with the one code laid there -/
noncomputable def TabAt (z : Fz) (h : Heap) : Prop :=
 h.get? tb = some (tabObj #[]) ∨ ∃ c o, h.get? tb = some (tabObj #[rawInt 366, rawInt 53, .ref c]) ∧ z c = some (.raw o) ∧ h.CodeRec (.ref c) "form_sorted.<locals>.<lambda>"
structure St (z : Fz) (n : Led) (s : Shared) : Prop where
 frz : ∀ a lo, z a = some lo → At prog w K s.heap a lo
 led : ∀ p ∈ n, At prog w K s.heap p.1 p.2
 off : ∀ a ∈ addrs n, z a = none
 nodup : (addrs n).Nodup
 ztb : z tb = none
 ntb : tb ∉ addrs n
 tab : TabAt z s.heap
 base : Base K z
structure Step (z : Fz) (n : Led) (s : Shared) (z' : Fz) (n' : Led) (s' : Shared) : Prop where
 eq : ∃ h tk, s' = { s with heap := h, toks := tk }
 keep : ∀ a o, a ∉ addrs n → a ≠ tb → s.heap.get? a = some o → s'.heap.get? a = some o
 zle : ∀ a lo, z a = some lo → z' a = some lo
 zold : ∀ a o, s.heap.get? a = some o → a ∉ addrs n → z' a = z a
 nold : ∀ a ∈ addrs n', a ∈ addrs n ∨ s.heap.get? a = none
 st : St prog w K z' n' s'
noncomputable def Le (z z' : Fz) : Prop := ∀ a lo, z a = some lo → z' a = some lo
variable {prog w K}
theorem Le.refl (z : Fz) : Le z z := fun u_ u_ e => e
theorem Base.mono {z z' : Fz} (x : Base K z) (l : Le z z') : Base K z' := let ⟨hb, mg, mb, h, r⟩ := x; ⟨hb, mg, mb, fun a o e => l _ _ (h a o e), r⟩
theorem Le.trans {a b c : Fz} (x : Le a b) (y : Le b c) : Le a c := fun u_ u_ e => y _ _ (x _ _ e)
theorem Step.refl {z n s} (h : St prog w K z n s) : Step prog w K z n s z n s :=
 ⟨⟨_, _, rfl⟩, fun u_ u_ u_ u_ e => e, fun u_ u_ e => e, fun u_ u_ u_ u_ => rfl, fun u_ h => .inl h, h⟩
theorem Step.trans {z n s z1 n1 s1 z2 n2 s2} (x : Step prog w K z n s z1 n1 s1) (y : Step prog w K z1 n1 s1 z2 n2 s2) (hz : z tb = none := by assumption) : Step prog w K z n s z2 n2 s2 := by
 have old : ∀ a o, s.heap.get? a = some o → a ∉ addrs n → a ∉ addrs n1 := fun a o e hn hm => by
  rcases x.nold a hm with h | h
  ·exact hn h
  ·rw [h] at e; cases e
 refine ⟨?_, fun a o hn ht e => y.keep a o (old a o e hn) ht (x.keep a o hn ht e), fun a lo e => y.zle a lo (x.zle a lo e), fun a o e hn => ?_, fun a ha => ?_, y.st⟩
 ·refine oEE x.eq fun h tk e0_ => ?_
  subst e0_
  refine oEE y.eq fun h' tk' e0_ => ?_
  subst e0_
  exact ⟨h', tk', rfl⟩
 ·by_cases ht : a = tb
  ·subst ht; rw [y.st.ztb, hz]
  ·exact (y.zold a o (x.keep a o hn ht e) (old a o e hn)).trans (x.zold a o e hn)
 ·rcases y.nold a ha with h | h
  ·exact x.nold a h
  ·by_cases hn : a ∈ addrs n
   ·exact .inl hn
   ·cases e : s.heap.get? a with
    | none => exact .inr rfl
    | some o =>
     by_cases ht : a = tb
     ·subst ht; exact absurd ha y.st.ntb
     ·rw [x.keep a o hn ht e] at h; cases h
theorem St.drop {z n n' s} (h : St prog w K z n s) (hs : n'.Sublist n) : St prog w K z n' s := by
 have hs' : (addrs n').Sublist (addrs n) := hs.map _
 exact ⟨h.frz, fun p hp => h.led p (hs.subset hp), fun a ha => h.off a (hs'.subset ha), h.nodup.sublist hs', h.ztb, fun x => h.ntb (hs'.subset x), h.tab, h.base⟩
theorem Step.drop {z n s z' n' n'' s'} (x : Step prog w K z n s z' n' s') (hs : n''.Sublist n') : Step prog w K z n s z' n'' s' :=
 ⟨x.eq, x.keep, x.zle, x.zold, fun a ha => x.nold a ((hs.map (·.1)).subset ha), x.st.drop hs⟩
theorem St.perm {z n n' s} (h : St prog w K z n s) (hp : n.Perm n') : St prog w K z n' s := by
 have hp' : (addrs n).Perm (addrs n') := hp.map _
 exact ⟨h.frz, fun p hq => h.led p (hp.mem_iff.mpr hq), fun a ha => h.off a (hp'.mem_iff.mpr ha), hp'.nodup_iff.mp h.nodup, h.ztb, fun x => h.ntb (hp'.mem_iff.mpr x), h.tab, h.base⟩
theorem Step.perm {z n s z' n' n'' s'} (x : Step prog w K z n s z' n' s') (hp : n'.Perm n'') : Step prog w K z n s z' n'' s' :=
 ⟨x.eq, x.keep, x.zle, x.zold, fun a ha => x.nold a ((hp.map (·.1)).mem_iff.mpr ha), x.st.perm hp⟩
theorem Step.permL {z n m s z' n' s'} (x : Step prog w K z n s z' n' s') (hp : n.Perm m) : Step prog w K z m s z' n' s' := by
 have hp' : ∀ a, a ∈ addrs n ↔ a ∈ addrs m := fun a => (hp.map (·.1)).mem_iff
 exact ⟨x.eq, fun a o h => x.keep a o fun q => h ((hp' a).mp q), x.zle, fun a o e h => x.zold a o e fun q => h ((hp' a).mp q), fun a ha => (x.nold a ha).imp (hp' a).mp id, x.st⟩
/-- one more frozen object -/
noncomputable def fset (z : Fz) (a : Addr) (lo : Lo) : Fz := fun b => if b = a then some lo else z b
theorem fset_self {z : Fz} {a : Addr} {lo : Lo} : fset z a lo a = some lo := if_pos rfl
theorem fset_ne {z : Fz} {a b : Addr} {lo : Lo} (h : b ≠ a) : fset z a lo b = z b := if_neg h
theorem Le.fset {z : Fz} {a : Addr} {lo : Lo} (h : z a = none) : Le z (fset z a lo) := fun b x e => by
 by_cases q : b = a
 ·subst q; rw [h] at e; cases e
 ·rw [fset_ne q]; exact e
theorem TabAt.mono {z z' : Fz} {h h' : Heap} (x : TabAt z h) (l : Le z z') (e : ∀ o, h.get? tb = some o → h'.get? tb = some o) (k : ∀ a lo, z a = some lo → ∀ o, h.get? a = some o → h'.get? a = some o) : TabAt z' h' := by
 rcases x with x | ⟨c, o, h1, h2, h3⟩
 ·exact .inl (e _ x)
 ·refine .inr ⟨c, o, e _ h1, l _ _ h2, ?_⟩
  refine oEE h3 fun c' o' h_ => oEEAA h_ fun vs t hc g r => ?_
  clear h3
  cases hc
  exact ⟨_, o', vs, t, rfl, k _ _ h2 _ g, r⟩
theorem St.freeze {z n s a lo} (h : St prog w K z ((a, lo) :: n) s) : St prog w K (fset z a lo) n s := by
 have hz : z a = none := h.off a (.head _)
 have hn : a ∉ addrs n := (List.nodup_cons.mp h.nodup).1
 refine ⟨fun b x e => ?_, fun p hp => h.led p (.tail _ hp), fun b hb => ?_, (List.nodup_cons.mp h.nodup).2, ?_, fun q => h.ntb (.tail _ q), h.tab.mono (Le.fset hz) (fun u_ e => e) (fun u_ u_ u_ u_ e => e), h.base.mono (Le.fset hz)⟩
 ·by_cases q : b = a
  ·subst q; rw [fset_self] at e; cases e; exact h.led (b, lo) (.head _)
  ·rw [fset_ne q] at e; exact h.frz b x e
 ·rw [fset_ne (fun q => hn (by rw [← q]; exact hb))]; exact h.off b (.tail _ hb)
 ·rw [fset_ne (fun (q : tb = a) => h.ntb (by rw [q]; exact .head _))]; exact h.ztb
/-- the judgement -/
noncomputable def W {α : Type} (prog : Program) (w : World) (K : Frag) (A : Around) (t : Sem α) (z : Fz) (n : Led) (Q : α → Fz → Led → Prop) : Prop :=
 ∀ (E : Value → Shared → Prop) s, St prog w K z n s → wpAny (model prog w) A t (fun v s' => ∃ z' n', Step prog w K z n s z' n' s' ∧ Q v z' n') E s
/-- the same of a code -/
noncomputable def WC (prog : Program) (w : World) (K : Frag) (A : Around) (c : Code) (z : Fz) (n : Led) (Q : Flow → Fz → Led → Prop) : Prop :=
 ∀ s, St prog w K z n s → codeAny (model prog w) A c (fun r s' => ∃ v z' n', r = .ok v ∧ Step prog w K z n s z' n' s' ∧ Q v z' n') s
variable {A : Around} {α β : Type} {z z' : Fz} {n n' : Led}
theorem W.pure {a : α} {Q : α → Fz → Led → Prop} (h : Q a z n) : W prog w K A (pure a) z n Q := fun u_ u_ hs => wpAny_pure ⟨z, n, .refl hs, h⟩
theorem W.mono {t : Sem α} {Q Q' : α → Fz → Led → Prop} (h : W prog w K A t z n Q) (hq : ∀ a z' n', Le z z' → Q a z' n' → Q' a z' n') : W prog w K A t z n Q' :=
 fun E s hs => wpAny_mono (h E s hs) (fun u_ u_ h_ => oEEA h_ fun z' n' st q => ⟨z', n', st, hq _ _ _ st.zle q⟩) fun u_ u_ e => e
theorem W.runk {t : Sem α} {P : α → Shared → Prop} {E : Value → Shared → Prop} {s : Shared} (hs : St prog w K z n s) (h : W prog w K A t z n fun v z' n' => ∀ s', Step prog w K z n s z' n' s' → P v s') : wpAny (model prog w) A t P E s :=
 wpAny_mono (h E s hs) (fun u_ s' h_ => oEEA h_ fun u_ u_ st q => q s' st) fun u_ u_ e => e
theorem W.bind {t : Sem α} {f : α → Sem β} {Q : β → Fz → Led → Prop} (h : W prog w K A t z n fun a z1 n1 => W prog w K A (f a) z1 n1 Q) : W prog w K A (t >>= f) z n Q :=
 fun E s hs => wpAny_bind (W.runk hs (h.mono fun a z1 n1 u_ q s1 st => W.runk st.st (q.mono fun u_ z2 n2 u_ r s2 st2 => ⟨z2, n2, st.trans st2 hs.ztb, r⟩)))
theorem W.of_eq {t t' : Sem α} {Q : α → Fz → Led → Prop} (e : t = t') (h : W prog w K A t' z n Q) : W prog w K A t z n Q := e ▸ h
theorem W.drop {t : Sem α} {Q : α → Fz → Led → Prop} (h : W prog w K A t z n fun v z' n' => ∃ n'', n''.Sublist n' ∧ Q v z' n'') : W prog w K A t z n Q :=
 fun E s hs => wpAny_mono (h E s hs) (fun u_ u_ h_ => oEEA h_ fun z' u_ st h_ => oEA h_ fun n'' sub q => ⟨z', n'', st.drop sub, q⟩) fun u_ u_ e => e
theorem W.freeze {t : Sem α} {a : Addr} {lo : Lo} {Q : α → Fz → Led → Prop} (h : z a = none → W prog w K A t (fset z a lo) n Q) : W prog w K A t z ((a, lo) :: n) Q := fun E s hs => by
 have hz : z a = none := hs.off a (.head _)
 refine wpAny_mono (h hz E s hs.freeze) (fun v s' h_ => oEEA h_ fun z' n' st q => ⟨z', n', ?_, q⟩) fun u_ u_ e => e
 exact ⟨st.eq, fun b o hb => st.keep b o fun q => hb (.tail _ q), (Le.fset hz).trans st.zle, fun b o e hb => (st.zold b o e fun q => hb (.tail _ q)).trans (fset_ne fun q => hb (q ▸ .head _)), fun b hb => (st.nold b hb).imp (fun q => .tail _ q) id, st.st⟩
end
/-- a ledger entry put behind the frame's own -/
noncomputable def ins (p : Addr × Lo) : Led → Led
 | [] => [p]
 | h :: r => h :: p :: r
theorem ins_perm (p : Addr × Lo) (n : Led) : (ins p n).Perm (p :: n) := by
 cases n with
 | nil => exact .refl _
 | cons h r => exact .swap ..
theorem mem_ins {p q : Addr × Lo} {n : Led} : q ∈ ins p n ↔ q = p ∨ q ∈ n := by rw [(ins_perm p n).mem_iff, List.mem_cons]
theorem addrs_ins (p : Addr × Lo) (n : Led) : (addrs (ins p n)).Perm (p.1 :: addrs n) := (ins_perm p n).map _
/-- one entry of the ledger turned -/
inductive Up (a : Addr) (lo lo' : Lo) : Led → Led → Prop
 | head {r : Led} : Up a lo lo' ((a, lo) :: r) ((a, lo') :: r)
 | tail {p : Addr × Lo} {r r' : Led} : Up a lo lo' r r' → Up a lo lo' (p :: r) (p :: r')
theorem Up.addrs {a lo lo' n n'} (h : Up a lo lo' n n') : addrs n' = Mine.addrs n := by
 induction h with
 | head => rfl
 | tail _ ih => simp only [Mine.addrs, List.map_cons] at ih ⊢; rw [ih]
theorem Up.mem {a lo lo' n n'} (h : Up a lo lo' n n') : (a, lo) ∈ n := by
 induction h with
 | head => exact .head _
 | tail _ ih => exact .tail _ ih
set_option tactic.hygienic true in
theorem Up.each {a lo lo' n n'} (h : Up a lo lo' n n') (hn : (Mine.addrs n).Nodup) : ∀ p ∈ n', p = (a, lo') ∨ (p ∈ n ∧ p.1 ≠ a) := by
 induction h with
 | head =>
  intro p hp
  rcases List.mem_cons.mp hp with e | e
  ·exact .inl e
  ·have := (List.nodup_cons.mp hn).1
   exact .inr ⟨.tail _ e, fun q => this (by rw [← q]; exact List.mem_map_of_mem (f := (·.1)) e)⟩
 | tail h' ih =>
  rename_i q r r'
  intro p hp
  have hn' := List.nodup_cons.mp hn
  rcases List.mem_cons.mp hp with e | e
  ·subst e
   exact .inr ⟨.head _, fun q => hn'.1 (by show p.1 ∈ Mine.addrs r; rw [q]; exact List.mem_map_of_mem (f := (·.1)) h'.mem)⟩
  ·exact (ih hn'.2 p e).imp id fun ⟨x, y⟩ => ⟨.tail _ x, y⟩
/-- known, frozen or in the ledger -/
noncomputable def Hs (z : Fz) (n : Led) (a : Addr) (lo : Lo) : Prop := z a = some lo ∨ (a, lo) ∈ n
section
variable {prog : Program} {w : World} {K : Frag} {A : Around} {α : Type} {z z' : Fz} {n n' : Led} {s : Shared} {E : Value → Shared → Prop}
theorem Hs.at {a : Addr} {lo : Lo} (h : Hs z n a lo) (hs : St prog w K z n s) : At prog w K s.heap a lo := h.elim (hs.frz a lo) fun m => hs.led _ m
theorem Step.toks (h : St prog w K z n s) (t : Nat) : Step prog w K z n s z n { s with toks := t } :=
 ⟨⟨_, _, rfl⟩, fun u_ u_ u_ u_ e => e, fun u_ u_ e => e, fun u_ u_ u_ u_ => rfl, fun u_ h => .inl h, ⟨h.frz, h.led, h.off, h.nodup, h.ztb, h.ntb, h.tab, h.base⟩⟩
theorem St.ltn {a : Addr} (h : St prog w K z n s) (e : a ∈ addrs n) : a < s.heap.objs.size := by
 refine oEA (List.mem_map.mp e) fun p hp e0_ => ?_
 subst e0_
 exact (h.led p hp).lt
theorem St.has {a : Addr} (h : St prog w K z n s) (e : a ∈ addrs n) : ∃ o, s.heap.get? a = some o := by
 refine oEA (List.mem_map.mp e) fun p hp e0_ => ?_
 subst e0_
 refine oEA (h.led p hp) fun o e u_ => ?_
 exact ⟨o, e⟩
theorem St.tblt (h : St prog w K z n s) : tb < s.heap.objs.size := by
 rcases h.tab with e | ⟨_, _, e, _⟩ <;> exact Heap.lt_size e
theorem St.off' {a : Addr} (h : St prog w K z n s) (e : s.heap.get? a = none) : z a = none := by
 cases q : z a with
 | none => rfl
 | some lo => refine oEA (h.frz a lo q) fun o e' u_ => ?_; rw [e] at e'; cases e'
/-- a step that changes ledger objects alone and lays new ones -/
theorem Step.ext (hs : St prog w K z n s) {h' : Heap} {tk : Nat} (keep : ∀ a o, a ∉ addrs n → s.heap.get? a = some o → h'.get? a = some o)
  (led : ∀ p ∈ n', At prog w K h' p.1 p.2) (sub : ∀ a ∈ addrs n', a ∈ addrs n ∨ s.heap.get? a = none) (nd : (addrs n').Nodup) : Step prog w K z n s z n' { s with heap := h', toks := tk } := by
 have off : ∀ a ∈ addrs n', z a = none := fun a ha => by
  rcases sub a ha with q | q
  ·exact hs.off a q
  ·exact hs.off' q
 refine ⟨⟨_, _, rfl⟩, fun a o hn u_ e => keep a o hn e, fun u_ u_ e => e, fun u_ u_ u_ u_ => rfl, sub, ?_⟩
 have kz : ∀ a lo, z a = some lo → ∀ o, s.heap.get? a = some o → h'.get? a = some o := fun a lo e o q => keep a o (fun m => by rw [hs.off a m] at e; cases e) q
 refine ⟨fun a lo e => (hs.frz a lo e).kept (kz a lo e), led, off, nd, hs.ztb, fun m => ?_, hs.tab.mono (fun u_ u_ e => e) (fun o e => keep _ o hs.ntb e) kz, hs.base⟩
 rcases sub _ m with q | q
 ·exact hs.ntb q
 ·rcases hs.tab with e | ⟨_, _, e, _⟩ <;> rw [q] at e <;> cases e
theorem get_size_none (h : Heap) : h.get? h.objs.size = none := by
 cases e : h.get? h.objs.size with
 | none => rfl
 | some o => exact absurd (Heap.lt_size e) (Nat.lt_irrefl _)
/-- laid anew, in the ledger -/
theorem Step.push (hs : St prog w K z n s) {o : Obj} {lo : Lo} {tk : Nat} (hlo : lo.Is prog w K o) (hf : o.isFreed = false) :
  Step prog w K z n s z (ins (s.heap.objs.size, lo) n) { s with heap := s.heap.push o, toks := tk } := by
 refine Step.ext hs (fun a o' u_ e => Heap.get?_push_of_some _ e) (fun p hp => ?_) (fun a ha => ?_) ?_
 ·rcases mem_ins.mp hp with rfl | hp
  ·exact ⟨o, Heap.get?_push_size _ hf, hlo⟩
  ·exact (hs.led p hp).kept fun o' e => Heap.get?_push_of_some _ e
 ·rcases List.mem_cons.mp ((addrs_ins _ _).mem_iff.mp ha) with rfl | h
  ·exact .inr (get_size_none _)
  ·exact .inl h
 ·exact (addrs_ins _ _).nodup_iff.mpr (List.nodup_cons.mpr ⟨fun m => Nat.lt_irrefl _ (hs.ltn m), hs.nodup⟩)
theorem St.fresh (hs : St prog w K z n s) : z s.heap.objs.size = none := hs.off' (get_size_none _)
theorem Step.freeze {a : Addr} {lo : Lo} {s' : Shared} (x : Step prog w K z n s z' ((a, lo) :: n') s') : Step prog w K z n s (fset z' a lo) n' s' := by
 have hz : z' a = none := x.st.off a (.head _)
 refine ⟨x.eq, x.keep, fun b l e => Le.fset hz _ _ (x.zle b l e), fun b o hl hb => ?_, fun b hb => x.nold b (.tail _ hb), x.st.freeze⟩
 rw [fset_ne, x.zold b o hl hb]
 intro q
 rcases x.nold a (.head _) with h | h
 ·exact hb (q ▸ h)
 ·rw [← q, hl] at h; cases h
/-- laid anew, frozen at once -/
theorem Step.pushZ (hs : St prog w K z n s) {o : Obj} {lo : Lo} {tk : Nat} (hlo : lo.Is prog w K o) (hf : o.isFreed = false) :
  Step prog w K z n s (fset z s.heap.objs.size lo) n { s with heap := s.heap.push o, toks := tk } := ((Step.push hs hlo hf).perm (ins_perm _ _)).freeze
/-- one object of the ledger turned -/
theorem Step.upd (hs : St prog w K z n s) {a : Addr} {lo lo' : Lo} {h' : Heap} {tk : Nat} (U : Up a lo lo' n n') (sb : Heap.SameBut a s.heap h') (hat : At prog w K h' a lo') :
  Step prog w K z n s z n' { s with heap := h', toks := tk } := by
 have ha : a ∈ addrs n := List.mem_map_of_mem U.mem
 refine Step.ext hs (fun b o hb e => (sb.2 b fun q => hb (q ▸ ha)).trans e) (fun p hp => ?_) (fun b hb => .inl (by rw [U.addrs] at hb; exact hb)) (by rw [U.addrs]; exact hs.nodup)
 rcases U.each hs.nodup p hp with rfl | ⟨hp, hne⟩
 ·exact hat
 ·exact (hs.led p hp).kept fun o e => (sb.2 _ hne).trans e
/-- the frame rule -/
theorem W.frame {t : Sem α} {r : Led} {Q : α → Fz → Led → Prop} (h : W prog w K A t z n Q) : W prog w K A t z (n ++ r) (fun v z' n' => ∃ n1, n' = n1 ++ r ∧ Q v z' n1) := fun E s hs => by
 have hs0 : St prog w K z n s := hs.drop (List.sublist_append_left n r)
 have nd : (addrs n ++ addrs r).Nodup := by have := hs.nodup; unfold addrs at this; rwa [List.map_append] at this
 have dis : ∀ a ∈ addrs r, a ∉ addrs n := fun a ha hb => (List.nodup_append.mp nd).2.2 a hb a ha rfl
 refine wpAny_mono (h E s hs0) (fun v s' h_ => oEEA h_ fun z' n1 st q => ⟨z', n1 ++ r, ?_, n1, rfl, q⟩) fun u_ u_ e => e
 have hr : ∀ p ∈ r, p ∈ n ++ r := fun p hp => List.mem_append_right _ hp
 have off : ∀ a ∈ addrs r, z' a = none := fun a ha => by
  have hm : a ∈ addrs (n ++ r) := by unfold addrs; rw [List.map_append]; exact List.mem_append_right _ ha
  obtain ⟨o, ho⟩ := hs.has hm
  rw [st.zold a o ho (dis a ha)]; exact hs.off a hm
 have dis1 : ∀ a ∈ addrs n1, a ∉ addrs r := fun a ha hb => by
  have hm : a ∈ addrs (n ++ r) := by unfold addrs; rw [List.map_append]; exact List.mem_append_right _ hb
  rcases st.nold a ha with q | q
  ·exact dis a hb q
  ·obtain ⟨o, ho⟩ := hs.has hm
   rw [q] at ho; cases ho
 have ntb : tb ∉ addrs r := fun m => hs.ntb (by unfold addrs; rw [List.map_append]; exact List.mem_append_right _ m)
 have sp : ∀ a, a ∈ addrs (n1 ++ r) ↔ a ∈ addrs n1 ∨ a ∈ addrs r := fun a => by unfold addrs; rw [List.map_append, List.mem_append]
 have spn : ∀ a, a ∈ addrs (n ++ r) ↔ a ∈ addrs n ∨ a ∈ addrs r := fun a => by unfold addrs; rw [List.map_append, List.mem_append]
 refine ⟨st.eq, fun a o hn ht e => st.keep a o (fun m => hn ((spn a).mpr (.inl m))) ht e, st.zle, fun a o e hn => st.zold a o e fun m => hn ((spn a).mpr (.inl m)), fun a ha => ?_, ?_⟩
 ·rcases (sp a).mp ha with q | q
  ·exact (st.nold a q).imp (fun x => (spn a).mpr (.inl x)) id
  ·exact .inl ((spn a).mpr (.inr q))
 ·refine ⟨st.st.frz, fun p hp => ?_, fun a ha => ?_, ?_, st.st.ztb, fun m => ?_, st.st.tab, st.st.base⟩
  ·rcases List.mem_append.mp hp with q | q
   ·exact st.st.led p q
   ·have hm : p.1 ∈ addrs r := List.mem_map_of_mem q
    exact (hs.led p (hr p q)).kept fun o e => st.keep _ o (dis _ hm) (fun x => ntb (x ▸ hm)) e
  ·rcases (sp a).mp ha with q | q
   ·exact st.st.off a q
   ·exact off a q
  ·unfold addrs
   rw [List.map_append]
   exact List.nodup_append.mpr ⟨st.st.nodup, (List.nodup_append.mp nd).2.1, fun a ha b hb e => dis1 a ha (e ▸ hb)⟩
  ·rcases (sp _).mp m with q | q
   ·exact st.st.ntb q
   ·exact ntb q
theorem W.perm {t : Sem α} {m : Led} {Q : α → Fz → Led → Prop} (hp : m.Perm n) (h : W prog w K A t z n Q) : W prog w K A t z m Q :=
 fun E s hs => wpAny_mono (h E s (hs.perm hp)) (fun u_ u_ h_ => oEEA h_ fun z' n' st q => ⟨z', n', st.permL hp.symm, q⟩) fun u_ u_ e => e
/-- a call that touches no entry of the ledger -/
theorem W.apart {t : Sem α} {Q : α → Fz → Led → Prop} {P : α → Fz → Prop} (h : W prog w K A t z [] fun v z' n' => n' = [] ∧ P v z') (k : ∀ v z', Le z z' → P v z' → Q v z' n) : W prog w K A t z n Q := by
 have := h.frame (r := n)
 rw [List.nil_append] at this
 exact this.mono fun v z' n' l h_ => oEAA h_ fun n1 e e1 p => by subst e1; rw [List.nil_append] at e; subst e; exact k v z' l p
theorem W.of_pure {t : Sem α} {r : α} {Q : α → Fz → Led → Prop} (e : t = Pure.pure r) (h : Q r z n) : W prog w K A t z n Q := e ▸ W.pure h
theorem St.fragIn (hs : St prog w K z n s) : K.In s.heap := by
 refine oEEEAA hs.base fun hb u_ u_ h k u_ => ?_
 intro a o e
 refine oEA (hs.frz a _ (h a o (k a o e))) fun o' e' i => ?_
 exact (show o' = o from i) ▸ e'
theorem St.from (hs : St prog w K z n s) : ∃ mg mb, s.heap.Ns mainGlobals mg ∧ s.heap.Ns builtinsNs mb ∧ s.heap.NoLimit ∧ (∀ x : Str, x ≠ "__name__" → mb x = bootBuiltins x) ∧ K.In s.heap := by
 refine oEEEAAAA hs.base fun hb mg mb h k g b h_ => oAA h_ fun l bt u_ => ?_
 have up : ∀ a o, hb.get? a = some o → s.heap.get? a = some o := fun a o e => by
  refine oEA (hs.frz a _ (h a o e)) fun o' e' i => ?_
  exact (show o' = o from i) ▸ e'
 exact ⟨mg, mb, g.keeps up, b.keeps up, l.keeps up, bt, hs.fragIn⟩
theorem St.boot (hs : St prog w K z n s) : ∃ mg, s.heap.Ns mainGlobals mg ∧ s.heap.BuiltinsAt mg tb := by
 obtain ⟨hb, mg, mb, h, k, g, b, l, bt, bm, ob, b1, b2, b3, b4, b5, b6⟩ := hs.base
 have up : ∀ a o, hb.get? a = some o → s.heap.get? a = some o := fun a o e => by
  refine oEA (hs.frz a _ (h a o e)) fun o' e' i => ?_
  exact (show o' = o from i) ▸ e'
 exact ⟨mg, g.keeps up, bm, ob, b1, b2, b3, b4, up _ _ b5, b6⟩
end
/-- where a walk stands: a frame of a function or of a comprehension -/
structure Cx where
 env : Env
 L : Addr
 sc : Scope
 g : List (Str × Value)
 cl : List (Str × Addr)
abbrev M := List (Str × Option Value)
abbrev KV := Value → Fz → Led → Prop
abbrev KB := Bool → Fz → Led → Prop
abbrev KF := Flow → M → Fz → Led → Prop
noncomputable def lka : List (Str × Addr) → Str → Option Addr
 | [], _ => none
 | (k, v) :: r, x => if x = k then some v else lka r x
theorem lka_c {k x : Str} {v : Addr} {r} : lka ((k, v) :: r) x = if x = k then some v else lka r x := rfl
noncomputable def asInt : Value → Option Int
 | .int i _ => some i
 | .none | .ellipsis | .notImplemented | .bool _ | .float .. | .str .. | .bytes .. | .type _ | .builtin _ | .ref _ => none
noncomputable def isNone : Value → Bool
 | .none => true
 | .int .. | .ellipsis | .notImplemented | .bool _ | .float .. | .str .. | .bytes .. | .type _ | .builtin _ | .ref _ => false
/-- two ways -/
noncomputable def brE (b : Bool) (X Y : Prop) : Prop := match b with
 | true => X
 | false => Y
noncomputable def grd (b : Bool) (X : Prop) : Prop := match b with
 | true => X
 | false => False
/-- the kind of an expression -/
noncomputable def tagE : PySem.Expr → Nat
 | .BoolOp .. => 0
 | .NamedExpr .. => 1
 | .BinOp .. => 2
 | .UnaryOp .. => 3
 | .Lambda .. => 4
 | .IfExp .. => 5
 | .Dict .. => 6
 | .Set .. => 7
 | .ListComp .. => 8
 | .SetComp .. => 9
 | .DictComp .. => 10
 | .GeneratorExp .. => 11
 | .Await .. => 12
 | .Yield .. => 13
 | .YieldFrom .. => 14
 | .Compare .. => 15
 | .Call .. => 16
 | .FormattedValue .. => 17
 | .JoinedStr .. => 18
 | .Constant .. => 19
 | .Attribute .. => 20
 | .Subscript .. => 21
 | .Starred .. => 22
 | .Name .. => 23
 | .List .. => 24
 | .Tuple .. => 25
 | .Slice .. => 26
/-- what is called, or the thing itself -/
noncomputable def funcOf : PySem.Expr → PySem.Expr
 | .Call f _ _ _ => f
 | e => e
noncomputable def noStar (e : PySem.Expr) : Bool := tagE e != 22
noncomputable def plainBase (e : PySem.Expr) : Bool := tagE e == 23 || tagE e == 20 || tagE e == 21 || (tagE e == 16 && tagE (funcOf e) == 20)
noncomputable def notComp (e : PySem.Expr) : Bool := tagE e != 8 && tagE e != 9 && tagE e != 10
noncomputable def eltsOf : PySem.Expr → List PySem.Expr
 | .Tuple es _ _ => es
 | _ => []
section
variable (prog : Program) (w : World) (K : Frag) (A : Around)
/-! values' operations: what they ask -/
noncomputable def binE (op : Operator) (a b : Value) (z : Fz) (n : Led) (Q : KV) : Prop := match asInt a with
 | none => W prog w K A (binaryOp op a b) z n Q
 | some i => match asInt b with
  | none => W prog w K A (binaryOp op a b) z n Q
  | some j => match op with
   | .Add => ∀ t, Q (.int (i + j) t) z n
   | .Sub => ∀ t, Q (.int (i - j) t) z n
   | .Mult => (-(2 ^ 60) < i ∧ i < 2 ^ 60) ∧ ∀ t, Q (.int (i * j) t) z n
   | .FloorDiv => (j ≠ 0 ∧ j.natAbs < 1073741824) ∧ ∀ t, Q (.int (Int.fdiv i j) t) z n
   | .Mod => j ≠ 0 ∧ ∀ t, Q (.int (Int.fmod i j) t) z n
   | .MatMult | .Div | .Pow | .LShift | .RShift | .BitOr | .BitXor | .BitAnd => W prog w K A (binaryOp op a b) z n Q
noncomputable def ibinE (op : Operator) (a b : Value) (z : Fz) (n : Led) (Q : KV) : Prop := match asInt a with
 | none => W prog w K A (inplaceOp op a b) z n Q
 | some i => match asInt b with
  | none => W prog w K A (inplaceOp op a b) z n Q
  | some j => match op with
   | .Add => ∀ t, Q (.int (i + j) t) z n
   | .Sub => ∀ t, Q (.int (i - j) t) z n
   | .Mult | .FloorDiv | .Mod | .MatMult | .Div | .Pow | .LShift | .RShift | .BitOr | .BitXor | .BitAnd => W prog w K A (inplaceOp op a b) z n Q
noncomputable def isE (a b : Value) (z : Fz) (n : Led) (Q : KV) : Prop := match isNone b with
 | true => Q (.bool (isNone a)) z n
 | false => W prog w K A (compareOp .Is a b) z n Q
noncomputable def isnE (a b : Value) (z : Fz) (n : Led) (Q : KV) : Prop := match isNone b with
 | true => Q (.bool (!isNone a)) z n
 | false => W prog w K A (compareOp .IsNot a b) z n Q
noncomputable def cmpI (op : CmpOp) (i j : Int) (a b : Value) (z : Fz) (n : Led) (Q : KV) : Prop := match op with
 | .Lt => Q (.bool (decide (i < j))) z n
 | .LtE => Q (.bool (decide (i ≤ j))) z n
 | .Gt => Q (.bool (decide (j < i))) z n
 | .GtE => Q (.bool (decide (j ≤ i))) z n
 | .Eq => Q (.bool (decide (i = j))) z n
 | .NotEq => Q (.bool (!decide (i = j))) z n
 | .Is | .IsNot | .In | .NotIn => W prog w K A (compareOp op a b) z n Q
noncomputable def cmpO (op : CmpOp) (a b : Value) (z : Fz) (n : Led) (Q : KV) : Prop := match op with
 | .Is => isE prog w K A a b z n Q
 | .IsNot => isnE prog w K A a b z n Q
 | .Lt | .LtE | .Gt | .GtE | .Eq | .NotEq | .In | .NotIn => W prog w K A (compareOp op a b) z n Q
noncomputable def cmpE (op : CmpOp) (a b : Value) (z : Fz) (n : Led) (Q : KV) : Prop := match asInt b with
 | none => cmpO prog w K A op a b z n Q
 | some j => match asInt a with
  | none => cmpO prog w K A op a b z n Q
  | some i => cmpI prog w K A op i j a b z n Q
noncomputable def truE : Value → Fz → Led → KB → Prop
 | .bool b, z, n, Q => Q b z n
 | .none, z, n, Q => Q false z n
 | .int i t, z, n, Q => W prog w K A (truthy (.int i t)) z n Q
 | .ref a, z, n, Q => W prog w K A (truthy (.ref a)) z n Q
 | .ellipsis, _, _, _ | .notImplemented, _, _, _ | .float .., _, _, _ | .str .., _, _, _ | .bytes .., _, _, _ | .type _, _, _, _ | .builtin _, _, _, _ => False
noncomputable def unE (op : UnaryOp) (a : Value) (z : Fz) (n : Led) (Q : KV) : Prop := match op with
 | .Not => truE prog w K A a z n fun b z n => Q (.bool (!b)) z n
 | .USub => (match asInt a with
  | some i => ∀ t, Q (.int (-i) t) z n
  | none => False)
 | .Invert | .UAdd => False
noncomputable def conE (k : Const) (z : Fz) (n : Led) (Q : KV) : Prop := match k with
 | .int i => ∀ t, Q (.int i t) z n
 | .str x => ∀ t, Q (.str x t) z n
 | .bool b => Q (.bool b) z n
 | .none => Q .none z n
 | .float _ | .complex .. | .bytes _ | .ellipsis => False
/-- a new list: in the ledger, or frozen at once -/
noncomputable def newL (vs : List Value) (z : Fz) (n : Led) (Q : KV) : Prop := (∀ a, Q (.ref a) z ((a, .lst vs) :: n)) ∨ (∀ a, z a = none → Q (.ref a) (fset z a (.lst vs)) n)
noncomputable def newlE (vs : List Value) (z : Fz) (n : Led) (Q : KV) : Prop := grd (Nat.ble vs.length 1000) (newL vs z n Q)
noncomputable def newtE (vs : List Value) (z : Fz) (n : Led) (Q : KV) : Prop := grd (Nat.ble vs.length 1000) (∀ a, z a = none → Q (.ref a) (fset z a (.tup vs)) n)
/-- the call itself, behind its arguments -/
noncomputable def callE (f : Value) (vs : List Value) (z : Fz) (n : Led) (Q : KV) : Prop :=
 (∀ s, St prog w K z n s → ∃ k, (k = Keeper.frame ∨ k = Keeper.machine ∨ k = Keeper.boundFrame) ∧ Looks (model prog w) s.heap (keeperOf f) k) ∧ W prog w K A (call f vs []) z n Q
noncomputable def methE (o : Value) (name : Str) (z : Fz) (n : Led) (Q : Value → List Value → Fz → Led → Prop) : Prop :=
 ∀ pl : Sem Bool, W prog w K A (getMethod o name pl) z n fun fx => Q fx.1 fx.2
noncomputable def attrE (o : Value) (name : Str) (z : Fz) (n : Led) (Q : KV) : Prop := W prog w K A (getAttr o name true) z n Q
/-- an item: its type's slot and the item -/
noncomputable def itemE (o i : Value) (z : Fz) (n : Led) (Q : KV) : Prop :=
 (∃ T id, (∀ s, St prog w K z n s → s.TypeIs o T) ∧ typeLookup (.type T) "__getitem__" = pure (some (.builtin id))) ∧ W prog w K A (getItem o i) z n Q
noncomputable def sliceE (o l u s : Value) (z : Fz) (n : Led) (Q : KV) : Prop :=
 ∀ i, z i = none → itemE prog w K A o (.ref i) (fset z i (.raw { cls := .type "slice", data := .fields #[l, u, s] })) n Q
noncomputable def setAttrE (o : Value) (x : Str) (v : Value) (z : Fz) (n : Led) (Q : Fz → Led → Prop) : Prop := W prog w K A (setAttr o x v) z n fun u_ => Q
noncomputable def setItemE (o i v : Value) (z : Fz) (n : Led) (Q : Fz → Led → Prop) : Prop := W prog w K A (setItem o i v) z n fun u_ => Q
variable (c : Cx)
/-- a tree that stands in the frame and may turn it -/
noncomputable abbrev SW {α : Type} (t : Sem α) (m : M) (z : Fz) (n : Led) (Q : α → M → Fz → Led → Prop) : Prop :=
 W prog w K A t z ((c.L, .ns c.sc c.g m) :: n) fun v z' n' => ∃ m1 n1, n' = (c.L, .ns c.sc c.g m1) :: n1 ∧ Q v m1 z' n1
/-- one that leaves it -/
noncomputable abbrev VW {α : Type} (t : Sem α) (m : M) (z : Fz) (n : Led) (Q : α → Fz → Led → Prop) : Prop :=
 W prog w K A t z ((c.L, .ns c.sc c.g m) :: n) fun v z' n' => ∃ n1, n' = (c.L, .ns c.sc c.g m) :: n1 ∧ Q v z' n1
noncomputable def nameE (x : Str) (m : M) (z : Fz) (n : Led) (Q : KV) : Prop := match lkm m x with
 | some o => (match o with
  | some v => Q v z n
  | none => False)
 | none => match lkv c.g x with
  | some v => Q v z n
  | none => match lka c.cl x with
   | some a => ∃ v, Hs z n a (.cell (some v)) ∧ Q v z n
   | none => False
noncomputable def cstE (x : Str) (a : Addr) (v : Value) (m : M) (z : Fz) (n : Led) (Q : M → Fz → Led → Prop) : Prop :=
 c.sc.names.lookup x = some .cell ∧ ∃ v0 n1, Up a (.cell v0) (.cell (some v)) n n1 ∧ Q m z n1
noncomputable def stE (x : Str) (v : Value) (m : M) (z : Fz) (n : Led) (Q : M → Fz → Led → Prop) : Prop := match lkm m x with
 | some _ => Q (putm m x v) z n
 | none => match lka c.cl x with
  | some a => cstE c x a v m z n Q
  | none => False
noncomputable def stEs : List Str → List Value → M → Fz → Led → (M → Fz → Led → Prop) → Prop
 | [], vs, m, z, n, Q => (match vs with
  | [] => Q m z n
  | _ :: _ => False)
 | x :: xs, vs, m, z, n, Q => (match vs with
  | [] => False
  | v :: r => stE c x v m z n fun m1 z1 n1 => stEs xs r m1 z1 n1 Q)
end
/-- may the call stand as methodCall or plain call: no star, no keyword -/
noncomputable def callOk (f : PySem.Expr) (es : List PySem.Expr) (ks : List Keyword) (p : Pos) : Bool := ks.isEmpty && es.all noStar && (tagE f == 23 || (match f with
 | .Attribute o _ ap => plainBase o && Nat.blt es.length 30 && Nat.beq ap.endLine p.line
 | .BoolOp .. | .NamedExpr .. | .BinOp .. | .UnaryOp .. | .Lambda .. | .IfExp .. | .Dict .. | .Set .. | .ListComp .. | .SetComp .. | .DictComp .. | .GeneratorExp .. | .Await .. | .Yield .. | .YieldFrom .. | .Compare .. | .Call ..
 | .FormattedValue .. | .JoinedStr .. | .Constant .. | .Subscript .. | .Starred .. | .Name .. | .List .. | .Tuple .. | .Slice .. => false))
noncomputable def isAnd : BoolOp → Bool
 | .And => true
 | .Or => false
noncomputable def cmpOk : List CmpOp → List PySem.Expr → Bool
 | [], _ => false
 | op :: oo, rs => oo.isEmpty && (match rs with
  | [] => false
  | r :: rr => rr.isEmpty && !behindInMarks op r)
section
variable (prog : Program) (w : World) (K : Frag) (A : Around) (c : Cx)
mutual
noncomputable def ev : PySem.Expr → M → Fz → Led → KV → Prop
 | .Constant k _ _, m, z, n, Q => conE k z n Q
 | .Name x _, m, z, n, Q => nameE c x m z n Q
 | .BinOp l op r _, m, z, n, Q => ev l m z n fun a z1 n1 => ev r m z1 n1 fun b z2 n2 => binE prog w K A op a b z2 n2 Q
 | .UnaryOp op x _, m, z, n, Q => ev x m z n fun a z1 n1 => unE prog w K A op a z1 n1 Q
 | .BoolOp op es _, m, z, n, Q => evb op es m z n Q
 | .IfExp t b o _, m, z, n, Q => tst t (ev t m) m z n fun k z1 n1 => brE k (ev b m z1 n1 Q) (ev o m z1 n1 Q)
 | .Compare l ops rs _, m, z, n, Q => grd (cmpOk ops rs) (ev l m z n fun a z1 n1 => evc rs ops a m z1 n1 Q)
 | .Call f es ks p, m, z, n, Q => grd (callOk f es ks p) (evf f m z n fun fv first z1 n1 => evs es m z1 n1 fun vs z2 n2 => callE prog w K A fv (first ++ vs) z2 n2 Q)
 | .Attribute o x _, m, z, n, Q => grd (plainBase o) (ev o m z n fun ov z1 n1 => attrE prog w K A ov x z1 n1 Q)
 | .Subscript v i _, m, z, n, Q => ev v m z n fun o z1 n1 => evi i (ev i m) o m z1 n1 Q
 | .List es _, m, z, n, Q => grd (es.all noStar) (evs es m z n fun vs z1 n1 => newlE vs z1 n1 Q)
 | .Tuple es _ _, m, z, n, Q => grd (es.all noStar) (evs es m z n fun vs z1 n1 => newtE vs z1 n1 Q)
 | .Dict ks vs p, m, z, n, Q => VW prog w K A c (eval (.Dict ks vs p) c.env) m z n Q
 | .ListComp e gs s p, m, z, n, Q => VW prog w K A c (eval (.ListComp e gs s p) c.env) m z n Q
 | .NamedExpr .., _, _, _, _ | .Lambda .., _, _, _, _ | .Set .., _, _, _, _ | .SetComp .., _, _, _, _ | .DictComp .., _, _, _, _ | .GeneratorExp .., _, _, _, _ | .Await .., _, _, _, _ | .Yield .., _, _, _, _ | .YieldFrom .., _, _, _, _
 | .FormattedValue .., _, _, _, _ | .JoinedStr .., _, _, _, _ | .Starred .., _, _, _, _ | .Slice .., _, _, _, _ => False
noncomputable def evs : List PySem.Expr → M → Fz → Led → (List Value → Fz → Led → Prop) → Prop
 | [], _, z, n, Q => Q [] z n
 | e :: r, m, z, n, Q => ev e m z n fun v z1 n1 => evs r m z1 n1 fun vs z2 n2 => Q (v :: vs) z2 n2
noncomputable def evo : Option PySem.Expr → M → Fz → Led → KV → Prop
 | none, _, z, n, Q => Q .none z n
 | some e, m, z, n, Q => ev e m z n Q
noncomputable def evb (op : BoolOp) : List PySem.Expr → M → Fz → Led → KV → Prop
 | [], _, _, _, _ => False
 | x :: r, m, z, n, Q => grd (isAnd op && Nat.beq r.length 1) (ev x m z n fun v z1 n1 => truE prog w K A v z1 n1 fun t z2 n2 => evd t v r m z2 n2 Q)
noncomputable def evd (t : Bool) (v : Value) : List PySem.Expr → M → Fz → Led → KV → Prop
 | [], _, _, _, _ => False
 | y :: _, m, z, n, Q => brE t (ev y m z n Q) (Q v z n)
noncomputable def evc : List PySem.Expr → List CmpOp → Value → M → Fz → Led → KV → Prop
 | [], _, _, _, _, _, _ => False
 | r :: _, ops, a, m, z, n, Q => (match ops with
  | [] => False
  | op :: _ => ev r m z n fun b z1 n1 => cmpE prog w K A op a b z1 n1 Q)
noncomputable def evf : PySem.Expr → M → Fz → Led → (Value → List Value → Fz → Led → Prop) → Prop
 | .Attribute o x _, m, z, n, Q => ev o m z n fun ov z1 n1 => methE prog w K A ov x z1 n1 Q
 | .Name x _, m, z, n, Q => nameE c x m z n fun f z1 n1 => Q f [] z1 n1
 | .BoolOp .., _, _, _, _ | .NamedExpr .., _, _, _, _ | .BinOp .., _, _, _, _ | .UnaryOp .., _, _, _, _ | .Lambda .., _, _, _, _ | .IfExp .., _, _, _, _ | .Dict .., _, _, _, _ | .Set .., _, _, _, _ | .ListComp .., _, _, _, _ | .SetComp .., _, _, _, _ | .DictComp .., _, _, _, _ | .GeneratorExp .., _, _, _, _ | .Await .., _, _, _, _
 | .Yield .., _, _, _, _ | .YieldFrom .., _, _, _, _ | .Compare .., _, _, _, _ | .Call .., _, _, _, _ | .FormattedValue .., _, _, _, _ | .JoinedStr .., _, _, _, _ | .Constant .., _, _, _, _ | .Subscript .., _, _, _, _ | .Starred .., _, _, _, _ | .List .., _, _, _, _ | .Tuple .., _, _, _, _ | .Slice .., _, _, _, _ => False
noncomputable def evi : PySem.Expr → (Fz → Led → KV → Prop) → Value → M → Fz → Led → KV → Prop
 | .Slice l u s _, _, o, m, z, n, Q => evo l m z n fun a z1 n1 => evo u m z1 n1 fun b z2 n2 => evo s m z2 n2 fun d z3 n3 => sliceE prog w K A o a b d z3 n3 Q
 | .BoolOp .., f, o, _, z, n, Q | .BinOp .., f, o, _, z, n, Q | .UnaryOp .., f, o, _, z, n, Q | .IfExp .., f, o, _, z, n, Q | .Compare .., f, o, _, z, n, Q | .Call .., f, o, _, z, n, Q | .Constant .., f, o, _, z, n, Q | .Attribute .., f, o, _, z, n, Q | .Subscript .., f, o, _, z, n, Q
 | .Name .., f, o, _, z, n, Q | .Tuple .., f, o, _, z, n, Q => f z n fun i z1 n1 => itemE prog w K A o i z1 n1 Q
 | .NamedExpr .., _, _, _, _, _, _ | .Lambda .., _, _, _, _, _, _ | .Dict .., _, _, _, _, _, _ | .Set .., _, _, _, _, _, _ | .ListComp .., _, _, _, _, _, _ | .SetComp .., _, _, _, _, _, _ | .DictComp .., _, _, _, _, _, _ | .GeneratorExp .., _, _, _, _, _, _ | .Await .., _, _, _, _, _, _
 | .Yield .., _, _, _, _, _, _ | .YieldFrom .., _, _, _, _, _, _ | .FormattedValue .., _, _, _, _, _, _ | .JoinedStr .., _, _, _, _, _, _ | .Starred .., _, _, _, _, _, _ | .List .., _, _, _, _, _, _ => False
noncomputable def tst : PySem.Expr → (Fz → Led → KV → Prop) → M → Fz → Led → KB → Prop
 | .UnaryOp op x _, _, m, z, n, Q => (match op with
  | .Not => tst x (ev x m) m z n fun b z1 n1 => Q (!b) z1 n1
  | .Invert | .UAdd | .USub => False)
 | .BoolOp op es _, _, m, z, n, Q => tsts op es m z n Q
 | .Compare l ops rs _, _, m, z, n, Q => grd (cmpOk ops rs) (ev l m z n fun a z1 n1 => evc rs ops a m z1 n1 fun v z2 n2 => truE prog w K A v z2 n2 Q)
 | .Name .., f, _, z, n, Q | .Call .., f, _, z, n, Q | .Attribute .., f, _, z, n, Q | .Subscript .., f, _, z, n, Q => f z n fun v z1 n1 => truE prog w K A v z1 n1 Q
 | .NamedExpr .., _, _, _, _, _ | .BinOp .., _, _, _, _, _ | .Lambda .., _, _, _, _, _ | .IfExp .., _, _, _, _, _ | .Dict .., _, _, _, _, _ | .Set .., _, _, _, _, _ | .ListComp .., _, _, _, _, _ | .SetComp .., _, _, _, _, _ | .DictComp .., _, _, _, _, _ | .GeneratorExp .., _, _, _, _, _ | .Await .., _, _, _, _, _
 | .Yield .., _, _, _, _, _ | .YieldFrom .., _, _, _, _, _ | .FormattedValue .., _, _, _, _, _ | .JoinedStr .., _, _, _, _, _ | .Constant .., _, _, _, _, _ | .Starred .., _, _, _, _, _ | .List .., _, _, _, _, _ | .Tuple .., _, _, _, _, _ | .Slice .., _, _, _, _, _ => False
noncomputable def tsts (op : BoolOp) : List PySem.Expr → M → Fz → Led → KB → Prop
 | [], _, z, n, Q => (match op with
  | .And => Q true z n
  | .Or => Q false z n)
 | e :: r, m, z, n, Q => tst e (ev e m) m z n fun b z1 n1 => (match op with
  | .And => brE b (tsts op r m z1 n1 Q) (Q false z1 n1)
  | .Or => brE b (Q true z1 n1) (tsts op r m z1 n1 Q))
end
end
section
variable {prog : Program} {w : World} {K : Frag} {A : Around} {α β : Type} {z z' : Fz} {n n' : Led} {c : Cx} {m : M}
/-! carriers -/
theorem W.holding {vs : List Value} {t : Sem α} {Q : α → Fz → Led → Prop} (h : W prog w K A t z n Q) : W prog w K A (PySem.holding vs t) z n Q := fun E s hs => wpAny_holding (h E s hs)
theorem W.standAt {p : Pos} {f : Unit → Sem α} {Q : α → Fz → Led → Prop} (h : W prog w K A (f ()) z n Q) : W prog w K A (PySem.standAt p >>= f) z n Q := fun E s hs => wpAny_bind (wpAny_standAt (h E s hs))
theorem W.point {f : Unit → Sem α} {Q : α → Fz → Led → Prop} (h : W prog w K A (f ()) z n Q) : W prog w K A (PySem.point >>= f) z n Q := fun E s hs => wpAny_bind (wpAny_point (h E s hs))
theorem W.rule {tag : String} {f : Unit → Sem α} {Q : α → Fz → Led → Prop} (h : W prog w K A (f ()) z n Q) : W prog w K A (PySem.rule tag >>= f) z n Q := fun E s hs => wpAny_bind (wpAny_rule (h E s hs))
theorem W.operate {vs : List Value} {t : Sem Value} {Q : KV} (h : W prog w K A t z n Q) : W prog w K A (PySem.operate vs t) z n Q := fun E s hs Γ p hΓ => by
 rw [Sem.wp_operate]; exact h E s hs Γ p hΓ
theorem W.let_go {base : Expr} {o r : Value} {f : Unit → Sem α} {Q : α → Fz → Led → Prop} (h : W prog w K A (f ()) z n Q) : W prog w K A (letTemporaryGo base o r >>= f) z n Q := fun E s hs =>
 wpAny_bind (wpAny_letTemporaryGo (h E s hs))
/-- entries that a tree does not touch, behind -/
theorem W.under {t : Sem α} {r : Led} {Q : α → Fz → Led → Prop} (h : W prog w K A t z n fun v z' n' => Q v z' (n' ++ r)) : W prog w K A t z (n ++ r) Q :=
 h.frame.mono fun v z' n' u_ h_ => oEA h_ fun n1 e q => e ▸ q
theorem W.ahead {t : Sem α} {r : Led} {Q : α → Fz → Led → Prop} (h : W prog w K A t z n fun v z' n' => Q v z' (r ++ n')) : W prog w K A t z (r ++ n) Q := fun E s hs =>
 wpAny_mono (h.frame (r := r) E s (hs.perm List.perm_append_comm)) (fun v s' h_ => oEEA h_ fun z' m st h_ => oEA h_ fun n1 e q => ⟨z', r ++ n1, (st.permL List.perm_append_comm).perm (e ▸ List.perm_append_comm), q⟩) fun u_ u_ e => e
theorem SW.k {t : Sem α} {Q : α → M → Fz → Led → Prop} {R : α → Fz → Led → Prop} (h : SW prog w K A c t m z n Q) (k : ∀ a m1 z1 n1, Le z z1 → Q a m1 z1 n1 → R a z1 ((c.L, .ns c.sc c.g m1) :: n1)) : W prog w K A t z ((c.L, .ns c.sc c.g m) :: n) R :=
 W.mono h fun a z1 n1 l h_ => oEEA h_ fun m2 n2 e q => e ▸ k a m2 z1 n2 l q
theorem VW.k {t : Sem α} {Q : α → Fz → Led → Prop} {R : α → Fz → Led → Prop} (h : VW prog w K A c t m z n Q) (k : ∀ a z1 n1, Le z z1 → Q a z1 n1 → R a z1 ((c.L, .ns c.sc c.g m) :: n1)) : W prog w K A t z ((c.L, .ns c.sc c.g m) :: n) R :=
 W.mono h fun a z1 n1 l h_ => oEA h_ fun n2 e q => e ▸ k a z1 n2 l q
/-- a tree that does not look at the frame -/
theorem VW.leaf {t : Sem α} {Q : α → Fz → Led → Prop} (h : W prog w K A t z n Q) : VW prog w K A c t m z n Q :=
 W.ahead (r := [_]) (h.mono fun v z' n' u_ q => ⟨n', rfl, q⟩)
theorem VW.bind {t : Sem α} {f : α → Sem β} {Q : β → Fz → Led → Prop} (h : VW prog w K A c t m z n fun a z1 n1 => VW prog w K A c (f a) m z1 n1 Q) : VW prog w K A c (t >>= f) m z n Q :=
 W.bind (W.mono h fun a z1 n1 u_ h_ => oEA h_ fun u_ e q => e ▸ q)
theorem VW.mono {t : Sem α} {Q Q' : α → Fz → Led → Prop} (h : VW prog w K A c t m z n Q) (k : ∀ a z1 n1, Q a z1 n1 → Q' a z1 n1) : VW prog w K A c t m z n Q' :=
 W.mono h fun a z1 n1 u_ h_ => oEA h_ fun n2 e q => ⟨n2, e, k _ _ _ q⟩
theorem VW.pure {a : α} {Q : α → Fz → Led → Prop} (h : Q a z n) : VW prog w K A c (pure a) m z n Q := W.pure ⟨n, rfl, h⟩
theorem SW.bindV {t : Sem α} {f : α → Sem β} {Q : β → M → Fz → Led → Prop} (h : VW prog w K A c t m z n fun a z1 n1 => SW prog w K A c (f a) m z1 n1 Q) : SW prog w K A c (t >>= f) m z n Q :=
 W.bind (W.mono h fun a z1 n1 u_ h_ => oEA h_ fun u_ e q => e ▸ q)
theorem SW.bind {t : Sem α} {f : α → Sem β} {Q : β → M → Fz → Led → Prop} (h : SW prog w K A c t m z n fun a m1 z1 n1 => SW prog w K A c (f a) m1 z1 n1 Q) : SW prog w K A c (t >>= f) m z n Q :=
 W.bind (W.mono h fun a z1 n1 u_ h_ => oEEA h_ fun u_ u_ e q => e ▸ q)
theorem SW.mono {t : Sem α} {Q Q' : α → M → Fz → Led → Prop} (h : SW prog w K A c t m z n Q) (k : ∀ a m1 z1 n1, Le z z1 → Q a m1 z1 n1 → Q' a m1 z1 n1) : SW prog w K A c t m z n Q' :=
 W.mono h fun a z1 n1 l h_ => oEEA h_ fun m2 n2 e q => ⟨m2, n2, e, k _ _ _ _ l q⟩
theorem SW.pure {a : α} {Q : α → M → Fz → Led → Prop} (h : Q a m z n) : SW prog w K A c (pure a) m z n Q := W.pure ⟨m, n, rfl, h⟩
theorem SW.leaf {t : Sem α} {Q : α → M → Fz → Led → Prop} (h : W prog w K A t z n fun v z1 n1 => Q v m z1 n1) : SW prog w K A c t m z n Q :=
 W.mono (VW.leaf h : VW prog w K A c t m z n fun v z1 n1 => Q v m z1 n1) fun v z1 n1 u_ h_ => oEA h_ fun n2 e q => ⟨m, n2, e, q⟩
/-! the operations -/
theorem asInt_some {v : Value} {i : Int} (h : asInt v = some i) : ∃ t, v = .int i t := by
 cases v with
 | int j t => cases h; exact ⟨t, rfl⟩
 | _ => exact noO h
theorem isNone_iff {v : Value} : (v == .none) = isNone v := by cases v <;> rfl
theorem isNone_true {v : Value} (h : isNone v = true) : v = .none := by
 cases v with
 | none => rfl
 | _ => exact no h
theorem intMulOk {i j : Int} (h1 : -(2 ^ 60) < i) (h2 : i < 2 ^ 60) : IntMulOk i j := IntMulOk.of_left (intBits_le_64 (by (first | lia | omega)) (by (first | lia | omega)))
theorem binE_ok {op : Operator} {a b : Value} {Q : KV} (h : binE prog w K A op a b z n Q) : W prog w K A (binaryOp op a b) z n Q := by
 unfold binE at h
 cases ha : asInt a with
 | none => rw [ha] at h; exact h
 | some i =>
  cases hb : asInt b with
  | none => rw [ha, hb] at h; exact h
  | some j =>
   rw [ha, hb] at h
   obtain ⟨t, rfl⟩ := asInt_some ha
   obtain ⟨u, rfl⟩ := asInt_some hb
   cases op with
   | Add => exact fun E s hs => PyProof.Rows.add_int ⟨_, _, Step.toks hs _, h _⟩
   | Sub => exact fun E s hs => PyProof.Rows.sub_int ⟨_, _, Step.toks hs _, h _⟩
   | Mult => exact fun E s hs => PyProof.Rows.mul_int ⟨_, _, Step.toks hs _, h.2 _⟩ (intMulOk h.1.1 h.1.2)
   | FloorDiv => exact fun E s hs => PyProof.Rows.floordiv_int h.1.1 ⟨_, _, Step.toks hs _, h.2 _⟩ (.inl (PyProof.noPylong_small h.1.2))
   | Mod => exact fun E s hs => PyProof.Rows.mod_int h.1 ⟨_, _, Step.toks hs _, h.2 _⟩
   | _ => exact h
theorem ibinE_ok {op : Operator} {a b : Value} {Q : KV} (h : ibinE prog w K A op a b z n Q) : W prog w K A (inplaceOp op a b) z n Q := by
 unfold ibinE at h
 cases ha : asInt a with
 | none => rw [ha] at h; exact h
 | some i =>
  cases hb : asInt b with
  | none => rw [ha, hb] at h; exact h
  | some j =>
   rw [ha, hb] at h
   obtain ⟨t, rfl⟩ := asInt_some ha
   obtain ⟨u, rfl⟩ := asInt_some hb
   cases op with
   | Add => exact fun E s hs => PyProof.Rows.iadd_int ⟨_, _, Step.toks hs _, h _⟩
   | Sub => exact fun E s hs => PyProof.Rows.isub_int ⟨_, _, Step.toks hs _, h _⟩
   | _ => exact h
theorem isE_ok {a b : Value} {Q : KV} (h : isE prog w K A a b z n Q) : W prog w K A (compareOp .Is a b) z n Q := by
 unfold isE at h
 cases hb : isNone b with
 | true =>
  rw [hb] at h
  have := isNone_true hb
  subst this
  exact fun E s hs => PySem.is_none ⟨_, _, Step.refl hs, by rw [isNone_iff]; exact h⟩
 | false => rw [hb] at h; exact h
theorem isnE_ok {a b : Value} {Q : KV} (h : isnE prog w K A a b z n Q) : W prog w K A (compareOp .IsNot a b) z n Q := by
 unfold isnE at h
 cases hb : isNone b with
 | true =>
  rw [hb] at h
  have := isNone_true hb
  subst this
  exact fun E s hs => PySem.isNot_none ⟨_, _, Step.refl hs, by rw [isNone_iff]; exact h⟩
 | false => rw [hb] at h; exact h
theorem cmpO_ok {op : CmpOp} {a b : Value} {Q : KV} (h : cmpO prog w K A op a b z n Q) : W prog w K A (compareOp op a b) z n Q := by
 cases op with
 | Is => exact isE_ok h
 | IsNot => exact isnE_ok h
 | _ => exact h
theorem cmpE_ok {op : CmpOp} {a b : Value} {Q : KV} (h : cmpE prog w K A op a b z n Q) : W prog w K A (compareOp op a b) z n Q := by
 unfold cmpE at h
 cases hb : asInt b with
 | none => rw [hb] at h; exact cmpO_ok h
 | some j =>
  cases ha : asInt a with
  | none => rw [ha, hb] at h; exact cmpO_ok h
  | some i =>
   rw [ha, hb] at h
   obtain ⟨t, rfl⟩ := asInt_some ha
   obtain ⟨u, rfl⟩ := asInt_some hb
   cases op with
   | Lt => exact fun E s hs => PyProof.Rows.lt_int ⟨_, _, Step.refl hs, h⟩
   | LtE => exact fun E s hs => PyProof.Rows.le_int ⟨_, _, Step.refl hs, h⟩
   | Gt => exact fun E s hs => PyProof.Rows.gt_int ⟨_, _, Step.refl hs, h⟩
   | GtE => exact fun E s hs => PyProof.Rows.ge_int ⟨_, _, Step.refl hs, h⟩
   | Eq => exact fun E s hs => PyProof.Rows.eq_int ⟨_, _, Step.refl hs, h⟩
   | NotEq => exact fun E s hs => PyProof.Rows.ne_int ⟨_, _, Step.refl hs, h⟩
   | _ => exact h
theorem truE_ok {v : Value} {Q : KB} (h : truE prog w K A v z n Q) : W prog w K A (truthy v) z n Q := by
 cases v with
 | bool b => exact fun E s hs => wpAny_truthy_bool ⟨_, _, Step.refl hs, h⟩
 | none => exact fun E s hs => PyProof.Rows.truthy_none ⟨_, _, Step.refl hs, h⟩
 | int => exact h
 | ref => exact h
 | _ => exact h.elim
theorem unE_ok {op : UnaryOp} {v : Value} {Q : KV} (h : unE prog w K A op v z n Q) : W prog w K A (unaryOp op v) z n Q := by
 unfold unE at h
 cases op with
 | Not => exact fun E s hs => PySem.not_value (wpAny_mono (truE_ok h E s hs) (fun u_ u_ q => q) fun u_ u_ e => e)
 | USub =>
  cases ha : asInt v with
  | none => rw [ha] at h; exact h.elim
  | some i =>
   rw [ha] at h
   obtain ⟨t, rfl⟩ := asInt_some ha
   exact fun E s hs => PyProof.Rows.neg_int ⟨_, _, Step.toks hs _, h _⟩
 | _ => exact h.elim
theorem conE_ok {k : Const} {i : Nat} {p : Pos} {env : Env} {Q : KV} (h : conE k z n Q) : W prog w K A (eval (.Constant k i p) env) z n Q := by
 unfold conE at h
 cases k with
 | int => exact fun E s hs => wpAny_Constant_int ⟨_, _, Step.toks hs _, h _⟩
 | str => exact fun E s hs => wpAny_Constant_str ⟨_, _, Step.toks hs _, h _⟩
 | bool => exact fun E s hs => wpAny_Constant_bool ⟨_, _, Step.refl hs, h⟩
 | none => exact fun E s hs => wpAny_Constant_none ⟨_, _, Step.refl hs, h⟩
 | _ => exact h.elim
theorem grd_and {b : Bool} {X : Prop} (h : grd b X) : b = true ∧ X := by
 cases b with
 | true => exact ⟨rfl, h⟩
 | false => exact h.elim
/-! the frame -/
structure CxOk (prog : Program) (w : World) (K : Frag) (A : Around) (c : Cx) : Prop where
 locals : c.env.locals = c.L
 scope : c.env.scope = c.sc
 kind : c.sc.kind = .function
 globals : c.env.globals = mainGlobals
 builtins : c.env.builtins = builtinsNs
 handled : A.handled = none
 cells : ∀ x a, lka c.cl x = some a → c.env.cells.lookup x = some a ∧ (c.sc.names.lookup x = some .cell ∨ c.sc.names.lookup x = some .free) ∧ (x == ("__classdict__" : Str)) = false ∧ (x == ("__debug__" : Str)) = false
theorem loadName_glob {x : Str} {v : Value} (hE : CxOk prog w K A c) (hl : c.sc.names.lookup x = some .globalImplicit) (hg : GlobIs K x v) {Q : KV} (h : Q v z n) : W prog w K A (loadName c.env x) z n Q := fun E s hs => by
 refine oEEAA hs.from fun mg mb g b h_ => oAA h_ fun u_ bt X => ?_
 have hk : c.env.scope.kind = .function := hE.scope ▸ hE.kind
 have hx : c.env.kindOf x = some .globalImplicit := by show c.env.scope.names.lookup x = _; rw [hE.scope]; exact hl
 have fin : wpAny (model prog w) A (loadGlobal c.env x) (fun v s' => ∃ z' n', Step prog w K z n s z' n' s' ∧ Q v z' n') E s := by
  rcases hg.2 with e | ⟨e1, e2, e3⟩
  ·exact loadGlobal_global (mg := mg) (by rw [hE.globals]; exact g) (mg_of X g e) ⟨_, _, .refl hs, h⟩
  ·exact loadGlobal_builtin (mg := mg) (mb := mb) (by rw [hE.globals]; exact g) (mg_none_of X g e1) (by rw [hE.builtins]; exact b) ((bt x e3).trans e2) ⟨_, _, .refl hs, h⟩
 rw [loadName_read hk hx]
 exact fin
theorem nsIs {s : Shared} (hs : St prog w K z ((c.L, .ns c.sc c.g m) :: n) s) :
  ∃ mm, s.heap.Ns c.L mm ∧ (∀ x v, lkm m x = some v → mm x = v) ∧ (∀ x v, lkm m x = some v → c.sc.names.lookup x = some .local ∧ x ≠ "__debug__") ∧ ∀ x v, lkv c.g x = some v → c.sc.names.lookup x = some .globalImplicit ∧ GlobIs K x v := by
 obtain ⟨o, ho, ⟨es, ep, hd, hk, hf⟩, h2, h3⟩ := hs.led _ (.head _)
 exact ⟨fun x => nsFind es x, ⟨o, es, ep, ho, hd, hk, fun u_ => rfl⟩, hf, h2, h3⟩
theorem notDebug {x : Str} (h : x ≠ "__debug__") : (x == ("__debug__" : Str)) = false := beq_eq_false_iff_ne.mpr h
theorem cell_load {x : Str} {a : Addr} {v : Value} {n : Led} {Q : KV} (hE : CxOk prog w K A c) (hc : lka c.cl x = some a) (h : Hs z n a (.cell (some v))) (q : Q v z n) : W prog w K A (loadName c.env x) z n Q := fun E s hs => by
 refine oEA (h.at hs) fun o ho hd => ?_
 refine oAAA (hE.cells x a hc) fun h1 h2 h3 u_ => ?_
 rcases h2 with hk | hk
 ·exact wpAny_loadName_cell (by rw [hE.scope]; exact hE.kind) (by show c.env.scope.names.lookup x = _; rw [hE.scope]; exact hk) h1 ⟨o, ho, hd⟩ ⟨_, _, .refl hs, q⟩
 ·exact wpAny_loadName_free (by rw [hE.scope]; exact hE.kind) (by show c.env.scope.names.lookup x = _; rw [hE.scope]; exact hk) h1 ⟨o, ho, hd⟩ ⟨_, _, .refl hs, q⟩ h3
/-- a name is loaded; and no __debug__ -/
theorem nameE_load {x : Str} {Q : KV} (hE : CxOk prog w K A c) (h : nameE c x m z n Q) : (x == ("__debug__" : Str)) = false ∨ True → VW prog w K A c (loadName c.env x) m z n Q := fun u_ E s hs => by
 refine oEAAA (nsIs hs) fun mm hn h1 h2 h3 => ?_
 unfold nameE at h
 cases hm : lkm m x with
 | some o =>
  rw [hm] at h
  cases o with
  | none => exact h.elim
  | some v => exact wpAny_loadName_local (hE.scope ▸ hE.kind) (by show c.env.scope.names.lookup x = _; rw [hE.scope]; exact (h2 x _ hm).1) (hE.locals ▸ hn) (h1 x _ hm) ⟨_, _, .refl hs, n, rfl, h⟩
 | none =>
  rw [hm] at h
  cases hg : lkv c.g x with
  | some v => rw [hg] at h; exact loadName_glob hE (h3 x _ hg).1 (h3 x _ hg).2 (Q := fun v z' n' => ∃ n1, n' = (c.L, .ns c.sc c.g m) :: n1 ∧ Q v z' n1) ⟨n, rfl, h⟩ E s hs
  | none =>
   rw [hg] at h
   cases hc : lka c.cl x with
   | none => rw [hc] at h; exact h.elim
   | some a =>
    rw [hc] at h
    refine oEA h fun v hv q => ?_
    clear h
    exact cell_load hE hc (hv.imp id (.tail _)) (Q := fun v z' n' => ∃ n1, n' = (c.L, .ns c.sc c.g m) :: n1 ∧ Q v z' n1) ⟨n, rfl, q⟩ E s hs
theorem nameE_dbg {x : Str} {Q : KV} (hE : CxOk prog w K A c) {s : Shared} (hs : St prog w K z ((c.L, .ns c.sc c.g m) :: n) s) (h : nameE c x m z n Q) : (x == ("__debug__" : Str)) = false := by
 refine oEAAA (nsIs hs) fun mm hn h1 h2 h3 => ?_
 unfold nameE at h
 cases hm : lkm m x with
 | some o => exact notDebug (h2 x _ hm).2
 | none =>
  rw [hm] at h
  cases hg : lkv c.g x with
  | some v => exact notDebug (h3 x _ hg).2.1
  | none =>
   rw [hg] at h
   cases hc : lka c.cl x with
   | none => rw [hc] at h; exact h.elim
   | some a => exact (hE.cells x a hc).2.2.2
theorem nameE_ok {x : Str} {p : Pos} {Q : KV} (hE : CxOk prog w K A c) (h : nameE c x m z n Q) : VW prog w K A c (eval (.Name x p) c.env) m z n Q := fun E s hs =>
 W.of_eq (eval_Name c.env x p (nameE_dbg hE hs h)) (W.standAt (nameE_load hE h (.inr trivial))) E s hs
theorem lkm_some_putm : ∀ {m : M} {x : Str} {u : Value} {y : Str} {v : Option Value}, lkm (putm m x u) y = some v → ∃ v0, lkm m y = some v0
 | [], _, _, _, _, h => by cases h
 | (k, v0) :: r, x, u, y, v, h => by
  rw [putm_c] at h
  rw [lkm_c]
  by_cases hy : y = k
  ·exact ⟨v0, by rw [if_pos hy]⟩
  ·rw [if_neg hy]
   by_cases hx : x = k
   ·rw [if_pos hx] at h
    rw [lkm_c] at h
    rw [if_neg hy] at h
    exact ⟨v, h⟩
   ·rw [if_neg hx] at h
    rw [lkm_c] at h
    rw [if_neg hy] at h
    exact lkm_some_putm h
theorem stE_ok {x : Str} {v : Value} {Q : M → Fz → Led → Prop} (hE : CxOk prog w K A c) (h : stE c x v m z n Q) : SW prog w K A c (storeName c.env x v) m z n fun u_ => Q := fun E s hs => by
 unfold stE at h
 cases hm : lkm m x with
 | some v0 =>
  rw [hm] at h
  refine oEAAA (nsIs hs) fun mm hn h1 h2 h3 => ?_
  refine wpAny_storeName_local (by show c.env.scope.names.lookup x = _; rw [hE.scope]; exact (h2 x _ hm).1) (hE.locals ▸ hn) (fun h' hn' sb => ?_) (by rw [hE.scope, hE.kind]; rfl)
  rw [hE.locals] at hn' sb
  refine ⟨_, _, Step.upd hs (Up.head) sb ?_, _, n, rfl, h⟩
  refine oEEEAAA hn' fun o es ep ho hd hk hf => ?_
  clear hn'
  refine ⟨o, ho, ⟨es, ep, hd, hk, fun y u e => ?_⟩, fun y u e => ?_, h3⟩
  ·rw [hf]
   rcases lkm_putm m x v y u e with ⟨rfl, rfl⟩ | ⟨hne, e'⟩
   ·exact if_pos rfl
   ·show (if y = x then some v else mm y) = u; rw [if_neg hne]; exact h1 y u e'
  ·obtain ⟨v1, e1⟩ := lkm_some_putm e
   exact h2 y v1 e1
 | none =>
  rw [hm] at h
  cases hc : lka c.cl x with
  | none => rw [hc] at h; exact h.elim
  | some a =>
   rw [hc] at h
   refine oAEEA h fun hk v0 n1 U q => ?_
   clear h
   have U' := Up.tail (p := (c.L, Lo.ns c.sc c.g m)) U
   refine oEA (hs.led _ U'.mem) fun o ho hd => ?_
   exact wpAny_storeName_cell (by rw [hE.scope]; exact hE.kind) (by show c.env.scope.names.lookup x = _; rw [hE.scope]; exact hk) (hE.cells x a hc).1 ⟨o, ho, hd⟩ fun h' hc' sb => ⟨_, _, Step.upd hs U' sb hc', m, n1, rfl, q⟩
theorem SW.bindName {x : Str} {v : Value} {Q : M → Fz → Led → Prop} (hE : CxOk prog w K A c) (h : stE c x v m z n Q) : SW prog w K A c (bindName c.env x v) m z n fun u_ => Q := fun E s hs => wpAny_bindName (stE_ok hE h E s hs)
end
theorem iteP {prog : Program} {w : World} {A : Around} {c : Prop} {_ : Decidable c} {P : Value → Shared → Prop} {E : Value → Shared → Prop} {s : Shared} {a b : Sem Value} (h1 : wpAny (model prog w) A a P E s) (h2 : wpAny (model prog w) A b P E s) : wpAny (model prog w) A (if c then a else b) P E s := by
 by_cases h : c
 ·rw [if_pos h]; exact h1
 ·rw [if_neg h]; exact h2
section
variable {prog : Program} {w : World} {K : Frag} {A : Around} {α β : Type} {z z' : Fz} {n n' : Led} {c : Cx} {m : M}
theorem callE_ok {pos : Pos} {f : Value} {first : List Value} {args : List (Bool × Sem Value)} {Q : KV} (hp : args.any (·.1) = false)
  (h : VW prog w K A c (spliced args) m z n fun vs z1 n1 => callE prog w K A f (first ++ vs) z1 n1 Q) : VW prog w K A c (callWith pos f first args []) m z n Q := fun E s hs => by
 suffices H : ∀ PP : Value → Shared → Prop, (∀ v s' z' n1, Step prog w K z ((c.L, .ns c.sc c.g m) :: n) s z' ((c.L, .ns c.sc c.g m) :: n1) s' → Q v z' n1 → PP v s') → wpAny (model prog w) A (callWith pos f first args []) PP E s from H _ fun v s' z' n1 st q => ⟨z', _, st, n1, rfl, q⟩
 intro PP hPP
 have key : ∀ R : Args → Shared → Prop, (∀ vs s1 z1 n1, Step prog w K z ((c.L, .ns c.sc c.g m) :: n) s z1 ((c.L, .ns c.sc c.g m) :: n1) s1 → callE prog w K A f (first ++ vs) z1 n1 Q → R ⟨vs, []⟩ s1) → wpAny (model prog w) A (evalArgs f true args []) R E s := fun R hR => by
  cases args with
  | nil =>
   unfold evalArgs
   show wpAny (model prog w) A (spliced [] >>= _) _ E s
   refine wpAny_bind (W.runk hs (VW.k h fun vs z1 n1 u_ q s1 st => ?_))
   refine wpAny_bind (wpAny_pure ?_)
   refine wpAny_holding ?_
   exact wpAny_bind (wpAny_pure (wpAny_bind (wpAny_pure (wpAny_pure (hR _ _ _ _ st q)))))
  | cons p r =>
   obtain ⟨b, x⟩ := p
   have hb : b = false := by rw [List.any_cons, Bool.or_eq_false_iff] at hp; exact hp.1
   subst hb
   exact evalArgs_plain (W.runk hs (VW.k h fun vs z1 n1 u_ q s1 st => hR _ _ _ _ st q))
 unfold callWith
 refine wpAny_bind (wpAny_holding (key _ fun vs s₁ z1 n1 st hq => wpAny_bind (wpAny_standAt ?_)))
 clear key
 obtain ⟨hkeep, hcall⟩ := hq
 refine oEA (hkeep s₁ (st.st.drop (List.sublist_cons_self _ _))) fun k hk' Lk => ?_
 rw [hp]
 have hc' : wpAny (model prog w) A (call f (first ++ vs) []) PP E s₁ := W.runk st.st (VW.k (c := c) (m := m) (VW.leaf hcall) fun v z2 n2 u_ q s2 st2 => hPP _ _ _ _ (st.trans st2 hs.ztb) q)
 refine wpAny_bind (Lk.here ?_)
 have tail : ∀ {t : Sem Value}, wpAny (model prog w) A t PP E s₁ → wpAny (model prog w) A (t >>= fun r => PySem.holding [r] PySem.point >>= fun u_ => pure r) PP E s₁ :=
  fun ht => wpAny_bind (wpAny_mono ht (fun r s₂ hr => wpAny_bind (wpAny_holding (wpAny_point (wpAny_pure hr)))) fun u_ u_ x => x)
 have marked (mk : Value) : wpAny (model prog w) A (callMarked mk f (first ++ vs) []) PP E s₁ := by unfold callMarked; exact Calls.wpAny_keep hc'
 clear hPP hcall
 rcases hk' with rfl | rfl | rfl
 ·exact iteP (tail hc') (tail (marked _))
 ·exact tail hc'
 ·exact iteP (tail hc') (tail (marked _))
theorem noStar_cons {e : Expr} {r : List Expr} {env : Env} (h : noStar e = true) : starEach (e :: r) env = (false, eval e env) :: starEach r env := by
 cases e with
 | Starred => cases h
 | _ => rfl
theorem starEach_noStar (env : Env) : ∀ {es : List Expr}, es.all noStar = true → starEach es env = es.map fun e => (false, eval e env)
 | [], _ => rfl
 | e :: r, h => by
  rw [List.all_cons, Bool.and_eq_true] at h
  rw [noStar_cons h.1, starEach_noStar env h.2, List.map_cons]
theorem isStarred_any (pos : Pos) {es : List Expr} {env : Env} (h : es.all noStar = true) : (backTo pos (starEach es env)).any (·.1) = false := by
 rw [starEach_noStar env h]
 unfold backTo
 rw [List.any_eq_false]
 intro x hx
 refine oEA (List.mem_map.mp hx) fun y hy e0_ => ?_
 subst e0_
 refine oEA (List.mem_map.mp hy) fun e u_ e0_ => ?_
 subst e0_
 exact Bool.false_ne_true
theorem attributeBase_plain {o : Expr} {x : Str} {env : Env} {whole : Sem Value} (h : plainBase o = true) : attributeBase o x env whole = whole := by
 cases o with
 | Call f a k p => cases f with
  | Attribute => rfl
  | _ => exact no h
 | Name => rfl
 | Attribute => rfl
 | Subscript => rfl
 | _ => exact no h
theorem newL.out {vs : List Value} {Q : KV} (h : newL vs z n Q) {s : Shared} {tk : Nat} (hs : St prog w K z n s) : ∃ z' n', Step prog w K z n s z' n' { s with heap := s.heap.push { cls := .type "list", data := .seq vs.toArray }, toks := tk } ∧ Q (.ref s.heap.objs.size) z' n' := by
 have st := (Step.push (tk := tk) hs (lo := .lst vs) (o := { cls := .type "list", data := .seq vs.toArray }) ⟨rfl, rfl, rfl, 0, rfl⟩ rfl).perm (ins_perm _ _)
 rcases h with h | h
 ·exact ⟨_, _, st, h _⟩
 ·exact ⟨_, _, st.freeze, h _ hs.fresh⟩
theorem newlE_ok {vs : List Value} {Q : KV} (h : newlE vs z n Q) : W prog w K A (newList vs) z n Q := fun E s hs => by
 obtain ⟨hl, h⟩ := grd_and h
 exact wpAny_newObj_type (h.out hs) (by show vs.toArray.size ≤ sizeLine; rw [List.size_toArray, sizeLine_eq]; exact Nat.le_trans (Nat.le_of_ble_eq_true hl) (by decide))
theorem newtE_ok {vs : List Value} {Q : KV} (h : newtE vs z n Q) : W prog w K A (newTuple vs) z n Q := fun E s hs => by
 obtain ⟨hl, h⟩ := grd_and h
 exact wpAny_newObj_type ⟨_, _, Step.pushZ hs (lo := .tup vs) ⟨rfl, 0, rfl⟩ rfl, h _ hs.fresh⟩ (by show vs.toArray.size ≤ sizeLine; rw [List.size_toArray, sizeLine_eq]; exact Nat.le_trans (Nat.le_of_ble_eq_true hl) (by decide))
theorem subscripted_cases {slice : Expr} {o i : Value} {P : Sem Value → Prop} (h0 : P (operate [i, o] (getItem o i))) (h1 : P (operate [o, i] (getItem o i))) : P (subscripted slice false o i) := by
 cases slice with
 | Slice l u st p => cases st with
  | none => exact h0
  | some _ => exact h1
 | _ => exact h1
theorem itemE_ok {base slice : Expr} {o i : Value} {Q : KV} (h : itemE prog w K A o i z n Q) :
  W prog w K A (getitemInPython o >>= fun b => subscripted slice b o i >>= fun r => letTemporaryGo base o r >>= fun u_ => pure r) z n Q := fun E s hs => by
 refine oEEA h.1 fun T id hT hl => ?_
 rw [getitemInPython_of_ne (hT s hs).not_modules]
 refine wpAny_bind (wpAny_bind (wpAny_specialOf (hT s hs) hl (wpAny_pure ?_)))
 have hg := h.2 E s hs
 have go : ∀ (r : Value) (s₃ : Shared), (∃ z' n', Step prog w K z n s z' n' s₃ ∧ Q r z' n') → wpAny (model prog w) A (letTemporaryGo base o r >>= fun u_ => pure r) (fun v s' => ∃ z' n', Step prog w K z n s z' n' s' ∧ Q v z' n') E s₃ := fun r s₃ q => by
  refine wpAny_bind (wpAny_letTemporaryGo ?_)
  exact wpAny_pure q
 have fin : wpAny (model prog w) A (subscripted slice false o i) (fun r s₃ => wpAny (model prog w) A (letTemporaryGo base o r >>= fun u_ => pure r) (fun v s' => ∃ z' n', Step prog w K z n s z' n' s' ∧ Q v z' n') E s₃) E s := by
  refine subscripted_cases (P := fun t => wpAny (model prog w) A t _ E s) ?_ ?_ <;> (intro Γ p hΓ; rw [Sem.wp_operate]; exact (wpAny_mono hg (fun r s₃ q => go r s₃ q) fun u_ u_ e => e) Γ p hΓ)
 exact wpAny_bind fin
theorem isTrue_val {e : Expr} {Q : KB} (h : VW prog w K A c (eval e c.env) m z n fun v z1 n1 => truE prog w K A v z1 n1 Q) (he : isTrue e c.env (eval e c.env) = (do let v ← eval e c.env; standAt e.pos; holding [v] (truthy v)) := by rfl) :
  VW prog w K A c (isTrue e c.env (eval e c.env)) m z n Q := W.of_eq he (VW.bind (h.mono fun v z1 n1 h1 => W.standAt (W.holding (VW.leaf (truE_ok h1)))))
theorem and3 {a b d : Bool} (h : (a && b && d) = true) : a = true ∧ b = true ∧ d = true := by cases a <;> cases b <;> cases d <;> first | exact ⟨rfl, rfl, rfl⟩ | cases h
theorem callOk_parts {f : Expr} {es : List Expr} {ks : List Keyword} {p : Pos} (h : callOk f es ks p = true) : ks = [] ∧ es.all noStar = true := by
 unfold callOk at h
 refine oAA (and3 h) fun h1 h2 u_ => ?_
 exact ⟨List.isEmpty_iff.mp h1, h2⟩
theorem callAttr {o : Expr} {x : Str} {ap : Pos} {es : List Expr} {p : Pos} {Q : KV} (hk : callOk (.Attribute o x ap) es [] p = true)
  (h : VW prog w K A c (eval o c.env) m z n fun ov z1 n1 => methE prog w K A ov x z1 n1 fun f first z2 n2 => VW prog w K A c (spliced (backTo p (starEach es c.env))) m z2 n2 fun vs z3 n3 => callE prog w K A f (first ++ vs) z3 n3 Q) :
  VW prog w K A c (eval (.Call (.Attribute o x ap) es [] p) c.env) m z n Q := by
 have hst := (callOk_parts hk).2
 have hb : (plainBase o && Nat.blt es.length 30 && Nat.beq ap.endLine p.line) = true := by
  unfold callOk at hk
  exact (and3 hk).2.2
 refine oAA (and3 hb) fun hb1 hlen hline => ?_
 refine W.of_eq (arm_eval_Call o x ap es [] p c.env) ?_
 rw [attributeBase_plain hb1]
 refine VW.bind (h.mono fun ov z1 n1 h1 => W.standAt ?_)
 have few : methodCallForm (es.length + ([] : List Keyword).length) (backTo p (starEach es c.env)) (backToKw p (keywordEach [] c.env)) = true := by
  unfold methodCallForm
  have h1 : (backTo p (starEach es c.env)).all (fun x => !x.1) = true := by
   have := isStarred_any (env := c.env) p hst
   rw [List.any_eq_false] at this
   rw [List.all_eq_true]
   intro y hy
   have := this y hy
   simpa using this
  have h2 : es.length < 30 := Nat.le_of_ble_eq_true hlen
  rw [h1]
  exact decide_eq_true (show es.length + 0 + 0 < 30 from h2)
 unfold methodCall
 rw [few]
 have hpos : methodCallPos true o c.env ap p = pure p := by
  unfold methodCallPos
  rw [beq_iff_eq.mpr (Nat.eq_of_beq_eq_true hline)]; rfl
 rw [hpos]
 unfold calleeOf
 simp only [if_true]
 refine VW.bind (W.holding ((VW.leaf (h1 _)).mono fun fx z2 n2 h2 => ?_))
 exact VW.bind (VW.pure (callE_ok (isStarred_any p hst) h2))
theorem callName {x : Str} {xp : Pos} {es : List Expr} {p : Pos} {Q : KV} (hst : es.all noStar = true)
  (h : VW prog w K A c (eval (.Name x xp) c.env) m z n fun f z1 n1 => VW prog w K A c (spliced (backTo p (starEach es c.env))) m z1 n1 fun vs z2 n2 => callE prog w K A f ([] ++ vs) z2 n2 Q) :
  VW prog w K A c (eval (.Call (.Name x xp) es [] p) c.env) m z n Q :=
 W.of_eq (t' := eval (.Name x xp) c.env >>= fun f => callWith p f [] (backTo p (starEach es c.env)) (backToKw p (keywordEach [] c.env))) rfl (VW.bind (h.mono fun f z1 n1 h1 => callE_ok (isStarred_any p hst) h1))
end
section
variable {prog : Program} {w : World} {K : Frag} {A : Around} {c : Cx} {m : M}
theorem and2_ok {x y : Expr} {p : Pos} {z : Fz} {n : Led} {Q : KV} (h : VW prog w K A c (eval x c.env) m z n fun v z1 n1 => truE prog w K A v z1 n1 fun t z2 n2 => brE t (VW prog w K A c (eval y c.env) m z2 n2 Q) (Q v z2 n2)) : VW prog w K A c (eval (.BoolOp .And [x, y] p) c.env) m z n Q := fun E s hs => by
 refine wpAny_And2 (W.runk hs (VW.k h fun v z1 n1 u_ h1 s1 st1 => ?_))
 refine W.runk st1.st (VW.k (VW.leaf (truE_ok h1)) fun t z2 n2 u_ h2 s2 st2 => ?_)
 cases t with
 | true => exact W.runk st2.st (W.mono h2 fun u z3 n3 u_ h3 s3 st3 => ⟨z3, n3, (st1.trans st2 hs.ztb).trans st3 hs.ztb, h3⟩)
 | false => exact ⟨z2, _, st1.trans st2 hs.ztb, n2, rfl, h2⟩
theorem cmp1_ok {l r : Expr} {op : CmpOp} {p : Pos} {z : Fz} {n : Led} {Q : KV} (h0 : behindInMarks op r = false) (h : VW prog w K A c (eval l c.env) m z n fun a z1 n1 => VW prog w K A c (eval r c.env) m z1 n1 fun b z2 n2 => cmpE prog w K A op a b z2 n2 Q) :
  VW prog w K A c (eval (.Compare l [op] [r] p) c.env) m z n Q := by
 refine W.of_eq (eval_Compare1 c.env l op r p) (VW.bind (h.mono fun a z1 n1 h1 => VW.bind (W.holding ?_)))
 rw [markedBehindIn_of_false h0]
 exact h1.mono fun b z2 n2 h2 => W.standAt (W.operate (VW.leaf (cmpE_ok h2)))
theorem tcmp1_ok {l r : Expr} {op : CmpOp} {p : Pos} {z : Fz} {n : Led} {Q : KB} (h0 : behindInMarks op r = false) (h : VW prog w K A c (eval l c.env) m z n fun a z1 n1 => VW prog w K A c (eval r c.env) m z1 n1 fun b z2 n2 => cmpE prog w K A op a b z2 n2 fun v z3 n3 => truE prog w K A v z3 n3 Q) :
  VW prog w K A c (isTrue (.Compare l [op] [r] p) c.env (eval (.Compare l [op] [r] p) c.env)) m z n Q := by
 refine W.of_eq (isTrue_Compare1 c.env l op r p _) (VW.bind (h.mono fun a z1 n1 h1 => VW.bind (W.holding ?_)))
 rw [markedBehindIn_of_false h0]
 exact h1.mono fun b z2 n2 h2 => W.standAt (VW.bind (W.operate ((VW.leaf (cmpE_ok h2)).mono fun v z3 n3 h3 => W.holding (VW.leaf (truE_ok h3)))))
theorem items_cons {e : Expr} {r : List Expr} {pos : Pos} {z : Fz} {n : Led} {Q : List Value → Fz → Led → Prop} (he : noStar e = true) (h : VW prog w K A c (eval e c.env) m z n fun v z1 n1 => VW prog w K A c (spliced (backTo pos (starEach r c.env))) m z1 n1 fun vs z2 n2 => Q (v :: vs) z2 n2) :
  VW prog w K A c (spliced (backTo pos (starEach (e :: r) c.env))) m z n Q := fun E s hs =>
 wpAny_items_cons (W.runk hs (VW.k h fun v z1 n1 u_ h1 s1 st1 => W.runk st1.st (W.mono h1 fun vs z2 n2 u_ h2 s2 st2 => ⟨z2, n2, st1.trans st2 hs.ztb, h2⟩))) (noStar_cons he)
theorem allTrue_cons {op : BoolOp} {e : Expr} {r : List Expr} {z : Fz} {n : Led} {Q : KB} (h : VW prog w K A c (isTrue e c.env (eval e c.env)) m z n fun b z1 n1 => (match op with
   | .And => brE b (VW prog w K A c (allTrue op r c.env) m z1 n1 Q) (Q false z1 n1)
   | .Or => brE b (Q true z1 n1) (VW prog w K A c (allTrue op r c.env) m z1 n1 Q))) : VW prog w K A c (allTrue op (e :: r) c.env) m z n Q := fun E s hs => by
 cases op with
 | And =>
  refine wpAny_allTrue_And_cons (W.runk hs (VW.k h fun b z1 n1 u_ h1 s1 st1 => ?_))
  cases b with
  | true => exact W.runk st1.st (W.mono h1 fun u_ z2 n2 u_ h2 s2 st2 => ⟨z2, n2, st1.trans st2 hs.ztb, h2⟩)
  | false => exact ⟨z1, _, st1, n1, rfl, h1⟩
 | Or =>
  refine wpAny_allTrue_Or_cons (W.runk hs (VW.k h fun b z1 n1 u_ h1 s1 st1 => ?_))
  cases b with
  | true => exact ⟨z1, _, st1, n1, rfl, h1⟩
  | false => exact W.runk st1.st (W.mono h1 fun u_ z2 n2 u_ h2 s2 st2 => ⟨z2, n2, st1.trans st2 hs.ztb, h2⟩)
theorem brE_mono {b : Bool} {X Y X' Y' : Prop} (f : X → X') (g : Y → Y') (h : brE b X Y) : brE b X' Y' := by
 cases b with
 | true => exact f h
 | false => exact g h
theorem subsc_ok {v i : Expr} {p : Pos} {z : Fz} {n : Led} {Q : KV} (h : VW prog w K A c (eval v c.env) m z n fun o z1 n1 => VW prog w K A c (eval i c.env) m z1 n1 fun iv z2 n2 => itemE prog w K A o iv z2 n2 Q) : VW prog w K A c (eval (.Subscript v i p) c.env) m z n Q :=
 W.of_eq (arm_eval_Subscript v i p c.env) (VW.bind (h.mono fun o z1 n1 h1 => VW.bind (W.holding (h1.mono fun iv z2 n2 h2 => W.standAt (VW.leaf (itemE_ok h2))))))
theorem slice_ok {l u st : Option Expr} {p : Pos} {z : Fz} {n : Led} {Q : KV} (h : VW prog w K A c (valueOrNone (evalOpt l c.env)) m z n fun a z1 n1 => VW prog w K A c (valueOrNone (evalOpt u c.env)) m z1 n1 fun b z2 n2 => VW prog w K A c (valueOrNone (evalOpt st c.env)) m z2 n2 fun d z3 n3 =>
  ∀ i, z3 i = none → Q (.ref i) (fset z3 i (.raw { cls := .type "slice", data := .fields #[a, b, d] })) n3) : VW prog w K A c (eval (.Slice l u st p) c.env) m z n Q := by
 refine W.of_eq (arm_eval_Slice l u st p c.env) (VW.bind (h.mono fun a z1 n1 h1 => VW.bind (W.holding (h1.mono fun b z2 n2 h2 => VW.bind (W.holding (h2.mono fun d z3 n3 h3 => ?_))))))
 intro E s hs
 exact wpAny_newObj_type ⟨_, _, Step.pushZ hs (lo := .raw { cls := .type "slice", data := .fields #[a, b, d] }) rfl rfl, n3, rfl, h3 _ hs.fresh⟩ (by show ([a, b, d] : List Value).toArray.size ≤ sizeLine + 2; rw [sizeLine_eq]; exact (by decide : (3 : Nat) ≤ 16777216 + 2))
theorem truE_mono {v : Value} {z : Fz} {n : Led} {Q Q' : KB} (h : truE prog w K A v z n Q) (k : ∀ t z1 n1, Q t z1 n1 → Q' t z1 n1) : truE prog w K A v z n Q' := by
 cases v with
 | bool b => exact k _ _ _ h
 | none => exact k _ _ _ h
 | int => exact W.mono h fun u_ u_ u_ u_ => k _ _ _
 | ref => exact W.mono h fun u_ u_ u_ u_ => k _ _ _
 | _ => exact h.elim
theorem cmpOk_parts {ops : List CmpOp} {rs : List PySem.Expr} (h : cmpOk ops rs = true) : ∃ op r, ops = [op] ∧ rs = [r] ∧ behindInMarks op r = false := by
 cases ops with
 | nil => cases h
 | cons op oo =>
  unfold cmpOk at h
  obtain ⟨h1, h2⟩ := Bool.and_eq_true_iff.mp h
  cases rs with
  | nil => cases h2
  | cons r rr =>
   obtain ⟨h3, h4⟩ := Bool.and_eq_true_iff.mp h2
   refine ⟨op, r, by rw [List.isEmpty_iff.mp h1], by rw [List.isEmpty_iff.mp h3], ?_⟩
   rw [Bool.not_eq_true'] at h4
   exact h4
noncomputable abbrev OkE (prog : Program) (w : World) (K : Frag) (A : Around) (c : Cx) (m : M) (e : PySem.Expr) : Prop := ∀ (z : Fz) (n : Led) (Q : KV), ev prog w K A c e m z n Q → VW prog w K A c (eval e c.env) m z n Q
noncomputable abbrev OkT (prog : Program) (w : World) (K : Frag) (A : Around) (c : Cx) (m : M) (e : PySem.Expr) : Prop := ∀ (f : Fz → Led → KV → Prop) (z : Fz) (n : Led) (Q : KB), (∀ z n Q, f z n Q → VW prog w K A c (eval e c.env) m z n Q) → tst prog w K A c e f m z n Q → VW prog w K A c (isTrue e c.env (eval e c.env)) m z n Q
noncomputable abbrev OkI (prog : Program) (w : World) (K : Frag) (A : Around) (c : Cx) (m : M) (i : PySem.Expr) : Prop := ∀ (v : PySem.Expr) (p : Pos) (f : Fz → Led → KV → Prop) (z : Fz) (n : Led) (Q : KV), (∀ z n Q, f z n Q → VW prog w K A c (eval i c.env) m z n Q) → (VW prog w K A c (eval v c.env) m z n fun o z1 n1 => evi prog w K A c i f o m z1 n1 Q) → VW prog w K A c (eval (.Subscript v i p) c.env) m z n Q
noncomputable def Oks (prog : Program) (w : World) (K : Frag) (A : Around) (c : Cx) (m : M) : List PySem.Expr → Prop
 | [] => True
 | e :: r => (OkE prog w K A c m e ∧ OkT prog w K A c m e) ∧ Oks prog w K A c m r
noncomputable def Oko (prog : Program) (w : World) (K : Frag) (A : Around) (c : Cx) (m : M) : Option PySem.Expr → Prop
 | none => True
 | some e => OkE prog w K A c m e
noncomputable abbrev OkF (prog : Program) (w : World) (K : Frag) (A : Around) (c : Cx) (m : M) (f : PySem.Expr) : Prop := ∀ (es : List PySem.Expr) (p : Pos) (z : Fz) (n : Led) (Q : KV), callOk f es [] p = true → Oks prog w K A c m es → (evf prog w K A c f m z n fun fv first z1 n1 => evs prog w K A c es m z1 n1 fun vs z2 n2 => callE prog w K A fv (first ++ vs) z2 n2 Q) → VW prog w K A c (eval (.Call f es [] p) c.env) m z n Q
theorem Oks.evs : ∀ {es : List PySem.Expr}, Oks prog w K A c m es → es.all noStar = true → ∀ (p : Pos) {z : Fz} {n : Led} {Q : List Value → Fz → Led → Prop}, Mine.evs prog w K A c es m z n Q → VW prog w K A c (spliced (backTo p (starEach es c.env))) m z n Q
 | [], _, _, _, _, _, _, h => VW.pure h
 | e :: r, o, hst, p, _, _, _, h => by
  rw [List.all_cons, Bool.and_eq_true] at hst
  exact items_cons hst.1 (VW.mono (o.1.1 _ _ _ h) fun u_ u_ u_ h1 => o.2.evs hst.2 p h1)
theorem Oks.tsts {op : BoolOp} : ∀ {es : List PySem.Expr}, Oks prog w K A c m es → ∀ {z : Fz} {n : Led} {Q : KB}, Mine.tsts prog w K A c op es m z n Q → VW prog w K A c (allTrue op es c.env) m z n Q
 | [], _, z, n, Q, h => by
  cases op with
  | And => exact fun E s hs => wpAny_allTrue_And_nil ⟨_, _, Step.refl hs, n, rfl, h⟩
  | Or => exact fun E s hs => wpAny_allTrue_Or_nil ⟨_, _, Step.refl hs, n, rfl, h⟩
 | e :: r, o, _, _, _, h => by
  refine allTrue_cons (VW.mono (o.1.2 _ _ _ _ o.1.1 h) fun b z1 n1 h1 => ?_)
  cases op with
  | And => exact brE_mono (o.2.tsts (op := .And)) id h1
  | Or => exact brE_mono id (o.2.tsts (op := .Or)) h1
theorem Oko.evo {o : Option PySem.Expr} (k : Oko prog w K A c m o) {z : Fz} {n : Led} {Q : KV} (h : Mine.evo prog w K A c o m z n Q) : VW prog w K A c (valueOrNone (evalOpt o c.env)) m z n Q := by
 cases o with
 | none => exact VW.pure h
 | some e => exact k _ _ _ h
structure OkX (prog : Program) (w : World) (K : Frag) (A : Around) (c : Cx) (m : M) (e : PySem.Expr) : Prop where
 ve : OkE prog w K A c m e
 vt : OkT prog w K A c m e
 vi : OkI prog w K A c m e
 vf : OkF prog w K A c m e
theorem OkI.plain {i : PySem.Expr} (he : ∀ f o z n Q, evi prog w K A c i f o m z n Q → f z n fun iv z1 n1 => itemE prog w K A o iv z1 n1 Q) : OkI prog w K A c m i := fun v p f z n Q hf h =>
 subsc_ok (VW.mono h fun o u_ u_ h1 => hf _ _ _ (he _ _ _ _ _ h1))
theorem noI {i : PySem.Expr} (he : ∀ f o z n Q, evi prog w K A c i f o m z n Q → False) : OkI prog w K A c m i := fun v p f z n Q hf h =>
 subsc_ok (VW.mono h fun o u_ u_ h1 => (he _ _ _ _ _ h1).elim)
theorem OkX.none {e : PySem.Expr} (h1 : ∀ z n Q, ev prog w K A c e m z n Q → False) (h2 : ∀ f z n Q, tst prog w K A c e f m z n Q → False) (h3 : ∀ f o z n Q, evi prog w K A c e f o m z n Q → False) (h4 : ∀ z n Q, evf prog w K A c e m z n Q → False) : OkX prog w K A c m e :=
 ⟨fun u_ u_ u_ h => (h1 _ _ _ h).elim, fun u_ u_ u_ u_ u_ h => (h2 _ _ _ _ h).elim, noI h3, fun u_ u_ u_ u_ u_ u_ u_ h => (h4 _ _ _ h).elim⟩
mutual
theorem okX (hE : CxOk prog w K A c) : ∀ e : PySem.Expr, OkX prog w K A c m e
 | .Constant k i p => ⟨fun u_ u_ u_ h => VW.leaf (conE_ok h), fun u_ u_ u_ u_ u_ h => h.elim, OkI.plain fun u_ u_ u_ u_ u_ h => h, fun u_ u_ u_ u_ u_ u_ u_ h => h.elim⟩
 | .Name x p => ⟨fun u_ u_ u_ h => nameE_ok hE h, fun u_ u_ u_ u_ hf h => isTrue_val (hf _ _ _ h), OkI.plain fun u_ u_ u_ u_ u_ h => h, fun es p u_ u_ Q hk o h => callName (callOk_parts hk).2 (VW.mono (nameE_ok hE (Q := fun f z1 n1 => evs prog w K A c es m z1 n1 fun vs z2 n2 => callE prog w K A f ([] ++ vs) z2 n2 Q) h) fun u_ u_ u_ h1 => o.evs (callOk_parts hk).2 p h1)⟩
 | .BinOp l op r p => ⟨fun u_ u_ u_ h => W.of_eq (eval_BinOp c.env l op r p) (VW.bind (VW.mono ((okX hE l).ve _ _ _ h) fun u_ u_ u_ h1 => VW.bind (W.holding (VW.mono ((okX hE r).ve _ _ _ h1) fun u_ u_ u_ h2 => W.standAt (W.operate (VW.leaf (binE_ok h2))))))), fun u_ u_ u_ u_ u_ h => h.elim, OkI.plain fun u_ u_ u_ u_ u_ h => h, fun u_ u_ u_ u_ u_ u_ u_ h => h.elim⟩
 | .UnaryOp op x p => ⟨fun u_ u_ u_ h => W.of_eq (arm_eval_UnaryOp op x p c.env) (VW.bind (VW.mono ((okX hE x).ve _ _ _ h) fun u_ u_ u_ h1 => W.standAt (W.holding (VW.leaf (unE_ok h1))))),
   fun f z n Q u_ h => (match op, h with
    | .Not, h => W.of_eq (arm_isTrue_UnaryOp x p c.env _) (VW.bind (VW.mono ((okX hE x).vt _ _ _ _ (okX hE x).ve h) fun b z1 n1 h1 => VW.pure h1))
    | .Invert, h | .UAdd, h | .USub, h => h.elim), OkI.plain fun u_ u_ u_ u_ u_ h => h, fun u_ u_ u_ u_ u_ u_ u_ h => h.elim⟩
 | .BoolOp op es p => ⟨fun z n Q h => by
   have o := okXs hE es
   cases es with
   | nil => exact h.elim
   | cons x r =>
    obtain ⟨h1, h2⟩ := grd_and h
    obtain ⟨h3, h4⟩ := Bool.and_eq_true_iff.mp h1
    cases op with
    | Or => cases h3
    | And =>
     cases r with
     | nil => cases h4
     | cons y r2 =>
      cases r2 with
      | cons => cases h4
      | nil =>
       exact and2_ok (VW.mono (o.1.1 _ _ _ h2) fun u_ u_ u_ h5 => truE_mono h5 fun u_ u_ u_ h6 => brE_mono (o.2.1.1 _ _ _) id h6), fun u_ u_ u_ u_ u_ h => W.of_eq (arm_isTrue_BoolOp op es p c.env _) ((okXs hE es).tsts h), OkI.plain fun u_ u_ u_ u_ u_ h => h, fun u_ u_ u_ u_ u_ u_ u_ h => h.elim⟩
 | .IfExp t b o p => ⟨fun u_ u_ u_ h => W.of_eq (arm_eval_IfExp t b o p c.env) (VW.bind (VW.mono ((okX hE t).vt _ _ _ _ (okX hE t).ve h) fun k z1 n1 h1 => Bool.rec (motive := fun k => brE k (ev prog w K A c b m z1 n1 _) (ev prog w K A c o m z1 n1 _) → VW prog w K A c (if k = true then eval b c.env else eval o c.env) m z1 n1 _) (fun h1 => (okX hE o).ve _ _ _ h1) (fun h1 => (okX hE b).ve _ _ _ h1) k h1)), fun u_ u_ u_ u_ u_ h => h.elim, OkI.plain fun u_ u_ u_ u_ u_ h => h, fun u_ u_ u_ u_ u_ u_ u_ h => h.elim⟩
 | .Compare l ops rs p => ⟨fun z n Q h => by
   have o := okXs hE rs
   obtain ⟨h1, h2⟩ := grd_and h
   refine oEEAA (cmpOk_parts h1) fun op r e0_ e1_ h3 => ?_
   subst e0_
   subst e1_
   exact cmp1_ok h3 (VW.mono ((okX hE l).ve _ _ _ h2) fun u_ u_ u_ h4 => o.1.1 _ _ _ h4), fun f z n Q hf h => by
   have o := okXs hE rs
   obtain ⟨h1, h2⟩ := grd_and h
   refine oEEAA (cmpOk_parts h1) fun op r e0_ e1_ h3 => ?_
   subst e0_
   subst e1_
   exact tcmp1_ok h3 (VW.mono ((okX hE l).ve _ _ _ h2) fun u_ u_ u_ h4 => o.1.1 _ _ _ h4), OkI.plain fun u_ u_ u_ u_ u_ h => h, fun u_ u_ u_ u_ u_ u_ u_ h => h.elim⟩
 | .Call f es ks p => ⟨fun z n Q h => by
   obtain ⟨h1, h2⟩ := grd_and h
   obtain ⟨rfl, hst⟩ := callOk_parts h1
   exact (okX hE f).vf es p z n Q h1 (okXs hE es) h2, fun u_ u_ u_ u_ hf h => isTrue_val (hf _ _ _ h), OkI.plain fun u_ u_ u_ u_ u_ h => h, fun u_ u_ u_ u_ u_ u_ u_ h => h.elim⟩
 | .Attribute o x p => ⟨fun z n Q h => by
   obtain ⟨h1, h2⟩ := grd_and h
   refine W.of_eq (arm_eval_Attribute o x p c.env) ?_
   rw [attributeBase_plain h1]
   exact VW.bind (VW.mono ((okX hE o).ve _ _ _ h2) fun ov z1 n1 h1 => W.standAt (VW.bind (W.holding (VW.mono (VW.leaf h1) fun r z2 n2 h2 => W.let_go (VW.pure h2))))), fun u_ u_ u_ u_ hf h => isTrue_val (hf _ _ _ h), OkI.plain fun u_ u_ u_ u_ u_ h => h,
   fun es q z n Q hk os h => callAttr hk (VW.mono ((okX hE o).ve _ _ _ h) fun u_ u_ u_ h1 pl => W.mono (h1 pl) fun u_ u_ u_ u_ h2 => os.evs (callOk_parts hk).2 q h2)⟩
 | .Subscript v i p => ⟨fun z n Q h => (okX hE i).vi v p _ z n Q (okX hE i).ve ((okX hE v).ve _ _ _ h), fun u_ u_ u_ u_ hf h => isTrue_val (hf _ _ _ h), OkI.plain fun u_ u_ u_ u_ u_ h => h, fun u_ u_ u_ u_ u_ u_ u_ h => h.elim⟩
 | .List es p => ⟨fun z n Q h => W.of_eq (arm_eval_List es p c.env) (W.standAt (VW.bind (VW.mono ((okXs hE es).evs (grd_and h).1 p (grd_and h).2) fun vs z1 n1 h1 => VW.leaf (newlE_ok h1)))), fun u_ u_ u_ u_ u_ h => h.elim, noI fun u_ u_ u_ u_ u_ h => h, fun u_ u_ u_ u_ u_ u_ u_ h => h.elim⟩
 | .Tuple es k p => ⟨fun z n Q h => W.of_eq (arm_eval_Tuple es k p c.env) (W.standAt (VW.bind (VW.mono ((okXs hE es).evs (grd_and h).1 p (grd_and h).2) fun vs z1 n1 h1 => VW.leaf (newtE_ok h1)))), fun u_ u_ u_ u_ u_ h => h.elim, OkI.plain fun u_ u_ u_ u_ u_ h => h, fun u_ u_ u_ u_ u_ u_ u_ h => h.elim⟩
 | .Dict .. => ⟨fun u_ u_ u_ h => h, fun u_ u_ u_ u_ u_ h => h.elim, noI fun u_ u_ u_ u_ u_ h => h, fun u_ u_ u_ u_ u_ u_ u_ h => h.elim⟩
 | .ListComp .. => ⟨fun u_ u_ u_ h => h, fun u_ u_ u_ u_ u_ h => h.elim, noI fun u_ u_ u_ u_ u_ h => h, fun u_ u_ u_ u_ u_ u_ u_ h => h.elim⟩
 | .Slice l u s q => ⟨fun u_ u_ u_ h => h.elim, fun u_ u_ u_ u_ u_ h => h.elim, fun v p f z n Q hf h => subsc_ok (VW.mono h fun o z1 n1 h1 => slice_ok (VW.mono ((okXo hE l).evo h1) fun u_ u_ u_ h2 => VW.mono ((okXo hE u).evo h2) fun u_ u_ u_ h3 => VW.mono ((okXo hE s).evo h3) fun u_ u_ u_ h4 => h4)), fun u_ u_ u_ u_ u_ u_ u_ h => h.elim⟩
 | .NamedExpr .. => OkX.none (fun u_ u_ u_ h => h) (fun u_ u_ u_ u_ h => h) (fun u_ u_ u_ u_ u_ h => h) (fun u_ u_ u_ h => h)
 | .Lambda .. => OkX.none (fun u_ u_ u_ h => h) (fun u_ u_ u_ u_ h => h) (fun u_ u_ u_ u_ u_ h => h) (fun u_ u_ u_ h => h)
 | .Set .. => OkX.none (fun u_ u_ u_ h => h) (fun u_ u_ u_ u_ h => h) (fun u_ u_ u_ u_ u_ h => h) (fun u_ u_ u_ h => h)
 | .SetComp .. => OkX.none (fun u_ u_ u_ h => h) (fun u_ u_ u_ u_ h => h) (fun u_ u_ u_ u_ u_ h => h) (fun u_ u_ u_ h => h)
 | .DictComp .. => OkX.none (fun u_ u_ u_ h => h) (fun u_ u_ u_ u_ h => h) (fun u_ u_ u_ u_ u_ h => h) (fun u_ u_ u_ h => h)
 | .GeneratorExp .. => OkX.none (fun u_ u_ u_ h => h) (fun u_ u_ u_ u_ h => h) (fun u_ u_ u_ u_ u_ h => h) (fun u_ u_ u_ h => h)
 | .Await .. => OkX.none (fun u_ u_ u_ h => h) (fun u_ u_ u_ u_ h => h) (fun u_ u_ u_ u_ u_ h => h) (fun u_ u_ u_ h => h)
 | .Yield .. => OkX.none (fun u_ u_ u_ h => h) (fun u_ u_ u_ u_ h => h) (fun u_ u_ u_ u_ u_ h => h) (fun u_ u_ u_ h => h)
 | .YieldFrom .. => OkX.none (fun u_ u_ u_ h => h) (fun u_ u_ u_ u_ h => h) (fun u_ u_ u_ u_ u_ h => h) (fun u_ u_ u_ h => h)
 | .FormattedValue .. => OkX.none (fun u_ u_ u_ h => h) (fun u_ u_ u_ u_ h => h) (fun u_ u_ u_ u_ u_ h => h) (fun u_ u_ u_ h => h)
 | .JoinedStr .. => OkX.none (fun u_ u_ u_ h => h) (fun u_ u_ u_ u_ h => h) (fun u_ u_ u_ u_ u_ h => h) (fun u_ u_ u_ h => h)
 | .Starred .. => OkX.none (fun u_ u_ u_ h => h) (fun u_ u_ u_ u_ h => h) (fun u_ u_ u_ u_ u_ h => h) (fun u_ u_ u_ h => h)
termination_by structural e => e
theorem okXs (hE : CxOk prog w K A c) : ∀ es : List PySem.Expr, Oks prog w K A c m es
 | [] => trivial
 | e :: r => ⟨⟨(okX hE e).ve, (okX hE e).vt⟩, okXs hE r⟩
termination_by structural es => es
theorem okXo (hE : CxOk prog w K A c) : ∀ o : Option PySem.Expr, Oko prog w K A c m o
 | none => trivial
 | some e => (okX hE e).ve
termination_by structural o => o
end
end
noncomputable def tupNames : List PySem.Expr → Option (List Str)
 | [] => some []
 | e :: r => match e with
  | .Name x _ => (match tupNames r with
   | some xs => some (x :: xs)
   | none => none)
  | .BoolOp .. | .NamedExpr .. | .BinOp .. | .UnaryOp .. | .Lambda .. | .IfExp .. | .Dict .. | .Set .. | .ListComp .. | .SetComp .. | .DictComp .. | .GeneratorExp .. | .Await .. | .Yield .. | .YieldFrom .. | .Compare .. | .Call ..
  | .FormattedValue .. | .JoinedStr .. | .Constant .. | .Attribute .. | .Subscript .. | .Starred .. | .List .. | .Tuple .. | .Slice .. => none
section
variable (prog : Program) (w : World) (K : Frag) (A : Around) (c : Cx)
/-- values that are dropped -/
noncomputable def dropE : Value → (Prop) → Prop
 | .ref _, _ => False
 | .none, P | .ellipsis, P | .notImplemented, P | .bool _, P | .int .., P | .float .., P | .str .., P | .bytes .., P | .type _, P | .builtin _, P => P
noncomputable def exs (ss : List Stmt) (m : M) (z : Fz) (n : Led) (Q : KF) : Prop := SW prog w K A c (execs ss c.env) m z n Q
/-- what is unpacked -/
noncomputable def unpE (sw : Bool) (names : List Str) (u : Value) (m : M) (z : Fz) (n : Led) (Q : M → Fz → Led → Prop) : Prop :=
 ∃ a vs, u = .ref a ∧ Hs z n a (.tup vs) ∧ vs.length = names.length ∧ brE sw (stEs c names.reverse vs.reverse m z n Q) (stEs c names vs m z n Q)
noncomputable def unpT (sw : Bool) (names : List Str) (vs : List Value) (m : M) (z : Fz) (n : Led) (Q : M → Fz → Led → Prop) : Prop :=
 grd (Nat.beq vs.length names.length && Nat.ble vs.length 1000) (∀ a, z a = none → brE sw (stEs c names.reverse vs.reverse m (fset z a (.tup vs)) n Q) (stEs c names vs m (fset z a (.tup vs)) n Q))
noncomputable def asN (names : Option (List Str)) (ts : List PySem.Expr) (k : Nat) (tp : Pos) (v : PySem.Expr) (p : Pos) (m : M) (z : Fz) (n : Led) (Q : KF) : Prop := match names with
 | none => SW prog w K A c (exec (.Assign [.Tuple ts k tp] v p) c.env) m z n Q
 | some names => ∃ sw : Bool, swappedStores [.Tuple ts k tp] v c.env = pure (if sw = true then some names else none) ∧
   brE (Nat.beq (tagE v) 25) (grd ((eltsOf v).all noStar) (evs prog w K A c (eltsOf v) m z n fun vs z1 n1 => unpT c sw names vs m z1 n1 (Q .next)))
    (ev prog w K A c v m z n fun u z1 n1 => unpE c sw names u m z1 n1 (Q .next))
noncomputable def as1 (t v : PySem.Expr) (p : Pos) (m : M) (z : Fz) (n : Led) (Q : KF) : Prop := match t with
 | .Name x px => brE (notComp v) (ev prog w K A c v m z n fun u z1 n1 => stE c x u m z1 n1 (Q .next)) (SW prog w K A c (exec (.Assign [.Name x px] v p) c.env) m z n Q)
 | .Attribute o x _ => grd (notComp v) (ev prog w K A c v m z n fun u z1 n1 => ev prog w K A c o m z1 n1 fun ov z2 n2 => setAttrE prog w K A ov x u z2 n2 (Q .next m))
 | .Subscript o i _ => grd (notComp v) (ev prog w K A c v m z n fun u z1 n1 => ev prog w K A c o m z1 n1 fun ov z2 n2 => ev prog w K A c i m z2 n2 fun iv z3 n3 => setItemE prog w K A ov iv u z3 n3 (Q .next m))
 | .Tuple ts k tp => grd (notComp v) (asN prog w K A c (tupNames ts) ts k tp v p m z n Q)
 | .BoolOp .. | .NamedExpr .. | .BinOp .. | .UnaryOp .. | .Lambda .. | .IfExp .. | .Dict .. | .Set .. | .ListComp .. | .SetComp .. | .DictComp .. | .GeneratorExp .. | .Await .. | .Yield .. | .YieldFrom .. | .Compare .. | .Call ..
 | .FormattedValue .. | .JoinedStr .. | .Constant .. | .Starred .. | .List .. | .Slice .. => False
noncomputable def aug (t : PySem.Expr) (op : Operator) (v : PySem.Expr) (m : M) (z : Fz) (n : Led) (Q : KF) : Prop := match t with
 | .Name x _ => nameE c x m z n fun old z1 n1 => ev prog w K A c v m z1 n1 fun u z2 n2 => ibinE prog w K A op old u z2 n2 fun r z3 n3 => stE c x r m z3 n3 (Q .next)
 | .BoolOp .. | .NamedExpr .. | .BinOp .. | .UnaryOp .. | .Lambda .. | .IfExp .. | .Dict .. | .Set .. | .ListComp .. | .SetComp .. | .DictComp .. | .GeneratorExp .. | .Await .. | .Yield .. | .YieldFrom .. | .Compare .. | .Call ..
 | .FormattedValue .. | .JoinedStr .. | .Constant .. | .Attribute .. | .Subscript .. | .Starred .. | .List .. | .Tuple .. | .Slice .. => False
noncomputable def ex (st : Stmt) (m : M) (z : Fz) (n : Led) (Q : KF) : Prop := match st with
 | .Expr e _ => grd (notComp e) (ev prog w K A c e m z n fun v z1 n1 => dropE v (Q .next m z1 n1))
 | .Assign ts v p => (match ts with
  | [] => False
  | t :: r => grd r.isEmpty (as1 prog w K A c t v p m z n Q))
 | .AugAssign t op v _ => aug prog w K A c t op v m z n Q
 | .If t b o _ => tst prog w K A c t (ev prog w K A c t m) m z n fun k z1 n1 => brE k (exs prog w K A c b m z1 n1 Q) (exs prog w K A c o m z1 n1 Q)
 | .Return v _ => (match v with
  | some e => ev prog w K A c e m z n fun v z1 n1 => Q (.ret v) m z1 n1
  | none => Q (.ret .none) m z n)
 | .Continue _ => Q .cont m z n
 | .Break _ => Q .brk m z n
 | .Pass _ => Q .next m z n
 | .For t i b o p => SW prog w K A c (exec (.For t i b o p) c.env) m z n Q
 | .While t b o p => SW prog w K A c (exec (.While t b o p) c.env) m z n Q
 | .FunctionDef .. | .AsyncFunctionDef .. | .ClassDef .. | .Delete .. | .TypeAlias .. | .AnnAssign .. | .AsyncFor .. | .With .. | .AsyncWith .. | .Match .. | .Raise .. | .Try .. | .TryStar .. | .Assert .. | .Import .. | .ImportFrom .. | .Global .. | .Nonlocal .. => False
noncomputable def seqK (rest : List Stmt) (Q : KF) (fl : Flow) (m : M) (z : Fz) (n : Led) : Prop := match fl with
 | .next => exs prog w K A c rest m z n Q
 | .brk => Q .brk m z n
 | .cont => Q .cont m z n
 | .ret v => Q (.ret v) m z n
end
section
variable {prog : Program} {w : World} {K : Frag} {A : Around} {z z' : Fz} {n n' : Led} {c : Cx} {m : M}
theorem swapsWith_no {v : PySem.Expr} {t : Option PySem.Expr} {k : Nat} {env : Env} (h : notComp v = true) : swapsWith v t k env = pure false := by
 cases v with
 | ListComp => exact no h
 | SetComp => exact no h
 | DictComp => exact no h
 | _ => rfl
theorem swapsSole_no {ts : List PySem.Expr} {k : Nat} {tp : Pos} {v : PySem.Expr} {l : Nat} {env : Env} (h : notComp v = true) : swapsWithSole [.Tuple ts k tp] v l env = pure false := by
 cases v with
 | ListComp => exact no h
 | SetComp => exact no h
 | DictComp => exact no h
 | _ => rfl
theorem assignEach_names {env : Env} : ∀ {ts : List PySem.Expr} {names : List Str}, tupNames ts = some names → ∃ ps : List Pos, (assignEach ts env) = (names.zip ps).map (fun q => (false, assign (.Name q.1 q.2) env)) ∧ ps.length = names.length
 | [], _, h => by cases h; exact ⟨[], rfl, rfl⟩
 | e :: r, names, h => by
  cases e with
  | Name x p =>
   have h : (match tupNames r with | some xs => some (x :: xs) | none => none) = some names := h
   cases hr : tupNames r with
   | none => rw [hr] at h; cases h
   | some rest =>
    rw [hr] at h
    cases h
    refine oEA (assignEach_names (env := env) hr) fun ps h1 h2 => ?_
    exact ⟨p :: ps, by show (false, _) :: assignEach r env = _; rw [h1]; rfl, by rw [List.length_cons, List.length_cons, h2]⟩
  | _ => exact noO h
theorem stores_fwd (hE : CxOk prog w K A c) : ∀ (names : List Str) (ps : List Pos) (vs : List Value) {m : M} {z : Fz} {n : Led} {Q : M → Fz → Led → Prop}, ps.length = names.length → stEs c names vs m z n Q →
  SW prog w K A c (assignInOrder (((names.zip ps).map (fun q => ((false, assign (.Name q.1 q.2) c.env) : Bool × (Value → Sem Unit)))).map (·.2)) vs) m z n fun u_ => Q
 | [], ps, [], _, z, n, Q, _, h => SW.pure h
 | x :: xs, p :: ps, v :: vs, _, z, n, Q, hl, h => by
  show SW prog w K A c (PySem.holding vs (assign (.Name x p) c.env v) >>= fun u_ => assignInOrder (((xs.zip ps).map (fun q => ((false, assign (.Name q.1 q.2) c.env) : Bool × (Value → Sem Unit)))).map (·.2)) vs) _ z n _
  refine SW.bind (W.holding ?_)
  show SW prog w K A c (do PySem.standAt p; PySem.bindName c.env x v) _ z n _
  refine W.standAt (SW.mono (SW.bindName hE (Q := fun m1 z1 n1 => stEs c xs vs m1 z1 n1 Q) h) fun u_ m1 z1 n1 u_ h1 => ?_)
  exact stores_fwd hE xs ps vs (Nat.succ.inj hl) h1
 | [], _, _ :: _, _, _, _, _, _, h => h.elim
 | _ :: _, _, [], _, _, _, _, _, h => h.elim
 | _ :: _, [], _ :: _, _, _, _, _, hl, _ => nomatch hl
theorem stores_bind (hE : CxOk prog w K A c) : ∀ (names : List Str) (vs : List Value) {m : M} {z : Fz} {n : Led} {Q : M → Fz → Led → Prop}, stEs c names vs m z n Q →
  SW prog w K A c (assignInOrder (names.map fun x => PySem.bindName c.env x) vs) m z n fun u_ => Q
 | [], [], _, z, n, Q, h => SW.pure h
 | x :: xs, v :: vs, _, z, n, Q, h => by
  show SW prog w K A c (PySem.holding vs (PySem.bindName c.env x v) >>= fun u_ => assignInOrder (xs.map fun x => PySem.bindName c.env x) vs) _ z n _
  exact SW.bind (W.holding (SW.mono (SW.bindName hE (Q := fun m1 z1 n1 => stEs c xs vs m1 z1 n1 Q) h) fun u_ m1 z1 n1 u_ h1 => stores_bind hE xs vs h1))
 | [], _ :: _, _, _, _, _, h => h.elim
 | _ :: _, [], _, _, _, _, h => h.elim
theorem isTup_of {a : Addr} {vs : List Value} {s : Shared} (h : At prog w K s.heap a (.tup vs)) : PyProof.Rows.IsTup s.heap a vs.toArray := let ⟨o, e, hc, k, hd⟩ := h; ⟨o, e, hc, k, hd⟩
theorem Step.old {s : Shared} (hs : St prog w K z n s) {h' : Heap} {tk : Nat} (keep : ∀ a o, s.heap.get? a = some o → h'.get? a = some o) : Step prog w K z n s z n { s with heap := h', toks := tk } :=
 Step.ext hs (fun a o u_ e => keep a o e) (fun p hp => (hs.led p hp).kept fun o e => keep _ o e) (fun a ha => .inl ha) hs.nodup
theorem unp_items (hh : A.handled = none) {a : Addr} {vs : List Value} (hk : Hs z n a (.tup vs)) {Q : List Value → Fz → Led → Prop} (h : Q vs z n) : W prog w K A (unpackItems (.ref a) vs.length none) z n Q := fun E s hs => by
 have ht := isTup_of (hk.at hs)
 rw [show vs.length = vs.toArray.size from (List.size_toArray ..).symm]
 exact unpackItems_tuple hh ht fun h' he => ⟨_, _, Step.old hs (fun b o eb => he b o (Nat.ne_of_lt (Heap.lt_size eb)) eb), h⟩
theorem assign_Name_ok (hE : CxOk prog w K A c) {x : Str} {p : Pos} {v : Value} {Q : M → Fz → Led → Prop} (h : stE c x v m z n Q) : SW prog w K A c (assign (.Name x p) c.env v) m z n fun u_ => Q := by
 show SW prog w K A c (do PySem.standAt p; PySem.bindName c.env x v) m z n _
 exact W.standAt (SW.bindName hE h)
theorem names_first {names : List Str} {ps : List Pos} {env : Env} : (((names.zip ps).map (fun q => ((false, assign (.Name q.1 q.2) env) : Bool × (Value → Sem Unit)))).findIdx? (·.1)) = none := by
 rw [List.findIdx?_eq_none_iff]
 intro x hx
 refine oEA (List.mem_map.mp hx) fun y u_ e0_ => ?_
 subst e0_
 rfl
/-- the stores of a tuple's items -/
theorem store_tup (hE : CxOk prog w K A c) {ts : List PySem.Expr} {k : Nat} {tp p : Pos} {v : PySem.Expr} {names : List Str} {sw : Bool} (ht : tupNames ts = some names) {a : Addr} {vs : List Value} (hk : Hs z n a (.tup vs)) (hl : vs.length = names.length) {Q : KF}
  (h : brE sw (stEs c names.reverse vs.reverse m z n (Q .next)) (stEs c names vs m z n (Q .next))) :
  SW prog w K A c (match (if sw = true then some names else none : Option (List Str)) with
   | some names => do PySem.rule "assign.swapped-stores"; let items ← unpackItems (.ref a) names.length none; assignInOrder (names.reverse.map fun n => PySem.bindName c.env n) items.reverse; pure Flow.next
   | none => do assignAll (.ref a) [assign (.Tuple ts k tp) c.env]; pure Flow.next) m z n Q := by
 have hs : Hs z ((c.L, .ns c.sc c.g m) :: n) a (.tup vs) := hk.imp id (.tail _)
 cases sw with
 | false =>
  refine oEA (assignEach_names (env := c.env) ht) fun ps h1 h2 => ?_
  show SW prog w K A c (do (do PySem.standAt tp; unpack (.ref a) (assignEach ts c.env)); pure Flow.next) m z n Q
  refine SW.bind (W.standAt ?_)
  unfold unpack
  rw [h1, names_first, List.length_map, List.length_zip, h2, Nat.min_self, ← hl]
  refine SW.bindV (W.holding (W.mono (unp_items hE.handled hs (Q := fun ws z' n' => ws = vs ∧ z' = z ∧ n' = (c.L, .ns c.sc c.g m) :: n) ⟨rfl, rfl, rfl⟩) fun ws z' n' u_ h_ => oAA h_ fun e1 e2 e3 => ⟨n, e3, ?_⟩))
  subst e1 e2
  exact SW.mono (stores_fwd hE names ps ws h2 h) fun u_ u_ u_ u_ u_ h2 => SW.pure h2
 | true =>
  show SW prog w K A c (do PySem.rule "assign.swapped-stores"; let items ← unpackItems (.ref a) names.length none; assignInOrder (names.reverse.map fun n => PySem.bindName c.env n) items.reverse; pure Flow.next) m z n Q
  rw [← hl]
  refine W.rule (SW.bindV (W.mono (unp_items hE.handled hs (Q := fun ws z' n' => ws = vs ∧ z' = z ∧ n' = (c.L, .ns c.sc c.g m) :: n) ⟨rfl, rfl, rfl⟩) fun ws z' n' u_ h_ => oAA h_ fun e1 e2 e3 => ⟨n, e3, ?_⟩))
  subst e1 e2
  exact SW.bind (SW.mono (stores_bind hE _ _ h) fun u_ u_ u_ u_ u_ h2 => SW.pure h2)
theorem eltsOf_tup {v : PySem.Expr} (h : Nat.beq (tagE v) 25 = true) : ∃ k p, v = .Tuple (eltsOf v) k p := by
 cases v with
 | Tuple es k p => exact ⟨k, p, rfl⟩
 | _ => exact no h
end
section
variable {prog : Program} {w : World} {K : Frag} {A : Around} {z z' : Fz} {n n' : Led} {c : Cx} {m : M}
theorem evE (hE : CxOk prog w K A c) {e : PySem.Expr} {Q : KV} (h : ev prog w K A c e m z n Q) : VW prog w K A c (eval e c.env) m z n Q := (okX hE e).ve _ _ _ h
theorem tstE (hE : CxOk prog w K A c) {e : PySem.Expr} {Q : KB} (h : tst prog w K A c e (ev prog w K A c e m) m z n Q) : VW prog w K A c (isTrue e c.env (eval e c.env)) m z n Q := (okX hE e).vt _ _ _ _ (okX hE e).ve h
theorem SW.seq {α : Type} {t : Sem α} {P : α → Fz → Led → Prop} (h : VW prog w K A c t m z n P) {Q : α → Shared → Prop} {E : Value → Shared → Prop} {s : Shared} (hs : St prog w K z ((c.L, .ns c.sc c.g m) :: n) s)
  (k : ∀ a z1 n1 s1, Step prog w K z ((c.L, .ns c.sc c.g m) :: n) s z1 ((c.L, .ns c.sc c.g m) :: n1) s1 → P a z1 n1 → Q a s1) : wpAny (model prog w) A t Q E s :=
 W.runk hs (VW.k h fun a z1 n1 u_ p s1 st => k a z1 n1 s1 st p)
theorem as1_ok (hE : CxOk prog w K A c) {t v : PySem.Expr} {p : Pos} {Q : KF} (h : as1 prog w K A c t v p m z n Q) : SW prog w K A c (exec (.Assign [t] v p) c.env) m z n Q := by
 cases t with
 | Name x px =>
  revert h
  show brE (notComp v) (ev prog w K A c v m z n fun u z1 n1 => stE c x u m z1 n1 (Q .next)) (SW prog w K A c (exec (.Assign [.Name x px] v p) c.env) m z n Q) → _
  cases hc : notComp v with
  | true => exact fun h => W.of_eq (exec_Assign_Name c.env x px v p (swapsWith_no hc)) (W.standAt (SW.bindV (VW.mono (evE hE h) fun u z1 n1 h1 => W.standAt (SW.bind (SW.mono (SW.bindName hE h1) fun u_ u_ z2 n2 u_ h2 => SW.pure h2)))))
  | false => exact id
 | Attribute o x px =>
  obtain ⟨hc, h⟩ := grd_and h
  intro E s hs
  refine plainObj_wpAny_Assign_Attribute (SW.seq (evE hE h) hs fun u z1 n1 s1 st1 h1 => SW.seq (evE hE h1) st1.st fun ov z2 n2 s2 st2 h2 => SW.seq (VW.leaf h2) st2.st fun u_ z3 n3 s3 st3 h3 => ?_) (swapsWith_no hc)
  exact ⟨z3, _, (st1.trans st2 hs.ztb).trans st3 hs.ztb, m, n3, rfl, h3⟩
 | Subscript o i px =>
  obtain ⟨hc, h⟩ := grd_and h
  intro E s hs
  refine wpAny_Assign_Subscript (SW.seq (evE hE h) hs fun u z1 n1 s1 st1 h1 => SW.seq (evE hE h1) st1.st fun ov z2 n2 s2 st2 h2 => SW.seq (evE hE h2) st2.st fun iv z3 n3 s3 st3 h3 => SW.seq (VW.leaf h3) st3.st fun u_ z4 n4 s4 st4 h4 => ?_) (swapsWith_no hc)
  exact ⟨z4, _, ((st1.trans st2 hs.ztb).trans st3 hs.ztb).trans st4 hs.ztb, m, n4, rfl, h4⟩
 | Tuple ts k tp =>
  obtain ⟨hc, h⟩ := grd_and h
  revert h
  cases ht : tupNames ts with
  | none => exact id
  | some names =>
   rintro ⟨sw, hsw, h⟩
   refine W.of_eq (PyProof.Rows.exec_Assign _ v p) (W.standAt ?_)
   rw [swapsSole_no hc]
   refine SW.bindV (VW.pure ?_)
   have fin : ∀ {a : Addr} {vs : List Value} {z1 : Fz} {n1 : Led}, Hs z1 n1 a (.tup vs) → vs.length = names.length → brE sw (stEs c names.reverse vs.reverse m z1 n1 (Q .next)) (stEs c names vs m z1 n1 (Q .next)) →
     SW prog w K A c (do let w ← swappedStores [.Tuple ts k tp] v c.env; match w with
      | some names => do PySem.rule "assign.swapped-stores"; let items ← unpackItems (.ref a) names.length none; assignInOrder (names.reverse.map fun n => PySem.bindName c.env n) items.reverse; pure Flow.next
      | none => do assignAll (.ref a) [assign (.Tuple ts k tp) c.env]; pure Flow.next) m z1 n1 Q := fun hk hl h1 => by
    rw [hsw]
    exact SW.bindV (VW.pure (store_tup hE (p := p) (v := v) ht hk hl h1))
   refine SW.bindV (Q := Q) ?_
   cases h25 : Nat.beq (tagE v) 25 with
   | true =>
    rw [h25] at h
    obtain ⟨h5, h2⟩ := grd_and h
    refine oEE (eltsOf_tup h25) fun k' p' e => ?_
    refine W.of_eq ((congrArg (fun v => eval v c.env) e).trans (arm_eval_Tuple _ k' p' c.env)) (W.standAt (VW.bind (VW.mono ((okXs hE (eltsOf v)).evs h5 p' h2) fun vs z1 n1 h6 => ?_)))
    obtain ⟨h7, h6⟩ := grd_and h6
    obtain ⟨h8, h9⟩ := Bool.and_eq_true_iff.mp h7
    exact VW.leaf (newtE_ok (show grd (Nat.ble vs.length 1000) _ from by rw [h9]; exact fun a ha => fin (.inl fset_self) (Nat.eq_of_beq_eq_true h8) (h6 a ha)))
   | false =>
    rw [h25] at h
    refine VW.mono (evE hE h) fun u z1 n1 h1 => ?_
    refine oEEAAA h1 ?_
    clear h1
    intro a vs e0_ hk hl h1
    subst e0_
    exact fin hk hl h1
 | _ => exact h.elim
theorem aug_ok (hE : CxOk prog w K A c) {t v : PySem.Expr} {op : Operator} {p : Pos} {Q : KF} (h : aug prog w K A c t op v m z n Q) : SW prog w K A c (exec (.AugAssign t op v p) c.env) m z n Q := by
 cases t with
 | Name x px =>
  refine W.of_eq (exec_AugAssign_Name c.env x px op v p) (W.standAt (SW.bindV (VW.mono (nameE_load hE (Q := fun old z1 n1 => ev prog w K A c v m z1 n1 fun u z2 n2 => ibinE prog w K A op old u z2 n2 fun r z3 n3 => stE c x r m z3 n3 (Q .next)) h (.inr trivial)) fun old z1 n1 h1 => ?_)))
  refine SW.bindV (W.holding (VW.mono (evE hE h1) fun u z2 n2 h2 => W.standAt (SW.bindV (W.operate (VW.mono (VW.leaf (ibinE_ok h2)) fun r z3 n3 h3 => ?_)))))
  exact W.standAt (SW.bind (SW.mono (SW.bindName hE h3) fun u_ u_ z4 n4 u_ h4 => SW.pure h4))
 | _ => exact h.elim
theorem ex_ok (hE : CxOk prog w K A c) {st : Stmt} {Q : KF} (h : ex prog w K A c st m z n Q) : SW prog w K A c (exec st c.env) m z n Q := by
 cases st with
 | Expr e p =>
  obtain ⟨hc, h⟩ := grd_and h
  have hi : interactive c.env = false := by unfold interactive; rw [hE.scope, hE.kind]; rfl
  refine W.of_eq (exec_Expr c.env e p hi (swapsWith_no hc)) (W.standAt (SW.bindV (VW.mono (evE hE h) fun v z1 n1 h1 => ?_)))
  cases v with
  | ref a => exact (show False from h1).elim
  | _ => rw [dropValue_plain (by intro a e; cases e)]; exact SW.pure h1
 | Assign ts v p =>
  cases ts with
  | nil => exact h.elim
  | cons t r =>
   obtain ⟨hr, h⟩ := grd_and h
   rw [List.isEmpty_iff.mp hr]
   exact as1_ok hE h
 | AugAssign t op v p => exact aug_ok hE h
 | If t b o p =>
  refine W.of_eq (exec_If c.env t b o p) (W.standAt (SW.bindV (VW.mono (tstE hE h) fun k z1 n1 h1 => ?_)))
  cases k with
  | true => exact h1
  | false => exact h1
 | Return v p =>
  cases v with
  | none => exact W.of_eq (exec_Return_none c.env p) (W.standAt (SW.pure h))
  | some e => exact W.of_eq (exec_Return_some c.env e p) (W.standAt (SW.bindV (VW.mono (evE hE h) fun v z1 n1 h1 => SW.pure h1)))
 | Continue => exact fun E s hs => wpAny_Continue ⟨_, _, Step.refl hs, m, n, rfl, h⟩
 | Break => exact fun E s hs => wpAny_Break ⟨_, _, Step.refl hs, m, n, rfl, h⟩
 | Pass => exact fun E s hs => wpAny_Pass ⟨_, _, Step.refl hs, m, n, rfl, h⟩
 | For => exact h
 | While => exact h
 | _ => exact h.elim
theorem exs_nil {Q : KF} (h : Q .next m z n) : exs prog w K A c [] m z n Q := SW.pure h
theorem exs_sem {st : Stmt} {rest : List Stmt} {Q : KF} (h : SW prog w K A c (exec st c.env) m z n (seqK prog w K A c rest Q)) : exs prog w K A c (st :: rest) m z n Q := fun E s hs =>
 wpAny_execs_cons (W.runk hs (SW.k h fun f m1 z1 n1 u_ h1 s1 st1 => by
  cases f with
  | next => exact W.runk st1.st (W.mono (show SW prog w K A c (execs rest c.env) m1 z1 n1 Q from h1) fun v z2 n2 u_ h2 s2 st2 => ⟨z2, n2, st1.trans st2 hs.ztb, h2⟩)
  | brk => exact ⟨z1, _, st1, m1, n1, rfl, h1⟩
  | cont => exact ⟨z1, _, st1, m1, n1, rfl, h1⟩
  | ret v => exact ⟨z1, _, st1, m1, n1, rfl, h1⟩))
theorem exs_cons (hE : CxOk prog w K A c) {st : Stmt} {rest : List Stmt} {Q : KF} (h : ex prog w K A c st m z n (seqK prog w K A c rest Q)) : exs prog w K A c (st :: rest) m z n Q := exs_sem (ex_ok hE h)
/-! continuations kept dark -/
noncomputable def Ends (P Q : KF) : Prop := ∀ fl m z n, P fl m z n → Q fl m z n
theorem exs_consQ (hE : CxOk prog w K A c) {st : Stmt} {rest : List Stmt} {Q : KF} (h : ∀ QS : KF, Ends (seqK prog w K A c rest Q) QS → ex prog w K A c st m z n QS) : exs prog w K A c (st :: rest) m z n Q := exs_cons hE (h _ fun u_ u_ u_ u_ x => x)
theorem exs_semQ {st : Stmt} {rest : List Stmt} {Q : KF} (h : ∀ QS : KF, Ends (seqK prog w K A c rest Q) QS → SW prog w K A c (exec st c.env) m z n QS) : exs prog w K A c (st :: rest) m z n Q := exs_sem (h _ fun u_ u_ u_ u_ x => x)
theorem Ends.next {rest : List Stmt} {Q QS : KF} (h : Ends (seqK prog w K A c rest Q) QS) (k : exs prog w K A c rest m z n Q) : QS .next m z n := h .next m z n k
theorem Ends.ret {rest : List Stmt} {Q QS : KF} {v : Value} (h : Ends (seqK prog w K A c rest Q) QS) (k : Q (.ret v) m z n) : QS (.ret v) m z n := h (.ret v) m z n k
theorem Ends.brk {rest : List Stmt} {Q QS : KF} (h : Ends (seqK prog w K A c rest Q) QS) (k : Q .brk m z n) : QS .brk m z n := h .brk m z n k
theorem Ends.cont {rest : List Stmt} {Q QS : KF} (h : Ends (seqK prog w K A c rest Q) QS) (k : Q .cont m z n) : QS .cont m z n := h .cont m z n k
/-- entries of the ledger put aside, frozen, put in order -/
theorem exs_perm {ss : List Stmt} {Q : KF} {n2 : Led} (hp : n.Perm n2) (h : exs prog w K A c ss m z n2 Q) : exs prog w K A c ss m z n Q := W.perm (hp.cons _) h
theorem exs_freeze {ss : List Stmt} {Q : KF} {a : Addr} {lo : Lo} (h : z a = none → exs prog w K A c ss m (fset z a lo) n Q) : exs prog w K A c ss m z ((a, lo) :: n) Q :=
 W.perm (List.Perm.swap ..) (W.freeze fun hz => h hz)
end
section
variable (prog : Program) (w : World) (K : Frag) (A : Around)
/-- an iterator, its own entries, what it hands on -/
structure Iter (z0 : Fz) (target : PySem.Expr) (it : Value) (N : Nat) (P : Nat → Value → Fz → Prop) (I : Nat → Led) (M : Nat → Value → Led) : Prop where
 next : ∀ i z (Q : Option Value → Fz → Led → Prop), i < N → Le z0 z → (∀ v z', Le z z' → P i v z' → Q (some v) z' (M i v)) → W prog w K A (pyNext it) z (I i) Q
 done : ∀ z (Q : Option Value → Fz → Led → Prop), Le z0 z → Q none z [] → W prog w K A (pyNext it) z (I N) Q
 self : ∀ i z (Q : Value → Fz → Led → Prop), Le z0 z → Q it z (I i) → W prog w K A (pyIter it) z (I i) Q
 own : ∀ i z v (Q : Unit → Fz → Led → Prop), i < N → Le z0 z → P i v z → (∀ n', n' = I (i + 1) → Q () z n') → W prog w K A (letOwnedTupleGo target it v) z (M i v) Q
/-- what can be gone over, its entries E0 -/
noncomputable def IterOf (target : PySem.Expr) (x : Value) (E0 : Led) (N : Nat) (P : Nat → Value → Fz → Prop) (z : Fz) : Prop :=
 W prog w K A (pyIter x) z E0 fun it z' n' => z' = z ∧ ∃ I M, n' = I 0 ∧ Iter prog w K A z target it N P I M
/-- a tuple taken apart -/
noncomputable def unp (v : Value) (z : Fz) (n : Led) (k : Nat) (G : List Value → Prop) : Prop := ∃ a vs, v = .ref a ∧ Hs z n a (.tup vs) ∧ vs.length = k ∧ G vs
theorem unp_mk {T : Addr} {vs : List Value} {z : Fz} {n : Led} {k : Nat} {G : List Value → Prop} (h : Hs z n T (.tup vs)) (hl : vs.length = k) (g : G vs) : unp (.ref T) z n k G := ⟨T, vs, rfl, h, hl, g⟩
variable (c : Cx)
mutual
noncomputable def asg : PySem.Expr → Value → M → Fz → Led → (M → Fz → Led → Prop) → Prop
 | .Name x _, v, m, z, n, Q => stE c x v m z n Q
 | .Tuple ts _ _, v, m, z, n, Q => unp v z n ts.length fun vs => grd (ts.all noStar) (asgs ts vs m z n Q)
 | .BoolOp .., _, _, _, _, _ | .NamedExpr .., _, _, _, _, _ | .BinOp .., _, _, _, _, _ | .UnaryOp .., _, _, _, _, _ | .Lambda .., _, _, _, _, _ | .IfExp .., _, _, _, _, _ | .Dict .., _, _, _, _, _ | .Set .., _, _, _, _, _ | .ListComp .., _, _, _, _, _ | .SetComp .., _, _, _, _, _ | .DictComp .., _, _, _, _, _
 | .GeneratorExp .., _, _, _, _, _ | .Await .., _, _, _, _, _ | .Yield .., _, _, _, _, _ | .YieldFrom .., _, _, _, _, _ | .Compare .., _, _, _, _, _ | .Call .., _, _, _, _, _ | .FormattedValue .., _, _, _, _, _ | .JoinedStr .., _, _, _, _, _ | .Constant .., _, _, _, _, _ | .Attribute .., _, _, _, _, _ | .Subscript .., _, _, _, _, _
 | .Starred .., _, _, _, _, _ | .List .., _, _, _, _, _ | .Slice .., _, _, _, _, _ => False
noncomputable def asgs : List PySem.Expr → List Value → M → Fz → Led → (M → Fz → Led → Prop) → Prop
 | [], vs, m, z, n, Q => (match vs with
  | [] => Q m z n
  | _ :: _ => False)
 | t :: ts, vs, m, z, n, Q => (match vs with
  | [] => False
  | v :: vs => asg t v m z n fun m1 z1 n1 => asgs ts vs m1 z1 n1 Q)
end
/-- behind a turn -/
noncomputable def turnK (J : Nat → M → Fz → Led → Prop) (i : Nat) (z0 : Fz) (Q : KF) (fl : Flow) (m : M) (z : Fz) (n : Led) : Prop := Le z0 z → (match fl with
 | .next => J (i + 1) m z n
 | .cont => J (i + 1) m z n
 | .brk => Q .next m z n
 | .ret v => Q (.ret v) m z n)
/-- a while's -/
noncomputable def turnW (J : Nat → M → Fz → Led → Prop) (k : Nat) (z0 : Fz) (Q : KF) (fl : Flow) (m : M) (z : Fz) (n : Led) : Prop := Le z0 z → (match fl with
 | .next => ∃ k', k' < k ∧ J k' m z n
 | .cont => ∃ k', k' < k ∧ J k' m z n
 | .brk => Q .next m z n
 | .ret v => Q (.ret v) m z n)
end
section
variable {prog : Program} {w : World} {K : Frag} {A : Around} {z z' : Fz} {n n' : Led} {c : Cx} {m : M}
theorem assignEach_noStar {env : Env} : ∀ {ts : List PySem.Expr}, ts.all noStar = true → assignEach ts env = ts.map fun t => ((false, assign t env) : Bool × (Value → Sem Unit))
 | [], _ => rfl
 | t :: r, h => by
  rw [List.all_cons, Bool.and_eq_true] at h
  have ih := assignEach_noStar (env := env) h.2
  cases t with
  | Starred => cases h.1
  | _ => show (false, _) :: assignEach r env = _; rw [ih]; rfl
theorem unpack_ok (hE : CxOk prog w K A c) {ts : List PySem.Expr} {k : Nat} {p : Pos} {a : Addr} {vs : List Value} (hk : Hs z n a (.tup vs)) (hl : vs.length = ts.length) (hns : ts.all noStar = true) {Q : M → Fz → Led → Prop}
  (h : SW prog w K A c (assignInOrder ((ts.map fun t => ((false, assign t c.env) : Bool × (Value → Sem Unit))).map (·.2)) vs) m z n fun u_ => Q) : SW prog w K A c (assign (.Tuple ts k p) c.env (.ref a)) m z n fun u_ => Q := by
 show SW prog w K A c (do PySem.standAt p; unpack (.ref a) (assignEach ts c.env)) m z n _
 refine W.standAt ?_
 unfold unpack
 have e2 : (ts.map fun t => ((false, assign t c.env) : Bool × (Value → Sem Unit))).findIdx? (·.1) = none := by
  rw [List.findIdx?_eq_none_iff]
  intro x hx
  refine oEA (List.mem_map.mp hx) fun y u_ e0_ => ?_
  subst e0_
  rfl
 rw [assignEach_noStar hns, e2, List.length_map, ← hl]
 refine SW.bindV (W.holding (W.mono (unp_items hE.handled (n := (c.L, .ns c.sc c.g m) :: n) (hk.imp id (.tail _)) (Q := fun ws z' n' => ws = vs ∧ z' = z ∧ n' = (c.L, .ns c.sc c.g m) :: n) ⟨rfl, rfl, rfl⟩) fun ws z' n' u_ h_ => oAA h_ fun e1 e2 e3 => ⟨n, e3, ?_⟩))
 subst e1 e2
 exact h
mutual
theorem asg_ok (hE : CxOk prog w K A c) : ∀ (t : PySem.Expr) {v : Value} {m : M} {z : Fz} {n : Led} {Q : M → Fz → Led → Prop}, asg c t v m z n Q → SW prog w K A c (assign t c.env v) m z n fun u_ => Q
 | .Name x p, _, _, _, _, _, h => assign_Name_ok hE h
 | .Tuple ts k p, v, m, z, n, Q, h => by
  refine oEEAAA h ?_
  clear h
  intro a vs e0_ hk hl h
  subst e0_
  exact unpack_ok hE hk hl (grd_and h).1 (asgs_ok hE ts (grd_and h).2)
 | .BoolOp .., _, _, _, _, _, h | .NamedExpr .., _, _, _, _, _, h | .BinOp .., _, _, _, _, _, h | .UnaryOp .., _, _, _, _, _, h | .Lambda .., _, _, _, _, _, h | .IfExp .., _, _, _, _, _, h | .Dict .., _, _, _, _, _, h | .Set .., _, _, _, _, _, h | .ListComp .., _, _, _, _, _, h | .SetComp .., _, _, _, _, _, h
 | .DictComp .., _, _, _, _, _, h | .GeneratorExp .., _, _, _, _, _, h | .Await .., _, _, _, _, _, h | .Yield .., _, _, _, _, _, h | .YieldFrom .., _, _, _, _, _, h | .Compare .., _, _, _, _, _, h | .Call .., _, _, _, _, _, h | .FormattedValue .., _, _, _, _, _, h | .JoinedStr .., _, _, _, _, _, h
 | .Constant .., _, _, _, _, _, h | .Attribute .., _, _, _, _, _, h | .Subscript .., _, _, _, _, _, h | .Starred .., _, _, _, _, _, h | .List .., _, _, _, _, _, h | .Slice .., _, _, _, _, _, h => h.elim
theorem asgs_ok (hE : CxOk prog w K A c) : ∀ (ts : List PySem.Expr) {vs : List Value} {m : M} {z : Fz} {n : Led} {Q : M → Fz → Led → Prop}, asgs c ts vs m z n Q →
  SW prog w K A c (assignInOrder ((ts.map fun t => ((false, assign t c.env) : Bool × (Value → Sem Unit))).map (·.2)) vs) m z n fun u_ => Q
 | [], [], _, _, _, _, h => SW.pure h
 | t :: ts, v :: vs, _, _, _, Q, h =>
  SW.bind (W.holding (SW.mono (asg_ok hE t (Q := fun m1 z1 n1 => asgs c ts vs m1 z1 n1 Q) h) fun u_ u_ u_ u_ u_ h1 => asgs_ok hE ts h1))
 | [], _ :: _, _, _, _, _, h => h.elim
 | _ :: _, [], _, _, _, _, h => h.elim
end
theorem IterOf.k {target : PySem.Expr} {x : Value} {E0 : Led} {N : Nat} {P : Nat → Value → Fz → Prop} (h : IterOf prog w K A target x E0 N P z) {Q : Value → Fz → Led → Prop} (k : ∀ it I M, Iter prog w K A z target it N P I M → Q it z (I 0)) : W prog w K A (pyIter x) z E0 Q :=
 W.mono h fun it z' n' u_ h_ => oAEEA h_ fun e I M e' hI => by subst e e'; exact k it I M hI
/-- what a for asks of what it goes over -/
inductive ForAsk (prog : Program) (w : World) (K : Frag) (A : Around) (c : Cx) (target : PySem.Expr) (body : List Stmt) (m : M) (Q : KF) (x : Value) (z1 : Fz) (n1 : Led) : Prop
 | mk (E0 n1' : Led) (N : Nat) (P : Nat → Value → Fz → Prop) (J : Nat → M → Fz → Led → Prop) (hp : n1.Perm (n1' ++ E0)) (hit : IterOf prog w K A target x E0 N P z1) (hj : J 0 m z1 n1')
   (turn : ∀ i v m' zi zi' ni, i < N → Le z1 zi → Le zi zi' → P i v zi' → J i m' zi ni → asg c target v m' zi' ni fun m2 z2 n2 => exs prog w K A c body m2 z2 n2 (turnK J i zi' Q))
   (done : ∀ m' zi ni, Le z1 zi → J N m' zi ni → Q .next m' zi ni) : ForAsk prog w K A c target body m Q x z1 n1
theorem for_sem (hE : CxOk prog w K A c) {target iter : PySem.Expr} {body : List Stmt} {pos : Pos} {Q : KF}
  (h : VW prog w K A c (eval iter c.env) m z n (ForAsk prog w K A c target body m Q))
  (hf : ∀ x, foldedSetIterable iter c.env x = pure x := by intro _; rfl) : SW prog w K A c (exec (.For target iter body [] pos) c.env) m z n Q := fun E s hs => by
 let F : M → Led → Led := fun m ni => (c.L, .ns c.sc c.g m) :: ni
 refine wpAny_For (SW.seq h hs fun x z1 n1 s1 st1 hq => ?_) hf
 obtain ⟨E0, n1', N, P, J, hp, hit, hj, turn, done⟩ := hq
 have st1' : Step prog w K z (F m n) s z1 (F m n1' ++ E0) s1 := st1.perm (hp.cons (c.L, Lo.ns c.sc c.g m))
 clear st1
 refine W.runk st1'.st (W.ahead (hit.k fun it I M hI s2 st2 => ?_))
 have base := st1'.trans st2 hs.ztb
 clear st1' st2 hp hit
 refine codeAny_forLoop_any (fun k s' => ∀ G : Prop, (∀ i m' zi ni, Step prog w K z (F m n) s zi (F m' ni ++ I i) s' → Le z1 zi → J i m' zi ni → i ≤ N → k = N + 1 - i → G) → G) (fun k s' hG => hG _ fun i m' zi ni st le hJ hi e => ?_) (N + 1) fun u_ k => k 0 m z1 n1' base (Le.refl _) hj (Nat.zero_le _) rfl
 subst e
 by_cases hlt : i < N
 ·refine W.runk st.st (W.ahead (hI.next i zi _ hlt le fun v z3 l3 p3 s3 st3 => ?_))
  refine W.runk st3.st (W.ahead (hI.own i z3 v _ hlt (le.trans l3) p3 fun n' e s4 st4 => ?_))
  subst e
  refine W.runk st4.st (W.under (SW.k (asg_ok hE _ (turn i v m' zi z3 ni hlt le l3 p3 hJ)) fun u_ m5 z5 n5 l5 hb s5 st5 => ?_))
  refine W.runk st5.st (W.under (SW.k (show SW prog w K A c (execs body c.env) m5 z5 n5 _ from hb) fun f m9 z6 n9 l6 q s6 st6 => ?_))
  have step6 := (((st.trans st3 hs.ztb).trans st4 hs.ztb).trans st5 hs.ztb).trans st6 hs.ztb
  have le6 : Le z1 z6 := (le.trans l3).trans (l5.trans l6)
  replace q := q (l5.trans l6)
  have hk : N + 1 - (i + 1) < N + 1 - i := by rw [Nat.add_sub_add_right]; exact Nat.sub_lt_sub_right hi (Nat.lt_succ_self N)
  cases f with
  | next => exact ⟨_, hk, fun u_ k => k (i + 1) m9 z6 n9 step6 le6 q hlt rfl⟩
  | cont => exact ⟨_, hk, fun u_ k => k (i + 1) m9 z6 n9 step6 le6 q hlt rfl⟩
  | brk => exact ⟨z6, _, step6.drop (List.sublist_append_left _ _), m9, n9, rfl, q⟩
  | ret v => exact ⟨z6, _, step6.drop (List.sublist_append_left _ _), m9, n9, rfl, q⟩
 ·obtain rfl : i = N := Nat.le_antisymm hi (Nat.not_lt.mp hlt)
  exact W.runk st.st (W.ahead (hI.done zi _ le fun s3 st3 => wpAny_execs_nil ⟨zi, _, (st.trans st3 hs.ztb).drop (List.sublist_append_left _ _), m', ni, rfl, done m' zi ni le hJ⟩))
/-- a while, by an invariant and a measure -/
theorem while_ok (hE : CxOk prog w K A c) {test : PySem.Expr} {body : List Stmt} {pos : Pos} {Q : KF} (J : Nat → M → Fz → Led → Prop) (k : Nat) (h0 : J k m z n)
  (turn : ∀ k m' zi ni, Le z zi → J k m' zi ni → tst prog w K A c test (ev prog w K A c test m') m' zi ni fun b z1 n1 => brE b (exs prog w K A c body m' z1 n1 (turnW J k z1 Q)) (Q .next m' z1 n1)) : SW prog w K A c (exec (.While test body [] pos) c.env) m z n Q := fun E s hs => by
 refine wpAny_While (codeAny_whileLoop (fun k s' => ∀ G : Prop, (∀ m' zi ni, Step prog w K z ((c.L, .ns c.sc c.g m) :: n) s zi ((c.L, .ns c.sc c.g m') :: ni) s' → J k m' zi ni → G) → G) (fun k s' hG => hG _ fun m' zi ni st hJ => ?_) k fun u_ g => g m z n (.refl hs) h0)
 refine SW.seq (tstE hE (turn k m' zi ni st.zle hJ)) st.st fun b z2 n2 s2 st2 h2 => ?_
 cases b with
 | false => exact wpAny_execs_nil ⟨z2, _, st.trans st2 hs.ztb, m', n2, rfl, h2⟩
 | true =>
  refine W.runk st2.st (SW.k (show SW prog w K A c (execs body c.env) m' z2 n2 _ from h2) fun f m3 z3 n3 l3 q s3 st3 => ?_)
  have step3 := (st.trans st2 hs.ztb).trans st3 hs.ztb
  replace q := q l3
  cases f with
  | next => refine oEA q fun k' hk hJ' => ?_; clear q; exact ⟨k', hk, fun u_ g => g m3 z3 n3 step3 hJ'⟩
  | cont => refine oEA q fun k' hk hJ' => ?_; clear q; exact ⟨k', hk, fun u_ g => g m3 z3 n3 step3 hJ'⟩
  | brk => exact ⟨z3, _, step3, m3, n3, rfl, q⟩
  | ret v => exact ⟨z3, _, step3, m3, n3, rfl, q⟩
end
section
variable {prog : Program} {w : World} {K : Frag} {A : Around} {z z' : Fz} {n n' : Led}
theorem isList_of {a : Addr} {vs : List Value} {s : Shared} (h : At prog w K s.heap a (.lst vs)) : s.heap.IsList a vs.toArray := let ⟨o, e, hc, _, _, k, hd⟩ := h; ⟨o, e, hc, k, hd⟩
theorem isTuple_of {a : Addr} {vs : List Value} {s : Shared} (h : At prog w K s.heap a (.tup vs)) : s.heap.IsTuple a vs.toArray := let ⟨o, e, hc, k, hd⟩ := h; ⟨o, e, hc, k, hd⟩
theorem Step.forget (hs : St prog w K z n s) {p : Addr × Lo} (hn : n = [p]) {h' : Heap} {tk : Nat} (hk : Heap.ExtBut p.1 s.heap h') : Step prog w K z n s z [] { s with heap := h', toks := tk } := by
 subst hn
 exact Step.ext hs (fun a o hn e => hk a o (fun q => hn (by rw [q]; exact .head _)) e) (fun u_ h => nomatch h) (fun u_ h => nomatch h) List.nodup_nil
/-- what a turn does with an object of two, lent -/
noncomputable def lentBody (r a : Addr) (o : Obj) : Sem Unit := match o.cls, o.data with
 | .type n, .fields vs =>
  if ["enumerate", "zip", "dict_itemiterator", "dict_reverseitemiterator", "odict_iterator", "itertools.zip_longest", "itertools.pairwise"].contains n && vs[0]? == some (rawInt a) then do
   PySem.rule "for.unpacks-the-owned-tuple"
   updateField r 0 .none
  else pure ()
 | _, _ => pure ()
theorem letOwned_cases {target : PySem.Expr} {r : Addr} {v : Value} {P : Sem Unit → Prop} (h0 : P (pure ())) (h1 : ∀ a, v = .ref a → P (load r >>= lentBody r a)) : P (letOwnedTupleGo target (.ref r) v) := by
 cases target with
 | Tuple => cases v with
  | ref a => exact h1 a rfl
  | _ => exact h0
 | List => cases v with
  | ref a => exact h1 a rfl
  | _ => exact h0
 | _ => exact h0
theorem letOwned_keep {lo : Lo} {it : Addr} {target : PySem.Expr} {v : Value} {Q : Unit → Fz → Led → Prop} (hc : ∀ h o a, At prog w K h it lo → h.get? it = some o → lentBody it a o = pure ())
  (hm : (it, lo) ∈ n) (h : Q () z n) : W prog w K A (letOwnedTupleGo target (.ref it) v) z n Q := fun E s hs => by
 have fin := wpAny_pure (M := model prog w) (A := A) (E := E) (a := ()) (Q := fun v s' => ∃ z' n', Step prog w K z n s z' n' s' ∧ Q v z' n') ⟨_, _, Step.refl hs, h⟩
 refine letOwned_cases (P := fun t => wpAny (model prog w) A t _ E s) fin fun a u_ => ?_
 obtain ⟨o, ho⟩ := hs.has (List.mem_map_of_mem (f := (·.1)) hm)
 refine wpAny_bind (wpAny_load ho ?_)
 rw [hc _ o a (hs.led _ hm) ho]
 exact fin
theorem lent_fld {c : String} {vs : List Value} {h : Heap} {it : Addr} {o : Obj} {a : Addr} (hc : (["enumerate", "zip", "dict_itemiterator", "dict_reverseitemiterator", "odict_iterator", "itertools.zip_longest", "itertools.pairwise"] : List String).contains c = false)
  (hA : At prog w K h it (.fld c vs)) (ho : h.get? it = some o) : lentBody it a o = pure () := by
 refine oEAA hA fun o' ho' hcl hd => ?_
 clear hA
 cases ho.symm.trans ho'
 unfold lentBody
 rw [hcl, hd]
 show (if (_ && _) = true then _ else _) = _
 rw [hc]
 rfl
theorem iter_list (hh : A.handled = none) {a : Addr} {vs : List Value} (hz : z a = some (.lst vs)) {target : PySem.Expr} : IterOf prog w K A target (.ref a) [] vs.length (fun i v u_ => vs[i]? = some v) z := fun E s hs => by
 have hl := isList_of (hs.frz a _ hz)
 refine wpAny_pyIter_list hl ⟨z, _, Step.push hs (lo := .fld "list_iterator" [.ref a, .int 0 0]) ⟨rfl, rfl⟩ rfl, rfl, fun i => [(s.heap.objs.size, .fld "list_iterator" [.ref a, .int i 0])], fun i u_ => [(s.heap.objs.size, .fld "list_iterator" [.ref a, .int ((i + 1 : Nat) : Int) 0])], rfl, ?_⟩
 refine ⟨fun i z1 Q hi le hQ E s1 hs1 => ?_, fun z1 Q le hQ E s1 hs1 => ?_, fun i z1 Q le hQ E s1 hs1 => ?_, fun i z1 v Q hi le u_ hQ => letOwned_keep (fun u_ u_ u_ => lent_fld (by decide)) (.head _) (hQ _ rfl)⟩
 ·refine oEAA (hs1.led _ (.head _)) fun o ho hc hd => ?_
  refine wpAny_pyNext_list_item (it := s.heap.objs.size) ⟨o, ho, hc, hd⟩ (isList_of (hs1.frz a _ (le _ _ hz))) (x := vs[i]) (by simp [hi]) fun h' hit sb => ?_
  refine oEAA hit fun o' ho' hc' hd' => ?_
  clear hit
  exact ⟨z1, _, Step.upd hs1 (lo' := .fld "list_iterator" [.ref a, .int ((i + 1 : Nat) : Int) 0]) Up.head sb ⟨o', ho', hc', hd'⟩, hQ _ _ (Le.refl _) (by simp [hi])⟩
 ·refine oEAA (hs1.led _ (.head _)) fun o ho hc hd => ?_
  refine wpAny_pyNext_list_end hh (it := s.heap.objs.size) ⟨o, ho, hc, hd⟩ (isList_of (hs1.frz a _ (le _ _ hz))) (by simp) fun h' hk => ?_
  exact ⟨z1, [], Step.forget hs1 rfl hk, hQ⟩
 ·refine oEAA (hs1.led _ (.head _)) fun o ho hc hd => ?_
  exact wpAny_pyIter_listiter (it := s.heap.objs.size) (l := a) (i := i) ⟨o, ho, hc, hd⟩ ⟨z1, _, .refl hs1, hQ⟩
theorem iter_tup (hh : A.handled = none) {a : Addr} {vs : List Value} (hz : z a = some (.tup vs)) {target : PySem.Expr} : IterOf prog w K A target (.ref a) [] vs.length (fun i v u_ => vs[i]? = some v) z := fun E s hs => by
 have hl := isTuple_of (hs.frz a _ hz)
 refine wpAny_pyIter_tuple hl ⟨z, _, Step.push hs (lo := .fld "tuple_iterator" [.ref a, .int 0 0]) ⟨rfl, rfl⟩ rfl, rfl, fun i => [(s.heap.objs.size, .fld "tuple_iterator" [.ref a, .int i 0])], fun i u_ => [(s.heap.objs.size, .fld "tuple_iterator" [.ref a, .int ((i + 1 : Nat) : Int) 0])], rfl, ?_⟩
 refine ⟨fun i z1 Q hi le hQ E s1 hs1 => ?_, fun z1 Q le hQ E s1 hs1 => ?_, fun i z1 Q le hQ E s1 hs1 => ?_, fun i z1 v Q hi le u_ hQ => letOwned_keep (fun u_ u_ u_ => lent_fld (by decide)) (.head _) (hQ _ rfl)⟩
 ·refine oEAA (hs1.led _ (.head _)) fun o ho hc hd => ?_
  refine wpAny_pyNext_tuple_item (it := s.heap.objs.size) ⟨o, ho, hc, hd⟩ (isTuple_of (hs1.frz a _ (le _ _ hz))) (x := vs[i]) (by simp [hi]) fun h' hit sb => ?_
  refine oEAA hit fun o' ho' hc' hd' => ?_
  clear hit
  exact ⟨z1, _, Step.upd hs1 (lo' := .fld "tuple_iterator" [.ref a, .int ((i + 1 : Nat) : Int) 0]) Up.head sb ⟨o', ho', hc', hd'⟩, hQ _ _ (Le.refl _) (by simp [hi])⟩
 ·refine oEAA (hs1.led _ (.head _)) fun o ho hc hd => ?_
  refine wpAny_pyNext_tuple_end hh (it := s.heap.objs.size) ⟨o, ho, hc, hd⟩ (isTuple_of (hs1.frz a _ (le _ _ hz))) (by simp) fun h' hk => ?_
  exact ⟨z1, [], Step.forget hs1 rfl hk, hQ⟩
 ·refine oEAA (hs1.led _ (.head _)) fun o ho hc hd => ?_
  exact wpAny_pyIter_tupleiter (it := s.heap.objs.size) (t := a) (i := i) ⟨o, ho, hc, hd⟩ ⟨z1, _, .refl hs1, hQ⟩
end
section
variable {prog : Program} {w : World} {K : Frag} {A : Around} {E : Value → Shared → Prop} {R : Result → Shared → Prop} {s : Shared} {z z' : Fz} {n n' : Led} {env : Env} {L : Addr} {sc : Scope}
theorem compLoop_any {elt target iter : PySem.Expr} {ifs : List PySem.Expr} {scope : Scope} {pos : Pos} {it acc : Value} {env : Env} (I : Nat → Shared → Prop)
  (turn : ∀ n s, I n s → wpAny (model prog w) A (pyNext it) (fun r s₁ => match r with
   | none => R (.ok .next) s₁
   | some v => wpAny (model prog w) A (letOwnedTupleGo target it v) (fun u_ s₁' => wpAny (model prog w) A (assign target env v) (fun u_ s₂ =>
     wpAny (model prog w) A (forIn ifs true fun c r => if r = true then do let ok ← isTrue c env (eval c env); pure (ForInStep.yield ok) else pure (ForInStep.yield r)) (fun ok s₃ =>
      if ok = true then wpAny (model prog w) A (eval elt env) (fun x s₄ =>
       wpAny (model prog w) A (call (.builtin "list.append") [acc, x]) (fun u_ s₅ => ∃ m, m < n ∧ I m s₅) (notedBy (model prog w) A env fun e s' => R (.error e) s') s₄) (notedBy (model prog w) A env fun e s' => R (.error e) s') s₃
      else ∃ m, m < n ∧ I m s₃) (notedBy (model prog w) A env fun e s' => R (.error e) s') s₂) (notedBy (model prog w) A env fun e s' => R (.error e) s') s₁') (notedBy (model prog w) A env fun e s' => R (.error e) s') s₁) (notedBy (model prog w) A env fun e s' => R (.error e) s') s)
  (n : Nat) (h : I n s) : codeAny (model prog w) A (.compLoop (.ListComp elt [⟨target, iter, ifs, 0⟩] scope pos) 0 it acc env) R s := by
 refine codeAny_loop rfl I (fun n s hI => ?_) n h
 show wpAny _ A ((compTurn (.ListComp elt [⟨target, iter, ifs, 0⟩] scope pos) 0 it acc env).onRaise (fun x => do noteFrame x env; theTreesLotGoes x)) _ _ s
 refine wpAny_noted ?_
 rw [compTurn_list]
 refine wpAny_bind (wpAny_standAt (wpAny_bind (wpAny_mono (turn n s hI) (fun r s₁ h₁ => ?_) fun u_ u_ h' => h')))
 cases r with
 | none => exact wpAny_pure h₁
 | some v =>
  refine wpAny_bind (wpAny_mono h₁ (fun u_ s₁' h₁' => ?_) fun u_ u_ h' => h')
  refine wpAny_bind (wpAny_mono h₁' (fun u_ s₂ h₂ => wpAny_bind (wpAny_mono h₂ (fun ok s₃ h₃ => ?_) fun u_ u_ h' => h')) fun u_ u_ h' => h')
  cases ok with
  | false => exact wpAny_pure ⟨rfl, h₃⟩
  | true =>
   exact wpAny_bind (wpAny_bind (wpAny_mono h₃ (fun x s₄ h₄ => wpAny_bind (wpAny_mono h₄ (fun u_ s₅ h₅ => wpAny_pure (wpAny_pure ⟨rfl, h₅⟩)) fun u_ u_ h' => h')) fun u_ u_ h' => h'))
/-- appended to, in the ledger -/
theorem append_W {a v} {vs : List Value} (U : Up a (.lst vs) (.lst (vs ++ [v])) n n') (hl : vs.length ≤ 1000000) {Q : KV} (h : Q .none z n') : W prog w K A (call (.builtin "list.append") [.ref a, v] []) z n Q := fun E s hs => by
 obtain ⟨⟨cls, dd, data, sl⟩, ho, hc, hd, hsl, k, hdt⟩ := hs.led _ U.mem
 simp only at hc hd hsl hdt
 subst hc hd hsl hdt
 refine wpAny_list_append_plain (l := a) (items := vs.toArray) ⟨k, ho⟩ (fun h' hp sb => ?_) (by rw [List.size_toArray, sizeLine_eq]; exact Nat.le_trans hl (Nat.le_of_ble_eq_true rfl))
 obtain ⟨k', ho'⟩ := hp
 exact ⟨z, n', Step.upd hs U sb ⟨_, ho', rfl, rfl, rfl, k', by simp⟩, h⟩
noncomputable def keysAre (xs : List Str) (m : M) : Prop := m.map (·.1) = xs
theorem keys1 {x : Str} {m : M} (h : keysAre [x] m) : ∃ v, m = [(x, v)] := by
 cases m with
 | nil => cases h
 | cons p r =>
  cases r with
  | nil => exact ⟨p.2, by rw [← (List.cons.inj h).1]⟩
  | cons q r => cases (List.cons.inj h).2
theorem keys_cons {x : Str} {xs : List Str} {m : M} (h : keysAre (x :: xs) m) : ∃ v r, m = (x, v) :: r ∧ keysAre xs r := by
 cases m with
 | nil => cases h
 | cons p r => exact ⟨p.2, r, by rw [← (List.cons.inj h).1], (List.cons.inj h).2⟩
theorem keys2 {x y : Str} {m : M} (h : keysAre [x, y] m) : ∃ v u, m = [(x, v), (y, u)] := by
 refine oEEA (keys_cons h) fun v r e0_ h2 => ?_
 subst e0_
 obtain ⟨u, rfl⟩ := keys1 h2
 exact ⟨v, u, rfl⟩
theorem keys3 {x y t : Str} {m : M} (h : keysAre [x, y, t] m) : ∃ v u s, m = [(x, v), (y, u), (t, s)] := by
 refine oEEA (keys_cons h) fun v r e0_ h2 => ?_
 subst e0_
 refine oEE (keys2 h2) fun u s e0_ => ?_
 subst e0_
 exact ⟨v, u, s, rfl⟩
/-- a comprehension's own cell -/
noncomputable def ownCl (own : Option Str) (a : Addr) (cl : List (Str × Addr)) : List (Str × Addr) := match own with
 | none => cl
 | some x => (x, a) :: cl
noncomputable def ownL (own : Option Str) (C : Addr) (v : Option Value) : Led := match own with
 | none => []
 | some _ => [(C + 1, .cell v)]
noncomputable def ownH (own : Option Str) (h : Heap) : Heap := match own with
 | none => h
 | some _ => h.push { cls := .type "cell", data := .cell none }
theorem newCompEnv {scope : Scope} {globals : Addr} {cl : List (Str × Addr)} {qual : Str} {env : Env} {own : Option Str} {Q : Env → Shared → Prop} (hcf : ∀ p, cellsFrom p scope.names cl = ownCl own p cl) (hpc : ∀ h, pushCells h scope.names = ownH own h)
  (h : Q { scope := scope, locals := s.heap.objs.size, globals := globals, cells := ownCl own (s.heap.objs.size + 1) cl, qual := qual, func := none, code := env.code, frame := env.frame, builtins := env.builtins } { s with heap := ownH own (s.heap.push { cls := .type "dict", data := .dict #[] }) }) :
  wpAny (model prog w) A (newFunctionEnv scope globals cl [] qual none .none (some env)) Q E s := by
 simp only [newFunctionEnv, Option.isSome_some, if_true]
 refine wpAny_bind (wpAny_alloc ?_)
 refine wpAny_bind (wpAny_layCells _ (fun name kind cells => by cases hkc : kind == NameKind.cell <;> simp [hkc]) _ _ _ _ ?_)
 rw [hcf, hpc, show ({ s with heap := s.heap.push { cls := .type "dict", data := .dict #[] } } : Shared).heap.objs.size = s.heap.objs.size + 1 from Heap.size_push ..]
 rw [List.forIn_nil]
 exact wpAny_bind (wpAny_pure (wpAny_pure h))
end
theorem lookup_relabel {env : Env} {k : NameKind} (hk : k ≠ .free) : ∀ {names : List (Str × NameKind)} {x : Str}, names.lookup x = some k →
  (names.map fun (n, k) => if (k == NameKind.free && env.scope.kind == .function && env.kindOf n == some .cell) then (n, NameKind.cell) else (n, k)).lookup x = some k
 | (y, j) :: r, x, h => by
  rw [List.lookup_cons] at h
  rw [List.map_cons, List.lookup_cons]
  by_cases e : (x == y) = true
  ·rw [e] at h
   cases h
   have hj : (k == NameKind.free) = false := beq_eq_false_iff_ne.mpr hk
   simp only [hj, Bool.false_and, Bool.false_eq_true, if_false, e]
  ·rw [Bool.not_eq_true] at e
   rw [e] at h
   have ih := lookup_relabel (env := env) hk h
   have e2 : (x == (if (j == NameKind.free && env.scope.kind == .function && env.kindOf y == some .cell) = true then (y, NameKind.cell) else (y, j)).1) = false := by
    split <;> exact e
   rw [e2]
   exact ih
theorem lookup_free {env : Env} : ∀ {names : List (Str × NameKind)} {x : Str}, names.lookup x = some .free →
  (names.map fun (n, k) => if (k == NameKind.free && env.scope.kind == .function && env.kindOf n == some .cell) then (n, NameKind.cell) else (n, k)).lookup x = some .cell ∨
  (names.map fun (n, k) => if (k == NameKind.free && env.scope.kind == .function && env.kindOf n == some .cell) then (n, NameKind.cell) else (n, k)).lookup x = some .free
 | (y, j) :: r, x, h => by
  rw [List.lookup_cons] at h
  rw [List.map_cons, List.lookup_cons]
  by_cases e : (x == y) = true
  ·rw [e] at h
   cases h
   by_cases hc : (NameKind.free == NameKind.free && env.scope.kind == .function && env.kindOf y == some .cell) = true
   ·rw [if_pos hc, e]; exact .inl rfl
   ·rw [if_neg hc, e]; exact .inr rfl
  ·rw [Bool.not_eq_true] at e
   rw [e] at h
   have ih := lookup_free (env := env) h
   have e2 : (x == (if (j == NameKind.free && env.scope.kind == .function && env.kindOf y == some .cell) = true then (y, NameKind.cell) else (y, j)).1) = false := by
    split <;> exact e
   rw [e2]
   exact ih
theorem lka_lookup : ∀ {l : List (Str × Addr)} {x : Str} {a : Addr}, lka l x = some a → l.lookup x = some a ∧ (x, a) ∈ l
 | (k, v) :: r, x, a, h => by
  rw [lka_c] at h
  rw [List.lookup_cons]
  by_cases hx : x = k
  ·rw [if_pos hx] at h
   cases h
   rw [hx, beq_self_eq_true]
   exact ⟨rfl, .head _⟩
  ·rw [if_neg hx] at h
   rw [beq_eq_false_iff_ne.mpr hx]
   obtain ⟨h1, h2⟩ := lka_lookup h
   exact ⟨h1, .tail _ h2⟩
/-- a closure's names, as the comprehension sees them -/
noncomputable def clOk (csc : Scope) (cl : List (Str × Addr)) : Bool := cl.all fun p => (csc.names.lookup p.1 == some .free || csc.names.lookup p.1 == some .cell) && p.1 != "__classdict__" && p.1 != "__debug__"
theorem Up.behind {a lo lo' r r'} (l : Led) (h : Up a lo lo' r r') : Up a lo lo' (l ++ r) (l ++ r') := by
 induction l with
 | nil => exact h
 | cons p l ih => exact .tail ih
theorem lkm_keys {m : M} {x : Str} {v : Option Value} (h : lkm m x = some v) : x ∈ m.map (·.1) := by
 induction m with
 | nil => exact noO h
 | cons p r ih =>
  by_cases hx : x = p.1
  ·exact hx ▸ .head _
  ·exact .tail _ (ih ((if_neg hx).symm.trans h))
theorem lkm_none : ∀ (xs : List Str) (x : Str) (v : Option Value), lkm (xs.map fun y => (y, (none : Option Value))) x = some v → v = none
 | [], x, v, h => by cases h
 | y :: r, x, v, h => by
  rw [List.map_cons] at h
  rw [lkm_c] at h
  by_cases hx : x = y
  ·rw [if_pos hx] at h; exact (Option.some.inj h).symm
  ·rw [if_neg hx] at h; exact lkm_none r x v h
section
variable (prog : Program) (w : World) (K : Frag) (A : Around)
noncomputable def useE (use : Option (Value → Sem Unit)) (v : Value) (z : Fz) (n : Led) (Q : KV) : Prop := match use with
 | none => Q v z n
 | some u => W prog w K A (u v) z n fun u_ z' n' => Q .none z' n'
/-- the tests of a comprehension: at most one -/
noncomputable def ifsE (c : Cx) : List PySem.Expr → M → Fz → Led → KB → Prop
 | [], m, z, n, Q => Q true z n
 | t :: r, m, z, n, Q => grd r.isEmpty (tst prog w K A c t (ev prog w K A c t m) m z n Q)
/-- a comprehension's frame -/
noncomputable def compC (csc : Scope) (cl : List (Str × Addr)) (own : Option Str) (g : List (Str × Value)) (env : Env) (C : Addr) : Cx :=
 ⟨compEnvC csc (ownCl own (C + 1) cl) C env, C, relabel csc env, g, ownCl own (C + 1) cl⟩
/-- behind a turn: the frame's names, what is outside -/
noncomputable def finC (own : Option Str) (xs : List Str) (C : Addr) (m : M) (n : Led) (P : Led → Prop) : Prop := keysAre xs m ∧ ∃ ov n5, n = ownL own C ov ++ n5 ∧ P n5
structure CompTurns (target : PySem.Expr) (ifs : List PySem.Expr) (elt : PySem.Expr) (csc : Scope) (cl : List (Str × Addr)) (own : Option Str) (env : Env) (g : List (Str × Value)) (xs : List Str) (z1 : Fz) (N : Nat) (P : Nat → Value → Fz → Prop)
  (J : Nat → List Value → Fz → Led → Prop) : Prop where
 turn : ∀ (C : Addr), CxOk prog w K A (compC csc cl own g env C) → ∀ i vs v zi zi' ni m ov, i < N → vs.length ≤ i → Le z1 zi → Le zi zi' → P i v zi' → J i vs zi ni → keysAre xs m →
  SW prog w K A (compC csc cl own g env C) (assign target (compC csc cl own g env C).env v) m zi' (ownL own C ov ++ ni) fun u_ m2 z2 n2 =>
   VW prog w K A (compC csc cl own g env C) (forIn ifs true fun t r => if r = true then do let ok ← isTrue t (compC csc cl own g env C).env (eval t (compC csc cl own g env C).env); pure (ForInStep.yield ok) else pure (ForInStep.yield r)) m2 z2 n2 fun ok z3 n3 =>
    brE ok (VW prog w K A (compC csc cl own g env C) (eval elt (compC csc cl own g env C).env) m2 z3 n3 fun y z4 n4 => Le zi' z4 → finC own xs C m2 n4 (J (i + 1) (vs ++ [y]) z4)) (Le zi' z3 → finC own xs C m2 n3 (J (i + 1) vs z3))
end
section
variable {prog : Program} {w : World} {K : Frag} {A : Around} {z z' : Fz} {n n' : Led}
theorem ifsE_ok {c : Cx} {m : M} (hE : CxOk prog w K A c) {ifs : List PySem.Expr} {Q : KB} (h : ifsE prog w K A c ifs m z n Q) :
  VW prog w K A c (forIn ifs true fun t r => if r = true then do let ok ← isTrue t c.env (eval t c.env); pure (ForInStep.yield ok) else pure (ForInStep.yield r)) m z n Q := by
 cases ifs with
 | nil => exact fun E s hs => wpAny_tests_nil ⟨_, _, .refl hs, n, rfl, h⟩
 | cons t r =>
  obtain ⟨hr, h⟩ := grd_and h
  rw [List.isEmpty_iff.mp hr]
  exact fun E s hs => wpAny_tests_one (tstE hE h E s hs)
theorem compC_ok {csc : Scope} {cl : List (Str × Addr)} {own : Option Str} {g : List (Str × Value)} {env : Env} {C : Addr} (hgl : env.globals = mainGlobals) (hbu : env.builtins = builtinsNs) (hh : A.handled = none) (hkind : csc.kind = .function)
  (hcl : clOk csc (ownCl own 0 cl) = true) : CxOk prog w K A (compC csc cl own g env C) := by
 refine ⟨rfl, rfl, hkind, hgl, hbu, hh, fun x a h => ?_⟩
 obtain ⟨h1, h2⟩ := lka_lookup h
 refine ⟨h1, ?_⟩
 have h3 : ∃ b, (x, b) ∈ ownCl own 0 cl := by
  cases own with
  | none => exact ⟨a, h2⟩
  | some y =>
   rcases List.mem_cons.mp (show (x, a) ∈ (y, C + 1) :: cl from h2) with e | e
   ·cases e; exact ⟨0, .head _⟩
   ·exact ⟨a, .tail _ e⟩
 obtain ⟨b, h3⟩ := h3
 obtain ⟨h4, h5⟩ := Bool.and_eq_true_iff.mp (List.all_eq_true.mp hcl _ h3)
 obtain ⟨h6, h7⟩ := Bool.and_eq_true_iff.mp h4
 refine ⟨?_, by simpa using h7, by simpa using h5⟩
 rcases Bool.or_eq_true_iff.mp h6 with e | e
 ·exact lookup_free (beq_iff_eq.mp e)
 ·exact .inl (lookup_relabel (fun q => by cases q) (beq_iff_eq.mp e))
theorem RW.k {α : Type} {t : Sem α} {R0 : Led} {Q : α → Fz → Led → Prop} {R : α → Fz → Led → Prop} (h : W prog w K A t z n fun v z' n' => ∃ n1, n' = R0 ++ n1 ∧ Q v z' n1) (k : ∀ v z1 n1, Le z z1 → Q v z1 n1 → R v z1 (R0 ++ n1)) : W prog w K A t z n R :=
 W.mono h fun v z1 n' l h_ => oEA h_ fun n1 e q => e ▸ k v z1 n1 l q
theorem W.assoc {α : Type} {t : Sem α} {a b c : Led} {Q : α → Fz → Led → Prop} (h : W prog w K A t z (a ++ (b ++ c)) Q) : W prog w K A t z ((a ++ b) ++ c) Q := (List.append_assoc a b c).symm ▸ h
theorem Step.assoc {s s' : Shared} (a b c : Led) (h : Step prog w K z n s z' (a ++ (b ++ c)) s') : Step prog w K z n s z' ((a ++ b) ++ c) s' := (List.append_assoc a b c).symm ▸ h
theorem down_lt {N i : Nat} (h : i < N) : N + 1 - (i + 1) < N + 1 - i := by rw [Nat.add_sub_add_right]; exact Nat.sub_lt_sub_right (Nat.le_of_lt h) (Nat.lt_succ_self N)
/-- what a comprehension asks -/
inductive CompAsk (prog : Program) (w : World) (K : Frag) (A : Around) (env : Env) (elt target : PySem.Expr) (ifs : List PySem.Expr) (csc : Scope) (cl : List (Str × Addr)) (own : Option Str) (g : List (Str × Value)) (xs : List Str) (x : Value) (z1 : Fz) (n1 : Led) (Q : List Value → Fz → Led → Prop) : Prop
 | mk (E0 n1' : Led) (N : Nat) (P : Nat → Value → Fz → Prop) (J : Nat → List Value → Fz → Led → Prop) (hp : n1.Perm (n1' ++ E0)) (hit : IterOf prog w K A target x E0 N P z1) (hN : N ≤ 1000000) (hj : J 0 [] z1 n1')
  (T : CompTurns prog w K A target ifs elt csc cl own env g xs z1 N P J)
  (done : ∀ vs zN nN, Le z1 zN → vs.length ≤ N → J N vs zN nN → Q vs zN nN) : CompAsk prog w K A env elt target ifs csc cl own g xs x z1 n1 Q
/-- the new frame of a comprehension -/
theorem comp_frame (R0 : Led) {env : Env} {csc : Scope} {own : Option Str} {g : List (Str × Value)} {xs : List Str} {D : Addr} {n1 X : Led} {s3 : Shared}
  (hxs : ∀ x ∈ xs, (relabel csc env).names.lookup x = some .local ∧ x ≠ "__debug__") (hg : ∀ x v, lkv g x = some v → (relabel csc env).names.lookup x = some .globalImplicit ∧ GlobIs K x v)
  (hS0 : St prog w K z ((D, .lst []) :: ((n1 ++ R0) ++ X)) s3) {C : Addr} (hC : s3.heap.objs.size = C) :
  Step prog w K z ((D, .lst []) :: ((n1 ++ R0) ++ X)) s3 z (((C, .ns (relabel csc env) g (xs.map fun y => (y, none))) :: (ownL own C none ++ n1)) ++ ((D, .lst []) :: (R0 ++ X))) ({ s3 with heap := ownH own (s3.heap.push { cls := .type "dict", data := .dict #[] }) } : Shared) := by
 have hCf : s3.heap.get? C = none := hC ▸ get_size_none _
 have hperm : ((D, Lo.lst []) :: ((n1 ++ R0) ++ X)).Perm (n1 ++ ((D, .lst []) :: (R0 ++ X))) := by rw [List.append_assoc]; exact List.perm_middle.symm
 have hS := hS0.perm hperm
 refine Step.permL (n := n1 ++ ((D, .lst []) :: (R0 ++ X))) ?_ hperm.symm
 clear hperm hS0
 generalize ((D, Lo.lst []) :: (R0 ++ X)) = Y at *
 have atC : ∀ h', (∀ o, (s3.heap.push { cls := .type "dict", data := .dict #[] }).get? C = some o → h'.get? C = some o) → At prog w K h' C (.ns (relabel csc env) g (xs.map fun y => (y, none))) := fun h' k => by
  refine ⟨_, k _ (hC ▸ Heap.get?_push_size _ rfl), ⟨#[], 0, rfl, fun e he => by simp at he, fun y v e => ?_⟩, fun y v e => ?_, hg⟩
  ·rw [lkm_none xs y v e]; rfl
  ·have := lkm_keys e
   rw [List.map_map] at this
   exact hxs y (by simpa using this)
 generalize (xs.map fun y => (y, (none : Option Value))) = ms at *
 clear hxs hg
 cases own with
 | none =>
  refine Step.ext hS (fun a o u_ e => Heap.get?_push_of_some _ e) (fun p hp => ?_) (fun a ha => ?_) ?_
  ·rcases List.mem_cons.mp hp with rfl | hp
   ·exact atC _ fun u_ e => e
   ·exact (hS.led p hp).kept fun o e => Heap.get?_push_of_some _ e
  ·rcases List.mem_cons.mp (show a ∈ C :: addrs (n1 ++ Y) from ha) with rfl | ha
   ·exact .inr hCf
   ·exact .inl ha
  ·refine List.nodup_cons.mpr ⟨fun m => ?_, hS.nodup⟩
   obtain ⟨o, e⟩ := hS.has (show C ∈ addrs (n1 ++ Y) from m)
   rw [hCf] at e; cases e
 | some y =>
  have hsz : (s3.heap.push { cls := .type "dict", data := .dict #[] }).objs.size = C + 1 := by rw [Heap.size_push, hC]
  have hC1 : s3.heap.get? (C + 1) = none := by
   cases e : s3.heap.get? (C + 1) with
   | none => rfl
   | some o => exact absurd (Heap.lt_size e) (by rw [hC]; exact Nat.not_lt.mpr (Nat.le_succ _))
  refine Step.ext hS (fun a o u_ e => Heap.get?_push_of_some _ (Heap.get?_push_of_some _ e)) (fun p hp => ?_) (fun a ha => ?_) ?_
  ·rcases List.mem_cons.mp hp with rfl | hp
   ·exact atC _ fun u_ e => Heap.get?_push_of_some _ e
   ·rcases List.mem_cons.mp hp with rfl | hp
    ·exact ⟨{ cls := .type "cell", data := .cell none }, hsz ▸ Heap.get?_push_size _ rfl, rfl⟩
    ·exact (hS.led p hp).kept fun o e => Heap.get?_push_of_some _ (Heap.get?_push_of_some _ e)
  ·rcases List.mem_cons.mp (show a ∈ C :: (C + 1) :: addrs (n1 ++ Y) from ha) with rfl | ha
   ·exact .inr hCf
   ·rcases List.mem_cons.mp ha with rfl | ha
    ·exact .inr hC1
    ·exact .inl ha
  ·refine List.nodup_cons.mpr ⟨fun m => ?_, List.nodup_cons.mpr ⟨fun m => ?_, hS.nodup⟩⟩
   ·rcases List.mem_cons.mp (show C ∈ (C + 1) :: addrs (n1 ++ Y) from m) with e | m
    ·exact absurd e (Nat.ne_of_lt (Nat.lt_succ_self _))
    ·obtain ⟨o, e⟩ := hS.has m
     rw [hCf] at e; cases e
   ·obtain ⟨o, e⟩ := hS.has (show C + 1 ∈ addrs (n1 ++ Y) from m)
    rw [hC1] at e; cases e
/-- the frame let go -/
theorem comp_letgo {cc : Cx} {s s7 : Shared} {z7 : Fz} {n7 : Led} {m7 : M} (hz : z tb = none) (st7 : Step prog w K z n s z7 ((cc.L, .ns cc.sc cc.g m7) :: n7) s7) : ∃ mm, s7.heap.Ns cc.L mm ∧ ∀ h', Heap.SameBut cc.L s7.heap h' → Step prog w K z n s z7 n7 { s7 with heap := h' } := by
 refine oEA (nsIs (c := cc) st7.st) fun mm hmm u_ => ?_
 refine ⟨mm, hmm, fun h' sb => ?_⟩
 have hnd := List.nodup_cons.mp st7.st.nodup
 refine st7.trans (Step.ext st7.st (h' := h') (tk := s7.toks) (fun a o ha e => (sb.2 a fun q => ha (q ▸ .head _)).trans e) (fun p hp => ?_) (fun a ha => .inl (.tail _ ha)) hnd.2) hz
 exact (st7.st.led p (.tail _ hp)).kept fun o e => (sb.2 _ fun q => hnd.1 (q ▸ List.mem_map_of_mem (f := (·.1)) hp)).trans e
theorem comp_W (hh : A.handled = none) (R0 : Led) {env : Env} (hgl : env.globals = mainGlobals) (hbu : env.builtins = builtinsNs) {elt target iter : PySem.Expr} {ifs : List PySem.Expr} {csc : Scope} {cl : List (Str × Addr)} {own : Option Str} {pos pos' : Pos} {first : Sem Value} {use : Option (Value → Sem Unit)} {g : List (Str × Value)} {xs : List Str} {Q : KV}
  (hclos : closureFor csc env = pure cl) (hcf : ∀ p, cellsFrom p csc.names cl = ownCl own p cl) (hpc : ∀ h, pushCells h csc.names = ownH own h) (hcl : clOk csc (ownCl own 0 cl) = true) (hkind : csc.kind = .function) (hnames : ∀ x ∈ csc.names, x.2 = .local → csc.names.lookup x.1 = some .local)
  (hxs : ∀ x ∈ xs, (relabel csc env).names.lookup x = some .local ∧ x ≠ "__debug__") (hg : ∀ x v, lkv g x = some v → (relabel csc env).names.lookup x = some .globalImplicit ∧ GlobIs K x v)
  {RR : List Value → Fz → Led → Prop} (h : W prog w K A first z n fun x z1 n0 => ∃ n1, n0 = R0 ++ n1 ∧ CompAsk prog w K A env elt target ifs csc cl own g xs x z1 n1 RR)
  (hk : ∀ D vs zN nN, RR vs zN nN → useE prog w K A use (.ref D) zN ((D, .lst vs) :: (R0 ++ nN)) Q)
  (hs : ∀ x, foldedSetIterable iter env x = pure x := by intro _; rfl) :
  W prog w K A (comprehension (.ListComp elt [⟨target, iter, ifs, 0⟩] csc pos) csc env pos' (newList []) false first use) z n Q := fun E s hst => by
 refine wpAny_comprehension_free (g := ⟨target, iter, ifs, 0⟩) (gs := []) rfl hs hclos hkind hnames (W.runk hst (RW.k h fun x z1 n1 u_ hq s1 st1 => ?_))
 obtain ⟨E0, n1', N, P, J, hp, hit, hN, hj, T, done⟩ := hq
 have st1' := st1.perm (n'' := (n1' ++ R0) ++ E0) ((List.Perm.append_left R0 hp).trans (by rw [← List.append_assoc]; exact List.Perm.append_right E0 List.perm_append_comm))
 clear st1 h
 refine W.runk st1'.st (W.ahead (hit.k fun it I Mi hI s2 st2 => ?_))
 have base2 := st1'.trans st2 hst.ztb
 clear st1' st2 hit hp
 refine wpAny_newObj_type ?_ (by show ([] : List Value).toArray.size ≤ sizeLine; exact Nat.zero_le _)
 have stD := (Step.push (tk := s2.toks) base2.st (lo := .lst []) (o := { cls := .type "list", data := .seq ([] : List Value).toArray }) ⟨rfl, rfl, rfl, 0, rfl⟩ rfl).perm (ins_perm _ _)
 generalize hD : s2.heap.objs.size = D at stD
 have base3 := base2.trans stD hst.ztb
 clear stD base2
 show wpAny (model prog w) A (newFunctionEnv csc env.globals cl [] env.qual none .none (some env)) _ E _
 generalize ({ s2 with heap := s2.heap.push { cls := .type "list", data := .seq ([] : List Value).toArray }, toks := s2.toks } : Shared) = s3 at base3
 refine newCompEnv hcf hpc ?_
 dsimp only
 have st4 := comp_frame (own := own) R0 hxs hg base3.st rfl
 generalize s3.heap.objs.size = C at *
 clear hD
 generalize ({ s3 with heap := ownH own (s3.heap.push { cls := .type "dict", data := .dict #[] }) } : Shared) = s4 at *
 have cEnv : CxOk prog w K A (compC csc cl own g env C) := compC_ok hgl hbu hh hkind hcl
 let F : M → Option Value → Led → List Value → Led := fun m ov ni vs => ((C, .ns (relabel csc env) g m) :: (ownL own C ov ++ ni)) ++ ((D, .lst vs) :: R0)
 have base4 : Step prog w K z n s z1 (F (xs.map fun y => (y, none)) none n1' [] ++ I 0) s4 := Step.assoc _ ((D, .lst []) :: R0) (I 0) (base3.trans st4 hst.ztb)
 clear base3 st4 hxs hg
 have loop : ∀ s5 ms, Step prog w K z n s z1 (F ms none n1' [] ++ I 0) s5 → keysAre xs ms →
   codeAny (model prog w) A (.compLoop (.ListComp elt [⟨target, iter, ifs, 0⟩] csc pos) 0 it (.ref D) (compEnvC csc (ownCl own (C + 1) cl) C env)) (compPost (model prog w) A E use (fun v s' => ∃ z' n', Step prog w K z n s z' n' s' ∧ Q v z' n') (.ref D) C) s5 := by
  intro s5 ms st5 hks
  clear base4
  refine compLoop_any (fun k s' => ∀ G : Prop, (∀ i vs zi ni m ov, Step prog w K z n s zi (F m ov ni vs ++ I i) s' → Le z1 zi → J i vs zi ni → vs.length ≤ i → i ≤ N → k = N + 1 - i → keysAre xs m → G) → G) (fun k s' hG => hG _ fun i vs zi ni m ov st le hJ hvl hi e hks => ?_) (N + 1)
   (fun u_ k => k 0 [] z1 n1' ms none st5 (Le.refl _) hj (Nat.le_refl _) (Nat.zero_le _) rfl hks)
  subst e
  clear st5 hj
  by_cases hlt : i < N
  ·have hdn := down_lt hlt
   refine W.runk st.st (W.ahead (hI.next i zi _ hlt le fun v z6 l6 p6 s6 st6 => ?_))
   have le6 : Le z1 z6 := le.trans l6
   refine W.runk st6.st (W.ahead (hI.own i z6 v _ hlt le6 p6 fun n' e s7 st7 => ?_))
   subst e
   have step7 := (st.trans st6 hst.ztb).trans st7 hst.ztb
   clear st st6
   refine W.runk st7.st (W.assoc (b := (D, .lst vs) :: R0) (W.under (r := ((D, .lst vs) :: R0) ++ I (i + 1)) (SW.k (T.turn C cEnv i vs v zi z6 ni m ov hlt hvl le l6 p6 hJ hks) fun u_ m8 z8 n8 l8 hb s8 st8 => ?_)))
   refine W.runk st8.st (W.under (r := ((D, .lst vs) :: R0) ++ I (i + 1)) (VW.k hb fun ok z9 n9 l9 q9 s9 st9 => ?_))
   have step9 := (step7.trans st8 hst.ztb).trans st9 hst.ztb
   clear step7 st7 st8 p6 hJ
   cases ok with
   | false =>
    refine oAEEA (q9 (l8.trans l9)) fun hk' ov' n5 e0_ hJ' => ?_
    subst e0_
    exact ⟨_, hdn, fun u_ k => k (i + 1) vs z9 n5 m8 ov' (Step.assoc _ ((D, .lst vs) :: R0) (I (i + 1)) step9) (le6.trans (l8.trans l9)) hJ' (Nat.le_succ_of_le hvl) hlt rfl hk'⟩
   | true =>
    refine W.runk st9.st (W.under (r := ((D, .lst vs) :: R0) ++ I (i + 1)) (VW.k q9 fun y z10 n10 l10 q10 s10 st10 => ?_))
    refine oAEEA (q10 ((l8.trans l9).trans l10)) fun hk' ov' n5 e0_ hJ' => ?_
    subst e0_
    refine W.runk st10.st (append_W (Up.behind _ .head) (Nat.le_trans hvl (Nat.le_trans hi hN)) fun s11 st11 => ?_)
    exact ⟨_, hdn, fun u_ k => k (i + 1) (vs ++ [y]) z10 n5 m8 ov' (Step.assoc _ ((D, .lst (vs ++ [y])) :: R0) (I (i + 1)) ((step9.trans st10 hst.ztb).trans st11 hst.ztb)) (le6.trans ((l8.trans l9).trans l10)) hJ' (by rw [List.length_append]; exact Nat.succ_le_succ hvl) hlt rfl hk'⟩
  ·obtain rfl : i = N := Nat.le_antisymm hi (Nat.not_lt.mp hlt)
   refine W.runk st.st (W.ahead (hI.done zi _ le fun s6 st6 => ?_))
   have hU := hk D vs zi ni (done vs zi ni le hvl hJ)
   have step6' : Step prog w K z n s zi ((C, .ns (relabel csc env) g m) :: (D, .lst vs) :: (R0 ++ ni)) s6 := by
    have s0 := ((st.trans st6 hst.ztb).drop (n'' := F m ov ni vs) (List.sublist_append_left _ _)).perm (n'' := (C, .ns (relabel csc env) g m) :: (ownL own C ov ++ ((D, .lst vs) :: (R0 ++ ni)))) (List.Perm.cons _ (show ((ownL own C ov ++ ni) ++ ((D, .lst vs) :: R0)).Perm _ by rw [List.append_assoc]; exact List.Perm.append_left _ (List.perm_append_comm (l₁ := ni) (l₂ := (D, Lo.lst vs) :: R0))))
    exact s0.drop (List.Sublist.cons_cons _ (List.sublist_append_right _ _))
   clear st st6
   cases use with
   | none =>
    refine oEA (comp_letgo (cc := compC csc cl own g env C) hst.ztb step6') fun mm hmm hgo => ?_
    exact ⟨mm, hmm, fun h' sb => ⟨_, _, hgo h' sb, hU⟩⟩
   | some u =>
    refine W.runk step6'.st (W.ahead (r := [(C, .ns (relabel csc env) g m)]) (W.mono hU fun u_ z7 n8 u_ q s7 st7 => ?_))
    refine oEA (comp_letgo (cc := compC csc cl own g env C) hst.ztb (step6'.trans st7 hst.ztb)) fun mm hmm hgo => ?_
    exact ⟨mm, hmm, fun h' sb => ⟨_, _, hgo h' sb, q⟩⟩
 have hkeys : keysAre xs (xs.map fun y => (y, (none : Option Value))) := by unfold keysAre; rw [List.map_map]; exact List.map_id'' (fun u_ => rfl) _
 refine codeAny_compStart_list (loop s4 _ base4 hkeys) ?_
 refine W.runk base4.st (W.ahead (hI.self 0 z1 _ (Le.refl _) fun s5 st5 => ?_))
 exact loop s5 _ (base4.trans st5 hst.ztb) hkeys
end
noncomputable def GlobOk (K : Frag) (sc : Scope) : List (Str × Value) → Prop
 | [] => True
 | (k, v) :: r => (sc.names.lookup k = some .globalImplicit ∧ GlobIs K k v) ∧ GlobOk K sc r
theorem GlobOk.all {K : Frag} {sc : Scope} {g : List (Str × Value)} (h : GlobOk K sc g) (x : Str) (v : Value) (e : lkv g x = some v) : sc.names.lookup x = some .globalImplicit ∧ GlobIs K x v := by
 induction g with
 | nil => exact noO e
 | cons p r ih =>
  by_cases hx : x = p.1
  ·have e2 : p.2 = v := Option.some.inj ((if_pos hx).symm.trans e)
   rw [hx, ← e2]; exact h.1
  ·exact ih h.2 ((if_neg hx).symm.trans e)
theorem relabel_glob {K : Frag} {csc : Scope} {env : Env} {g : List (Str × Value)} (h : GlobOk K csc g) : ∀ x v, lkv g x = some v → (relabel csc env).names.lookup x = some .globalImplicit ∧ GlobIs K x v := fun x v e =>
 ⟨lookup_relabel (fun q => by cases q) (h.all x v e).1, (h.all x v e).2⟩
section
variable {prog : Program} {w : World} {K : Frag} {A : Around} {z z' : Fz} {n n' : Led} {c : Cx} {m : M}
variable {elt target iter : PySem.Expr} {ifs : List PySem.Expr} {csc : Scope} {pos : Pos}
/-- a turn, by what its parts ask -/
theorem turn_of {cc : Cx} {m : M} (hC : CxOk prog w K A cc) {v : Value} {R : M → Value → Fz → Led → Prop} {S : M → Fz → Led → Prop} (h : asg cc target v m z n fun m2 z2 n2 => ifsE prog w K A cc ifs m2 z2 n2 fun ok z3 n3 => brE ok (ev prog w K A cc elt m2 z3 n3 (R m2)) (S m2 z3 n3)) :
  SW prog w K A cc (assign target cc.env v) m z n fun u_ m2 z2 n2 =>
   VW prog w K A cc (forIn ifs true fun t r => if r = true then do let ok ← isTrue t cc.env (eval t cc.env); pure (ForInStep.yield ok) else pure (ForInStep.yield r)) m2 z2 n2 fun ok z3 n3 => brE ok (VW prog w K A cc (eval elt cc.env) m2 z3 n3 (R m2)) (S m2 z3 n3) :=
 SW.mono (asg_ok hC _ h) fun u_ u_ u_ u_ u_ h1 => VW.mono (ifsE_ok hC h1) fun u_ u_ u_ h2 => brE_mono (evE hC) id h2
theorem turn_mono {cc : Cx} {m : M} {v : Value} {R R' : M → Value → Fz → Led → Prop} {S S' : M → Fz → Led → Prop} (h : SW prog w K A cc (assign target cc.env v) m z n fun u_ m2 z2 n2 =>
   VW prog w K A cc (forIn ifs true fun t r => if r = true then do let ok ← isTrue t cc.env (eval t cc.env); pure (ForInStep.yield ok) else pure (ForInStep.yield r)) m2 z2 n2 fun ok z3 n3 => brE ok (VW prog w K A cc (eval elt cc.env) m2 z3 n3 (R m2)) (S m2 z3 n3))
  (k1 : ∀ m2 y z4 n4, R m2 y z4 n4 → R' m2 y z4 n4) (k2 : ∀ m2 z3 n3, S m2 z3 n3 → S' m2 z3 n3) :
  SW prog w K A cc (assign target cc.env v) m z n fun u_ m2 z2 n2 =>
   VW prog w K A cc (forIn ifs true fun t r => if r = true then do let ok ← isTrue t cc.env (eval t cc.env); pure (ForInStep.yield ok) else pure (ForInStep.yield r)) m2 z2 n2 fun ok z3 n3 => brE ok (VW prog w K A cc (eval elt cc.env) m2 z3 n3 (R' m2)) (S' m2 z3 n3) :=
 SW.mono h fun u_ u_ u_ u_ u_ h1 => VW.mono h1 fun u_ u_ u_ h2 => brE_mono (fun h => VW.mono h (k1 _)) (k2 _ _ _) h2
/-- what a comprehension's scope must be -/
noncomputable def scOk (csc : Scope) (xs : List Str) : Bool := (csc.names.all fun y => y.2 != .local || csc.names.lookup y.1 == some .local) && (xs.all fun x => csc.names.lookup x == some .local && x != "__debug__") && csc.kind == .function
theorem comp_SW (hE : CxOk prog w K A c) (cl : List (Str × Addr)) (own : Option Str) (g : List (Str × Value)) (xs : List Str) {pos' : Pos} {use : Option (Value → Sem Unit)} {Q : KV}
  (hclos : closureFor csc c.env = pure cl) (hcf : ∀ p, cellsFrom p csc.names cl = ownCl own p cl) (hpc : ∀ h, pushCells h csc.names = ownH own h) (hcl : clOk csc (ownCl own 0 cl) = true) (hsc : scOk csc xs = true) (hg : GlobOk K csc g)
  (hfs : ∀ x, foldedSetIterable iter c.env x = pure x) {R : List Value → Fz → Led → Prop}
  (h : ev prog w K A c iter m z n fun x z1 n1 => CompAsk prog w K A c.env elt target ifs csc cl own g xs x z1 n1 R)
  (k : ∀ D vs zN nN, R vs zN nN → useE prog w K A use (.ref D) zN ((D, .lst vs) :: (c.L, .ns c.sc c.g m) :: nN) Q) :
  W prog w K A (comprehension (.ListComp elt [⟨target, iter, ifs, 0⟩] csc pos) csc c.env pos' (newList []) false (eval iter c.env) use) z ((c.L, .ns c.sc c.g m) :: n) Q := by
 refine oAA (and3 hsc) fun hc hxs hkind => ?_
 have hc' := List.all_eq_true.mp hc
 have hx' := List.all_eq_true.mp hxs
 refine comp_W (own := own) (g := g) (xs := xs) hE.handled [(c.L, .ns c.sc c.g m)] hE.globals hE.builtins hclos hcf hpc hcl (beq_iff_eq.mp hkind) (fun y hy e => ?_) (fun x hx => ?_) (relabel_glob hg) (evE hE h) k hfs
 ·have := hc' y hy
  rw [e] at this
  simpa using this
 ·have := Bool.and_eq_true_iff.mp (hx' x hx)
  exact ⟨lookup_relabel (fun q => by cases q) (by simpa using this.1), by simpa using this.2⟩
theorem comp_V (hE : CxOk prog w K A c) (cl : List (Str × Addr)) (own : Option Str) (g : List (Str × Value)) (xs : List Str) {Q : KV}
  (hclos : closureFor csc c.env = pure cl) (hcf : ∀ p, cellsFrom p csc.names cl = ownCl own p cl) (hpc : ∀ h, pushCells h csc.names = ownH own h) (hcl : clOk csc (ownCl own 0 cl) = true) (hsc : scOk csc xs = true) (hg : GlobOk K csc g)
  (h : ev prog w K A c iter m z n fun x z1 n1 => CompAsk prog w K A c.env elt target ifs csc cl own g xs x z1 n1 fun vs zN nN => newL vs zN nN Q)
  (hfs : ∀ x, foldedSetIterable iter c.env x = pure x := by intro _; rfl) : VW prog w K A c (eval (.ListComp elt [⟨target, iter, ifs, 0⟩] csc pos) c.env) m z n Q := by
 intro E s hs
 rw [eval_ListComp]
 refine W.runk hs (comp_SW hE cl own g xs (use := none) hclos hcf hpc hcl hsc hg hfs h fun D vs zN nN q s' st => ?_)
 rcases q with q | q
 ·exact ⟨_, _, st.perm (List.Perm.swap ..), _, rfl, q D⟩
 ·exact ⟨_, _, st.freeze, _, rfl, q D (st.st.off D (.head _))⟩
theorem comp_S (hE : CxOk prog w K A c) (cl : List (Str × Addr)) (own : Option Str) (g : List (Str × Value)) (xs : List Str) {ps px : Pos} {y : Str} {Q : KF}
  (hsw : swapsWith (.ListComp elt [⟨target, iter, ifs, 0⟩] csc pos) (some (.Name y px)) ps.line c.env = pure true)
  (hclos : closureFor csc c.env = pure cl) (hcf : ∀ p, cellsFrom p csc.names cl = ownCl own p cl) (hpc : ∀ h, pushCells h csc.names = ownH own h) (hcl : clOk csc (ownCl own 0 cl) = true) (hsc : scOk csc xs = true) (hg : GlobOk K csc g)
  (h : ev prog w K A c iter m z n fun x z1 n1 => CompAsk prog w K A c.env elt target ifs csc cl own g xs x z1 n1 fun vs zN nN => newL vs zN nN fun v z' n' => stE c y v m z' n' (Q .next))
  (hfs : ∀ x, foldedSetIterable iter c.env x = pure x := by intro _; rfl) : SW prog w K A c (exec (.Assign [.Name y px] (.ListComp elt [⟨target, iter, ifs, 0⟩] csc pos) ps) c.env) m z n Q := by
 refine W.of_eq (exec_Assign_Name_used y px _ ps hsw) (W.standAt ?_)
 have e : evalThenUse (.ListComp elt [⟨target, iter, ifs, 0⟩] csc pos) c.env (assign (.Name y px) c.env) = (comprehension (.ListComp elt [⟨target, iter, ifs, 0⟩] csc pos) csc c.env (firstIterPos [⟨target, iter, ifs, 0⟩] pos) (newList []) false (eval iter c.env) (some (assign (.Name y px) c.env)) >>= fun u_ => pure ()) := rfl
 rw [e]
 refine W.bind (W.bind (comp_SW hE cl own g xs (use := some (assign (.Name y px) c.env)) hclos hcf hpc hcl hsc hg hfs h fun D vs zN nN q => ?_))
 rcases q with q | q
 ·exact W.perm (List.Perm.swap ..) (W.mono (assign_Name_ok hE (q D)) fun u_ z' n' u_ h_ => oEEA h_ fun m1 n1 e q => W.pure (W.pure ⟨m1, n1, e, q⟩))
 ·exact W.freeze fun hz => W.mono (assign_Name_ok hE (q D hz)) fun u_ z' n' u_ h_ => oEEA h_ fun m1 n1 e q => W.pure (W.pure ⟨m1, n1, e, q⟩)
end
/-- the last binding of a name -/
noncomputable def bl : List (Str × Value) → Str → Option Value
 | [], _ => none
 | (k, v) :: r, x => match bl r x with
  | some u => some u
  | none => if x = k then some v else none
noncomputable def envAt (qual : Str) (sc : Scope) (L f : Addr) (cd : Value) (cl : List (Str × Addr)) : Env :=
 { scope := sc, locals := L, globals := mainGlobals, cells := cl, qual := qual ++ ".<locals>.", func := some f, code := cd, frame := some L, builtins := builtinsNs }
noncomputable def retOf : Flow → Value
 | .ret v => v
 | _ => .none
theorem bindL_bl (kind : Str → Option NameKind) : ∀ (binds : List (Str × Value)) (m : Str → Option Value) (x : Str), kind x = some .local → bindL kind binds m x = (bl binds x).or (m x)
 | [], m, x, _ => by simp [bindL, bl]
 | (k, v) :: r, m, x, hx => by
  unfold bindL bl
  rw [bindL_bl kind r _ x hx]
  cases bl r x with
  | some u => rfl
  | none =>
   by_cases hk : kind k = some .local
   ·rw [if_pos hk]
    by_cases e : x = k
    ·simp [e]
    ·simp [e]
   ·rw [if_neg hk]
    have e : x ≠ k := fun q => hk (q ▸ hx)
    simp [e]
theorem bindC_bl (kind : Str → Option NameKind) : ∀ (binds : List (Str × Value)) (m : Str → Option Value) (x : Str), kind x ≠ some .local → bindC kind binds m x = (bl binds x).or (m x)
 | [], m, x, _ => by simp [bindC, bl]
 | (k, v) :: r, m, x, hx => by
  unfold bindC bl
  rw [bindC_bl kind r _ x hx]
  cases bl r x with
  | some u => rfl
  | none =>
   by_cases hk : kind k = some .local
   ·rw [if_pos hk]
    have e : x ≠ k := fun q => hx (q ▸ hk)
    simp [e]
   ·rw [if_neg hk]
    by_cases e : x = k
    ·simp [e]
    ·simp [e]
theorem lkm_map {xs : List Str} {f : Str → Option Value} {x : Str} {v : Option Value} (h : lkm (xs.map fun y => (y, f y)) x = some v) : x ∈ xs ∧ v = f x := by
 induction xs with
 | nil => exact noO h
 | cons y r ih =>
  by_cases hx : x = y
  ·exact ⟨hx ▸ .head _, hx ▸ (Option.some.inj ((if_pos hx).symm.trans h)).symm⟩
  ·exact (ih ((if_neg hx).symm.trans h)).imp (.tail _) id
theorem lookup_of_nodup {α : Type} {l : List (Str × α)} {x : Str} {a : α} (hn : (l.map (·.1)).Nodup) (h : (x, a) ∈ l) : l.lookup x = some a := by
 induction l with
 | nil => cases h
 | cons p r ih =>
  obtain ⟨y, b⟩ := p
  have hn' := List.nodup_cons.mp hn
  rw [List.lookup_cons]
  rcases List.mem_cons.mp h with e | e
  ·cases e; simp
  ·have : (x == y) = false := beq_eq_false_iff_ne.mpr fun q => hn'.1 (q ▸ List.mem_map_of_mem (f := (·.1)) e)
   rw [this]; exact ih hn'.2 e
section
variable {prog : Program} {w : World} {K : Frag} {A : Around} {z z' : Fz} {n n' : Led}
/-- the call as code -/
noncomputable def WCall (prog : Program) (w : World) (K : Frag) (A : Around) (f : Value) (args : List Value) (z : Fz) (n : Led) (Q : KV) : Prop := ∀ s, St prog w K z n s →
 codeAny (model prog w) A (.call f ⟨args, []⟩) (fun r s' => ∃ v z' n', r = .ok (.ret v) ∧ Step prog w K z n s z' n' s' ∧ Q v z' n') s
theorem WCall.W {f : Value} {args : List Value} {Q : KV} (h : WCall prog w K A f args z n Q) : Mine.W prog w K A (call f args []) z n Q := fun E s hs =>
 wpAny_call (codeAny_mono (h s hs) fun r s' h_ => oEEEAA h_ fun v z' n' e st q => by subst e; exact ⟨z', n', st, q⟩)
/-- the entries of a frame's cells -/
noncomputable def cellLed (cls : List (Str × Addr)) (binds : List (Str × Value)) : Led := cls.map fun p => (p.2, Lo.cell (bl binds p.1))
theorem call_fn {f : Addr} {args : List Value} {oc : Value} {od : Option Addr} {osl : Array (Option Value)} {name qual : Str} {params : Arguments} {body : List Stmt} {scope : Scope} {dV kV doc pm cdv ct : Value} {an : Option Addr} {binds : List (Str × Value)} {cls : Addr → List (Str × Addr)}
  {locs : List Str} {g : List (Str × Value)} {Q : KV} (hroom : A.depth < recursionLimit) (ho : K.lookup f = some ⟨oc, od, .func (fnOf name qual params body scope dV kV doc pm an cdv ct), osl⟩) (hcd : codeIn K cdv qual = true)
  (hbind : ∀ s : Shared, K.In s.heap → BindsTo s (fnOf name qual params body scope dV kV doc pm an cdv ct) ⟨args, []⟩ binds)
  (hk : (binds.all fun y => scope.names.lookup y.1 == some .local || (scope.names.lookup y.1 == some .cell && ((cls 0).lookup y.1).isSome)) = true)
  (hcl : ∀ L, cellsFrom (L + 1) scope.names [] = cls L) (hcn : ((cls 0).map (·.1)).Nodup) (hcs : ∀ L, (cls L).map (·.1) = (cls 0).map (·.1)) (hck : ((cls 0).all fun p => scope.names.lookup p.1 == some .cell) = true)
  (hloc : (locs.all fun x => scope.names.lookup x == some .local && x != "__debug__") = true) (hg : ∀ x v, lkv g x = some v → scope.names.lookup x = some .globalImplicit ∧ GlobIs K x v)
  (h : ∀ (L : Addr) (env : Env), env = envAt qual scope L f cdv (cls L) →
   W prog w K (A.deeper env) (execs body env) z ((L, .ns scope g (locs.map fun x => (x, bl binds x))) :: (cellLed (cls L) binds ++ n)) fun fl z' n' => ∃ n'', n''.Sublist n' ∧ Q (retOf fl) z' n'')
  (hco : scope.isCoroutine = false := by rfl) (hgen : scope.isGenerator = false := by rfl) (hkf : scope.kind = .function := by rfl) : WCall prog w K A (.ref f) args z n Q := fun s hs => by
 refine oEEAA hs.from fun mg mb u_ u_ h_ => oAA h_ fun hlim u_ X => ?_
 have lk : ∀ L x, ((cls L).lookup x).isSome = ((cls 0).lookup x).isSome := by
  intro L x
  have key : ∀ (l : List (Str × Addr)), (l.lookup x).isSome = (l.map (·.1)).contains x := by
   intro l
   induction l with
   | nil => rfl
   | cons p r ih =>
    obtain ⟨y, a⟩ := p
    rw [List.lookup_cons, List.map_cons, List.contains_cons]
    cases x == y with
    | true => rfl
    | false => simpa using ih
  rw [key, key, hcs]
 refine codeAny_call_function hroom (X _ _ ho) rfl hco hgen rfl (codeRec_of X hcd) (hbind s X _ _ _ _ ?_)
 refine wpAny_newFunctionEnv_cells hkf (fun x hx => ?_) fun env he s' ic => ?_
 ·have := List.all_eq_true.mp hk x hx
  rw [hcl, lk]
  rcases Bool.or_eq_true_iff.mp this with q | q
  ·exact .inl (beq_iff_eq.mp q)
  ·obtain ⟨q1, q2⟩ := Bool.and_eq_true_iff.mp q
   exact .inr ⟨beq_iff_eq.mp q1, q2⟩
 ·have he' : env = envAt qual scope s.heap.objs.size f cdv (cls s.heap.objs.size) := by rw [he, ← hcl]; rfl
  refine ⟨hlim.keeps ic.toInCall.keep, ?_⟩
  generalize hLL : s.heap.objs.size = LL at he' ic he
  have hfresh : s.heap.get? LL = none := hLL ▸ get_size_none _
  have hlocals : env.locals = LL := by subst he'; rfl
  have hcells : env.cells = cls LL := by subst he'; rfl
  have hkind : env.kindOf = fun x => scope.names.lookup x := by subst he'; rfl
  refine oEE ic.toInCall.same fun h1 tk hs1 => ?_
  have nd : ((cls LL).map (·.1)).Nodup := by rw [hcs]; exact hcn
  have ckind : ∀ p ∈ cls LL, scope.names.lookup p.1 = some .cell := fun p hp => by
   have : p.1 ∈ (cls 0).map (·.1) := by rw [← hcs LL]; exact List.mem_map_of_mem hp
   refine oEA (List.mem_map.mp this) fun q hq e => ?_
   rw [← e]
   exact beq_iff_eq.mp (List.all_eq_true.mp hck q hq)
  have fresh : ∀ a, LL ≤ a → s.heap.get? a = none := fun a ha => by
   cases e : s.heap.get? a with
   | none => rfl
   | some o => exact absurd (Heap.lt_size e) (by rw [hLL]; exact Nat.not_lt.mpr ha)
  have addrsC : addrs (cellLed (cls LL) binds) = (cls LL).map (·.2) := by unfold addrs cellLed; rw [List.map_map]; rfl
  have st : Step prog w K z n s z ((LL, .ns scope g (locs.map fun x => (x, bl binds x))) :: (cellLed (cls LL) binds ++ n)) s' := by
   rw [hs1]
   have hh : s'.heap = h1 := by rw [hs1]
   refine Step.ext hs (fun a o u_ e => hh ▸ ic.toInCall.keep a o e) (fun p hp => ?_) (fun a ha => ?_) ?_
   ·rcases List.mem_cons.mp hp with rfl | hp
    ·refine oEEEAAA ic.toInCall.ns fun o es ep ho' hd hks hf => ?_
     rw [hlocals, hh] at ho'
     refine ⟨o, ho', ⟨es, ep, hd, hks, fun x v e => ?_⟩, fun x v e => ?_, hg⟩
     ·obtain ⟨hx, rfl⟩ := lkm_map e
      have hxl := List.all_eq_true.mp hloc x hx
      rw [hf, bindL_bl _ _ _ _ (by rw [hkind]; exact beq_iff_eq.mp (Bool.and_eq_true_iff.mp hxl).1)]
      simp
     ·obtain ⟨hx, rfl⟩ := lkm_map e
      have hxl := List.all_eq_true.mp hloc x hx
      exact ⟨beq_iff_eq.mp (Bool.and_eq_true_iff.mp hxl).1, by simpa using (Bool.and_eq_true_iff.mp hxl).2⟩
    ·rcases List.mem_append.mp hp with hp | hp
     ·refine oEA (List.mem_map.mp hp) fun q hq e0_ => ?_
      subst e0_
      have hc := ic.cell q.1 q.2 (by rw [hcells]; exact lookup_of_nodup nd hq)
      refine oEA hc fun o ho' hd => ?_
      clear hc
      rw [hh] at ho'
      refine ⟨o, ho', ?_⟩
      show o.data = .cell (bl binds q.1)
      rw [hd, bindC_bl _ _ _ _ (by rw [hkind]; show scope.names.lookup q.1 ≠ _; rw [ckind q hq]; intro x; cases x)]
      simp
     ·exact (hs.led p hp).kept fun o e => hh ▸ ic.toInCall.keep _ o e
   ·rcases List.mem_cons.mp (show a ∈ LL :: addrs (cellLed (cls LL) binds ++ n) from ha) with rfl | ha
    ·exact .inr hfresh
    ·rcases List.mem_append.mp (show a ∈ addrs (cellLed (cls LL) binds) ++ addrs n by unfold addrs at ha ⊢; rw [← List.map_append]; exact ha) with q | q
     ·rw [addrsC] at q
      refine oEA (List.mem_map.mp q) fun p hp e0_ => ?_
      subst e0_
      exact .inr (fresh _ (Nat.le_of_lt (hlocals ▸ ic.above p.1 p.2 (hcells ▸ hp))))
     ·exact .inl q
   ·have e1 : addrs ((LL, Lo.ns scope g (locs.map fun x => (x, bl binds x))) :: (cellLed (cls LL) binds ++ n)) = LL :: ((cls LL).map (·.2) ++ addrs n) := by
     rw [← addrsC]; unfold addrs; rw [List.map_cons, List.map_append]
    rw [e1]
    have above : ∀ p ∈ cls LL, LL < p.2 := fun p hp => hlocals ▸ ic.above p.1 p.2 (hcells ▸ hp)
    refine List.nodup_cons.mpr ⟨fun m => ?_, List.nodup_append.mpr ⟨?_, hs.nodup, fun a ha b hb e => ?_⟩⟩
    ·rcases List.mem_append.mp m with q | q
     ·refine oEA (List.mem_map.mp q) fun p hp e => ?_
      exact absurd (above p hp) (by rw [show p.2 = LL from e]; exact Nat.lt_irrefl LL)
     ·obtain ⟨o, e⟩ := hs.has q
      rw [hfresh] at e; cases e
    ·have := ic.apart
     rw [hcells] at this
     exact List.pairwise_map.mpr this
    ·refine oEA (List.mem_map.mp ha) fun p hp e0_ => ?_
     subst e0_
     obtain ⟨o, e'⟩ := hs.has hb
     rw [← e, fresh _ (Nat.le_of_lt (above p hp))] at e'; cases e'
  refine codeAny_func (W.runk st.st ((h LL env he').mono fun fl z2 n2 u_ hq s2 st2 => ?_))
  refine oEA hq fun n3 sub q => ?_
  clear hq
  cases fl <;> exact ⟨_, z2, n3, rfl, (st.trans st2 hs.ztb).drop sub, q⟩
/-- room for k frames more -/
structure Room (A : Around) (k : Nat) : Prop where
 handled : A.handled = none
 guards : A.guards = some []
 depth : A.depth + k < recursionLimit
 units : A.units + 4 * k + 200 < cLine
theorem Room.deeper {k : Nat} (h : Room A (k + 1)) (env : Env) : Room (A.deeper env) k :=
 ⟨h.handled, h.guards, by have := h.depth; show A.depth + 1 + k < _; (first | lia | omega), by have := h.units; show A.units + 3 + 4 * k + 200 < _; (first | lia | omega)⟩
theorem Room.less {k j : Nat} (h : Room A k) (hj : j ≤ k) : Room A j := ⟨h.handled, h.guards, by have := h.depth; (first | lia | omega), by have := h.units; (first | lia | omega)⟩
theorem Room.down {k i j : Nat} (h : Room A (k + i)) (hj : Nat.ble j i = true) : Room A (k + j) := h.less (Nat.add_le_add_left (Nat.le_of_ble_eq_true hj) k)
theorem Room.lt {k : Nat} (h : Room A k) : A.depth < recursionLimit := by have := h.depth; (first | lia | omega)
/-- what a def's scope must be -/
noncomputable def fnOk (scope : Scope) (own : Option Str) (names locs : List Str) : Bool :=
 (names.all fun y => scope.names.lookup y == some .local || (scope.names.lookup y == some .cell && ((ownCl own (0 + 1) []).lookup y).isSome)) &&
 (match own with
  | none => true
  | some x => scope.names.lookup x == some .cell && x != "__classdict__" && x != "__debug__") &&
 (locs.all fun x => scope.names.lookup x == some .local && x != "__debug__")
noncomputable def ownB (own : Option Str) (binds : List (Str × Value)) (L : Addr) : Led := match own with
 | none => []
 | some x => [(L + 1, .cell (bl binds x))]
theorem fn_C {k : Nat} {f : Addr} {args : List Value} {oc : Value} {od : Option Addr} {osl : Array (Option Value)} {name qual : Str} {params : Arguments} {body : List Stmt} {scope : Scope} {dV kV doc pm cdv ct : Value} {an : Option Addr} {Q : KV}
  (binds : List (Str × Value)) (own : Option Str) (names locs : List Str) (g : List (Str × Value)) (hroom : Room A (k + 1)) (ho : K.lookup f = some ⟨oc, od, .func (fnOf name qual params body scope dV kV doc pm an cdv ct), osl⟩) (hcd : codeIn K cdv qual = true)
  (hbind : ∀ s : Shared, K.In s.heap → BindsTo s (fnOf name qual params body scope dV kV doc pm an cdv ct) ⟨args, []⟩ binds) (hn : binds.map (·.1) = names) (hcf : ∀ p, cellsFrom p scope.names [] = ownCl own p []) (hfn : fnOk scope own names locs = true) (hg : GlobOk K scope g)
  (h : ∀ (L : Addr) (env : Env), env = envAt qual scope L f cdv (ownCl own (L + 1) []) → CxOk prog w K (A.deeper env) ⟨env, L, scope, g, ownCl own (L + 1) []⟩ → Room (A.deeper env) k →
   exs prog w K (A.deeper env) ⟨env, L, scope, g, ownCl own (L + 1) []⟩ body (locs.map fun x => (x, bl binds x)) z (ownB own binds L ++ n) fun fl m z' n' => Le z z' → ∃ n'', n''.Sublist n' ∧ Q (retOf fl) z' n'')
  (hco : scope.isCoroutine = false := by rfl) (hgen : scope.isGenerator = false := by rfl) (hkf : scope.kind = .function := by rfl) : WCall prog w K A (.ref f) args z n Q := by
 refine oAA (and3 hfn) fun h1 h2 h3 => ?_
 refine call_fn (cls := fun L => ownCl own (L + 1) []) (locs := locs) (g := g) hroom.lt ho hcd hbind ?_ (fun L => hcf _) ?_ (fun L => ?_) ?_ h3 hg.all (fun L env e => ?_) hco hgen hkf
 ·rw [List.all_eq_true]
  intro y hy
  rw [← hn] at h1
  have := List.all_eq_true.mp h1 y.1 (List.mem_map_of_mem hy)
  cases own <;> exact this
 ·cases own with
  | none => exact List.nodup_nil
  | some x => exact List.nodup_cons.mpr ⟨fun q => (nomatch q), List.nodup_nil⟩
 ·cases own <;> rfl
 ·cases own with
  | none => rfl
  | some x => refine oAA (and3 h2) fun h4 u_ u_ => ?_; exact List.all_eq_true.mpr fun p hp => by rw [List.mem_singleton.mp hp]; exact h4
 ·have hc : CxOk prog w K (A.deeper env) ⟨env, L, scope, g, ownCl own (L + 1) []⟩ := by
   subst e
   refine ⟨rfl, rfl, hkf, rfl, rfl, hroom.handled, fun x a hx => ?_⟩
   obtain ⟨e1, e2⟩ := lka_lookup hx
   refine ⟨e1, ?_⟩
   cases own with
   | none => cases e2
   | some y =>
    refine oAA (and3 h2) fun h4 h5 h6 => ?_
    cases List.mem_singleton.mp e2
    exact ⟨.inl (beq_iff_eq.mp h4), by simpa using h5, by simpa using h6⟩
  have key := h L env e hc (hroom.deeper _)
  have el : cellLed (ownCl own (L + 1) []) binds = ownB own binds L := by cases own <;> rfl
  rw [el]
  exact W.mono key fun fl z' n' l h_ => oEEA h_ fun m1 n1 e q => by
   refine oEA (q l) fun n2 sub q => ?_
   exact ⟨n2, e ▸ sub.cons _, q⟩
end
section
variable {prog : Program} {w : World} {K : Frag} {A : Around} {z z' : Fz} {n n' : Led} {k : Nat}
/-! calls -/
theorem callE_b {id : String} {vs : List Value} {Q : KV} (h : W prog w K A (call (.builtin id) vs []) z n Q) : callE prog w K A (.builtin id) vs z n Q :=
 ⟨fun s hs => ⟨.machine, .inr (.inl rfl), .now⟩, h⟩
theorem callE_t {id : String} {vs : List Value} {Q : KV} (h : W prog w K A (call (.type id) vs []) z n Q) : callE prog w K A (.type id) vs z n Q :=
 ⟨fun s hs => ⟨.machine, .inr (.inl rfl), .now⟩, h⟩
theorem callE_k {f : Value} {vs : List Value} {Q : KV} (hk : keepIn K f = true) (h : W prog w K A (call f vs []) z n Q) : callE prog w K A f vs z n Q :=
 ⟨fun s hs => keeps_K hk s.heap hs.fragIn, h⟩
/-! lists and tuples -/
theorem Hs.isList {a : Addr} {vs : List Value} {s : Shared} (h : Hs z n a (.lst vs)) (hs : St prog w K z n s) : s.heap.IsList a vs.toArray := isList_of (h.at hs)
theorem Hs.isTup {a : Addr} {vs : List Value} {s : Shared} (h : Hs z n a (.tup vs)) (hs : St prog w K z n s) : IsTup s.heap a vs.toArray := isTup_of (h.at hs)
theorem Hs.isTuple {a : Addr} {vs : List Value} {s : Shared} (h : Hs z n a (.tup vs)) (hs : St prog w K z n s) : s.heap.IsTuple a vs.toArray := isTuple_of (h.at hs)
theorem Hs.obj {a : Addr} {vs : List Value} {s : Shared} (h : Hs z n a (.lst vs)) (hs : St prog w K z n s) : ∃ m, s.heap.get? a = some { cls := .type "list", dict := none, data := .seq vs.toArray m, slots := #[] } := by
 obtain ⟨⟨cls, dd, data, sl⟩, ho, hc, hd, hsl, k, hdt⟩ := h.at hs
 simp only at hc hd hsl hdt
 subst hc hd hsl hdt
 exact ⟨k, ho⟩
theorem len_W {a : Addr} {vs : List Value} {Q : KV} (h : Hs z n a (.lst vs)) (hl : vs.length < 2 ^ 60) (q : ∀ t, Q (.int vs.length t) z n) : W prog w K A (call (.builtin "len") [.ref a] []) z n Q := fun E s hs =>
 call_len_list (h.isList hs) (by rw [List.size_toArray]; (first | lia | omega)) ⟨_, _, Step.toks hs _, by rw [List.size_toArray]; exact q _⟩
theorem lenT_W {a : Addr} {vs : List Value} {Q : KV} (h : Hs z n a (.tup vs)) (hl : vs.length < 2 ^ 60) (q : ∀ t, Q (.int vs.length t) z n) : W prog w K A (call (.builtin "len") [.ref a] []) z n Q := fun E s hs =>
 PyProof.Rows.len_tuple (h.isTup hs) (by rw [List.size_toArray]; (first | lia | omega)) ⟨_, _, Step.toks hs _, by rw [List.size_toArray]; exact q _⟩
/-- an index, from the end when negative -/
noncomputable def idx (k : Int) (len : Nat) : Nat := if k < 0 then (k + len).toNat else k.toNat
theorem item_lst {a : Addr} {vs : List Value} {k : Int} {t : Tok} {x : Value} {Q : KV} (h : Hs z n a (.lst vs)) (h1 : -(vs.length : Int) ≤ k) (h2 : k < 2 ^ 60) (hx : vs[idx k vs.length]? = some x) (hl : vs.length < 2 ^ 60) (q : Q x z n) : itemE prog w K A (.ref a) (.int k t) z n Q := by
 refine ⟨⟨"list", "list.__getitem__", fun s hs => (h.isList hs).typeIs, list_getitem_lookup⟩, fun E s hs => ?_⟩
 unfold idx at hx
 by_cases hk : k < 0
 ·rw [if_pos hk] at hx
  exact wpAny_getItem_list_neg (h.isList hs) hk (by rw [List.size_toArray]; exact h1) (by (first | lia | omega)) (by rw [List.size_toArray]; simpa using hx) ⟨_, _, .refl hs, q⟩
 ·rw [if_neg hk] at hx
  exact wpAny_getItem_list (h.isList hs) (by (first | lia | omega)) (by (first | lia | omega)) (by simpa using hx) ⟨_, _, .refl hs, q⟩
theorem seqIndex_idx {k : Int} {len : Nat} (h1 : -(len : Int) ≤ k) (h2 : idx k len < len) : seqIndex? k len = some (idx k len) := by
 unfold seqIndex?
 unfold idx at h2 ⊢
 by_cases hk : k < 0
 ·simp only [hk, if_true] at h2 ⊢
  have e : k + (len : Int) = ((len : Int) + k) := by (first | lia | omega)
  first
  | (rw [if_pos (by (first | lia | omega))])
  | (simp; (first | lia | omega))
 ·simp only [hk, if_false] at h2 ⊢
  first
  | (rw [if_pos (by (first | lia | omega))])
  | (simp; (first | lia | omega))
theorem tuple_getitem_lookup : typeLookup (.type "tuple") "__getitem__" = pure (some (.builtin "tuple.__getitem__")) := slot_tuple_getitem.lookup
theorem item_tup {a : Addr} {vs : List Value} {k : Int} {t : Tok} {x : Value} {Q : KV} (h : Hs z n a (.tup vs)) (h1 : -(vs.length : Int) ≤ k) (h2 : k < 2 ^ 60) (hx : vs[idx k vs.length]? = some x) (hl : vs.length < 2 ^ 60) (q : Q x z n) : itemE prog w K A (.ref a) (.int k t) z n Q := by
 refine ⟨⟨"tuple", "tuple.__getitem__", fun s hs => (h.isTup hs).typeIs, tuple_getitem_lookup⟩, fun E s hs => ?_⟩
 have hlt : idx k vs.length < vs.length := by
  rcases Nat.lt_or_ge (idx k vs.length) vs.length with e | e
  ·exact e
  ·rw [List.getElem?_eq_none e] at hx; cases hx
 exact PyProof.Rows.getItem_tuple (h.isTup hs) (by (first | lia | omega)) (by (first | lia | omega)) (by rw [List.size_toArray]; exact seqIndex_idx h1 hlt) (by simpa using hx) ⟨_, _, .refl hs, q⟩
theorem Step.newF {s : Shared} (hs : St prog w K z n s) {o : Obj} {lo : Lo} {tk : Nat} (hlo : lo.Is prog w K o) (hf : o.isFreed = false) :
  Step prog w K z n s (fset z s.heap.objs.size lo) n { s with heap := s.heap.push o, toks := tk } :=
 ((Step.push hs (tk := tk) hlo hf).perm (ins_perm _ _)).freeze
theorem slice_lst {a : Addr} {vs : List Value} {l u st : Value} {lo hi s3 : Option Int} {Q : KV} (h : Hs z n a (.lst vs)) (pl : IsPart l lo) (pu : IsPart u hi) (ps : IsPart st s3) (h0 : s3 ≠ some 0) (hl : vs.length ≤ 1000000)
  (q : ∀ i, z i = none → newL (slicePick vs.toArray lo hi s3).toList (fset z i (.raw { cls := .type "slice", data := .fields #[l, u, st] })) n Q) : sliceE prog w K A (.ref a) l u st z n Q := fun i hi' => by
 have h' : Hs (fset z i (.raw { cls := .type "slice", data := .fields #[l, u, st] })) n a (.lst vs) := h.imp (Le.fset hi' _ _) id
 refine ⟨⟨"list", "list.__getitem__", fun s hs => (h'.isList hs).typeIs, list_getitem_lookup⟩, fun E s hs => ?_⟩
 refine oEA (hs.frz i _ fset_self) fun o ho io => ?_
 have io' : o = { cls := .type "slice", data := .fields #[l, u, st] } := io
 subst io'
 refine wpAny_getItem_list_slice (h'.isList hs) ⟨_, ho, rfl, rfl⟩ pl pu ps h0 ?_ (by rw [List.size_toArray, sizeLine_eq]; exact Nat.le_trans hl (Nat.le_of_ble_eq_true rfl))
 have := (q i hi').out (tk := s.toks) hs
 simpa using this
/-! methods of a list -/
theorem meth_lst {a : Addr} {vs : List Value} {name : Str} {id : String} {Q : Value → List Value → Fz → Led → Prop} (h : Hs z n a (.lst vs)) (slot : Slot "list" name id) (hty : typeOf (.builtin id) = pure (.type "method_descriptor")) (q : Q (.builtin id) [.ref a] z n) :
  methE prog w K A (.ref a) name z n Q := fun pl E s hs => by
 obtain ⟨m, ho⟩ := h.obj hs
 exact getMethod_list_of slot hty (h.isList hs) ⟨_, ho, rfl⟩ ⟨_, _, .refl hs, q⟩
theorem upd_lst {s : Shared} (hs : St prog w K z n s) {a : Addr} {vs ws : List Value} (U : Up a (.lst vs) (.lst ws) n n') {m : Nat} (ho : s.heap.get? a = some { cls := .type "list", dict := none, data := .seq vs.toArray m, slots := #[] }) {f : Array Value → Array Value} (hf : f vs.toArray = ws.toArray) {tk : Nat} :
  Step prog w K z n s z n' { s with heap := s.heap.update a (Obj.mapSeq f), toks := tk } := by
 have e := Heap.get?_update_self (Obj.mapSeq f) ho rfl
 refine Step.upd hs U (Heap.SameBut.update s.heap a _) ⟨_, e, rfl, rfl, rfl, (if (f vs.toArray).size == vs.toArray.size then m else m + 1), ?_⟩
 show Data.seq (f vs.toArray) _ = _
 rw [hf]
theorem extend_W {a b : Addr} {vs ws : List Value} (U : Up a (.lst vs) (.lst (vs ++ ws)) n n') (hb : Hs z n b (.lst ws)) (hl : vs.length + ws.length ≤ 1000000) {Q : KV} (q : Q .none z n') : W prog w K A (call (.builtin "list.extend") [.ref a, .ref b] []) z n Q := fun E s hs => by
 obtain ⟨m, ho⟩ := Hs.obj (.inr U.mem) hs
 obtain ⟨m2, ho2⟩ := hb.obj hs
 have big : Builtin.List.listTooLong (vs.toArray.size + ws.toArray.size) = false := by
  rw [List.size_toArray, List.size_toArray]
  unfold Builtin.List.listTooLong
  rw [sizeLine_eq]
  simp
  exact Nat.le_trans hl (Nat.le_of_ble_eq_true rfl)
 exact call_meets PySem.F.slot_list_extend ⟨_, ho, rfl⟩ PySem.F.entry_list_extend (PySem.F.args_list_extend_2 _ _) (AutoSeq1.list_extend_list_list_0 a vs.toArray m b ws.toArray m2 (by rw [big]; simp) (by rw [List.size_toArray, sizeLine_eq]; (first | lia | omega)) (by rw [List.size_toArray, List.size_toArray, sizeLine_eq]; exact Nat.le_trans hl (Nat.le_trans (Nat.le_of_ble_eq_true rfl) (Nat.le_add_right _ _))))
  ⟨ho, ho2, z, n', upd_lst hs U ho (by simp), q⟩
theorem pop_W {a : Addr} {vs : List Value} {y : Value} (U : Up a (.lst (vs ++ [y])) (.lst vs) n n') (hl : vs.length ≤ 1000000) {Q : KV} (q : Q y z n') : W prog w K A (call (.builtin "list.pop") [.ref a] []) z n Q := fun E s hs => by
 obtain ⟨m, ho⟩ := Hs.obj (.inr U.mem) hs
 have hy : (vs ++ [y]).toArray[(vs ++ [y]).toArray.size - 1]? = some y := by simp
 exact call_meets PySem.F.slot_list_pop ⟨_, ho, rfl⟩ PySem.F.entry_list_pop (PySem.F.args_list_pop_1 _) (MeetsSeq.list_pop_last a (vs ++ [y]).toArray m y hy (by rw [List.size_toArray, sizeLine_eq]; simp; exact Nat.le_trans hl (Nat.le_of_ble_eq_true rfl)))
  ⟨ho, z, n', upd_lst hs U ho (by simp [List.eraseIdx_append_of_length_le]), q⟩
theorem insert_W {a : Addr} {vs ws : List Value} {y : Value} {i : Int} {t : Tok} (U : Up a (.lst (vs ++ ws)) (.lst (vs ++ y :: ws)) n n') (hi : i = (vs.length : Nat)) (hl : vs.length + ws.length ≤ 1000000) {Q : KV} (q : Q .none z n') : W prog w K A (call (.builtin "list.insert") [.ref a, .int i t, y] []) z n Q := fun E s hs => by
 obtain ⟨m, ho⟩ := Hs.obj (.inr U.mem) hs
 have hf : Builtin.List.listFitsIndex i = true := by
  unfold Builtin.List.listFitsIndex
  rw [Bool.and_eq_true, decide_eq_true_iff, decide_eq_true_iff]
  constructor <;> (first | lia | omega)
 have hsz : (vs ++ ws).toArray.size ≤ sizeLine := by
  have e := sizeLine_eq
  have l : (vs ++ ws).toArray.size = vs.length + ws.length := by simp
  exact Nat.le_of_lt (Nat.lt_of_lt_of_le (Nat.lt_of_le_of_lt (Nat.le_trans (Nat.le_of_eq l) hl) (Nat.le_of_ble_eq_true rfl)) (Nat.le_of_eq e.symm))
 have M := AutoSeq1.list_insert_list_int_val_1 a (vs ++ ws).toArray m i t y (by simp [hf]) hsz
 refine call_meets PySem.F.slot_list_insert ⟨_, ho, rfl⟩ PySem.F.entry_list_insert (PySem.F.args_list_insert_3 _ _ _) M ⟨ho, z, n', upd_lst hs U ho ?_, q⟩
 have e : ¬ (i < 0) := by (first | lia | omega)
 subst hi
 simp [e]
end
/-- entries put ahead -/
noncomputable def insL (p n : Led) : Led := p ++ n
theorem insL_perm (p n : Led) : (insL p n).Perm (n ++ p) := List.perm_append_comm
noncomputable def rangeO (a b : Int) (t u v : Tok) : Obj := { cls := .type "range", dict := none, data := .fields #[.int a t, .int b u, .int 1 v], slots := #[] }
noncomputable def rangeI (x left : Int) : Obj := { cls := .type "range_iterator", dict := none, data := .fields #[rawInt x, rawInt left, rawInt 1], slots := #[] }
noncomputable def enumO (it : Addr) (i : Int) (old : Value) : Obj := { cls := .type "enumerate", dict := none, data := .fields #[.none, .bool false, .ref it, rawInt i, .none, old], slots := #[] }
noncomputable def enumM (it : Addr) (i : Int) (item : Value) (T : Addr) : Obj := { cls := .type "enumerate", dict := none, data := .fields #[rawInt T, .bool false, .ref it, rawInt i, .none, item], slots := #[] }
noncomputable def zipO (TI TO : Addr) (f0 : Value) : Obj := { cls := .type "zip", dict := none, data := .fields #[f0, .bool false, .bool false, .ref TI, .ref TO], slots := #[] }
noncomputable def pairO (a b : Value) : Obj := { cls := .type "tuple", data := .seq #[a, b] }
noncomputable def lastOf (vs : List Value) (i : Nat) : Value := if i = 0 then .none else vs.getD (i - 1) .none
noncomputable def enumL (e it l : Addr) (vs : List Value) (i : Nat) : Led := [(e, .raw (enumO it i (lastOf vs i))), (it, .fld "list_iterator" [.ref l, .int i 0])]
noncomputable def enumML (e it l : Addr) (vs : List Value) (i : Nat) (v : Value) : Led := [(e, .raw (enumM it ((i : Int) + 1) (vs.getD i .none) (match v with | .ref T => T | _ => 0))), (it, .fld "list_iterator" [.ref l, .int ((i + 1 : Nat) : Int) 0])]
noncomputable def zipL (Z TI TO i1 i2 l1 l2 : Addr) (xs ys : List Value) (i : Nat) : Led := [(Z, .raw (zipO TI TO .none)), (TI, .raw (pairO (.ref i1) (.ref i2))), (TO, .raw (pairO (lastOf xs i) (lastOf ys i))), (i1, .fld "list_iterator" [.ref l1, .int i 0]), (i2, .fld "list_iterator" [.ref l2, .int i 0])]
noncomputable def zipML (Z TI TO i1 i2 l1 l2 : Addr) (xs ys : List Value) (i : Nat) (v : Value) : Led := [(Z, .raw (zipO TI TO (rawInt (match v with | .ref T => T | _ => 0)))), (TI, .raw (pairO (.ref i1) (.ref i2))), (TO, .raw (pairO (xs.getD i .none) (ys.getD i .none))), (i1, .fld "list_iterator" [.ref l1, .int ((i + 1 : Nat) : Int) 0]), (i2, .fld "list_iterator" [.ref l2, .int ((i + 1 : Nat) : Int) 0])]
noncomputable def isTup : PySem.Expr → Prop
 | .Tuple .. => True
 | _ => False
section
variable {prog : Program} {w : World} {K : Frag} {A : Around} {z z' : Fz} {n n' : Led}
theorem Step.laid {s : Shared} (hs : St prog w K z n s) (new : Led) {h' : Heap} {tk : Nat} (keep : ∀ a o, s.heap.get? a = some o → h'.get? a = some o) (at' : ∀ p ∈ new, At prog w K h' p.1 p.2) (fr : ∀ a ∈ addrs new, s.heap.get? a = none) (nd : (addrs new).Nodup) :
  Step prog w K z n s z (insL new n) { s with heap := h', toks := tk } := by
 refine Step.perm (n' := n ++ new) (Step.ext hs (fun a o u_ e => keep a o e) (fun p hp => ?_) (fun a ha => ?_) ?_) (insL_perm _ _).symm
 ·rcases List.mem_append.mp hp with h | h
  ·exact (hs.led p h).kept fun o e => keep _ o e
  ·exact at' p h
 ·unfold addrs at ha
  rw [List.map_append] at ha
  rcases List.mem_append.mp ha with h | h
  ·exact .inl h
  ·exact .inr (fr a h)
 ·unfold addrs
  rw [List.map_append]
  refine List.nodup_append.mpr ⟨hs.nodup, nd, fun a ha b hb e => ?_⟩
  obtain ⟨o, e'⟩ := hs.has ha
  have hf := fr b hb
  rw [← e, e'] at hf; cases hf
/-! range -/
theorem range1_W {b : Int} {u : Tok} {Q : KV} (q : ∀ a t v, z a = none → Q (.ref a) (fset z a (.raw (rangeO 0 b t u v))) n) : W prog w K A (call (.type "range") [.int b u] []) z n Q := fun E s hs =>
 call_range_1 ⟨_, _, Step.newF hs (lo := .raw (rangeO 0 b s.toks u (s.toks + 1))) rfl rfl, q _ _ _ hs.fresh⟩
theorem range2_W {a b : Int} {t u : Tok} {Q : KV} (q : ∀ r v, z r = none → Q (.ref r) (fset z r (.raw (rangeO a b t u v))) n) : W prog w K A (call (.type "range") [.int a t, .int b u] []) z n Q := fun E s hs =>
 call_range_2 ⟨_, _, Step.newF hs (lo := .raw (rangeO a b t u s.toks)) rfl rfl, q _ _ hs.fresh⟩
theorem raw_of {hp : Heap} {a : Addr} {o : Obj} (h : At prog w K hp a (.raw o)) : hp.get? a = some o := by
 refine oEA h fun o' e i => ?_
 clear h
 have : o' = o := i
 exact this ▸ e
theorem fits {i : Int} (h1 : -(2 ^ 62) < i) (h2 : i < 2 ^ 62) : Builtin.Range.rangeFitsLong i = true := by
 unfold Builtin.Range.rangeFitsLong
 exact Bool.and_eq_true_iff.mpr ⟨decide_eq_true (Int.le_of_lt (Int.lt_trans (by decide) h1)), decide_eq_true (Int.lt_trans h2 (by decide))⟩
theorem small_of {a b : Int} {n : Int} (hn : Builtin.Range.rangeSize a b 1 = n) (ha : Builtin.Range.rangeFitsLong a = true) (hb : Builtin.Range.rangeFitsLong b = true) (hn2 : Builtin.Range.rangeFitsLong n = true) : Builtin.Range.small a b 1 = true := by
 unfold Builtin.Range.small
 rw [hn, ha, hb, hn2, if_pos (by decide), show b + (1 - 1) = b from Int.add_zero b, hb, Bool.or_true]
 rfl
theorem toNat_lt {i : Int} {k : Nat} (h : i < (k : Int)) (hk : 0 < k) : (i.toNat : Int) < (k : Int) := by
 rcases Int.le_total 0 i with q | q
 ·rw [Int.toNat_of_nonneg q]; exact h
 ·rw [Int.toNat_of_nonpos q]; exact Int.ofNat_lt.mpr hk
theorem iter_range (hh : A.handled = none) {r : Addr} {a b : Int} {t u v : Tok} (hz : z r = some (.raw (rangeO a b t u v))) (hs1 : -(2 ^ 40) < a) (hs2 : a < 2 ^ 40) (hs3 : -(2 ^ 40) < b) (hs4 : b < 2 ^ 40) {target : PySem.Expr} :
  IterOf prog w K A target (.ref r) [] (b - a).toNat (fun i x u_ => ∃ t, x = .int (a + i) t) z := fun E s hs => by
 have hsz : Builtin.Range.rangeSize a b 1 = ((b - a).toNat : Int) := by rw [rangeSize_one]; split <;> (first | lia | omega)
 have hR : IsRange s.heap r a b 1 t u v := raw_of (hs.frz r _ hz)
 have hd : b - a < ((2 ^ 41 : Nat) : Int) := Int.lt_of_lt_of_le (Int.add_lt_add hs4 (Int.neg_lt_of_neg_lt hs1)) (by decide)
 have small : Builtin.Range.small a b 1 = true := small_of hsz (fits (Int.lt_trans (by decide) hs1) (Int.lt_trans hs2 (by decide))) (fits (Int.lt_trans (by decide) hs3) (Int.lt_trans hs4 (by decide))) (fits (Int.lt_of_lt_of_le (by decide) (Int.natCast_nonneg _)) (Int.lt_trans (toNat_lt hd (by decide)) (by decide)))
 refine wpAny_pyIter_range hR small ⟨z, _, Step.push hs (lo := .raw (rangeI a (b - a).toNat)) (by show _ = _; rw [hsz]; rfl) rfl, rfl, fun i => [(s.heap.objs.size, .raw (rangeI (a + (i : Nat)) (((b - a).toNat : Int) - (i : Nat))))],
  fun i u_ => [(s.heap.objs.size, .raw (rangeI (a + ((i + 1 : Nat) : Int)) (((b - a).toNat : Int) - ((i + 1 : Nat) : Int))))], ?_, ?_⟩
 ·show [(_, Lo.raw _)] = _
  simp
 refine ⟨fun i z1 Q hi le hQ E s1 hs1 => ?_, fun z1 Q le hQ E s1 hs1 => ?_, fun i z1 Q le hQ E s1 hs1 => ?_, fun i z1 v Q hi le u_ hQ => letOwned_keep (fun h o a hA ho => ?_) (.head _) (hQ _ rfl)⟩
 ·have ho := raw_of (hs1.led _ (.head _))
  refine wpAny_pyNext_range_item (it := s.heap.objs.size) ho (by (first | lia | omega)) fun h' hit sb => ?_
  exact ⟨z1, _, Step.upd hs1 (lo' := .raw (rangeI (a + ((i + 1 : Nat) : Int)) (((b - a).toNat : Int) - ((i + 1 : Nat) : Int)))) Up.head sb ⟨_, hit, by
   show rangeI _ _ = rangeI _ _
   congr 1 <;> (first | lia | omega)⟩, hQ _ _ (Le.refl _) ⟨_, rfl⟩⟩
 ·have ho := raw_of (hs1.led _ (.head _))
  refine wpAny_pyNext_range_end hh (it := s.heap.objs.size) ho (by (first | lia | omega)) fun h' hk => ⟨z1, [], Step.forget hs1 rfl hk, hQ⟩
 ·have ho := raw_of (hs1.led _ (.head _))
  exact wpAny_pyIter_rangeiter (it := s.heap.objs.size) ho ⟨z1, _, .refl hs1, hQ⟩
 ·cases (raw_of hA).symm.trans ho
  rfl
/-! enumerate -/
theorem fld_of {s : Shared} {it l : Addr} {i : Int} (h : At prog w K s.heap it (.fld "list_iterator" [.ref l, .int i 0])) : ∃ o, s.heap.get? it = some o ∧ o.cls = .type "list_iterator" ∧ o.data = .fields #[.ref l, .int i 0] := h
theorem enum_W {l : Addr} {vs : List Value} {Q : KV} (hz : z l = some (.lst vs)) (q : ∀ e it, Q (.ref e) z (insL (enumL e it l vs 0) n)) : W prog w K A (call (.type "enumerate") [.ref l] []) z n Q := fun E s hs => by
 refine call_enumerate_list (isList_of (hs.frz l _ hz)) fun h' he hit hsz keep => ?_
 refine ⟨z, _, Step.laid hs (enumL (s.heap.objs.size + 1) s.heap.objs.size l vs 0) keep (fun p hp => ?_) (fun a ha => ?_) ?_, q _ _⟩
 ·rcases List.mem_cons.mp hp with rfl | hp
  ·exact ⟨_, he, rfl⟩
  ·rcases List.mem_cons.mp hp with rfl | hp
   ·refine oEAA hit fun o ho hc hd => ?_; clear hit; exact ⟨o, ho, hc, hd⟩
   ·cases hp
 ·have : a = s.heap.objs.size + 1 ∨ a = s.heap.objs.size := by simpa [addrs, enumL] using ha
  cases e : s.heap.get? a with
  | none => rfl
  | some o =>
   have hlt := Heap.lt_size e
   rcases this with q | q
   ·rw [q] at hlt; exact absurd hlt (Nat.not_lt.mpr (Nat.le_succ _))
   ·rw [q] at hlt; exact absurd hlt (Nat.lt_irrefl _)
 ·simp [addrs, enumL]
theorem iter_enum (hh : A.handled = none) {e it l : Addr} {vs : List Value} (hz : z l = some (.lst vs)) {target : PySem.Expr} (ht : isTup target) :
  IterOf prog w K A target (.ref e) (enumL e it l vs 0) vs.length (fun i v z' => ∃ T t x, v = .ref T ∧ z' T = some (.tup [.int i t, x]) ∧ vs[i]? = some x) z := fun E s hs => by
 have he : IsEnum s.heap e it 0 .none := raw_of (hs.led _ (.head _))
 refine wpAny_pyIter_enum he ⟨z, _, .refl hs, rfl, fun i => enumL e it l vs i, fun i v => enumML e it l vs i v, rfl, ?_⟩
 refine ⟨fun i z1 Q hi le hQ E s1 hs1 => ?_, fun z1 Q le hQ E s1 hs1 => ?_, fun i z1 Q le hQ E s1 hs1 => ?_, fun i z1 v Q hi le hv hQ E s1 hs1 => ?_⟩
 ·have ho : IsEnum s1.heap e it i (lastOf vs i) := raw_of (hs1.led _ (.head _))
  refine oEAA (hs1.led _ (.tail _ (.head _))) fun oi hoi hci hdi => ?_
  have hne : e ≠ it := fun q => (List.nodup_cons.mp hs1.nodup).1 (q ▸ .head _)
  have hl := isList_of (hs1.frz l _ (le _ _ hz))
  refine wpAny_pyNext_enum_item ho (it := it) ⟨oi, hoi, hci, hdi⟩ hl (x := vs[i]) (by simp [hi]) hne fun h' out hit' htup hsz keep => ?_
  refine oEAA hit' fun oi' hoi' hci' hdi' => ?_
  clear hit'
  have hT : s1.heap.get? s1.heap.objs.size = none := get_size_none _
  have hg : vs.getD i .none = vs[i] := by simp [hi]
  have hee : s1.heap.objs.size ≠ e := Ne.symm (Nat.ne_of_lt (Heap.lt_size ho))
  have hei : s1.heap.objs.size ≠ it := Ne.symm (Nat.ne_of_lt (Heap.lt_size hoi))
  have st : Step prog w K z1 (enumL e it l vs i) s1 z1 ((s1.heap.objs.size, .tup [.int i s1.toks, vs[i]]) :: enumML e it l vs i (.ref s1.heap.objs.size)) { s1 with heap := h', toks := s1.toks + 1 } := by
   refine Step.ext hs1 (fun a o hn q => keep a o (fun x => hn (x ▸ .head _)) (fun x => hn (x ▸ .tail _ (.head _))) q) (fun p hp => ?_) (fun a ha => ?_) ?_
   ·rcases List.mem_cons.mp hp with rfl | hp
    ·exact ⟨_, htup, rfl, 0, rfl⟩
    ·rcases List.mem_cons.mp hp with rfl | hp
     ·exact ⟨_, out, by show _ = enumM _ _ _ _; rw [hg]; rfl⟩
     ·rcases List.mem_cons.mp hp with rfl | hp
      ·exact ⟨oi', hoi', hci', hdi'⟩
      ·cases hp
   ·rcases List.mem_cons.mp (show a ∈ s1.heap.objs.size :: addrs (enumL e it l vs i) from ha) with rfl | h
    ·exact .inr hT
    ·exact .inl h
   ·show (s1.heap.objs.size :: addrs (enumL e it l vs i)).Nodup
    refine List.nodup_cons.mpr ⟨fun m => ?_, hs1.nodup⟩
    rcases List.mem_cons.mp m with q | q
    ·exact hee q
    ·rcases List.mem_cons.mp q with q | q
     ·exact hei q
     ·cases q
  exact ⟨_, _, st.freeze, hQ _ _ (Le.fset hs1.fresh) ⟨_, _, _, rfl, fset_self, by simp [hi]⟩⟩
 ·have ho : IsEnum s1.heap e it (vs.length : Nat) (lastOf vs vs.length) := raw_of (hs1.led _ (.head _))
  refine oEAA (hs1.led _ (.tail _ (.head _))) fun oi hoi hci hdi => ?_
  have hl := isList_of (hs1.frz l _ (le _ _ hz))
  refine wpAny_pyNext_enum_end hh ho (it := it) ⟨oi, hoi, hci, hdi⟩ hl (by simp) fun h' hk => ⟨z1, [], ?_, hQ⟩
  exact Step.ext hs1 (fun a o hn q => hk a o (fun x => hn (x ▸ .tail _ (.head _))) q) (fun u_ h => nomatch h) (fun u_ h => nomatch h) List.nodup_nil
 ·have ho : IsEnum s1.heap e it i (lastOf vs i) := raw_of (hs1.led _ (.head _))
  exact wpAny_pyIter_enum ho ⟨z1, _, .refl hs1, hQ⟩
 ·refine oEEEAA hv fun T t x e0_ hT hx => ?_
  clear hv
  subst e0_
  have ho : IsEnumOut s1.heap e it ((i : Int) + 1) (vs.getD i .none) T := raw_of (hs1.led _ (.head _))
  cases target with
  | Tuple elts k pos =>
   refine wpAny_letOwnedTupleGo_enum ho fun h' he' sb => ⟨z1, _, Step.upd hs1 (lo' := .raw (enumO it ((i + 1 : Nat) : Int) (lastOf vs (i + 1)))) Up.head sb ⟨_, he', ?_⟩, hQ _ rfl⟩
   show _ = enumO _ _ _
   unfold enumO lastOf
   simp
  | _ => exact ht.elim
end
/-! two lists, item by item -/
noncomputable def All2 {α : Type} (R : α → Value → Prop) : List α → List Value → Prop
 | [], [] => True
 | x :: xs, v :: vs => R x v ∧ All2 R xs vs
 | _, _ => False
namespace All2
variable {α β : Type} {R S : α → Value → Prop}
theorem ind {P : List α → List Value → Prop} (h0 : P [] []) (h1 : ∀ x xs v vs, R x v → P xs vs → P (x :: xs) (v :: vs)) {xs : List α} {vs : List Value} (h : All2 R xs vs) : P xs vs := by
 induction xs generalizing vs with
 | nil => cases vs with
  | nil => exact h0
  | cons => exact h.elim
 | cons x xs ih => cases vs with
  | nil => exact h.elim
  | cons v vs => exact h1 x xs v vs h.1 (ih h.2)
theorem len {xs : List α} {vs : List Value} (h : All2 R xs vs) : vs.length = xs.length :=
 ind (P := fun (xs : List α) vs => vs.length = xs.length) rfl (fun x xs v vs r ih => congrArg Nat.succ ih) h
theorem mono (f : ∀ x v, R x v → S x v) {xs : List α} {vs : List Value} (h : All2 R xs vs) : All2 S xs vs :=
 ind (P := fun xs vs => All2 S xs vs) trivial (fun x xs v vs r ih => show S x v ∧ All2 S xs vs from ⟨f x v r, ih⟩) h
theorem append {xs ys : List α} {vs ws : List Value} (g : All2 R xs vs) (h : All2 R ys ws) : All2 R (xs ++ ys) (vs ++ ws) :=
 ind (P := fun xs vs => All2 R (xs ++ ys) (vs ++ ws)) h (fun x xs v vs r ih => show R x v ∧ All2 R (xs ++ ys) (vs ++ ws) from ⟨r, ih⟩) g
theorem get {xs : List α} {vs : List Value} {i : Nat} {x : α} (h : All2 R xs vs) (e : xs[i]? = some x) : ∃ v, vs[i]? = some v ∧ R x v := by
 refine ind (P := fun xs vs => ∀ i : Nat, xs[i]? = some x → ∃ v, vs[i]? = some v ∧ R x v) (fun i e => ?_) (fun y ys v vs r ih i e => ?_) h i e
 ·rw [List.getElem?_nil] at e; exact noO e
 ·cases i with
  | zero => exact ⟨v, rfl, Option.some.inj (show some y = some x from e) ▸ r⟩
  | succ i => exact ih i e
theorem at' {xs : List α} {vs : List Value} {i : Nat} {v : Value} (h : All2 R xs vs) (e : vs[i]? = some v) : ∃ x, xs[i]? = some x ∧ R x v := by
 have hl := h.len
 have hi : i < vs.length := by
  rcases Nat.lt_or_ge i vs.length with q | q
  ·exact q
  ·rw [List.getElem?_eq_none q] at e; cases e
 have hx : xs[i]? = some (xs[i]'(by exact Nat.lt_of_lt_of_le hi (Nat.le_of_eq hl))) := List.getElem?_eq_getElem (by exact Nat.lt_of_lt_of_le hi (Nat.le_of_eq hl))
 refine oEA (h.get hx) fun v' e' r => ?_
 rw [e] at e'; cases e'
 exact ⟨_, hx, r⟩
theorem take {xs : List α} {vs : List Value} (k : Nat) (h : All2 R xs vs) : All2 R (xs.take k) (vs.take k) := by
 refine ind (P := fun xs vs => ∀ k, All2 R (xs.take k) (vs.take k)) (fun k => ?_) (fun x xs v vs r ih k => ?_) h k
 ·rw [List.take_nil, List.take_nil]; exact trivial
 ·cases k with
  | zero => exact trivial
  | succ k => exact ⟨r, ih k⟩
theorem drop {xs : List α} {vs : List Value} (k : Nat) (h : All2 R xs vs) : All2 R (xs.drop k) (vs.drop k) := by
 induction k generalizing xs vs with
 | zero => exact h
 | succ k ih => cases xs with
  | nil => cases vs with
   | nil => exact trivial
   | cons => exact h.elim
  | cons x xs => cases vs with
   | nil => exact h.elim
   | cons => exact ih h.2
theorem reverse {xs : List α} {vs : List Value} (h : All2 R xs vs) : All2 R xs.reverse vs.reverse := by
 refine ind (P := fun xs vs => All2 R xs.reverse vs.reverse) trivial (fun x xs v vs r ih => ?_) h
 rw [List.reverse_cons, List.reverse_cons]
 exact append ih ⟨r, trivial⟩
theorem map {f : β → α} : ∀ {xs : List β} {vs : List Value}, All2 R (xs.map f) vs ↔ All2 (fun x v => R (f x) v) xs vs
 | [], [] => Iff.rfl
 | [], _ :: _ => Iff.rfl
 | _ :: _, [] => Iff.rfl
 | _ :: xs, _ :: vs => and_congr Iff.rfl (map (xs := xs) (vs := vs))
theorem nil_iff {vs : List Value} : All2 R [] vs ↔ vs = [] := by
 cases vs with
 | nil => exact ⟨fun u_ => rfl, fun u_ => trivial⟩
 | cons v r => exact ⟨fun h => h.elim, fun h => nomatch h⟩
theorem snoc {xs : List α} {vs : List Value} {x : α} {v : Value} (h : All2 R xs vs) (r : R x v) : All2 R (xs ++ [x]) (vs ++ [v]) := h.append ⟨r, trivial⟩
theorem of_get {xs : List α} {vs : List Value} (hl : vs.length = xs.length) (h : ∀ (i : Nat) x v, xs[i]? = some x → vs[i]? = some v → R x v) : All2 R xs vs := by
 induction xs generalizing vs with
 | nil => cases vs with
  | nil => trivial
  | cons => simp at hl
 | cons x xs ih => cases vs with
  | nil => simp at hl
  | cons v vs => exact ⟨h 0 x v rfl rfl, ih (by simpa using hl) fun i y u e1 e2 => h (i + 1) y u (by simpa using e1) (by simpa using e2)⟩
theorem snoc_inv {xs : List α} {vs : List Value} {x : α} (h : All2 R (xs ++ [x]) vs) : ∃ ws v, vs = ws ++ [v] ∧ All2 R xs ws ∧ R x v := by
 induction xs generalizing vs with
 | nil => cases vs with
  | nil => exact h.elim
  | cons v r =>
   obtain ⟨h1, h2⟩ := (h : R x v ∧ All2 R [] r)
   rw [nil_iff] at h2
   exact ⟨[], v, by rw [h2]; rfl, trivial, h1⟩
 | cons y ys ih => cases vs with
  | nil => exact h.elim
  | cons v r =>
   obtain ⟨h1, h2⟩ := (h : R y v ∧ All2 R (ys ++ [x]) r)
   refine oEEAA (ih h2) fun ws u e g1 g2 => ?_
   exact ⟨v :: ws, u, by rw [e]; rfl, ⟨h1, g1⟩, g2⟩
end All2
/-! data, frozen -/
mutual
noncomputable def Vz (z : Fz) : PyData → Value → Prop
 | .none, v => v = .none
 | .bool b, v => v = .bool b
 | .int i, v => ∃ t, v = .int i t
 | .str x, v => ∃ t, v = .str x t
 | .list xs, v => ∃ a vs, v = .ref a ∧ z a = some (.lst vs) ∧ VzAll z xs vs
 | .tuple xs, v => ∃ a vs, v = .ref a ∧ z a = some (.tup vs) ∧ VzAll z xs vs
 | .dict _, _ => False
noncomputable def VzAll (z : Fz) : List PyData → List Value → Prop
 | [], vs => vs = []
 | d :: ds, vs => ∃ v r, vs = v :: r ∧ Vz z d v ∧ VzAll z ds r
end
theorem vzAll_iff {z : Fz} : ∀ {ds : List PyData} {vs : List Value}, VzAll z ds vs ↔ All2 (Vz z) ds vs
 | [], vs => All2.nil_iff.symm
 | d :: ds, vs => by
  constructor
  ·rintro ⟨v, r, rfl, h1, h2⟩
   exact ⟨h1, vzAll_iff.mp h2⟩
  ·intro h
   cases vs with
   | nil => exact h.elim
   | cons v r => exact ⟨v, r, rfl, h.1, vzAll_iff.mpr h.2⟩
mutual
theorem Vz.mono {z z' : Fz} (l : Le z z') : ∀ (d : PyData) (v : Value), Vz z d v → Vz z' d v
 | .none, _, h => h
 | .bool _, _, h => h
 | .int _, _, h => h
 | .str _, _, h => h
 | .list xs, v, h => by
  refine oEEAA h fun a vs e hz r => ?_
  clear h
  exact ⟨a, vs, e, l _ _ hz, VzAll.mono l xs vs r⟩
 | .tuple xs, v, h => by
  refine oEEAA h fun a vs e hz r => ?_
  clear h
  exact ⟨a, vs, e, l _ _ hz, VzAll.mono l xs vs r⟩
 | .dict _, _, h => (h : False).elim
theorem VzAll.mono {z z' : Fz} (l : Le z z') : ∀ (ds : List PyData) (vs : List Value), VzAll z ds vs → VzAll z' ds vs
 | [], _, h => h
 | d :: ds, vs, h => by
  refine oEEAA h fun v r e h1 h2 => ?_
  clear h
  exact ⟨v, r, e, Vz.mono l d v h1, VzAll.mono l ds r h2⟩
end
/-- a list, frozen or in the ledger -/
noncomputable def Vl (z : Fz) (n : Led) (d : PyData) (v : Value) : Prop := Vz z d v ∨ ∃ a vs xs, d = .list xs ∧ v = .ref a ∧ Hs z n a (.lst vs) ∧ VzAll z xs vs
section
variable {prog : Program} {w : World} {K : Frag} {A : Around} {z z' : Fz} {n n' : Led}
mutual
theorem Vz.reads {s : Shared} (hs : St prog w K z n s) : ∀ (d : PyData) (v : Value), Vz z d v → ∃ as, Reads s.heap v d as
 | .none, v, h => by cases (h : v = .none); exact ⟨_, .none⟩
 | .bool b, v, h => by cases (h : v = .bool b); exact ⟨_, .bool b⟩
 | .int i, v, h => by obtain ⟨t, rfl⟩ := h; exact ⟨_, .int i t⟩
 | .str x, v, h => by obtain ⟨t, rfl⟩ := h; exact ⟨_, .str x t⟩
 | .list xs, v, h => by
  refine oEEAA h fun a vs e0_ hz r => ?_
  clear h
  subst e0_
  obtain ⟨as, ra⟩ := VzAll.reads hs xs vs r
  refine oEAA (hs.frz a _ hz) fun o ho hc h_ => oAA h_ fun u_ u_ h_ => Exists.elim h_ fun k hd => ?_
  exact ⟨_, .list ho hc hd (by simpa using ra)⟩
 | .tuple xs, v, h => by
  refine oEEAA h fun a vs e0_ hz r => ?_
  clear h
  subst e0_
  obtain ⟨as, ra⟩ := VzAll.reads hs xs vs r
  refine oEAA (hs.frz a _ hz) fun o ho hc h_ => Exists.elim h_ fun k hd => ?_
  exact ⟨_, .tuple ho hc hd (by simpa using ra)⟩
 | .dict _, v, h => (h : False).elim
theorem VzAll.reads {s : Shared} (hs : St prog w K z n s) : ∀ (ds : List PyData) (vs : List Value), VzAll z ds vs → ∃ as, ReadsAll s.heap vs ds as
 | [], vs, h => by cases (h : vs = []); exact ⟨_, .nil⟩
 | d :: ds, vs, h => by
  refine oEEAA h fun v r e0_ h1 h2 => ?_
  clear h
  subst e0_
  obtain ⟨as, r1⟩ := Vz.reads hs d v h1
  obtain ⟨bs, r2⟩ := VzAll.reads hs ds r h2
  exact ⟨_, .cons r1 r2⟩
end
theorem Vl.reads {s : Shared} (hs : St prog w K z n s) {d : PyData} {v : Value} (h : Vl z n d v) : ∃ as, Reads s.heap v d as := by
 rcases h with h | ⟨a, vs, xs, rfl, rfl, hk, r⟩
 ·exact Vz.reads hs d v h
 ·obtain ⟨as, ra⟩ := VzAll.reads hs xs vs r
  refine oEAA (hk.at hs) fun o ho hc h_ => oAA h_ fun u_ u_ h_ => Exists.elim h_ fun k hd => ?_
  exact ⟨_, .list ho hc hd (by simpa using ra)⟩
/-! what is compared -/
structure Enc {α : Type} [DecidableEq α] (e : α → PyData) (k : Nat) : Prop where
 eqv : ∀ x y, PyData.eqv (e x) (e y) = decide (x = y)
 lay : ∀ x, (e x).canLay0 = true
 dep : ∀ x, (e x).depth ≤ k
noncomputable def eI (i : Int) : PyData := .int i
noncomputable def eL {α : Type} (e : α → PyData) (xs : List α) : PyData := .list (xs.map e)
noncomputable def eP {α β : Type} (e : α → PyData) (f : β → PyData) (p : α × β) : PyData := .tuple [e p.1, f p.2]
noncomputable def eO {α : Type} (e : α → PyData) : Option α → PyData
 | none => .none
 | some x => e x
theorem Enc.int : Enc eI 0 := ⟨fun x y => by unfold eI; simp [PyData.eqv]; rfl, fun x => by unfold eI; simp [PyData.canLay0], fun x => by unfold eI; simp [PyData.depth]⟩
variable {α β : Type} [DecidableEq α] [DecidableEq β] {e : α → PyData} {f : β → PyData} {k : Nat}
theorem Enc.all (h : Enc e k) : ∀ xs ys : List α, PyData.eqvAll (xs.map e) (ys.map e) = decide (xs = ys)
 | [], [] => by simp [PyData.eqvAll]
 | [], _ :: _ => by simp [PyData.eqvAll]
 | _ :: _, [] => by simp [PyData.eqvAll]
 | x :: xs, y :: ys => by
  simp only [List.map_cons, PyData.eqvAll, h.eqv, Enc.all h xs ys, List.cons.injEq]
  simp
theorem Enc.layAll (h : Enc e k) : ∀ xs : List α, PyData.canLayAll0 (xs.map e) = true
 | [] => by simp [PyData.canLayAll0]
 | x :: xs => by simp only [List.map_cons, PyData.canLayAll0, h.lay, Enc.layAll h xs, Bool.and_self]
theorem Enc.depAll (h : Enc e k) : ∀ xs : List α, PyData.depthAll (xs.map e) ≤ k
 | [] => by simp [PyData.depthAll]
 | x :: xs => by
  have := h.dep x
  have := Enc.depAll h xs
  simp only [List.map_cons, PyData.depthAll]
  (first | lia | omega)
theorem Enc.list (h : Enc e k) : Enc (eL e) (k + 1) := ⟨fun x y => by unfold eL; rw [PyData.eqv, h.all], fun x => by unfold eL; rw [PyData.canLay0]; exact h.layAll x, fun x => by
 unfold eL
 have := h.depAll x
 simp only [PyData.depth]
 exact Nat.lt_of_le_of_lt this (Nat.lt_add_of_pos_right (Nat.zero_lt_succ _))⟩
theorem Enc.pair (h : Enc e k) (g : Enc f k) : Enc (eP e f) (k + 1) := ⟨fun x y => by
 unfold eP
 obtain ⟨x1, x2⟩ := x
 obtain ⟨y1, y2⟩ := y
 simp only [PyData.eqv, PyData.eqvAll, h.eqv, g.eqv, Prod.mk.injEq]
 simp, fun x => by unfold eP; simp only [PyData.canLay0, PyData.canLayAll0, h.lay, g.lay, Bool.and_self], fun x => by
 unfold eP
 have := h.dep x.1
 have := g.dep x.2
 simp only [PyData.depth, PyData.depthAll]
 (first | lia | omega)⟩
theorem Enc.optP (h : Enc e k) (g : Enc f k) : Enc (eO (eP e f)) (k + 1) := ⟨fun x y => by
 cases x with
 | none => cases y with
  | none => simp [eO, PyData.eqv]
  | some y => simp [eO, eP, PyData.eqv]
 | some x => cases y with
  | none => simp [eO, eP, PyData.eqv]
  | some y => show PyData.eqv (eP e f x) (eP e f y) = _; rw [(Enc.pair h g).eqv]; simp, fun x => by
 cases x with
 | none => simp [eO, PyData.canLay0]
 | some x => exact (Enc.pair h g).lay x, fun x => by
 cases x with
 | none => simp [eO, PyData.depth]
 | some x => exact (Enc.pair h g).dep x⟩
theorem eq_W {u v : Value} {x y : α} {Q : KV} (hA : Room A 0) (he : Enc e k) (hk : k < 100) (hu : Vl z n (e x) u) (hv : Vl z n (e y) v) (q : Q (.bool (decide (x = y))) z n) : W prog w K A (compareOp .Eq u v) z n Q := fun E s hs => by
 obtain ⟨as, ra⟩ := hu.reads hs
 obtain ⟨bs, rb⟩ := hv.reads hs
 refine compareEq_reads ra rb (he.lay x) (he.lay y) ?_ ⟨_, _, .refl hs, by rw [he.eqv]; exact q⟩
 have := hA.units; have := he.dep x; have := he.dep y; (first | lia | omega)
theorem ne_W {u v : Value} {x y : α} {Q : KV} (hA : Room A 0) (he : Enc e k) (hk : k < 100) (hu : Vl z n (e x) u) (hv : Vl z n (e y) v) (q : Q (.bool (!decide (x = y))) z n) : W prog w K A (compareOp .NotEq u v) z n Q := fun E s hs => by
 obtain ⟨as, ra⟩ := hu.reads hs
 obtain ⟨bs, rb⟩ := hv.reads hs
 refine compareNe_reads ra rb (he.lay x) (he.lay y) ?_ ⟨_, _, .refl hs, by rw [he.eqv]; exact q⟩
 have := hA.units; have := he.dep x; have := he.dep y; (first | lia | omega)
theorem in_W {u c : Value} {xs : List α} {y : α} {Q : KV} (hA : Room A 0) (he : Enc e k) (hk : k < 100) (hc : Vl z n (eL e xs) c) (hu : Vl z n (e y) u) (q : Q (.bool (decide (y ∈ xs))) z n) : W prog w K A (compareOp .In u c) z n Q := fun E s hs => by
 obtain ⟨as, ra⟩ := hc.reads hs
 obtain ⟨bs, rb⟩ := hu.reads hs
 refine in_list_reads ra rb (he.layAll xs) (he.lay y) ?_ ⟨_, _, .refl hs, ?_⟩
 ·have := hA.units; have := he.depAll xs; have := he.dep y; (first | lia | omega)
 ·have e1 : ((xs.map e).any fun y' => PyData.eqv y' (e y)) = decide (y ∈ xs) := by
   rw [List.any_map]
   clear ra hc q
   induction xs with
   | nil => simp
   | cons x r ih =>
    simp only [List.any_cons, Function.comp_apply, he.eqv, List.mem_cons]
    rw [show (r.any ((fun y' => PyData.eqv y' (e y)) ∘ e)) = decide (y ∈ r) from ih]
    by_cases h1 : x = y
    ·simp [h1]
    ·have : y ≠ x := fun q => h1 q.symm
     simp [h1, this]
  rw [e1]; exact q
end
section
variable {prog : Program} {w : World} {K : Frag} {A : Around} {z z' : Fz} {n n' : Led} {k : Nat}
/-- an instance of a class of the text -/
noncomputable def Inst (z : Fz) (n : Led) (C x dx : Addr) (m : List (Str × Value)) : Prop := Hs z n x (.raw (instObj C dx)) ∧ Hs z n dx (.att m)
theorem Hs.mono {a : Addr} {lo : Lo} (h : Hs z n a lo) (l : Le z z') : Hs z' n a lo := h.imp (l _ _) id
theorem Inst.mono {C x dx : Addr} {m} (h : Inst z n C x dx m) (l : Le z z') : Inst z' n C x dx m := ⟨h.1.mono l, h.2.mono l⟩
theorem lookIn_att {o : Obj} {m : List (Str × Value)} {es ep} (hd : o.data = .dict es ep) (hk : StrKeys es) (hf : ∀ x, nsFind es x = lkv m x) (name : Str) : lookIn name o = some (lkv m name) := by
 unfold lookIn
 rw [hd]
 dsimp only
 have := hf name
 unfold nsFind findBy at this
 rw [← Array.find?_toList] at this
 cases hq : es.toList.find? (fun e => e.key.isStr name) with
 | some e => rw [hq] at this; rw [← this]; rfl
 | none =>
  rw [hq] at this
  have hr : es.toList.any (·.refKey) = false := by
   rw [List.any_eq_false]
   intro e he
   refine oEE (hk e (by simpa using he)) fun n t h => ?_
   simp [DictEntry.refKey, h]
  rw [hr, ← this]; rfl
theorem Inst.at' {C x dx : Addr} {m : List (Str × Value)} (h : Inst z n C x dx m) {s : Shared} (hs : St prog w K z n s) : ∃ od es ep, InstAt s.heap x (instObj C dx) C (some od) ∧ s.heap.get? dx = some od ∧ od.data = .dict es ep ∧ StrKeys es ∧ es.size ≤ m.length ∧ ∀ y, nsFind es y = lkv m y := by
 refine oEA (h.2.at hs) fun od hod h_ => oEEAAA h_ fun es ep hd hk hn hf => ?_
 exact ⟨od, es, ep, ⟨raw_of (h.1.at hs), rfl, rfl, hod⟩, hod, hd, hk, hn, hf⟩
theorem findObj_own {C : Addr} {od : Obj} {name : Str} {v : Value} (hD : hasDictIn K C = true) (hno : findIn K (.ref C) name = some none) (hl : lookIn name od = some (some v)) : findObj K C (some od) name = some (.value v) := by
 unfold hasDictIn at hD
 refine oEA (any_some hD) fun cd hc hd => ?_
 unfold findObj
 rw [hc, hno]
 have e : PySem.W.ownOf cd (some od) name = some (some v) := by
  show (if cd.hasDict = true then _ else _) = _
  rw [if_pos hd]; exact hl
 show Option.bind (PySem.W.ownOf cd (some od) name) _ = _
 rw [e]; rfl
theorem attr_W {C x dx : Addr} {m : List (Str × Value)} {name : Str} {v : Value} {Q : KV} (I : Inst z n C x dx m) (hv : lkv m name = some v) (hga : findIn K (.ref C) "__getattribute__" = some (some (.builtin "object.__getattribute__"))) (hD : hasDictIn K C = true) (hno : findIn K (.ref C) name = some none)
  (hh : handedIn v = true) (q : Q v z n) : attrE prog w K A (.ref x) name z n Q := fun E s hs => by
 refine oEEEAAAAA (I.at' hs) fun od es ep IA hod hd hk hn hf => ?_
 exact get_value hs.fragIn IA hga (findObj_own hD hno (by rw [lookIn_att hd hk hf, hv])) hh ⟨_, _, Step.toks hs _, q⟩
theorem meth_W {C x dx f : Addr} {m : List (Str × Value)} {name : Str} {Q : Value → List Value → Fz → Led → Prop} (I : Inst z n C x dx m) (hv : lkv m name = none) (hga : findIn K (.ref C) "__getattribute__" = some (some (.builtin "object.__getattribute__"))) (hk : findIn K (.ref C) "__getattr__" = some none)
  (hf : findIn K (.ref C) name = some (some (.ref f))) (ht : typeIn K (.ref f) = some (.type "function")) (q : Q (.ref f) [.ref x] z n) : methE prog w K A (.ref x) name z n Q := fun pl E s hs => by
 refine oEEEAAAAA (I.at' hs) fun od es ep IA hod hd hks hn hfd => ?_
 exact method_fn hs.fragIn IA hga hk hf ht (by show (lookIn name od).map (fun o => o.isSome) = _; rw [lookIn_att hd hks hfd, hv]; rfl) ⟨_, _, .refl hs, q⟩
theorem setattr_W {C x dx : Addr} {m : List (Str × Value)} {name : Str} {v : Value} {Q : Fz → Led → Prop} (hx : Hs z n x (.raw (instObj C dx))) (U : Up dx (.att m) (.att ((name, v) :: m)) n n') (hv : lkv m name = none) (hm : m.length ≤ 100)
  (hs' : findIn K (.ref C) "__setattr__" = some (some (.builtin "object.__setattr__"))) (hp : plainOver K C = true) (ht : takerIn K C name = some none) (hD : hasDictIn K C = true) (q : Q z n') : setAttrE prog w K A (.ref x) name v z n Q := fun E s hs => by
 have I : Inst z n C x dx m := ⟨hx, .inr U.mem⟩
 refine oEEEAAAAA (I.at' hs) fun od es ep IA hod hd hk hn hf => ?_
 refine set_plain hs.fragIn IA hs' ?_
 refine osa_open (s := { s with toks := s.toks + 1 }) hs.fragIn IA hp ht fun b => ?_
 unfold hasDictIn at hD
 refine oEA (any_some hD) fun cd hc hd' => ?_
 have hxo := IA.at_
 refine wpAny_bind (wpAny_pure (wpAny_bind (wpAny_bind (wpAny_loadPart hxo (wpAny_bind (Looks.here (s := { s with toks := s.toks + 1 }) (looks_clsIn hs.fragIn hc) ?_))))))
 rw [hd']
 refine wpAny_pure (a := some dx) (wpAny_bind (wpAny_pure (wpAny_bind ?_)))
 unfold nsSet
 refine wpAny_bind (wpAny_bind (wpAny_askSetting (wpAny_pure (wpAny_bind (wpAny_mkText (wpAny_bind (wpAny_loadPart hod ?_)))))))
 rw [hd]
 dsimp only
 have hany : es.any (·.refKey) = false := by
  rw [Array.any_eq_false']; intro e he; refine oEE (hk e he) fun n t h => ?_; simp [DictEntry.refKey, h]
 have c : (!es.any (·.key.isStr name) && es.any (·.refKey)) = false := by rw [hany]; simp
 rw [aRefKeyMayBeTheName_at, c]
 refine wpAny_updatePart hod ?_
 obtain ⟨oc, odi, odt, osl⟩ := od
 dsimp only at hd
 subst hd
 have hnf : es.findIdx? (fun e => e.key.isStr name) = none := by
  have h0 := hf name
  rw [hv] at h0
  unfold nsFind findBy at h0
  rw [Option.map_eq_none_iff, Array.find?_eq_none] at h0
  rw [Array.findIdx?_eq_none_iff]
  intro e he
  simpa using h0 e he
 have put : ∀ (hh : Int) (tk : Tok), (Obj.putName name hh (.str name tk) v ⟨oc, odi, .dict es ep, osl⟩) = ⟨oc, odi, .dict (es.push ⟨hh, .str name tk, v⟩) (ep + 1), osl⟩ := by
  intro hh tk
  rw [Obj.putName_eq]
  unfold Obj.putNameByArray
  dsimp only
  rw [hnf]
 have D' := Heap.get?_update_self (Obj.putName name (PyData.keyHash w.params name) (.str name (s.toks + 1)) v) hod (by rw [put]; rfl)
 rw [put] at D'
 refine wpAny_bind (wpAny_lookBehind D' (pastItsLine_dict (by rw [Array.size_push, sizeLine_eq]; exact Nat.le_trans (Nat.add_le_add (Nat.le_trans hn hm) (Nat.le_refl _)) (Nat.le_trans (Nat.le_of_ble_eq_true rfl) (Nat.le_add_right _ _)))) ?_)
 refine wpAny_pure ⟨z, n', ?_, q⟩
 refine Step.upd (tk := s.toks + 1 + 1) hs U (Heap.SameBut.update s.heap dx _) ⟨_, D', _, _, rfl, hk.push _ _ _ _, by rw [Array.size_push]; simp only [List.length_cons]; exact Nat.lt_of_le_of_lt hn (Nat.lt_add_of_pos_right (Nat.zero_lt_succ _)), fun y => ?_⟩
 unfold nsFind
 rw [findBy_push (fun n v => v.isStr n) es name y _ _ v (fun y => by
   show (name == y) = decide (y = name)
   by_cases h : y = name
   ·subst h; simp
   ·have : ¬ name = y := fun e => h e.symm
    simp [h, this]) hnf]
 show _ = if y = name then some v else lkv m y
 rw [← hf y]; rfl
theorem setattr_S {C x dx : Addr} {m : List (Str × Value)} {name : Str} {v : Value} {r : Led} {Q : Fz → Led → Prop} (hv : lkv m name = none) (hm : Nat.ble m.length 100 = true)
  (hs' : findIn K (.ref C) "__setattr__" = some (some (.builtin "object.__setattr__"))) (hp : plainOver K C = true) (ht : takerIn K C name = some none) (hD : hasDictIn K C = true) (q : Q z ((x, .raw (instObj C dx)) :: (dx, .att ((name, v) :: m)) :: r)) : setAttrE prog w K A (.ref x) name v z ((x, .raw (instObj C dx)) :: (dx, .att m) :: r) Q :=
 setattr_W (.inr (.head _)) (.tail .head) hv (Nat.le_of_ble_eq_true hm) hs' hp ht hD q
/-- an instance made: its two objects new, then its class's own __init__ -/
theorem make_W {C fI : Addr} {args : List Value} {Q : KV} (hR : Room A (k + 1)) (hm : makesIn K C = true) (hi : findIn K (.ref C) "__init__" = some (some (.ref fI))) (hf : typeIn K (.ref fI) = some (.type "function"))
  (h : ∀ x dx A', Room A' k → WCall prog w K A' (.ref fI) (.ref x :: args) z (insL [(x, .raw (instObj C dx)), (dx, .att [])] n) fun v z' n' => v = .none ∧ Q (.ref x) z' n') : WCall prog w K A (.ref C) args z n Q := fun s hs => by
 have X := hs.fragIn
 have st : Step prog w K z n s z (insL [(s.heap.objs.size + 1, .raw (instObj C s.heap.objs.size)), (s.heap.objs.size, .att [])] n) { s with heap := (s.heap.push emptyDict).push (instObj C s.heap.objs.size), toks := s.toks } := by
  have hsz : (s.heap.push emptyDict).objs.size = s.heap.objs.size + 1 := Heap.size_push ..
  refine Step.laid hs _ (fun a o e => Heap.get?_push_of_some _ (Heap.get?_push_of_some _ e)) (fun p hp => ?_) (fun a ha => ?_) ?_
  ·rcases List.mem_cons.mp hp with rfl | hp
   ·refine ⟨instObj C s.heap.objs.size, ?_, rfl⟩
    have := Heap.get?_push_size (s.heap.push emptyDict) (o := instObj C s.heap.objs.size) rfl
    rw [hsz] at this; exact this
   ·rcases List.mem_cons.mp hp with rfl | hp
    ·exact ⟨emptyDict, Heap.get?_push_of_some _ (Heap.get?_push_size _ rfl), #[], 0, rfl, fun e he => by simp at he, by simp, fun x => rfl⟩
    ·cases hp
  ·have : a = s.heap.objs.size + 1 ∨ a = s.heap.objs.size := by simpa [addrs] using ha
   cases e : s.heap.get? a with
   | none => rfl
   | some o =>
    have hlt := Heap.lt_size e
    rcases this with q | q
    ·rw [q] at hlt; exact absurd hlt (Nat.not_lt.mpr (Nat.le_succ _))
    ·rw [q] at hlt; exact absurd hlt (Nat.lt_irrefl _)
  ·simp [addrs]
 have hA' : Room (A.under (.builtin "type.__call__" ⟨.ref C :: args, []⟩)) k := by
  have hw : (Code.builtin "type.__call__" ⟨.ref C :: args, []⟩).weight ≤ 1 := by
   exact Nat.le_of_ble_eq_true (by kernel_rfl)
  have hu : (Code.builtin "type.__call__" ⟨.ref C :: args, []⟩).cUnits ≤ 3 := by
   exact Nat.le_of_ble_eq_true (by kernel_rfl)
  have hg : (Code.builtin "type.__call__" ⟨.ref C :: args, []⟩).guards = [] := by
   kernel_rfl
  refine ⟨hR.handled, ?_, ?_, ?_⟩
  ·show pushGuards (Code.builtin "type.__call__" ⟨.ref C :: args, []⟩).guards A.guards = _
   rw [hg, hR.guards]; rfl
  ·have := hR.depth
   show A.depth + (Code.builtin "type.__call__" ⟨.ref C :: args, []⟩).weight + k < _
   (first | lia | omega)
  ·have := hR.units
   show A.units + (Code.builtin "type.__call__" ⟨.ref C :: args, []⟩).cUnits + 4 * k + 200 < _
   (first | lia | omega)
 obtain ⟨hh, g, d, t, os⟩ := s
 refine make_core (makes_of X hm) (looks_findIn X hi) (fun self => bind_fn X self hf) (.inl rfl) ?_
 refine codeAny_mono (h _ _ _ hA' _ st.st) fun r s' hq => ?_
 refine oEEEAAA hq fun v z' n' e0_ st' e1_ q => ?_
 clear hq
 subst e0_
 subst e1_
 exact ⟨rfl, _, z', n', rfl, st.trans st' hs.ztb, q⟩
end
theorem valueAt_stored {X : Type} [DecidableEq X] (kvs : List (X × Value)) (k : X) (v : Value) (x : X) : valueAt (stored kvs k v) x = if x = k then some v else valueAt kvs x := by
 unfold valueAt stored
 by_cases hk : (kvs.any fun kv => decide (kv.1 = k)) = true
 ·rw [if_pos hk]
  induction kvs with
  | nil => simp at hk
  | cons p r ih =>
   obtain ⟨q, u⟩ := p
   simp only [List.map_cons, List.find?_cons]
   by_cases hq : q = k
   ·subst hq
    simp only [if_true]
    by_cases hx : x = q
    ·subst hx; simp
    ·have hx' : ¬ q = x := fun e => hx e.symm
     simp only [hx', decide_false, if_neg hx, Bool.false_eq_true]
     by_cases hr : (r.any fun kv => decide (kv.1 = q)) = true
     ·have := ih hr
      rw [if_neg hx] at this
      exact this
     ·have hm : r.map (fun kv => if kv.1 = q then (kv.1, v) else kv) = r := map_store_of_not_mem r q v (fun hm => hr (by
       rw [List.any_eq_true]
       refine oEA (List.mem_map.mp hm) fun p hp e => ?_
       exact ⟨p, hp, by simp [e]⟩))
      rw [hm]
   ·simp only [hq, if_false]
    have hr : (r.any fun kv => decide (kv.1 = k)) = true := by simpa [hq] using hk
    by_cases hx : q = x
    ·subst hx
     simp [hq]
    ·simp only [hx, decide_false, Bool.false_eq_true]
     exact ih hr
 ·rw [if_neg hk, List.find?_append]
  by_cases hx : x = k
  ·subst hx
   have : (kvs.find? fun kv => decide (kv.1 = x)) = none := by
    rw [List.find?_eq_none]
    intro p hp e
    exact hk (List.any_eq_true.mpr ⟨p, hp, e⟩)
   rw [this]; simp
  ·have hx' : ¬ k = x := fun e => hx e.symm
   simp [hx, hx']
section
variable {prog : Program} {w : World} {K : Frag} {A : Around} {z z' : Fz} {n n' : Led} {k : Nat}
/-- a dict of plain keys -/
noncomputable def DD {X : Type} [DecidableEq X] (knd : KeyKind prog w X) (f : X → Option Value) (n : Nat) (o : Obj) : Prop := o.ExactDict ∧ ∃ es ep kvs, o.data = .dict es ep ∧ KeysOf knd es ∧ Pairs knd es.toList kvs ∧ (kvs.map (·.1)).Nodup ∧ kvs.length ≤ n ∧ ∀ k, valueAt kvs k = f k
theorem DD.of {X : Type} [DecidableEq X] {knd : KeyKind prog w X} {f : X → Option Value} {m : Nat} {o : Obj} {h : Heap} {d : Addr} (x : DD knd f m o) (ho : h.get? d = some o) : ∃ kvs, h.DictOf knd d kvs ∧ kvs.length ≤ m ∧ ∀ k, valueAt kvs k = f k := by
 refine and_e x fun hc h_ => oEEEAAAAA h_ fun es ep kvs hd hk hp hn hl hf => ?_
 clear x
 exact ⟨kvs, ⟨o, es, ep, ho, hc, hd, hk, hp, hn⟩, hl, hf⟩
theorem DD.to {X : Type} [DecidableEq X] {knd : KeyKind prog w X} {f : X → Option Value} {m : Nat} {h : Heap} {d : Addr} {kvs : List (X × Value)} (x : h.DictOf knd d kvs) (hl : kvs.length ≤ m) (hf : ∀ k, valueAt kvs k = f k) : ∃ o, h.get? d = some o ∧ DD knd f m o := by
 refine oEEEAAAAA x fun o es ep ho hc hd hk hp hn => ?_
 clear x
 exact ⟨o, ho, hc, es, ep, kvs, hd, hk, hp, hn, hl, hf⟩
theorem DD.map {X : Type} [DecidableEq X] {knd : KeyKind prog w X} {f : X → Option Value} {m : Nat} {o : Obj} {h : Heap} {d : Addr} (x : DD knd f m o) (ho : h.get? d = some o) : h.MapOf knd d f := by
 refine oEAA (x.of ho) fun kvs hd u_ hf => ?_
 have := hd.mapOf
 rwa [show valueAt kvs = f from funext hf] at this
variable {X : Type} [DecidableEq X] (knd : KeyKind prog w X) {lo lo' : Lo} {f : X → Option Value} {m : Nat} {d : Addr} {x : X} {key : Value}
theorem inD (hlo : ∀ o, lo.Is prog w K o → DD knd f m o) (h : Hs z n d lo) (hd : (d == sysModules) = false) (hk : knd.is x key = true) {Q : KV} (q : Q (.bool (f x).isSome) z n) : W prog w K A (compareOp .In key (.ref d)) z n Q := fun E s hs => by
 refine oEA (h.at hs) fun o ho hi => ?_
 exact wpAny_in_of hk hd ((hlo o hi).map ho) ⟨_, _, Step.toks hs _, q⟩
theorem itemD (hlo : ∀ o, lo.Is prog w K o → DD knd f m o) (h : Hs z n d lo) (hk : knd.is x key = true) {v : Value} (hv : f x = some v) {Q : KV} (q : Q v z n) : itemE prog w K A (.ref d) key z n Q :=
 ⟨⟨"dict", "dict.__getitem__", fun s hs => by refine oEA (h.at hs) fun o ho hi => ?_; exact ((hlo o hi).map ho).typeIs, slot_dict_getitem.lookup⟩, fun E s hs => by
 refine oEA (h.at hs) fun o ho hi => ?_
 exact wpAny_getItem_of hk ((hlo o hi).map ho) hv ⟨_, _, Step.toks hs _, q⟩⟩
theorem get1D (hlo : ∀ o, lo.Is prog w K o → DD knd f m o) (h : Hs z n d lo) (hd : (d == sysModules) = false) (hk : knd.is x key = true) {Q : KV} (q : Q ((f x).getD .none) z n) : W prog w K A (call (.builtin "dict.get") [.ref d, key] []) z n Q := fun E s hs => by
 refine oEA (h.at hs) fun o ho hi => ?_
 have hm := (hlo o hi).map ho
 exact call_meetsIn F.slot_dict_get hm.typeIs F.entry_dict_get (F.args_dict_get_2 _ _) (meets_dict_get knd d hk hd) ⟨f, hm, _, _, Step.toks hs _, q⟩
theorem get2D (hlo : ∀ o, lo.Is prog w K o → DD knd f m o) (h : Hs z n d lo) (hd : (d == sysModules) = false) (hk : knd.is x key = true) {u : Value} {Q : KV} (q : Q ((f x).getD u) z n) : W prog w K A (call (.builtin "dict.get") [.ref d, key, u] []) z n Q := fun E s hs => by
 refine oEA (h.at hs) fun o ho hi => ?_
 have hm := (hlo o hi).map ho
 exact call_meetsIn F.slot_dict_get hm.typeIs F.entry_dict_get (F.args_dict_get_3 _ _ _) (meets_dict_get_default knd d hk hd u) ⟨f, hm, _, _, Step.toks hs _, q⟩
theorem methD (hlo : ∀ o, lo.Is prog w K o → o.ExactDict) (h : Hs z n d lo) {Q : Value → List Value → Fz → Led → Prop} (q : Q (.builtin "dict.get") [.ref d] z n) : methE prog w K A (.ref d) "get" z n Q := fun pl E s hs => by
 refine oEA (h.at hs) fun o ho hi => ?_
 refine oAA (hlo o hi) fun hc hdd u_ => ?_
 exact getMethod_builtin (T := "dict") ⟨o, ho, hc⟩ F.plainAttrs_dict F.slot_dict_get F.type_dict_get (fun a e => by cases e; exact ⟨o, ho, hdd⟩) ⟨_, _, .refl hs, q⟩
theorem setD (hlo : ∀ o, lo.Is prog w K o → DD knd f m o) (hlo' : ∀ o, DD knd (fun y => if y = x then some v else f y) (m + 1) o → lo'.Is prog w K o) (U : Up d lo lo' n n') (hm : m ≤ 1000) (hk : knd.is x key = true) {Q : Fz → Led → Prop} (q : Q z n') :
  setItemE prog w K A (.ref d) key v z n Q := fun E s hs => by
 refine oEA (hs.led _ U.mem) fun o ho hi => ?_
 refine oEAA ((hlo o hi).of ho) fun kvs hd hl hf => ?_
 refine wpAny_setItem_pairs hk hd (fun h' hd' sb => ?_) (by rw [sizeLine_eq]; exact Nat.le_trans (Nat.le_trans hl hm) (Nat.le_of_ble_eq_true rfl))
 refine oEA (DD.to (f := fun y => if y = x then some v else f y) (m := m + 1) hd' (Nat.le_trans (stored_length_le _ _ _) (by exact Nat.lt_of_le_of_lt hl (Nat.lt_add_of_pos_right (Nat.zero_lt_succ _)))) (fun y => by rw [valueAt_stored, hf])) fun o' ho' hi' => ?_
 exact ⟨z, n', Step.upd hs U sb ⟨o', ho', hlo' o' hi'⟩, q⟩
/-- a new dict -/
theorem newD {c : Cx} {m : M} {p : Pos} {Q : KV} (lo : Lo) (hlo : lo.Is prog w K emptyDict) (q : ∀ d, (d == sysModules) = false → Q (.ref d) z ((d, lo) :: n)) : VW prog w K A c (eval (.Dict [] [] p) c.env) m z n Q := VW.leaf fun E s hs => by
 refine wpAny_Dict_empty ⟨z, _, (Step.push hs hlo rfl).perm (ins_perm _ _), q _ ?_⟩
 refine oEEAA hs.from fun mg mb g u_ u_ => ?_
 have h3 : mainGlobals < s.heap.objs.size := g.lt
 refine beq_eq_false_iff_ne.mpr fun e => ?_
 rw [e] at h3
 exact absurd h3 (by decide)
theorem isS0 : Lo.Is prog w K (.dS (fun u_ => none) 0) emptyDict := ⟨⟨rfl, rfl, rfl⟩, #[], 0, [], rfl, fun u_ h => by simp at h, .nil, List.nodup_nil, Nat.le_refl _, fun u_ => rfl⟩
theorem isI0 : Lo.Is prog w K (.dI (fun u_ => none) 0) emptyDict := ⟨⟨rfl, rfl, rfl⟩, #[], 0, [], rfl, fun u_ h => by simp at h, .nil, List.nodup_nil, Nat.le_refl _, fun u_ => rfl⟩
theorem isT0 : Lo.Is prog w K (.dT []) emptyDict := ⟨⟨rfl, rfl, rfl⟩, #[], 0, rfl, rfl, List.nodup_nil⟩
theorem dsIs {f : Str → Option Value} {m : Nat} (o : Obj) (h : (Lo.dS f m).Is prog w K o) : DD (strKind prog w) f m o := h
theorem diIs {f : Int → Option Value} {m : Nat} (o : Obj) (h : (Lo.dI f m).Is prog w K o) : DD (intKind prog w) f m o := h
theorem strKey (y : Str) (t : Tok) : (strKind prog w).is y (.str y t) = true := by show Value.isStrOf y (.str y t) = true; simp [Value.isStrOf]
theorem intKey (y : Int) (t : Tok) : (intKind prog w).is y (.int y t) = true := by show Value.isInt y (.int y t) = true; simp [Value.isInt]
end
/-! tuples of ints as keys -/
noncomputable def KeysZ (z : Fz) (xs : List (List Int × Addr × Value)) : Prop := ∀ x ∈ xs, Vz z (.tuple (x.1.map .int)) (.ref x.2.1)
section
variable {prog : Program} {w : World} {K : Frag} {A : Around} {z z' : Fz} {n n' : Led} {k : Nat}
theorem KeysZ.mono {xs} (h : KeysZ z xs) (l : Le z z') : KeysZ z' xs := fun x hx => Vz.mono l _ _ (h x hx)
theorem itemsAre_of : ∀ {ks : List Int} {vs : List Value}, VzAll z (ks.map .int) vs → ItemsAre (intKind prog w) ks vs
 | [], vs, h => by
  cases (h : vs = []); exact .nil
 | i :: r, vs, h => by
  obtain ⟨v, r', rfl, ⟨t, rfl⟩, h2⟩ := h
  exact .cons (intKey i t) (itemsAre_of h2)
theorem keyIs {s : Shared} (hs : St prog w K z n s) {ks : List Int} {a : Addr} (h : Vz z (.tuple (ks.map .int)) (.ref a)) : (tupleKind (intKind prog w)).is s.heap ks a := by
 refine oEEAA h fun b vs e hz hv => ?_
 clear h
 cases e
 refine oEAA (hs.frz a _ hz) fun o ho hc h_ => Exists.elim h_ fun m hd => ?_
 exact ⟨o, vs.toArray, m, ho, hc, hd, by simpa using itemsAre_of hv⟩
/-- a table by tuples -/
noncomputable def Td (prog : Program) (w : World) (K : Frag) (z : Fz) (n : Led) (d : Addr) (xs : List (List Int × Addr × Value)) : Prop := Hs z n d (.dT xs) ∨ ∃ o, Hs z n d (.raw o) ∧ (Lo.dT xs).Is prog w K o
theorem Td.at' {d : Addr} {xs} (h : Td prog w K z n d xs) {s : Shared} (hs : St prog w K z n s) : At prog w K s.heap d (.dT xs) := by
 rcases h with h | ⟨o, h, hi⟩
 ·exact h.at hs
 ·exact ⟨o, raw_of (h.at hs), hi⟩
theorem Td.dict {d : Addr} {xs} (h : Td prog w K z n d xs) (hk : KeysZ z xs) {s : Shared} (hs : St prog w K z n s) : s.heap.DictOfH (tupleKind (intKind prog w)) d xs := by
 refine oEAA (h.at' hs) fun o ho hc h_ => oEEAA h_ fun es ep hd he hn => ?_
 exact ⟨o, es, ep, ho, hc, hd, he, fun x hx => keyIs hs (hk x hx), hn⟩
variable {d a : Addr} {xs : List (List Int × Addr × Value)} {ks : List Int}
theorem inT (hA : Room A 0) (h : Td prog w K z n d xs) (hk : KeysZ z xs) (hd : (d == sysModules) = false) (ha : Vz z (.tuple (ks.map .int)) (.ref a)) {Q : KV} (q : Q (.bool (atKey xs ks).isSome) z n) : W prog w K A (compareOp .In (.ref a) (.ref d)) z n Q := fun E s hs =>
 wpAny_in_heap (tupleKind_room_in1 (by have := hA.units; (first | lia | omega))) (keyIs hs ha) hd (h.dict hk hs) ⟨_, _, Step.toks hs _, q⟩
theorem nSeq {d : Addr} {xs} (h : Td prog w K z n d xs) {s : Shared} (hs : St prog w K z n s) : s.TypeIs (.ref d) "dict" := by
 refine oEAA (h.at' hs) fun o ho hc u_ => ?_
 exact ⟨o, ho, hc.1⟩
theorem itemT (hA : Room A 0) (h : Td prog w K z n d xs) (hk : KeysZ z xs) (ha : Vz z (.tuple (ks.map .int)) (.ref a)) {p : Addr × Value} (hp : atKey xs ks = some p) {Q : KV} (q : Q p.2 z n) : itemE prog w K A (.ref d) (.ref a) z n Q :=
 ⟨⟨"dict", "dict.__getitem__", fun s hs => nSeq h hs, slot_dict_getitem.lookup⟩, fun E s hs =>
  wpAny_getItem_heap (tupleKind_room_in1 (by have := hA.units; (first | lia | omega))) (keyIs hs ha) (h.dict hk hs) hp ⟨_, _, Step.toks hs _, q⟩⟩
theorem setT (hA : Room A 0) (U : Up d (.dT xs) (.dT (storedH xs ks a v)) n n') (hk : KeysZ z xs) (ha : Vz z (.tuple (ks.map .int)) (.ref a)) (hl : xs.length ≤ 1000) {Q : Fz → Led → Prop} (q : Q z n') : setItemE prog w K A (.ref d) (.ref a) v z n Q := fun E s hs => by
 have h : Td prog w K z n d xs := .inl (.inr U.mem)
 refine wpAny_setItem_heap (tupleKind_room_in1 (by have := hA.units; (first | lia | omega))) (keyIs hs ha) (h.dict hk hs) (fun h' hd' sb => ?_) (by rw [sizeLine_eq]; exact Nat.le_trans hl (Nat.le_of_ble_eq_true rfl))
 refine oEEEAAAAA hd' fun o es ep ho hc hd he u_ hn => ?_
 clear hd'
 exact ⟨z, n', Step.upd hs U sb ⟨o, ho, hc, es, ep, hd, he, hn⟩, q⟩
theorem W.freezeRaw {α : Type} {t : Sem α} {lo : Lo} {Q : α → Fz → Led → Prop} (h : ∀ o, z a = none → lo.Is prog w K o → W prog w K A t (fset z a (.raw o)) n Q) : W prog w K A t z ((a, lo) :: n) Q := fun E s hs => by
 refine oEA (hs.led _ (.head _)) fun o ho hi => ?_
 have hs2 : St prog w K z ((a, .raw o) :: n) s := ⟨hs.frz, fun p hp => by
  rcases List.mem_cons.mp hp with rfl | hp
  ·exact ⟨o, ho, rfl⟩
  ·exact hs.led p (.tail _ hp), hs.off, hs.nodup, hs.ztb, hs.ntb, hs.tab, hs.base⟩
 refine wpAny_mono ((W.freeze (fun hz => h o hz hi) : W prog w K A t z ((a, .raw o) :: n) Q) E s hs2) (fun v s' hq => ?_) fun u_ u_ e => e
 refine oEEA hq fun z' n' st q => ?_
 clear hq
 exact ⟨z', n', ⟨st.eq, st.keep, st.zle, st.zold, st.nold, st.st⟩, q⟩
end
section
variable {prog : Program} {w : World} {K : Frag} {A : Around} {z z' : Fz} {n n' : Led} {k : Nat}
theorem max2_W (hA : Room A k) {a b : Int} {t u : Tok} {Q : KV} (q : ∀ t, Q (.int (max a b) t) z n) : W prog w K A (call (.builtin "max") [.int a t, .int b u] []) z n Q := fun E s hs =>
 max_two_ints hA.handled fun h' tk hk => ⟨z, n, Step.old hs hk, by
  by_cases c : b > a
  ·rw [if_pos c, show b = max a b by (first | lia | omega)]; exact q _
  ·rw [if_neg c]; have e : a = max a b := by (first | lia | omega)
   rw [e]; exact (by simpa using q t)⟩
theorem min2_W (hA : Room A k) {a b : Int} {t u : Tok} {Q : KV} (q : ∀ t, Q (.int (min a b) t) z n) : W prog w K A (call (.builtin "min") [.int a t, .int b u] []) z n Q := fun E s hs =>
 min_two_ints hA.handled fun h' tk hk => ⟨z, n, Step.old hs hk, by
  by_cases c : b < a
  ·rw [if_pos c, show b = min a b by (first | lia | omega)]; exact q _
  ·rw [if_neg c]; have e : a = min a b := by (first | lia | omega)
   rw [e]; exact (by simpa using q t)⟩
theorem ints_of : ∀ {ns : List Int} {vs : List Value}, All2 (fun i v => Vz z (eI i) v) ns vs → IntsAre vs ns
 | [], [], _ => .nil
 | i :: r, v :: vs, h => by
  obtain ⟨h1, h2⟩ := (h : Vz z (eI i) v ∧ All2 _ r vs)
  obtain ⟨t, rfl⟩ := h1
  exact .cons i t (ints_of h2)
 | [], _ :: _, h => h.elim
 | _ :: _, [], h => h.elim
theorem maxL_W (hA : Room A k) {l : Addr} {vs : List Value} {ns : List Int} (hl : Hs z n l (.lst vs)) (hi : All2 (fun i v => Vz z (eI i) v) ns vs) (hne : 0 < ns.length) {Q : KV} (q : ∀ M t, M ∈ ns → (∀ a ∈ ns, a ≤ M) → Q (.int M t) z n) : W prog w K A (call (.builtin "max") [.ref l] []) z n Q := fun E s hs => by
 have hI := ints_of hi
 obtain ⟨xs, e⟩ := hI.allInts.items
 have hns : ns = xs.toList.map (·.1) := by rw [← hI.numsOf, ← nums_intItems, ← e]
 have hsz : 0 < xs.size := by
  have h3 := hne; rw [hns, List.length_map, Array.length_toList] at h3; exact h3
 have hL := hl.isList hs
 rw [e] at hL
 refine max_intList hA.handled hL hsz fun v h' tk hv hk => ?_
 obtain ⟨t, rfl⟩ := intItems_at hv
 obtain ⟨h1, h2⟩ := argBest_gt (numAt xs) (xs.size - 1)
 refine ⟨z, n, Step.old hs hk, q _ t ?_ fun a ha => ?_⟩
 ·rw [hns, numAt_eq]; exact getD_mem (by rw [List.length_map, Array.length_toList]; exact Nat.lt_of_le_of_lt h1 (Nat.sub_lt (Nat.zero_lt_of_lt hsz) (Nat.zero_lt_succ _)))
 ·rw [hns] at ha
  refine oEA (mem_getD ha) fun j hj e0_ => ?_
  subst e0_
  rw [List.length_map, Array.length_toList] at hj
  rw [← numAt_eq]; exact h2 j (by exact Nat.le_sub_one_of_lt hj)
theorem minL_W (hA : Room A k) {l : Addr} {vs : List Value} {ns : List Int} (hl : Hs z n l (.lst vs)) (hi : All2 (fun i v => Vz z (eI i) v) ns vs) (hne : 0 < ns.length) {Q : KV} (q : ∀ M t, M ∈ ns → (∀ a ∈ ns, M ≤ a) → Q (.int M t) z n) : W prog w K A (call (.builtin "min") [.ref l] []) z n Q := fun E s hs => by
 have hI := ints_of hi
 obtain ⟨xs, e⟩ := hI.allInts.items
 have hns : ns = xs.toList.map (·.1) := by rw [← hI.numsOf, ← nums_intItems, ← e]
 have hsz : 0 < xs.size := by
  have h3 := hne; rw [hns, List.length_map, Array.length_toList] at h3; exact h3
 have hL := hl.isList hs
 rw [e] at hL
 refine min_intList hA.handled hL hsz fun v h' tk hv hk => ?_
 obtain ⟨t, rfl⟩ := intItems_at hv
 obtain ⟨h1, h2⟩ := argBest_lt (numAt xs) (xs.size - 1)
 refine ⟨z, n, Step.old hs hk, q _ t ?_ fun a ha => ?_⟩
 ·rw [hns, numAt_eq]; exact getD_mem (by rw [List.length_map, Array.length_toList]; exact Nat.lt_of_le_of_lt h1 (Nat.sub_lt (Nat.zero_lt_of_lt hsz) (Nat.zero_lt_succ _)))
 ·rw [hns] at ha
  refine oEA (mem_getD ha) fun j hj e0_ => ?_
  subst e0_
  rw [List.length_map, Array.length_toList] at hj
  rw [← numAt_eq]; exact h2 j (by exact Nat.le_sub_one_of_lt hj)
theorem sumFits_small : ∀ {ns : List Int}, (∀ i ∈ ns, 0 ≤ i ∧ i ≤ 1000) → ns.length ≤ 1000 → PySem.SumFits ns := by
 intro ns h hl j hj
 have get : 0 ≤ ns.getD j 0 ∧ ns.getD j 0 ≤ 1000 := by
  rw [List.getD_eq_getElem?_getD, List.getElem?_eq_getElem hj]
  exact h _ (List.getElem_mem hj)
 have sm : ∀ (l : List Int), (∀ i ∈ l, 0 ≤ i ∧ i ≤ 1000) → 0 ≤ l.sum ∧ l.sum ≤ 1000 * l.length := by
  intro l
  induction l with
  | nil => intro _; simp
  | cons x r ih =>
   intro hx
   have := ih fun i hi => hx i (.tail _ hi)
   have := hx x (.head _)
   simp only [List.sum_cons, List.length_cons]
   (first | lia | omega)
 have := sm (ns.take (j + 1)) fun i hi => h i (List.mem_of_mem_take hi)
 have hlen : (ns.take (j + 1)).length ≤ 1000 := by rw [List.length_take]; exact Nat.le_trans (Nat.le_trans (Nat.min_le_right _ _) hl) (Nat.le_of_ble_eq_true rfl)
 unfold InLong
 (first | lia | omega)
theorem sumL_W (hA : Room A k) {l : Addr} {vs : List Value} {ns : List Int} (hl : Hs z n l (.lst vs)) (hi : All2 (fun i v => Vz z (eI i) v) ns vs) (h1 : ∀ i ∈ ns, 0 ≤ i ∧ i ≤ 1000) (h2 : ns.length ≤ 1000) {Q : KV} (q : ∀ t, Q (.int ns.sum t) z n) : W prog w K A (call (.builtin "sum") [.ref l] []) z n Q := fun E s hs => by
 have hI := ints_of hi
 obtain ⟨xs, e⟩ := hI.allInts.items
 have hns : ns = xs.toList.map (·.1) := by rw [← hI.numsOf, ← nums_intItems, ← e]
 have hL := hl.isList hs
 rw [e] at hL
 have hf := sumFits_small h1 h2
 have pre : ∀ j, preSum (numAt xs) j = (ns.take j).sum := fun j => by
  have hnum : numAt xs = fun i => ns.getD i 0 := by funext i; rw [numAt_eq, ← hns]
  rw [hnum]; exact preSum_getD ns j
 have hlen : ns.length = xs.size := by rw [hns, List.length_map, Array.length_toList]
 refine sum_intList hA.handled hL (fun j hj => ?_) fun h' tk t' hk => ⟨z, n, Step.old hs hk, ?_⟩
 ·have := hf j (by exact Nat.lt_of_lt_of_le hj (Nat.le_of_eq hlen.symm))
  rw [pre, numAt_eq, ← hns]
  exact this
 ·rw [pre, List.take_of_length_le (by exact Nat.le_of_eq hlen)]
  exact q _
theorem allL_W (hA : Room A k) {l : Addr} {vs : List Value} {bs : List Bool} (hl : Hs z n l (.lst vs)) (hi : All2 (fun b v => v = Value.bool b) bs vs) {Q : KV} (q : Q (.bool (bs.all id)) z n) : W prog w K A (call (.builtin "all") [.ref l] []) z n Q := fun E s hs => by
 have hL := hl.isList hs
 have hlt : l < s.heap.objs.size := by refine oEA hL fun u_ e u_ => ?_; clear hL; exact Heap.lt_size e
 refine call_all_walk (wpAny_pyIter_list hL ?_)
 refine ⟨s.heap.objs.size, [s.heap.objs.size, l], [s.heap.objs.size], vs.toArray.size, _, _, fun i => (bs[i]?).getD true, rfl, Walks.list (A := A.in1) hA.handled _ l (Nat.ne_of_lt hlt) vs.toArray,
  ⟨⟨_, Heap.get?_push_size _ rfl, rfl, rfl⟩, hL.push _⟩, fun i v s' Q' E' hP hQ => ?_, fun h' tk hk => ⟨z, n, Step.old hs ?_, ?_⟩⟩
 ·refine oEA (hi.at' (i := i) (v := v) (by simpa using hP)) fun b e e0_ => ?_
  subst e0_
  simp only [e, Option.getD_some] at hQ
  exact wpAny_truthy_bool hQ
 ·exact fun b x e => hk b x (fun hm => by rw [List.mem_singleton.mp hm] at e; exact Nat.lt_irrefl _ (Heap.lt_size e)) (Heap.get?_push_of_some _ e)
 ·have e : ((List.range vs.toArray.size).all fun i => (bs[i]?).getD true) = bs.all id := by
   rw [List.size_toArray, hi.len]
   have gen : ∀ (l : List Bool) (m : Nat), (List.range l.length).all (fun i => (l[i]?).getD true) = l.all id := by
    intro l _
    rw [Bool.eq_iff_iff, List.all_eq_true, List.all_eq_true]
    constructor
    ·intro h b hb
     obtain ⟨i, hi, e0_⟩ := List.mem_iff_getElem.mp hb
     subst e0_
     have := h i (List.mem_range.mpr hi)
     rw [List.getElem?_eq_getElem hi] at this
     exact this
    ·intro h i hi
     have hi' := List.mem_range.mp hi
     rw [List.getElem?_eq_getElem hi']
     exact h _ (List.getElem_mem hi')
   exact gen bs 0
  rw [e]; exact q
theorem list_W {a : Addr} {vs : List Value} (h : Hs z n a (.lst vs) ∨ Hs z n a (.tup vs)) (hl : vs.length ≤ 1000000) {Q : KV} (q : newL vs z n Q) : W prog w K A (call (.type "list") [.ref a] []) z n Q := fun E s hs => by
 have key : ∃ T o m, (T = "list" ∨ T = "tuple") ∧ s.heap.get? a = some o ∧ o.cls = .type T ∧ o.data = .seq vs.toArray m := by
  rcases h with h | h
  ·refine oEAA (h.at hs) fun o ho hc h_ => oAA h_ fun u_ u_ h_ => Exists.elim h_ fun m hd => ?_; exact ⟨_, o, m, .inl rfl, ho, hc, hd⟩
  ·refine oEAA (h.at hs) fun o ho hc h_ => Exists.elim h_ fun m hd => ?_; exact ⟨_, o, m, .inr rfl, ho, hc, hd⟩
 refine oEEEAAA key fun T o m hT ho hc hd => ?_
 clear key
 refine call_list_seq a hT ho hc hd (fun h' c' hk hnew => ?_) (by rw [List.size_toArray, sizeLine_eq]; exact Nat.le_trans hl (Nat.le_of_ble_eq_true rfl))
 have st : Step prog w K z n s z (insL [(s.heap.objs.size, .lst vs)] n) { s with heap := h', toks := s.toks } := Step.laid hs [(s.heap.objs.size, .lst vs)] hk (fun p hp => by
  rw [List.mem_singleton.mp hp]
  exact ⟨_, hnew, rfl, rfl, rfl, _, rfl⟩) (fun b hb => by
  have e : b = s.heap.objs.size := by simpa [addrs] using hb
  rw [e]; exact get_size_none _) (by simp [addrs])
 rcases q with q | q
 ·exact ⟨_, _, st, q _⟩
 ·exact ⟨_, _, Step.freeze st, q _ hs.fresh⟩
theorem tupleT_W {a : Addr} {vs : List Value} (h : Hs z n a (.tup vs)) {Q : KV} (q : Q (.ref a) z n) : W prog w K A (call (.type "tuple") [.ref a] []) z n Q := fun E s hs =>
 call_tuple_same (h.isTuple hs) ⟨_, _, .refl hs, q⟩
theorem tupleL_W {a : Addr} {vs : List Value} (h : Hs z n a (.lst vs)) (hl : vs.length ≤ 1000000) {Q : KV} (q : ∀ t, z t = none → Q (.ref t) (fset z t (.tup vs)) n) : W prog w K A (call (.type "tuple") [.ref a] []) z n Q := fun E s hs => by
 refine call_tuple_list (h.isList hs) (fun h' hk => ?_) (by rw [List.size_toArray, sizeLine_eq]; exact Nat.le_trans hl (Nat.le_of_ble_eq_true rfl))
 have st1 : Step prog w K z n s z n { s with heap := h', toks := s.toks } := Step.old hs hk
 have st2 := Step.newF (tk := s.toks) st1.st (o := { cls := .type "tuple", data := .seq vs.toArray }) (lo := .tup vs) ⟨rfl, 0, rfl⟩ rfl
 exact ⟨_, _, st1.trans st2 hs.ztb, q _ st1.st.fresh⟩
theorem int_W {i : Int} {t : Tok} {Q : KV} (q : Q (.int i t) z n) : W prog w K A (call (.type "int") [.int i t] []) z n Q := fun E s hs => call_int_int ⟨_, _, .refl hs, q⟩
theorem cat_W {a b : Addr} {vs ws : List Value} (ha : Hs z n a (.lst vs)) (hb : Hs z n b (.lst ws)) (hl : vs.length + ws.length ≤ 1000000) {Q : KV} (q : newL (vs ++ ws) z n Q) : W prog w K A (binaryOp .Add (.ref a) (.ref b)) z n Q := fun E s hs => by
 obtain ⟨m, ho⟩ := ha.obj hs
 obtain ⟨m2, ho2⟩ := hb.obj hs
 refine concat_meets ⟨_, ho, rfl⟩ ⟨_, ho2, rfl⟩ noFill_list_add seq_list_add PySem.F.slot_list_add PySem.F.entry_list_add (PySem.F.args_list_add_2 _ _) (AutoSeq1.list___add___list_list_0 a vs.toArray m b ws.toArray m2 (by rw [List.size_toArray, List.size_toArray, sizeLine_eq]; exact Nat.le_trans hl (Nat.le_of_ble_eq_true rfl))) ⟨ho, ho2, ?_⟩
 have := q.out (tk := s.toks) hs
 simpa using this
/-! slices in words of lists -/
theorem pick_cut (vs : List Value) (a b : Nat) : (slicePick vs.toArray (some (a : Int)) (some (b : Int)) none).toList = (vs.drop a).take (b - a) := by
 rw [slicePick_plain]
 simp only [Option.elim, clipAt_nat, List.size_toArray]
 rcases Nat.le_total a vs.length with h | h
 ·rw [Nat.min_eq_left h]
  rcases Nat.le_total b vs.length with g | g
  ·rw [Nat.min_eq_left g]
  ·rw [Nat.min_eq_right g, List.take_of_length_le (by simp), List.take_of_length_le (by simp; (first | lia | omega))]
 ·rw [Nat.min_eq_right h, List.drop_of_length_le (by simp), List.drop_of_length_le (by simpa using h)]
  simp
theorem pick_from' (vs : List Value) (a : Nat) : (slicePick vs.toArray (some (a : Int)) none none).toList = vs.drop a := by rw [slicePick_from']
theorem pick_upto' (vs : List Value) (b : Nat) : (slicePick vs.toArray none (some (b : Int)) none).toList = vs.take b := by rw [slicePick_upto']
theorem pick_rev (vs : List Value) : (slicePick vs.toArray none none (some (-1))).toList = vs.reverse := by rw [krv_pick]
end
theorem str_inj {a b : String} : (Str.ofString a = Str.ofString b) ↔ a = b := by
 constructor
 ·intro h
  rw [Str.ofString_eq_toList, Str.ofString_eq_toList] at h
  injection h with h
  have h' : a.toList.map Char.toNat = b.toList.map Char.toNat := by simpa using h
  have inj : ∀ (x y : List Char), x.map Char.toNat = y.map Char.toNat → x = y := by
   intro x
   induction x with
   | nil => intro y e; cases y with
    | nil => rfl
    | cons => simp at e
   | cons c r ih => intro y e; cases y with
    | nil => simp at e
    | cons d t =>
     simp only [List.map_cons, List.cons.injEq] at e
     have : c = d := Char.toNat_inj.mp e.1
     rw [this, ih _ e.2]
  exact String.toList_inj.mp (inj _ _ h')
 ·intro h; rw [h]
theorem vzI {z : Fz} {i : Int} {v : Value} : Vz z (eI i) v ↔ ∃ t, v = .int i t := Iff.rfl
theorem vzL {α : Type} {e : α → PyData} {z : Fz} {xs : List α} {v : Value} : Vz z (eL e xs) v ↔ ∃ a vs, v = .ref a ∧ z a = some (.lst vs) ∧ All2 (fun x v => Vz z (e x) v) xs vs := by
 constructor
 ·rintro ⟨a, vs, h1, h2, h3⟩; exact ⟨a, vs, h1, h2, All2.map.mp (vzAll_iff.mp h3)⟩
 ·rintro ⟨a, vs, h1, h2, h3⟩; exact ⟨a, vs, h1, h2, vzAll_iff.mpr (All2.map.mpr h3)⟩
@[elab_as_elim] theorem Vz.tupE {z : Fz} {ds : List PyData} {P : Value → Prop} (k : ∀ a vs, z a = some (.tup vs) → VzAll z ds vs → P (.ref a)) {v : Value} (h : Vz z (.tuple ds) v) : P v := by
 refine oEEAA h fun a vs e0_ h1 h2 => ?_
 clear h
 subst e0_
 exact k a vs h1 h2
@[elab_as_elim] theorem VzAll.consE {z : Fz} {d : PyData} {ds : List PyData} {P : List Value → Prop} (k : ∀ u r, Vz z d u → VzAll z ds r → P (u :: r)) {vs : List Value} (h : VzAll z (d :: ds) vs) : P vs := by
 refine oEEAA h fun u r e0_ h1 h2 => ?_
 clear h
 subst e0_
 exact k u r h1 h2
@[elab_as_elim] theorem VzAll.nilE {z : Fz} {P : List Value → Prop} (k : P []) {vs : List Value} (h : VzAll z [] vs) : P vs := by
 subst h
 exact k
@[elab_as_elim] theorem Vz.intE {z : Fz} {i : Int} {P : Value → Prop} (k : ∀ t, P (.int i t)) {v : Value} (h : Vz z (.int i) v) : P v := by
 obtain ⟨t, rfl⟩ := h
 exact k t
theorem Vz.tupI {z : Fz} {ds : List PyData} {a : Addr} {vs : List Value} (h1 : z a = some (.tup vs)) (h2 : VzAll z ds vs) : Vz z (.tuple ds) (.ref a) := by
 exact ⟨a, vs, rfl, h1, h2⟩
theorem VzAll.consI {z : Fz} {d : PyData} {ds : List PyData} {u : Value} {r : List Value} (h1 : Vz z d u) (h2 : VzAll z ds r) : VzAll z (d :: ds) (u :: r) := by
 exact ⟨u, r, rfl, h1, h2⟩
theorem VzAll.nilI {z : Fz} : VzAll z [] [] := rfl
theorem Vz.intI {z : Fz} {i : Int} {t : Tok} : Vz z (.int i) (.int i t) := ⟨t, rfl⟩
theorem Vz.boolI {z : Fz} {b : Bool} : Vz z (.bool b) (.bool b) := rfl
@[elab_as_elim] theorem vzP_N {α β : Type} {e : α → PyData} {f : β → PyData} {z : Fz} {p : α × β} {P : Value → Prop} (k : ∀ a u1 u2, z a = some (.tup [u1, u2]) → Vz z (e p.1) u1 → Vz z (f p.2) u2 → P (.ref a)) {v : Value} (h : Vz z (eP e f p) v) : P v :=
 Vz.tupE (fun a vs h1 hv => by
  revert h1
  exact VzAll.consE (fun u1 r e1 hv => VzAll.consE (fun u2 r e2 hv => VzAll.nilE (fun h1 => k a u1 u2 h1 e1 e2) hv) hv) hv) h
theorem vzP {α β : Type} {e : α → PyData} {f : β → PyData} {z : Fz} {p : α × β} {v : Value} : Vz z (eP e f p) v ↔ ∃ a u1 u2, v = .ref a ∧ z a = some (.tup [u1, u2]) ∧ Vz z (e p.1) u1 ∧ Vz z (f p.2) u2 := by
 constructor
 ·exact fun h => vzP_N (fun a u1 u2 h1 h2 h3 => ⟨a, u1, u2, rfl, h1, h2, h3⟩) h
 ·rintro ⟨a, u1, u2, rfl, h2, h3, h4⟩; exact Vz.tupI h2 (.consI h3 (.consI h4 .nilI))
/-- three in a tuple -/
noncomputable def eT {α β γ : Type} (e : α → PyData) (f : β → PyData) (g : γ → PyData) (p : α × β × γ) : PyData := .tuple [e p.1, f p.2.1, g p.2.2]
@[elab_as_elim] theorem vzT_N {α β γ : Type} {e : α → PyData} {f : β → PyData} {g : γ → PyData} {z : Fz} {p : α × β × γ} {P : Value → Prop} (k : ∀ a u1 u2 u3, z a = some (.tup [u1, u2, u3]) → Vz z (e p.1) u1 → Vz z (f p.2.1) u2 → Vz z (g p.2.2) u3 → P (.ref a)) {v : Value} (h : Vz z (eT e f g p) v) : P v :=
 Vz.tupE (fun a vs h1 hv => by
  revert h1
  exact VzAll.consE (fun u1 r e1 hv => VzAll.consE (fun u2 r e2 hv => VzAll.consE (fun u3 r e3 hv => VzAll.nilE (fun h1 => k a u1 u2 u3 h1 e1 e2 e3) hv) hv) hv) hv) h
theorem vzT {α β γ : Type} {e : α → PyData} {f : β → PyData} {g : γ → PyData} {z : Fz} {p : α × β × γ} {v : Value} : Vz z (eT e f g p) v ↔ ∃ a u1 u2 u3, v = .ref a ∧ z a = some (.tup [u1, u2, u3]) ∧ Vz z (e p.1) u1 ∧ Vz z (f p.2.1) u2 ∧ Vz z (g p.2.2) u3 := by
 constructor
 ·exact fun h => vzT_N (fun a u1 u2 u3 h1 h2 h3 h4 => ⟨a, u1, u2, u3, rfl, h1, h2, h3, h4⟩) h
 ·rintro ⟨a, u1, u2, u3, rfl, h2, h3, h4, h5⟩; exact Vz.tupI h2 (.consI h3 (.consI h4 (.consI h5 .nilI)))
/-- an element of the table: three weights, not variable -/
abbrev El := Int × Int × Int
noncomputable def eE (x : El) : PyData := .tuple [.int x.1, .int x.2.1, .int x.2.2, .bool false]
@[elab_as_elim] theorem vzE_N {z : Fz} {x : El} {P : Value → Prop} (k : ∀ a t1 t2 t3, z a = some (.tup [.int x.1 t1, .int x.2.1 t2, .int x.2.2 t3, .bool false]) → P (.ref a)) {v : Value} (h : Vz z (eE x) v) : P v :=
 Vz.tupE (fun a vs h1 hv => by
  revert h1
  exact VzAll.consE (fun u1 r e1 hv => Vz.intE (fun t1 => VzAll.consE (fun u2 r e2 hv => Vz.intE (fun t2 => VzAll.consE (fun u3 r e3 hv => Vz.intE (fun t3 => VzAll.consE (fun u4 r e4 hv => VzAll.nilE (by cases (e4 : u4 = _); exact fun h1 => k a t1 t2 t3 h1) hv) hv) e3) hv) e2) hv) e1) hv) h
theorem vzE {z : Fz} {x : El} {v : Value} : Vz z (eE x) v ↔ ∃ a t1 t2 t3, v = .ref a ∧ z a = some (.tup [.int x.1 t1, .int x.2.1 t2, .int x.2.2 t3, .bool false]) := by
 constructor
 ·exact fun h => vzE_N (fun a t1 t2 t3 h1 => ⟨a, t1, t2, t3, rfl, h1⟩) h
 ·rintro ⟨a, t1, t2, t3, rfl, h2⟩; exact Vz.tupI h2 (.consI .intI (.consI .intI (.consI .intI (.consI .boolI .nilI))))
/-- a weight: four numbers -/
abbrev Wt := Int × Int × Int × Int
noncomputable def eW (x : Wt) : PyData := .tuple [.int x.1, .int x.2.1, .int x.2.2.1, .int x.2.2.2]
@[elab_as_elim] theorem vzW_N {z : Fz} {x : Wt} {P : Value → Prop} (k : ∀ a t1 t2 t3 t4, z a = some (.tup [.int x.1 t1, .int x.2.1 t2, .int x.2.2.1 t3, .int x.2.2.2 t4]) → P (.ref a)) {v : Value} (h : Vz z (eW x) v) : P v :=
 Vz.tupE (fun a vs h1 hv => by
  revert h1
  exact VzAll.consE (fun u1 r e1 hv => Vz.intE (fun t1 => VzAll.consE (fun u2 r e2 hv => Vz.intE (fun t2 => VzAll.consE (fun u3 r e3 hv => Vz.intE (fun t3 => VzAll.consE (fun u4 r e4 hv => Vz.intE (fun t4 => VzAll.nilE (fun h1 => k a t1 t2 t3 t4 h1) hv) e4) hv) e3) hv) e2) hv) e1) hv) h
theorem vzW {z : Fz} {x : Wt} {v : Value} : Vz z (eW x) v ↔ ∃ a t1 t2 t3 t4, v = .ref a ∧ z a = some (.tup [.int x.1 t1, .int x.2.1 t2, .int x.2.2.1 t3, .int x.2.2.2 t4]) := by
 constructor
 ·exact fun h => vzW_N (fun a t1 t2 t3 t4 h1 => ⟨a, t1, t2, t3, t4, rfl, h1⟩) h
 ·rintro ⟨a, t1, t2, t3, t4, rfl, h2⟩; exact Vz.tupI h2 (.consI .intI (.consI .intI (.consI .intI (.consI .intI .nilI))))
/-! taken apart with one motive, and made -/
theorem vzI_use {z : Fz} {i : Int} {motive : (v : Value) → Vz z (eI i) v → Prop} (k : ∀ t h, motive (.int i t) h) {v : Value} (h : Vz z (eI i) v) : motive v h := by
 obtain ⟨t, rfl⟩ := vzI.mp h
 exact k t h
theorem vzI_mk {z : Fz} {i : Int} {t : Tok} : Vz z (eI i) (.int i t) := vzI.mpr ⟨t, rfl⟩
theorem vzL_use {α : Type} {e : α → PyData} {z : Fz} {xs : List α} {motive : (v : Value) → Vz z (eL e xs) v → Prop}
  (k : ∀ a vs, z a = some (.lst vs) → All2 (fun x v => Vz z (e x) v) xs vs → ∀ h, motive (.ref a) h) {v : Value} (h : Vz z (eL e xs) v) : motive v h := by
 refine oEEAA (vzL.mp h) fun a vs e0_ h1 h2 => ?_
 subst e0_
 exact k a vs h1 h2 h
theorem vzL_mk {α : Type} {e : α → PyData} {z : Fz} {xs : List α} {a : Addr} {vs : List Value} (h1 : z a = some (.lst vs)) (h2 : All2 (fun x v => Vz z (e x) v) xs vs) : Vz z (eL e xs) (.ref a) := vzL.mpr ⟨a, vs, rfl, h1, h2⟩
theorem vzP_use {α β : Type} {e : α → PyData} {f : β → PyData} {z : Fz} {p : α × β} {motive : (v : Value) → Vz z (eP e f p) v → Prop}
  (k : ∀ a u1 u2, z a = some (.tup [u1, u2]) → Vz z (e p.1) u1 → Vz z (f p.2) u2 → ∀ h, motive (.ref a) h) {v : Value} (h : Vz z (eP e f p) v) : motive v h := by
 refine oEEEAAA (vzP.mp h) fun a u1 u2 e0_ h1 h2 h3 => ?_
 subst e0_
 exact k a u1 u2 h1 h2 h3 h
theorem vzP_mk {α β : Type} {e : α → PyData} {f : β → PyData} {z : Fz} {p : α × β} {a : Addr} {u1 u2 : Value} (h1 : z a = some (.tup [u1, u2])) (h2 : Vz z (e p.1) u1) (h3 : Vz z (f p.2) u2) : Vz z (eP e f p) (.ref a) := vzP.mpr ⟨a, u1, u2, rfl, h1, h2, h3⟩
theorem vzT_use {α β γ : Type} {e : α → PyData} {f : β → PyData} {g : γ → PyData} {z : Fz} {p : α × β × γ} {motive : (v : Value) → Vz z (eT e f g p) v → Prop}
  (k : ∀ a u1 u2 u3, z a = some (.tup [u1, u2, u3]) → Vz z (e p.1) u1 → Vz z (f p.2.1) u2 → Vz z (g p.2.2) u3 → ∀ h, motive (.ref a) h) {v : Value} (h : Vz z (eT e f g p) v) : motive v h := by
 refine Exists.elim (vzT.mp h) fun a h_ => oEEEAAAA h_ fun u1 u2 u3 e0_ h1 h2 h3 h4 => ?_
 subst e0_
 exact k a u1 u2 u3 h1 h2 h3 h4 h
theorem vzT_mk {α β γ : Type} {e : α → PyData} {f : β → PyData} {g : γ → PyData} {z : Fz} {p : α × β × γ} {a : Addr} {u1 u2 u3 : Value} (h1 : z a = some (.tup [u1, u2, u3])) (h2 : Vz z (e p.1) u1) (h3 : Vz z (f p.2.1) u2) (h4 : Vz z (g p.2.2) u3) : Vz z (eT e f g p) (.ref a) := vzT.mpr ⟨a, u1, u2, u3, rfl, h1, h2, h3, h4⟩
theorem vzE_use {z : Fz} {x : El} {motive : (v : Value) → Vz z (eE x) v → Prop} (k : ∀ a t1 t2 t3, z a = some (.tup [.int x.1 t1, .int x.2.1 t2, .int x.2.2 t3, .bool false]) → ∀ h, motive (.ref a) h) {v : Value} (h : Vz z (eE x) v) : motive v h := by
 refine oEEE (vzE.mp h) fun a t1 t2 h_ => oEA h_ fun t3 e0_ h1 => ?_
 subst e0_
 exact k a t1 t2 t3 h1 h
theorem vzE_mk {z : Fz} {x : El} {a : Addr} {t1 t2 t3 : Tok} (h1 : z a = some (.tup [.int x.1 t1, .int x.2.1 t2, .int x.2.2 t3, .bool false])) : Vz z (eE x) (.ref a) := vzE.mpr ⟨a, t1, t2, t3, rfl, h1⟩
theorem All2.vmono {α : Type} {e : α → PyData} {z z' : Fz} {xs : List α} {vs : List Value} (h : All2 (fun x v => Vz z (e x) v) xs vs) (l : Le z z') : All2 (fun x v => Vz z' (e x) v) xs vs := h.mono fun u_ u_ r => Vz.mono l _ _ r
theorem Vz.up {z z' : Fz} {d : PyData} {v : Value} (h : Vz z d v) (l : Le z z') : Vz z' d v := Vz.mono l _ _ h
section
variable {prog : Program} {w : World} {K : Frag} {A : Around} {z z' : Fz} {n n' : Led} {k : Nat}
theorem inTup_W {ds : List PyData} {d : PyData} {c u : Value} (hA : Room A 0) (hc : Vz z (.tuple ds) c) (hu : Vz z d u) (h1 : PyData.canLayAll0 ds = true) (h2 : d.canLay0 = true) (h3 : d.depth < 100) {Q : KV} (q : Q (.bool (ds.any fun y => PyData.eqv y d)) z n) : W prog w K A (compareOp .In u c) z n Q := fun E s hs => by
 obtain ⟨as, ra⟩ := Vz.reads hs _ _ hc
 obtain ⟨bs, rb⟩ := Vz.reads hs _ _ hu
 exact in_tuple_reads ra rb h1 h2 (by have := hA.units; (first | lia | omega)) ⟨_, _, .refl hs, q⟩
theorem eqStr_W {x y : Str} {t u : Tok} (hA : Room A 0) (h1 : PyData.strOk x = true) (h2 : PyData.strOk y = true) {Q : KV} (q : Q (.bool (x == y)) z n) : W prog w K A (compareOp .Eq (.str x t) (.str y u)) z n Q := fun E s hs =>
 compareEq_reads (.str x t) (.str y u) (by rw [PyData.canLay0]; exact h1) (by rw [PyData.canLay0]; exact h2) (by have := hA.units; simp only [PyData.depth]; (first | lia | omega)) ⟨_, _, .refl hs, by rw [PyData.eqv]; exact q⟩
theorem neStr_W {x y : Str} {t u : Tok} (hA : Room A 0) (h1 : PyData.strOk x = true) (h2 : PyData.strOk y = true) {Q : KV} (q : Q (.bool (!(x == y))) z n) : W prog w K A (compareOp .NotEq (.str x t) (.str y u)) z n Q := fun E s hs =>
 compareNe_reads (.str x t) (.str y u) (by rw [PyData.canLay0]; exact h1) (by rw [PyData.canLay0]; exact h2) (by have := hA.units; simp only [PyData.depth]; (first | lia | omega)) ⟨_, _, .refl hs, by rw [PyData.eqv]; exact q⟩
theorem str_beq {a b : String} : (Str.ofString a == Str.ofString b) = (a == b) := by
 by_cases h : a = b
 ·subst h; simp
 ·have : Str.ofString a ≠ Str.ofString b := fun e => h (str_inj.mp e)
  rw [beq_eq_false_iff_ne.mpr this, beq_eq_false_iff_ne.mpr h]
end
section
variable {prog : Program} {w : World} {K : Frag} {A : Around} {z z' : Fz} {n n' : Led} {k : Nat} {E : Value → Shared → Prop} {s : Shared}
theorem adjust_upto (b n : Nat) (hb : b ≤ n) : Builtin.Slice.sliceAdjust none (some (b : Int)) 1 (n : Int) = (0, (b : Int)) := by
 unfold Builtin.Slice.sliceAdjust
 have h1 : ¬ ((1 : Int) < 0) := by (first | lia | omega)
 have h2 : ¬ ((b : Int) < 0) := by (first | lia | omega)
 simp only [h1, h2, if_false]
 congr 1
 (first | lia | omega)
theorem places_upto (b : Nat) : Builtin.Slice.slicePlaces 0 (b : Int) 1 = b := by
 unfold Builtin.Slice.slicePlaces
 have h1 : (1 : Int) > 0 := by exact Int.natCast_nonneg _
 simp only [h1, if_true, Int.ediv_one]
 split <;> (first | lia | omega)
theorem applied_upto {sl : Addr} {b n : Nat} {u : Tok} {Q : Int × Int × Nat → Shared → Prop} (hs : s.heap.IsSliceOf sl .none (.int b u) .none) (hb : b ≤ n) (h : Q (0, 1, b) s) :
  wpAny (model prog w) A (Builtin.Slice.sliceApplied (.ref sl) (pure (n : Int))) Q E s := by
 refine oEAA (id hs) fun os hos hcs hds => ?_
 unfold Builtin.Slice.sliceApplied Builtin.Slice.sliceFields
 refine wpAny_bind (wpAny_bind (wpAny_field hos hds (x := .none) rfl (wpAny_bind (wpAny_field hos hds (x := .int b u) rfl (wpAny_bind (wpAny_field hos hds (x := .none) rfl (wpAny_pure ?_)))))))
 refine wpAny_bind (slicePart_none ?_)
 show wpAny _ _ (if ((1 : Int) == 0) = true then _ else _) _ _ s
 rw [if_neg (by decide)]
 refine wpAny_bind (slicePart_none (wpAny_bind (slicePart_int (wpAny_bind (wpAny_pure ?_)))))
 show wpAny _ _ (match Builtin.Slice.sliceAdjust none (some (b : Int)) 1 (n : Int) with | (lo, hi) => pure (lo, (1 : Int), Builtin.Slice.slicePlaces lo hi 1)) _ _ s
 rw [adjust_upto b n hb]
 show wpAny _ _ (pure ((0 : Int), (1 : Int), Builtin.Slice.slicePlaces 0 (b : Int) 1)) _ _ s
 rw [places_upto b]
 exact wpAny_pure h
theorem pick_first (xs : Array Value) (b : Nat) (hb : b ≤ xs.size) : ((List.range b).filterMap fun (k : Nat) => xs[((0 : Int) + (k : Int) * 1).toNat]?).toArray = (xs.toList.take b).toArray := by
 have e : (fun (k : Nat) => xs[((0 : Int) + (k : Int) * 1).toNat]?) = fun k => xs[0 + k]? := by
  funext k
  have : ((0 : Int) + (k : Int) * 1).toNat = 0 + k := by exact Nat.zero_add _
  rw [this]
 rw [e]
 have := pick_run xs 0 b
 rw [List.filterMap_map] at this
 have e2 : ((fun x => xs[x]?) ∘ fun x => 0 + x) = fun k => xs[0 + k]? := rfl
 rw [e2] at this
 rw [this, List.drop_zero]
theorem item_tup_upto {t sl : Addr} {items : Array Value} {b : Nat} {u : Tok} {Q : Value → Shared → Prop} (ht : IsTup s.heap t items) (hs : s.heap.IsSliceOf sl .none (.int b u) .none) (hb : b < items.size) (hsz : items.size ≤ 1000)
  (h : Q (.ref s.heap.objs.size) { s with heap := s.heap.push { cls := .type "tuple", data := .seq (items.toList.take b).toArray } }) : wpAny (model prog w) A (getItem (.ref t) (.ref sl)) Q E s := by
 have htake : sizeOk (.seq (items.toList.take b).toArray) := by
  show (items.toList.take b).toArray.size ≤ sizeLine
  rw [List.size_toArray, List.length_take, Array.length_toList, sizeLine_eq]
  exact Nat.le_trans (Nat.le_trans (Nat.min_le_right _ _) hsz) (Nat.le_of_ble_eq_true rfl)
 refine oEAA (id hs) fun os hos hcs hds => ?_
 have hTs : s.TypeIs (.ref sl) "slice" := ⟨os, hos, hcs⟩
 unfold getItem
 try with_reducible refine wpAny_holding ?_
 first | refine wpAny_bind (wpAny_pure ?_) | skip
 refine wpAny_bind (wpAny_sequenceKey ht.typeIs (by decide) ?_)
 refine wpAny_bind (wpAny_callSpecial?_slot (name := Str.ofString "__getitem__") ht.typeIs slot_tuple_getitem
  (wpAny_call_entry slot_tuple_getitem ht.typeIs entry_tuple_getitem ?_ (args_tuple_getitem _ _)))
 show wpAny _ _ (Builtin.Tuple.tupleItemsOf (.ref t) >>= _) _ _ s
 refine wpAny_bind (tupleItemsOf_ ht ?_)
 refine wpAny_bind (wpAny_typeOf hTs ?_)
 rw [if_pos (by decide)]
 refine wpAny_bind (applied_upto hs (Nat.le_of_lt hb) ?_)
 have hno : ¬ (((0 : Int) == 0 && (1 : Int) == 1 && b == items.size) = true) := by
  have : (b == items.size) = false := by rw [beq_eq_false_iff_ne]; (first | lia | omega)
  rw [this]; simp
 show wpAny _ _ (if ((0 : Int) == 0 && (1 : Int) == 1 && b == items.size) = true then _ else _) _ _ s
 rw [if_neg hno, pick_first items b (Nat.le_of_lt hb)]
 first
  | exact wpAny_bind (m := Builtin.Tuple.tupleExact _) (wpAny_newObj_type (wpAny_pure ⟨_, rfl, wpAny_pure h⟩) htake)
  | exact wpAny_bind (m := Builtin.Tuple.tupleExact _) (wpAny_newObj_type (wpAny_bind (wpAny_pure (wpAny_pure ⟨_, rfl, wpAny_pure h⟩))) htake)
  | exact wpAny_bind (wpAny_bind (m := Builtin.Tuple.tupleExact _) (wpAny_newObj_type (wpAny_pure (wpAny_pure ⟨_, rfl, wpAny_pure h⟩)) htake))
  | exact wpAny_bind (wpAny_bind (m := Builtin.Tuple.tupleExact _) (wpAny_newObj_type (wpAny_pure ⟨_, rfl, wpAny_pure h⟩) htake))
theorem slice_tup {a : Addr} {vs : List Value} {b : Nat} {u : Tok} {Q : KV} (h : Hs z n a (.tup vs)) (hb : b < vs.length) (hl : vs.length ≤ 1000)
  (q : ∀ (T : Addr) z1, Le z z1 → z1 T = none → Q (.ref T) (fset z1 T (.tup (vs.take b))) n) : sliceE prog w K A (.ref a) .none (.int b u) .none z n Q := fun i hi' => by
 have h' : Hs (fset z i (.raw { cls := .type "slice", data := .fields #[.none, .int b u, .none] })) n a (.tup vs) := h.imp (Le.fset hi' _ _) id
 refine ⟨⟨"tuple", "tuple.__getitem__", fun s hs => (h'.isTup hs).typeIs, tuple_getitem_lookup⟩, fun E s hs => ?_⟩
 refine oEA (hs.frz i _ fset_self) fun o ho io => ?_
 have io' : o = { cls := .type "slice", data := .fields #[.none, .int b u, .none] } := io
 subst io'
 refine item_tup_upto (h'.isTup hs) ⟨_, ho, rfl, rfl⟩ (by rw [List.size_toArray]; exact hb) (by rw [List.size_toArray]; exact hl) ?_
 exact ⟨_, _, Step.newF (tk := s.toks) hs (o := { cls := .type "tuple", data := .seq (vs.take b).toArray }) (lo := .tup (vs.take b)) ⟨rfl, 0, rfl⟩ rfl, q _ _ (Le.fset hi') hs.fresh⟩
end
theorem filter_tt {α : Type} (l : List α) : l.filter (fun u_ => true) = l := by simp
noncomputable abbrev TT (a b : Prop) : Prop := (a = b) → a
theorem castP {a b : Prop} (e : a = b) (h : b) : a := e ▸ h
/-- gone over, its items known as data -/
noncomputable def IterV (prog : Program) (w : World) (K : Frag) (A : Around) {α : Type} (target : PySem.Expr) (x : Value) (E0 : Led) (e : α → PyData) (xs : List α) (z : Fz) : Prop :=
 ∃ P, IterOf prog w K A target x E0 xs.length P z ∧ ∀ i v z', Le z z' → P i v z' → ∃ y, xs[i]? = some y ∧ Vz z' (e y) v
/-- behind a turn -/
noncomputable def turnD {α : Type} (J : List α → M → Fz → Led → Prop) (pre : List α) (z0 : Fz) (Q : KF) (fl : Flow) (m : M) (z : Fz) (n : Led) : Prop := Le z0 z → (match fl with
 | .next => J pre m z n
 | .cont => J pre m z n
 | .brk => Q .next m z n
 | .ret v => Q (.ret v) m z n)
section
variable {prog : Program} {w : World} {K : Frag} {A : Around} {z z' : Fz} {n n' : Led} {c : Cx} {m : M} {α β : Type}
theorem iterV_list (hh : A.handled = none) {e : α → PyData} {xs : List α} {x : Value} (hV : Vz z (eL e xs) x) {target : PySem.Expr} : IterV prog w K A target x [] e xs z := by
 refine oEEAA (vzL.mp hV) fun a vs e0_ hz hall => ?_
 subst e0_
 refine ⟨_, hall.len ▸ iter_list hh hz, fun i v z' le p => ?_⟩
 refine oEA (hall.at' p) fun y hy hv => ?_
 exact ⟨y, hy, hv.up le⟩
/-- numbers from a on -/
noncomputable def fromI (a : Int) (k : Nat) : List Int := (List.range k).map fun (i : Nat) => a + (i : Int)
theorem fromI_len {a : Int} {k : Nat} : (fromI a k).length = k := by unfold fromI; rw [List.length_map, List.length_range]
theorem fromI_get {a : Int} {k i : Nat} (h : i < k) : (fromI a k)[i]? = some (a + (i : Int)) := by unfold fromI; rw [List.getElem?_map, List.getElem?_range h]; rfl
theorem IterOf.more {x : Value} {E0 : Led} {N : Nat} {P : Nat → Value → Fz → Prop} {target : PySem.Expr} (h : IterOf prog w K A target x E0 N P z) : IterOf prog w K A target x E0 N (fun i v z' => i < N ∧ P i v z') z :=
 W.mono h fun it z' n' u_ h_ => oAEEA h_ fun e1 I Mi e2 hI => ⟨e1, I, Mi, e2, ⟨fun i z1 Q hi le hQ => hI.next i z1 Q hi le fun v z2 l p => hQ v z2 l ⟨hi, p⟩, hI.done, hI.self, fun i z1 v Q hi le p hQ => hI.own i z1 v Q hi le p.2 hQ⟩⟩
theorem iterV_range (hh : A.handled = none) {r : Addr} {a b : Int} {t u v : Tok} (hz : z r = some (.raw (rangeO a b t u v))) (hs1 : -(2 ^ 40) < a) (hs2 : a < 2 ^ 40) (hs3 : -(2 ^ 40) < b) (hs4 : b < 2 ^ 40) {target : PySem.Expr} :
  IterV prog w K A target (.ref r) [] eI (fromI a (b - a).toNat) z :=
 ⟨fun i x u_ => i < (b - a).toNat ∧ ∃ t, x = .int (a + i) t, fromI_len.symm ▸ (iter_range hh hz hs1 hs2 hs3 hs4).more, fun i v z' u_ h_ => and_e h_ fun hi h_ => Exists.elim h_ fun t e => ⟨_, fromI_get hi, vzI.mpr ⟨t, e⟩⟩⟩
/-- numbered -/
noncomputable def enumI (xs : List α) : List (Int × α) := xs.zipIdx.map fun p => ((p.2 : Int), p.1)
theorem enumI_len {xs : List α} : (enumI xs).length = xs.length := by unfold enumI; rw [List.length_map, List.length_zipIdx]
theorem enumI_get {xs : List α} {i : Nat} : (enumI xs)[i]? = xs[i]?.map fun x => ((i : Int), x) := by
 unfold enumI
 rw [List.getElem?_map, List.getElem?_zipIdx]
 cases xs[i]? with
 | none => rfl
 | some x => simp
theorem enum_V {e : α → PyData} {xs : List α} {x : Value} (hV : Vz z (eL e xs) x) {Q : KV} (q : ∀ l vs en it, x = .ref l → z l = some (.lst vs) → All2 (fun x v => Vz z (e x) v) xs vs → Q (.ref en) z (enumL en it l vs 0 ++ n)) : W prog w K A (call (.type "enumerate") [x] []) z n Q := by
 refine oEEAA (vzL.mp hV) fun l vs e0_ hz hall => ?_
 subst e0_
 exact enum_W hz fun en it => q l vs en it rfl hz hall
theorem iterV_enum (hh : A.handled = none) {e : α → PyData} {xs : List α} {en it l : Addr} {vs : List Value} (hz : z l = some (.lst vs)) (hall : All2 (fun x v => Vz z (e x) v) xs vs) {target : PySem.Expr} (ht : isTup target) : IterV prog w K A target (.ref en) (enumL en it l vs 0) (eP eI e) (enumI xs) z := by
 refine ⟨_, (enumI_len (xs := xs)).symm ▸ hall.len ▸ iter_enum hh hz ht, fun i v z' le h_ => oEEEAA h_ fun T t y e1 e2 e3 => ?_⟩
 refine oEA (hall.at' e3) fun x hx hv => ?_
 exact ⟨((i : Int), x), by rw [enumI_get, hx]; rfl, e1 ▸ vzP.mpr ⟨T, _, _, rfl, e2, vzI.mpr ⟨t, rfl⟩, hv.up le⟩⟩
theorem cut_at {xs : List α} {i : Nat} {x : α} (h : xs[i]? = some x) : xs = xs.take i ++ x :: xs.drop (i + 1) := by
 have hi : i < xs.length := by
  rcases Nat.lt_or_ge i xs.length with q | q
  ·exact q
  ·rw [List.getElem?_eq_none q] at h; cases h
 rw [List.getElem?_eq_getElem hi] at h
 cases h
 rw [List.getElem_cons_drop, List.take_append_drop]
/-- what a for over data asks of what it goes over -/
inductive LoopD (prog : Program) (w : World) (K : Frag) (A : Around) (c : Cx) {α : Type} (target : PySem.Expr) (body : List Stmt) (J : List α → M → Fz → Led → Prop) (m : M) (Q : KF) (x : Value) (z1 : Fz) (n1 : Led) : Prop
 | mk (E0 n1' : Led) (e : α → PyData) (xs : List α) (hp : n1.Perm (n1' ++ E0)) (hi : IterV prog w K A target x E0 e xs z1) (hJ : J [] m z1 n1')
  (h1 : ∀ pre x post v m' zi zi' ni, xs = pre ++ x :: post → Le z1 zi → Le zi zi' → Vz zi' (e x) v → J pre m' zi ni → ∀ QB : KF, Ends (turnD J (pre ++ [x]) zi' Q) QB → asg c target v m' zi' ni fun m2 z2 n2 => exs prog w K A c body m2 z2 n2 QB)
  (h2 : ∀ m' zi ni, Le z1 zi → J xs m' zi ni → Q .next m' zi ni) : LoopD prog w K A c target body J m Q x z1 n1
theorem nilPerm {n : Led} : n.Perm (n ++ []) := by rw [List.append_nil]
theorem LoopL_mk (hE : CxOk prog w K A c) {target : PySem.Expr} {body : List Stmt} {J : List α → M → Fz → Led → Prop} {m : M} {Q : KF} {x : Value} {z1 : Fz} {n1 : Led} (e : α → PyData) (xs : List α) (hx : Vz z1 (eL e xs) x) (hJ : J [] m z1 n1)
  (h1 : ∀ pre x post v m' zi zi' ni, xs = pre ++ x :: post → Le z1 zi → Le zi zi' → Vz zi' (e x) v → J pre m' zi ni → ∀ QB : KF, Ends (turnD J (pre ++ [x]) zi' Q) QB → asg c target v m' zi' ni fun m2 z2 n2 => exs prog w K A c body m2 z2 n2 QB)
  (h2 : ∀ m' zi ni, Le z1 zi → J xs m' zi ni → Q .next m' zi ni) : LoopD prog w K A c target body J m Q x z1 n1 := .mk [] n1 e xs nilPerm (iterV_list hE.handled hx) hJ h1 h2
/-- a for over data -/
theorem for_dataQ (hE : CxOk prog w K A c) {target iter : PySem.Expr} {body : List Stmt} {pos : Pos} {Q : KF} (J : List α → M → Fz → Led → Prop)
  (h : ev prog w K A c iter m z n (LoopD prog w K A c target body J m Q))
  (hf : ∀ x, foldedSetIterable iter c.env x = pure x := by intro _; rfl) : SW prog w K A c (exec (.For target iter body [] pos) c.env) m z n Q := by
 refine for_sem hE (VW.mono (evE hE h) fun x z1 n1 hq => ?_) hf
 obtain ⟨E0, n1', e, xs, hp, hi, hJ, turn, done⟩ := hq
 refine oEA hi fun P hit hP => ?_
 clear hi
 refine ⟨E0, n1', xs.length, P, fun i => J (xs.take i), hp, hit, hJ, fun i v m' zi zi' ni hi l1 l2 p hJ => ?_, fun m' zi ni l hJ => done m' zi ni l ((List.take_length (l := xs)) ▸ hJ)⟩
 refine oEA (hP i v zi' (l1.trans l2) p) fun y hy hv => ?_
 have e2 : xs.take (i + 1) = xs.take i ++ [y] := by rw [List.take_add_one, hy]; rfl
 refine turn _ y _ v m' zi zi' ni (cut_at hy) l1 l2 hv hJ _ fun fl m z n => ?_
 rw [← e2]
 cases fl <;> exact id
/-- what a comprehension over data asks -/
theorem comp_data {elt target : PySem.Expr} {ifs : List PySem.Expr} {csc : Scope} {cl : List (Str × Addr)} {own : Option Str} {env : Env} {g : List (Str × Value)} {ks : List Str} {x : Value} {Q : List Value → Fz → Led → Prop}
  (E0 n1' : Led) (e : α → PyData) (xs : List α) (p : α → Bool) (f : α → β) (e' : β → PyData) (hp : n.Perm (n1' ++ E0)) (hit : IterV prog w K A target x E0 e xs z) (hl : xs.length ≤ 1000000)
  (turn : ∀ C, CxOk prog w K A (compC csc cl own g env C) → ∀ y v zi m ov, y ∈ xs → Le z zi → Vz zi (e y) v → keysAre ks m →
   asg (compC csc cl own g env C) target v m zi (ownL own C ov ++ n1') fun m2 z2 n2 => ifsE prog w K A (compC csc cl own g env C) ifs m2 z2 n2 fun ok z3 n3 =>
    brE ok (ev prog w K A (compC csc cl own g env C) elt m2 z3 n3 fun u z4 n4 => Le zi z4 → keysAre ks m2 ∧ (∃ ov', n4 = ownL own C ov' ++ n1') ∧ p y = true ∧ Vz z4 (e' (f y)) u) (Le zi z3 → keysAre ks m2 ∧ (∃ ov', n3 = ownL own C ov' ++ n1') ∧ p y = false))
  (done : ∀ vs zN, Le z zN → vs.length ≤ xs.length → All2 (fun y v => Vz zN (e' y) v) ((xs.filter p).map f) vs → Q vs zN n1') : CompAsk prog w K A env elt target ifs csc cl own g ks x z n Q := by
 refine oEA hit ?_
 clear hit
 intro P hit hP
 refine ⟨E0, n1', xs.length, P, fun i vs z' n' => n' = n1' ∧ All2 (fun y v => Vz z' (e' y) v) (((xs.take i).filter p).map f) vs, hp, hit, hl, ⟨rfl, trivial⟩, ⟨fun C hC i vs v zi zi' ni m ov hi hvl l1 l2 hv hJ hk => ?_⟩, fun vs zN nN l hvl hJ => ?_⟩
 ·obtain ⟨rfl, hall⟩ := hJ
  refine oEA (hP i v zi' (l1.trans l2) hv) fun y hy hvy => ?_
  have e2 : xs.take (i + 1) = xs.take i ++ [y] := by rw [List.take_add_one, hy]; rfl
  have up := fun (z4 : Fz) (l4 : Le zi' z4) => hall.vmono (Le.trans l2 l4)
  refine turn_mono (turn_of hC (turn C hC y v zi' m ov (List.mem_of_getElem? hy) (l1.trans l2) hvy hk)) (fun m2 u z4 n4 q l4 => ?_) fun m2 z3 n3 q l3 => ?_
  ·obtain ⟨q1, ⟨ov', q2⟩, q3, q4⟩ := q l4
   refine ⟨q1, ov', _, q2, rfl, ?_⟩
   rw [e2, List.filter_append, List.map_append]
   refine (up z4 l4).append ?_
   rw [List.filter_cons, if_pos q3]
   exact ⟨q4, trivial⟩
  ·obtain ⟨q1, ⟨ov', q2⟩, q3⟩ := q l3
   refine ⟨q1, ov', _, q2, rfl, ?_⟩
   rw [e2, List.filter_append, List.filter_cons, if_neg (by rw [q3]; exact Bool.false_ne_true), List.filter_nil, List.append_nil]
   exact up z3 l3
 ·obtain ⟨rfl, hall⟩ := hJ
  exact done vs zN l hvl ((List.take_length (l := xs)) ▸ hall)
end
/-! the equations by which a walk goes: all by computation -/
section
variable {prog : Program} {w : World} {K : Frag} {A : Around} {z : Fz} {n : Led} {c : Cx} {m : M} {Q : KV} {QB : KB} {QF : KF} {QM : M → Fz → Led → Prop} {p p' : Pos} {x y : Str} {e r l b o : PySem.Expr} {es : List PySem.Expr} {X Y : Prop} {k : Nat}
theorem q_Const {k : Const} {j : Nat} : ev prog w K A c (.Constant k j p) m z n Q = conE k z n Q := rfl
theorem q_Name : ev prog w K A c (.Name x p) m z n Q = nameE c x m z n Q := rfl
theorem q_BinOp {op : Operator} : ev prog w K A c (.BinOp l op r p) m z n Q = ev prog w K A c l m z n fun a z1 n1 => ev prog w K A c r m z1 n1 fun b z2 n2 => binE prog w K A op a b z2 n2 Q := rfl
theorem q_UnaryOp {op : UnaryOp} : ev prog w K A c (.UnaryOp op e p) m z n Q = ev prog w K A c e m z n fun a z1 n1 => unE prog w K A op a z1 n1 Q := rfl
theorem q_And : ev prog w K A c (.BoolOp .And [l, r] p) m z n Q = ev prog w K A c l m z n fun v z1 n1 => truE prog w K A v z1 n1 fun t z2 n2 => brE t (ev prog w K A c r m z2 n2 Q) (Q v z2 n2) := rfl
theorem q_IfExp : ev prog w K A c (.IfExp e b o p) m z n Q = tst prog w K A c e (ev prog w K A c e m) m z n fun k z1 n1 => brE k (ev prog w K A c b m z1 n1 Q) (ev prog w K A c o m z1 n1 Q) := rfl
theorem q_Compare {op : CmpOp} : ev prog w K A c (.Compare l [op] [r] p) m z n Q = grd (cmpOk [op] [r]) (ev prog w K A c l m z n fun a z1 n1 => ev prog w K A c r m z1 n1 fun b z2 n2 => cmpE prog w K A op a b z2 n2 Q) := rfl
theorem q_Call {ks : List Keyword} : ev prog w K A c (.Call e es ks p) m z n Q = grd (callOk e es ks p) (evf prog w K A c e m z n fun fv first z1 n1 => evs prog w K A c es m z1 n1 fun vs z2 n2 => callE prog w K A fv (first ++ vs) z2 n2 Q) := rfl
theorem q_Attribute : ev prog w K A c (.Attribute o x p) m z n Q = grd (plainBase o) (ev prog w K A c o m z n fun ov z1 n1 => attrE prog w K A ov x z1 n1 Q) := rfl
theorem q_Subscript : ev prog w K A c (.Subscript o e p) m z n Q = ev prog w K A c o m z n fun ov z1 n1 => evi prog w K A c e (ev prog w K A c e m) ov m z1 n1 Q := rfl
theorem q_List : ev prog w K A c (.List es p) m z n Q = grd (es.all noStar) (evs prog w K A c es m z n fun vs z1 n1 => newlE vs z1 n1 Q) := rfl
theorem q_Tuple : ev prog w K A c (.Tuple es k p) m z n Q = grd (es.all noStar) (evs prog w K A c es m z n fun vs z1 n1 => newtE vs z1 n1 Q) := rfl
theorem q_Dict {ks : List (Option PySem.Expr)} : ev prog w K A c (.Dict ks es p) m z n Q = VW prog w K A c (eval (.Dict ks es p) c.env) m z n Q := rfl
theorem q_ListComp {gs : List Comprehension} {s : Scope} : ev prog w K A c (.ListComp e gs s p) m z n Q = VW prog w K A c (eval (.ListComp e gs s p) c.env) m z n Q := rfl
theorem q_evs0 {Q : List Value → Fz → Led → Prop} : evs prog w K A c [] m z n Q = Q [] z n := rfl
theorem q_evs {Q : List Value → Fz → Led → Prop} : evs prog w K A c (e :: es) m z n Q = ev prog w K A c e m z n fun v z1 n1 => evs prog w K A c es m z1 n1 fun vs z2 n2 => Q (v :: vs) z2 n2 := rfl
theorem q_evo0 : evo prog w K A c none m z n Q = Q .none z n := rfl
theorem q_evo : evo prog w K A c (some e) m z n Q = ev prog w K A c e m z n Q := rfl
theorem q_fAttr {Q : Value → List Value → Fz → Led → Prop} : evf prog w K A c (.Attribute o x p) m z n Q = ev prog w K A c o m z n fun ov z1 n1 => methE prog w K A ov x z1 n1 Q := rfl
theorem q_fName {Q : Value → List Value → Fz → Led → Prop} : evf prog w K A c (.Name x p) m z n Q = nameE c x m z n fun f z1 n1 => Q f [] z1 n1 := rfl
section
variable {f : Fz → Led → KV → Prop} {ov : Value}
theorem q_iSlice {l u s : Option PySem.Expr} : evi prog w K A c (.Slice l u s p) f ov m z n Q = evo prog w K A c l m z n fun a z1 n1 => evo prog w K A c u m z1 n1 fun b z2 n2 => evo prog w K A c s m z2 n2 fun d z3 n3 => sliceE prog w K A ov a b d z3 n3 Q := rfl
theorem q_iConst {k : Const} {j : Nat} : evi prog w K A c (.Constant k j p) f ov m z n Q = f z n fun i z1 n1 => itemE prog w K A ov i z1 n1 Q := rfl
theorem q_iName : evi prog w K A c (.Name x p) f ov m z n Q = f z n fun i z1 n1 => itemE prog w K A ov i z1 n1 Q := rfl
theorem q_iBinOp {op : Operator} : evi prog w K A c (.BinOp l op r p) f ov m z n Q = f z n fun i z1 n1 => itemE prog w K A ov i z1 n1 Q := rfl
theorem q_iUnaryOp {op : UnaryOp} : evi prog w K A c (.UnaryOp op e p) f ov m z n Q = f z n fun i z1 n1 => itemE prog w K A ov i z1 n1 Q := rfl
theorem q_iCall {ks : List Keyword} : evi prog w K A c (.Call e es ks p) f ov m z n Q = f z n fun i z1 n1 => itemE prog w K A ov i z1 n1 Q := rfl
theorem q_iSub : evi prog w K A c (.Subscript o e p) f ov m z n Q = f z n fun i z1 n1 => itemE prog w K A ov i z1 n1 Q := rfl
theorem q_iTuple : evi prog w K A c (.Tuple es k p) f ov m z n Q = f z n fun i z1 n1 => itemE prog w K A ov i z1 n1 Q := rfl
theorem q_tNot : tst prog w K A c (.UnaryOp .Not e p) f m z n QB = tst prog w K A c e (ev prog w K A c e m) m z n fun b z1 n1 => QB (!b) z1 n1 := rfl
theorem q_tBool {op : BoolOp} : tst prog w K A c (.BoolOp op es p) f m z n QB = tsts prog w K A c op es m z n QB := rfl
theorem q_tCmp {op : CmpOp} : tst prog w K A c (.Compare l [op] [r] p) f m z n QB = grd (cmpOk [op] [r]) (ev prog w K A c l m z n fun a z1 n1 => ev prog w K A c r m z1 n1 fun b z2 n2 => cmpE prog w K A op a b z2 n2 fun v z3 n3 => truE prog w K A v z3 n3 QB) := rfl
theorem q_tName : tst prog w K A c (.Name x p) f m z n QB = f z n fun v z1 n1 => truE prog w K A v z1 n1 QB := rfl
theorem q_tCall {ks : List Keyword} : tst prog w K A c (.Call e es ks p) f m z n QB = f z n fun v z1 n1 => truE prog w K A v z1 n1 QB := rfl
theorem q_tAttr : tst prog w K A c (.Attribute o x p) f m z n QB = f z n fun v z1 n1 => truE prog w K A v z1 n1 QB := rfl
theorem q_tSub : tst prog w K A c (.Subscript o e p) f m z n QB = f z n fun v z1 n1 => truE prog w K A v z1 n1 QB := rfl
end
theorem q_and0 : tsts prog w K A c .And [] m z n QB = QB true z n := rfl
theorem q_or0 : tsts prog w K A c .Or [] m z n QB = QB false z n := rfl
theorem q_and : tsts prog w K A c .And (e :: es) m z n QB = tst prog w K A c e (ev prog w K A c e m) m z n fun b z1 n1 => brE b (tsts prog w K A c .And es m z1 n1 QB) (QB false z1 n1) := rfl
theorem q_or : tsts prog w K A c .Or (e :: es) m z n QB = tst prog w K A c e (ev prog w K A c e m) m z n fun b z1 n1 => brE b (QB true z1 n1) (tsts prog w K A c .Or es m z1 n1 QB) := rfl
theorem q_brT : brE true X Y = X := rfl
theorem q_brF : brE false X Y = Y := rfl
theorem q_grd : grd true X = X := rfl
theorem q_truB {b : Bool} : truE prog w K A (.bool b) z n QB = QB b z n := rfl
theorem q_truN : truE prog w K A .none z n QB = QB false z n := rfl
theorem q_notB {a : Value} : unE prog w K A .Not a z n Q = truE prog w K A a z n fun b z n => Q (.bool (!b)) z n := rfl
theorem q_neg {i : Int} {t : Tok} : unE prog w K A .USub (.int i t) z n Q = ∀ t, Q (.int (-i) t) z n := rfl
theorem q_ci {i : Int} : conE (.int i) z n Q = ∀ t, Q (.int i t) z n := rfl
theorem q_cs {s : Str} : conE (.str s) z n Q = ∀ t, Q (.str s t) z n := rfl
theorem q_cb {b : Bool} : conE (.bool b) z n Q = Q (.bool b) z n := rfl
theorem q_cn : conE .none z n Q = Q .none z n := rfl
section
variable {i j : Int} {t u : Tok} {a d : Addr}
theorem q_add : binE prog w K A .Add (.int i t) (.int j u) z n Q = ∀ t, Q (.int (i + j) t) z n := rfl
theorem q_sub : binE prog w K A .Sub (.int i t) (.int j u) z n Q = ∀ t, Q (.int (i - j) t) z n := rfl
theorem q_mul : binE prog w K A .Mult (.int i t) (.int j u) z n Q = ((-(2 ^ 60) < i ∧ i < 2 ^ 60) ∧ ∀ t, Q (.int (i * j) t) z n) := rfl
theorem q_div : binE prog w K A .FloorDiv (.int i t) (.int j u) z n Q = ((j ≠ 0 ∧ j.natAbs < 1073741824) ∧ ∀ t, Q (.int (Int.fdiv i j) t) z n) := rfl
theorem q_mod : binE prog w K A .Mod (.int i t) (.int j u) z n Q = (j ≠ 0 ∧ ∀ t, Q (.int (Int.fmod i j) t) z n) := rfl
theorem q_addR : binE prog w K A .Add (.ref a) (.ref d) z n Q = W prog w K A (binaryOp .Add (.ref a) (.ref d)) z n Q := rfl
theorem q_mulR : binE prog w K A .Mult (.ref a) (.int j u) z n Q = W prog w K A (binaryOp .Mult (.ref a) (.int j u)) z n Q := rfl
theorem q_iadd : ibinE prog w K A .Add (.int i t) (.int j u) z n Q = ∀ t, Q (.int (i + j) t) z n := rfl
theorem q_isub : ibinE prog w K A .Sub (.int i t) (.int j u) z n Q = ∀ t, Q (.int (i - j) t) z n := rfl
theorem q_lt : cmpE prog w K A .Lt (.int i t) (.int j u) z n Q = Q (.bool (decide (i < j))) z n := rfl
theorem q_le : cmpE prog w K A .LtE (.int i t) (.int j u) z n Q = Q (.bool (decide (i ≤ j))) z n := rfl
theorem q_gt : cmpE prog w K A .Gt (.int i t) (.int j u) z n Q = Q (.bool (decide (j < i))) z n := rfl
theorem q_ge : cmpE prog w K A .GtE (.int i t) (.int j u) z n Q = Q (.bool (decide (j ≤ i))) z n := rfl
theorem q_eq : cmpE prog w K A .Eq (.int i t) (.int j u) z n Q = Q (.bool (decide (i = j))) z n := rfl
theorem q_ne : cmpE prog w K A .NotEq (.int i t) (.int j u) z n Q = Q (.bool (!decide (i = j))) z n := rfl
theorem q_isN {v : Value} : cmpE prog w K A .Is v .none z n Q = Q (.bool (isNone v)) z n := rfl
theorem q_isnN {v : Value} : cmpE prog w K A .IsNot v .none z n Q = Q (.bool (!isNone v)) z n := rfl
theorem q_nI : isNone (.int i t) = false := rfl
theorem q_nR : isNone (.ref a) = false := rfl
theorem q_nB {b : Bool} : isNone (.bool b) = false := rfl
theorem q_nN : isNone .none = true := rfl
theorem q_eqR {v : Value} : cmpE prog w K A .Eq v (.ref a) z n Q = W prog w K A (compareOp .Eq v (.ref a)) z n Q := rfl
theorem q_neR {v : Value} : cmpE prog w K A .NotEq v (.ref a) z n Q = W prog w K A (compareOp .NotEq v (.ref a)) z n Q := rfl
theorem q_eqS {v : Value} {s : Str} : cmpE prog w K A .Eq v (.str s t) z n Q = W prog w K A (compareOp .Eq v (.str s t)) z n Q := rfl
theorem q_neS {v : Value} {s : Str} : cmpE prog w K A .NotEq v (.str s t) z n Q = W prog w K A (compareOp .NotEq v (.str s t)) z n Q := rfl
theorem q_inR {v : Value} : cmpE prog w K A .In v (.ref a) z n Q = W prog w K A (compareOp .In v (.ref a)) z n Q := rfl
theorem q_ninR {v : Value} : cmpE prog w K A .NotIn v (.ref a) z n Q = W prog w K A (compareOp .NotIn v (.ref a)) z n Q := rfl
end
theorem q_lkm {k : Str} {v : Option Value} {r : M} : lkm ((k, v) :: r) x = if x = k then some v else lkm r x := rfl
theorem q_lkm0 : lkm [] x = none := rfl
theorem q_lkv {k : Str} {v : Value} {r : List (Str × Value)} : lkv ((k, v) :: r) x = if x = k then some v else lkv r x := rfl
theorem q_lkv0 : lkv [] x = none := rfl
theorem q_lka {k : Str} {v : Addr} {r : List (Str × Addr)} : lka ((k, v) :: r) x = if x = k then some v else lka r x := rfl
theorem q_lka0 : lka [] x = none := rfl
theorem q_put {k : Str} {v : Option Value} {r : M} {u : Value} : putm ((k, v) :: r) x u = if x = k then (k, some u) :: r else (k, v) :: putm r x u := rfl
theorem q_bl0 : bl [] x = none := rfl
/-- a name's value, by where it is found -/
noncomputable def nmO (o : Option (Option Value)) (g : Option Value) (a : Option Addr) (z : Fz) (n : Led) (Q : KV) : Prop := match o with
 | some o => (match o with
  | some v => Q v z n
  | none => False)
 | none => match g with
  | some v => Q v z n
  | none => match a with
   | some a => ∃ v, Hs z n a (.cell (some v)) ∧ Q v z n
   | none => False
theorem q_name : nameE c x m z n Q = nmO (lkm m x) (lkv c.g x) (lka c.cl x) z n Q := rfl
theorem q_nm1 {v : Value} {g : Option Value} {a : Option Addr} : nmO (some (some v)) g a z n Q = Q v z n := rfl
theorem q_nm2 {v : Value} {a : Option Addr} : nmO none (some v) a z n Q = Q v z n := rfl
theorem q_nm3 {a : Addr} : nmO none none (some a) z n Q = ∃ v, Hs z n a (.cell (some v)) ∧ Q v z n := rfl
noncomputable def stO (o : Option (Option Value)) (a : Option Addr) (c : Cx) (x : Str) (v : Value) (m : M) (z : Fz) (n : Led) (Q : M → Fz → Led → Prop) : Prop := match o with
 | some _ => Q (putm m x v) z n
 | none => match a with
  | some a => cstE c x a v m z n Q
  | none => False
theorem q_st {v : Value} : stE c x v m z n QM = stO (lkm m x) (lka c.cl x) c x v m z n QM := rfl
theorem q_st1 {v : Value} {o : Option Value} {a : Option Addr} : stO (some o) a c x v m z n QM = QM (putm m x v) z n := rfl
theorem q_st2 {v : Value} {a : Addr} : stO none (some a) c x v m z n QM = cstE c x a v m z n QM := rfl
theorem q_sts0 : stEs c [] [] m z n QM = QM m z n := rfl
theorem q_sts {v : Value} {xs : List Str} {vs : List Value} : stEs c (x :: xs) (v :: vs) m z n QM = stE c x v m z n fun m1 z1 n1 => stEs c xs vs m1 z1 n1 QM := rfl
theorem q_gN : tagE (.Name x p) = 23 := rfl
theorem q_gA : tagE (.Attribute o x p) = 20 := rfl
theorem q_gC {ks : List Keyword} : tagE (.Call e es ks p) = 16 := rfl
theorem q_gS : tagE (.Subscript o e p) = 21 := rfl
theorem q_gK {k : Const} {j : Nat} : tagE (.Constant k j p) = 19 := rfl
theorem q_gB {op : Operator} : tagE (.BinOp l op r p) = 2 := rfl
theorem q_gU {op : UnaryOp} : tagE (.UnaryOp op e p) = 3 := rfl
theorem q_gO {op : BoolOp} : tagE (.BoolOp op es p) = 0 := rfl
theorem q_gI : tagE (.IfExp e b o p) = 5 := rfl
theorem q_gP {ops : List CmpOp} : tagE (.Compare l ops es p) = 15 := rfl
theorem q_gL : tagE (.List es p) = 24 := rfl
theorem q_gT : tagE (.Tuple es k p) = 25 := rfl
theorem q_gD {ks : List (Option PySem.Expr)} : tagE (.Dict ks es p) = 6 := rfl
theorem q_gM {gs : List Comprehension} {s : Scope} : tagE (.ListComp e gs s p) = 8 := rfl
theorem q_fOf {ks : List Keyword} : funcOf (.Call e es ks p) = e := rfl
theorem q_noStar : noStar e = (tagE e != 22) := rfl
theorem q_plain : plainBase e = (tagE e == 23 || tagE e == 20 || tagE e == 21 || (tagE e == 16 && tagE (funcOf e) == 20)) := rfl
theorem q_notC : notComp e = (tagE e != 8 && tagE e != 9 && tagE e != 10) := rfl
theorem q_elts : eltsOf (.Tuple es k p) = es := rfl
theorem q_okN : callOk (.Name x p) es [] p' = es.all noStar := by unfold callOk; rw [q_gN]; simp
theorem q_okA : callOk (.Attribute o x p) es [] p' = (es.all noStar && (plainBase o && Nat.blt es.length 30 && Nat.beq p.endLine p'.line)) := rfl
theorem q_cOk {op : CmpOp} : cmpOk [op] [r] = !behindInMarks op r := rfl
theorem q_b1 {op : CmpOp} : behindInMarks op (.Name x p) = false := rfl
theorem q_b2 {op : CmpOp} {k : Const} {j : Nat} : behindInMarks op (.Constant k j p) = false := rfl
theorem q_b3 {op : CmpOp} : behindInMarks op (.Attribute e x p) = false := rfl
theorem q_b4 {op : CmpOp} : behindInMarks op (.Subscript l r p) = false := rfl
theorem q_b5 {op : CmpOp} {ks : List Keyword} : behindInMarks op (.Call e es ks p) = false := rfl
theorem q_b6 {op : CmpOp} : behindInMarks op (.List es p) = false := rfl
theorem q_b7 {op : CmpOp} {k : Nat} : behindInMarks op (.Tuple es k p) = false := rfl
theorem q_b8 {op : CmpOp} {o : Operator} : behindInMarks op (.BinOp l o r p) = false := rfl
theorem q_b9 {op : CmpOp} {o : UnaryOp} : behindInMarks op (.UnaryOp o e p) = false := rfl
theorem q_newl {vs : List Value} : newlE vs z n Q = grd (Nat.ble vs.length 1000) (newL vs z n Q) := rfl
theorem q_newt {vs : List Value} : newtE vs z n Q = grd (Nat.ble vs.length 1000) (∀ a, z a = none → Q (.ref a) (fset z a (.tup vs)) n) := rfl
theorem q_drN : dropE .none X = X := rfl
theorem q_drB {b : Bool} : dropE (.bool b) X = X := rfl
theorem q_drI {i : Int} {t : Tok} : dropE (.int i t) X = X := rfl
theorem q_tn0 : tupNames [] = some [] := rfl
noncomputable def consO (x : Str) : Option (List Str) → Option (List Str)
 | some xs => some (x :: xs)
 | none => none
theorem q_tn : tupNames (.Name x p :: es) = consO x (tupNames es) := rfl
theorem q_tnS : tupNames (.Subscript o e p :: es) = none := rfl
theorem q_cO {xs : List Str} : consO x (some xs) = some (x :: xs) := rfl
theorem q_unpT {sw : Bool} {names : List Str} {vs : List Value} : unpT c sw names vs m z n QM = grd (Nat.beq vs.length names.length && Nat.ble vs.length 1000) (∀ a, z a = none → brE sw (stEs c names.reverse vs.reverse m (fset z a (.tup vs)) n QM) (stEs c names vs m (fset z a (.tup vs)) n QM)) := rfl
theorem q_unpE {sw : Bool} {names : List Str} {u : Value} : unpE c sw names u m z n QM = ∃ a vs, u = .ref a ∧ Hs z n a (.tup vs) ∧ vs.length = names.length ∧ brE sw (stEs c names.reverse vs.reverse m z n QM) (stEs c names vs m z n QM) := rfl
theorem q_xExpr : ex prog w K A c (.Expr e p) m z n QF = grd (notComp e) (ev prog w K A c e m z n fun v z1 n1 => dropE v (QF .next m z1 n1)) := rfl
theorem q_xName : ex prog w K A c (.Assign [.Name x p] e p') m z n QF = brE (notComp e) (ev prog w K A c e m z n fun u z1 n1 => stE c x u m z1 n1 (QF .next)) (SW prog w K A c (exec (.Assign [.Name x p] e p') c.env) m z n QF) := rfl
theorem q_xAttr : ex prog w K A c (.Assign [.Attribute o x p] e p') m z n QF = grd (notComp e) (ev prog w K A c e m z n fun u z1 n1 => ev prog w K A c o m z1 n1 fun ov z2 n2 => setAttrE prog w K A ov x u z2 n2 (QF .next m)) := rfl
theorem q_xSub : ex prog w K A c (.Assign [.Subscript o l p] e p') m z n QF = grd (notComp e) (ev prog w K A c e m z n fun u z1 n1 => ev prog w K A c o m z1 n1 fun ov z2 n2 => ev prog w K A c l m z2 n2 fun iv z3 n3 => setItemE prog w K A ov iv u z3 n3 (QF .next m)) := rfl
theorem q_xTup : ex prog w K A c (.Assign [.Tuple es k p] e p') m z n QF = grd (notComp e) (asN prog w K A c (tupNames es) es k p e p' m z n QF) := rfl
theorem q_asN {names : List Str} {ts : List PySem.Expr} : asN prog w K A c (some names) ts k p e p' m z n QF = ∃ sw : Bool, swappedStores [.Tuple ts k p] e c.env = pure (if sw = true then some names else none) ∧
   brE (Nat.beq (tagE e) 25) (grd ((eltsOf e).all noStar) (evs prog w K A c (eltsOf e) m z n fun vs z1 n1 => unpT c sw names vs m z1 n1 (QF .next))) (ev prog w K A c e m z n fun u z1 n1 => unpE c sw names u m z1 n1 (QF .next)) := rfl
theorem q_xAug {op : Operator} : ex prog w K A c (.AugAssign (.Name x p) op e p') m z n QF = nameE c x m z n fun old z1 n1 => ev prog w K A c e m z1 n1 fun u z2 n2 => ibinE prog w K A op old u z2 n2 fun r z3 n3 => stE c x r m z3 n3 (QF .next) := rfl
theorem q_xIf {b o : List Stmt} : ex prog w K A c (.If e b o p) m z n QF = tst prog w K A c e (ev prog w K A c e m) m z n fun k z1 n1 => brE k (exs prog w K A c b m z1 n1 QF) (exs prog w K A c o m z1 n1 QF) := rfl
theorem q_xRet : ex prog w K A c (.Return (some e) p) m z n QF = ev prog w K A c e m z n fun v z1 n1 => QF (.ret v) m z1 n1 := rfl
theorem q_xRet0 : ex prog w K A c (.Return none p) m z n QF = QF (.ret .none) m z n := rfl
theorem q_xCont : ex prog w K A c (.Continue p) m z n QF = QF .cont m z n := rfl
theorem q_xBrk : ex prog w K A c (.Break p) m z n QF = QF .brk m z n := rfl
theorem q_xPass : ex prog w K A c (.Pass p) m z n QF = QF .next m z n := rfl
theorem q_xFor {b o : List Stmt} : ex prog w K A c (.For l e b o p) m z n QF = SW prog w K A c (exec (.For l e b o p) c.env) m z n QF := rfl
theorem q_xWh {b o : List Stmt} : ex prog w K A c (.While e b o p) m z n QF = SW prog w K A c (exec (.While e b o p) c.env) m z n QF := rfl
theorem q_sN {rest : List Stmt} : seqK prog w K A c rest QF .next m z n = exs prog w K A c rest m z n QF := rfl
theorem q_sB {rest : List Stmt} : seqK prog w K A c rest QF .brk m z n = QF .brk m z n := rfl
theorem q_sC {rest : List Stmt} : seqK prog w K A c rest QF .cont m z n = QF .cont m z n := rfl
theorem q_sR {rest : List Stmt} {v : Value} : seqK prog w K A c rest QF (.ret v) m z n = QF (.ret v) m z n := rfl
theorem q_aN {v : Value} : asg c (.Name x p) v m z n QM = stE c x v m z n QM := rfl
theorem q_aT {v : Value} : asg c (.Tuple es k p) v m z n QM = unp v z n es.length fun vs => grd (es.all noStar) (asgs c es vs m z n QM) := rfl
theorem q_as0 : asgs c [] [] m z n QM = QM m z n := rfl
theorem q_as {v : Value} {vs : List Value} : asgs c (e :: es) (v :: vs) m z n QM = asg c e v m z n fun m1 z1 n1 => asgs c es vs m1 z1 n1 QM := rfl
theorem q_if0 : ifsE prog w K A c [] m z n QB = QB true z n := rfl
theorem q_if1 : ifsE prog w K A c [e] m z n QB = tst prog w K A c e (ev prog w K A c e m) m z n QB := rfl
section
variable {α : Type} {J : List α → M → Fz → Led → Prop} {pre : List α} {z0 : Fz} {v : Value} {JW : Nat → M → Fz → Led → Prop} {i : Nat}
theorem q_dN : turnD J pre z0 QF .next m z n = (Le z0 z → J pre m z n) := rfl
theorem q_dC : turnD J pre z0 QF .cont m z n = (Le z0 z → J pre m z n) := rfl
theorem q_dB : turnD J pre z0 QF .brk m z n = (Le z0 z → QF .next m z n) := rfl
theorem q_dR : turnD J pre z0 QF (.ret v) m z n = (Le z0 z → QF (.ret v) m z n) := rfl
theorem q_wN : turnW JW i z0 QF .next m z n = (Le z0 z → ∃ k', k' < i ∧ JW k' m z n) := rfl
theorem q_wC : turnW JW i z0 QF .cont m z n = (Le z0 z → ∃ k', k' < i ∧ JW k' m z n) := rfl
theorem q_wB : turnW JW i z0 QF .brk m z n = (Le z0 z → QF .next m z n) := rfl
theorem q_wR : turnW JW i z0 QF (.ret v) m z n = (Le z0 z → QF (.ret v) m z n) := rfl
theorem q_kN : turnK JW i z0 QF .next m z n = (Le z0 z → JW (i + 1) m z n) := rfl
theorem q_kC : turnK JW i z0 QF .cont m z n = (Le z0 z → JW (i + 1) m z n) := rfl
theorem q_kR : turnK JW i z0 QF (.ret v) m z n = (Le z0 z → QF (.ret v) m z n) := rfl
end
theorem q_ret {v : Value} : retOf (.ret v) = v := rfl
theorem q_retN : retOf .next = .none := rfl
end
noncomputable def blO (o : Option Value) (x k : Str) (v : Value) : Option Value := match o with
 | some u => some u
 | none => if x = k then some v else none
theorem q_bl {k x : Str} {v : Value} {r : List (Str × Value)} : bl ((k, v) :: r) x = blO (bl r x) x k v := rfl
theorem q_blS {k x : Str} {v u : Value} : blO (some u) x k v = some u := rfl
theorem q_blN {k x : Str} {v : Value} : blO none x k v = if x = k then some v else none := rfl
theorem q_cC {csc : Scope} {cl : List (Str × Addr)} {own : Option Str} {g : List (Str × Value)} {env : Env} {C : Addr} : compC csc cl own g env C = ⟨compEnvC csc (ownCl own (C + 1) cl) C env, C, relabel csc env, g, ownCl own (C + 1) cl⟩ := rfl
theorem q_oc0 {a : Addr} {cl : List (Str × Addr)} : ownCl none a cl = cl := rfl
theorem q_oc {x : Str} {a : Addr} {cl : List (Str × Addr)} : ownCl (some x) a cl = (x, a) :: cl := rfl
theorem q_ol0 {a : Addr} {v : Option Value} : ownL none a v = [] := rfl
theorem q_ol {x : Str} {a : Addr} {v : Option Value} : ownL (some x) a v = [(a + 1, .cell v)] := rfl
theorem q_ob0 {b : List (Str × Value)} {a : Addr} : ownB none b a = [] := rfl
theorem q_ob {x : Str} {b : List (Str × Value)} {a : Addr} : ownB (some x) b a = [(a + 1, .cell (bl b x))] := rfl
section
variable {prog : Program} {w : World} {K : Frag} {A : Around} {z z' : Fz} {n n' : Led} {c : Cx} {m : M} {k : Nat}
theorem W.release {vs keep : List Value} {Q : Unit → Fz → Led → Prop} (h : Q () z n) : W prog w K A (PySem.release vs keep) z n Q := fun E s hs => wpAny_release ⟨_, _, .refl hs, h⟩
theorem cmp2_ok (hE : CxOk prog w K A c) {l x y : PySem.Expr} {o1 o2 : CmpOp} {p : Pos} {Q : KV} (h0 : behindInMarks o2 y = false) (h : ev prog w K A c l m z n fun a z1 n1 => ev prog w K A c x m z1 n1 fun b z2 n2 => cmpE prog w K A o1 a b z2 n2 fun v z3 n3 => truE prog w K A v z3 n3 fun t z4 n4 =>
  brE t (ev prog w K A c y m z4 n4 fun d z5 n5 => cmpE prog w K A o2 b d z5 n5 Q) (Q v z4 n4)) : VW prog w K A c (eval (.Compare l [o1, o2] [x, y] p) c.env) m z n Q := by
 have e : eval (.Compare l [o1, o2] [x, y] p) c.env = (eval l c.env >>= fun a => compareChain p a [o1, o2] [eval x c.env, markedBehindIn o2 y (eval y c.env)]) := rfl
 refine W.of_eq e (VW.bind (VW.mono (evE hE h) fun a z1 n1 h1 => ?_))
 rw [markedBehindIn_of_false h0]
 show VW prog w K A c (do let rv ← PySem.holding [a] (eval x c.env); PySem.standAt p; let v ← PySem.holding [a, rv] (compareOp o1 a rv); release [a, rv] [v]; if ← PySem.holding [v, rv] (truthy v) then compareChain p rv [o2] [eval y c.env] else pure v) m z1 n1 Q
 refine VW.bind (W.holding (VW.mono (evE hE h1) fun b z2 n2 h2 => W.standAt (VW.bind (W.holding (VW.mono (VW.leaf (cmpE_ok h2)) fun v z3 n3 h3 => ?_)))))
 refine VW.bind (VW.leaf (W.release ?_))
 refine VW.bind (W.holding (VW.mono (VW.leaf (truE_ok h3)) fun t z4 n4 h4 => ?_))
 cases t with
 | true =>
  show VW prog w K A c (do let rv ← PySem.holding [b] (eval y c.env); PySem.standAt p; operate [b, rv] (compareOp o2 b rv)) m z4 n4 Q
  exact VW.bind (W.holding (VW.mono (evE hE h4) fun d z5 n5 h5 => W.standAt (W.operate (VW.leaf (cmpE_ok h5)))))
 | false => exact VW.pure h4
theorem ret_sem {e : PySem.Expr} {p : Pos} {rest : List Stmt} {Q : KF} (h : VW prog w K A c (eval e c.env) m z n fun v z1 n1 => Q (.ret v) m z1 n1) : exs prog w K A c (.Return (some e) p :: rest) m z n Q :=
 exs_sem (W.of_eq (exec_Return_some c.env e p) (W.standAt (SW.bindV (VW.mono h fun v z1 n1 h1 => SW.pure h1))))
/-- the two ways of a bool that is a proposition's -/
theorem brE_dec {P : Prop} [Decidable P] {X Y : Prop} (h1 : P → X) (h2 : ¬ P → Y) : brE (decide P) X Y := by
 by_cases h : P
 ·rw [decide_eq_true h]; exact h1 h
 ·rw [decide_eq_false h]; exact h2 h
theorem brE_not {b : Bool} {X Y : Prop} (h : brE b Y X) : brE (!b) X Y := by cases b <;> exact h
theorem brE_t {b : Bool} {X Y : Prop} (hb : b = true) (h : X) : brE b X Y := by rw [hb]; exact h
theorem brE_f {b : Bool} {X Y : Prop} (hb : b = false) (h : Y) : brE b X Y := by rw [hb]; exact h
theorem brE_any {b : Bool} {X Y : Prop} (h1 : b = true → X) (h2 : b = false → Y) : brE b X Y := by
 cases b with
 | true => exact h1 rfl
 | false => exact h2 rfl
theorem brE_pt {P : Prop} [Decidable P] {X Y : Prop} (hb : P) (h : X) : brE (decide P) X Y := brE_t (decide_eq_true hb) h
theorem brE_pf {P : Prop} [Decidable P] {X Y : Prop} (hb : ¬ P) (h : Y) : brE (decide P) X Y := brE_f (decide_eq_false hb) h
theorem negl {k : Int} {n : Nat} (h : decide (k < 0) = true) : k < (n : Int) := Int.lt_of_lt_of_le (of_decide_eq_true h) (Int.natCast_nonneg n)
/-! small sums -/
theorem castPos {k : Nat} (h : (0 : Int) < (k : Int)) : 0 < k := Int.ofNat_lt.mp h
theorem castPred {j : Nat} : ((j + 1 : Nat) : Int) - 1 = ((j : Nat) : Int) := Int.add_sub_cancel (j : Int) 1
theorem castLt1 {a L : Nat} (h : (a : Int) + 1 < (L : Int)) : a + 1 < L := Int.ofNat_lt.mp h
theorem castNe0 {s : Nat} (h : 1 ≤ s) : ¬ ((s : Int) = 0) := fun e => absurd (Int.ofNat.inj e) (Nat.ne_of_gt h)
theorem castMax1 {n : Nat} : max (1 : Int) (n : Int) = ((max 1 n : Nat) : Int) := by
 rcases Nat.le_total 1 n with h | h
 ·rw [Nat.max_eq_right h]; exact Int.max_eq_right (Int.ofNat_le.mpr h)
 ·rw [Nat.max_eq_left h]; exact Int.max_eq_left (Int.ofNat_le.mpr h)
theorem subPos {L k : Nat} (h : ((L - k : Nat) : Int) < (L : Int)) : 0 < k := Nat.pos_of_ne_zero fun e => by subst e; exact absurd (Int.ofNat_lt.mp h) (Nat.lt_irrefl _)
theorem subPred {L k : Nat} (h0 : 0 < k) (h : k ≤ L) : L - (k - 1) = L - k + 1 := by
 cases k with
 | zero => exact absurd h0 (Nat.lt_irrefl 0)
 | succ j => exact (Nat.succ_pred_eq_of_pos (Nat.sub_pos_of_lt h)).symm
theorem subZero {L k : Nat} (h : ¬ ((L - k : Nat) : Int) < (L : Int)) (j : k ≤ L) : k = 0 := by
 cases k with
 | zero => rfl
 | succ i => exact absurd (Int.ofNat_lt.mpr (Nat.sub_lt (Nat.lt_of_lt_of_le (Nat.succ_pos i) j) (Nat.succ_pos i))) h
theorem subAdd {L a s k : Nat} (e : k = L - a) (h : a < L) (m : 1 ≤ s) : L - (a + s) < k := by
 rw [e, ← Nat.sub_sub]
 exact Nat.sub_lt (Nat.sub_pos_of_lt h) m
theorem subStep {m a j : Nat} (h : ((a + j : Nat) : Int) < (m : Int)) : m - a - (j + 1) < m - a - j :=
 Nat.sub_lt_sub_left (Nat.lt_sub_of_add_lt (Nat.lt_of_le_of_lt (Nat.le_of_eq (Nat.add_comm j a)) (Int.ofNat_lt.mp h))) (Nat.lt_succ_self j)
theorem midEq {a j s : Nat} (h : ((a + s - 1 : Nat) : Int) ≤ (a : Int) + (j : Int)) (hj : j < s) : (a : Int) + (j : Int) = ((a + s - 1 : Nat) : Int) :=
 Int.le_antisymm (Int.ofNat_le.mpr (Nat.le_sub_one_of_lt (Nat.add_lt_add_left hj a))) h
theorem oneAdd {i s : Nat} (h : (i : Int) < 3) (e : 1 + (i : Int) = (s : Int)) : s ≤ 3 := by
 have h1 : i < 3 := Int.ofNat_lt.mp h
 have h2 : 1 + i = s := Int.ofNat.inj e
 exact Nat.le_trans (Nat.le_of_eq h2.symm) (Nat.le_trans (Nat.le_of_eq (Nat.add_comm 1 i)) h1)
theorem toNat3 {i : Int} {n : Nat} (e : n = i.toNat) (h : i < 3) : n < 3 := by omega
theorem toNat6 {i : Int} {n : Nat} (e : n = i.toNat) (h : i < 6) : n < 6 := by omega
theorem brE_nt {P : Prop} [Decidable P] {X Y : Prop} (hb : ¬ P) (h : X) : brE (!decide P) X Y := brE_t (by rw [decide_eq_false hb]; rfl) h
theorem brE_nf {P : Prop} [Decidable P] {X Y : Prop} (hb : P) (h : Y) : brE (!decide P) X Y := brE_f (by rw [decide_eq_true hb]; rfl) h
end
section
variable {prog : Program} {w : World} {K : Frag} {A : Around} {z : Fz} {n : Led}
theorem idx_nat {i len : Nat} : idx (i : Nat) len = i := by unfold idx; rw [if_neg (by (first | lia | omega))]; rfl
theorem lt_of_get {α : Type} {l : List α} {i : Nat} {x : α} (h : l[i]? = some x) : i < l.length := by
 rcases Nat.lt_or_ge i l.length with q | q
 ·exact q
 ·rw [List.getElem?_eq_none q] at h; cases h
theorem item_at {a : Addr} {vs : List Value} {i : Nat} {k : Int} {t : Tok} {x : Value} {Q : KV} (h : Hs z n a (.lst vs)) (hk : k = (i : Nat)) (hx : vs[i]? = some x) (hl : vs.length ≤ 1000000) (q : Q x z n) : itemE prog w K A (.ref a) (.int k t) z n Q := by
 have := lt_of_get hx
 subst hk
 exact item_lst h (by (first | lia | omega)) (by (first | lia | omega)) (by rw [idx_nat]; exact hx) (by exact Nat.lt_of_le_of_lt hl (Nat.le_of_ble_eq_true rfl)) q
theorem item_tat {a : Addr} {vs : List Value} {i : Nat} {k : Int} {t : Tok} {x : Value} {Q : KV} (h : Hs z n a (.tup vs)) (hk : k = (i : Nat)) (hx : vs[i]? = some x) (hl : vs.length ≤ 1000000) (q : Q x z n) : itemE prog w K A (.ref a) (.int k t) z n Q := by
 have := lt_of_get hx
 subst hk
 exact item_tup h (by (first | lia | omega)) (by (first | lia | omega)) (by rw [idx_nat]; exact hx) (by exact Nat.lt_of_le_of_lt hl (Nat.le_of_ble_eq_true rfl)) q
theorem item_last {a : Addr} {vs : List Value} {k : Int} {t : Tok} {x : Value} {Q : KV} (h : Hs z n a (.lst (vs ++ [x]))) (hk : k = -1) (hl : vs.length ≤ 1000000) (q : Q x z n) : itemE prog w K A (.ref a) (.int k t) z n Q := by
 subst hk
 refine item_lst h (by rw [List.length_append, List.length_singleton]; (first | lia | omega)) (by exact Int.natCast_nonneg _) ?_ (by rw [List.length_append, List.length_singleton]; exact Nat.lt_of_le_of_lt (Nat.add_le_add hl (Nat.le_refl _)) (Nat.le_of_ble_eq_true rfl)) q
 unfold idx
 rw [if_pos (by exact Int.natCast_nonneg _), List.length_append, List.length_singleton, show (-1 + ((vs.length + 1 : Nat) : Int)).toNat = vs.length by (first | lia | omega)]
 simp
/-- an item of a list of data -/
theorem item_V {α : Type} {e : α → PyData} {xs : List α} {v : Value} {i : Nat} {k : Int} {t : Tok} {y : α} {Q : KV} (h : Vz z (eL e xs) v) (hk : k = (i : Nat)) (hy : xs[i]? = some y) (hl : xs.length ≤ 1000000) (q : ∀ u, Vz z (e y) u → Q u z n) : itemE prog w K A v (.int k t) z n Q := by
 refine oEEAA (vzL.mp h) fun a vs e0_ hz hall => ?_
 subst e0_
 refine oEA (hall.get hy) fun u hu hv => ?_
 exact item_at (.inl hz) hk hu (by have := hall.len; exact Nat.le_trans (Nat.le_trans (Nat.le_of_eq this) hl) (Nat.le_of_ble_eq_true rfl)) (q u hv)
theorem len_V {α : Type} {e : α → PyData} {xs : List α} {v : Value} {Q : KV} (h : Vz z (eL e xs) v) (hl : xs.length ≤ 1000000) (q : ∀ t, Q (.int xs.length t) z n) : callE prog w K A (.builtin "len") [v] z n Q := by
 refine oEEAA (vzL.mp h) fun a vs e0_ hz hall => ?_
 subst e0_
 exact callE_b (len_W (.inl hz) (by have := hall.len; exact Nat.lt_of_le_of_lt (Nat.le_trans (Nat.le_of_eq this) hl) (Nat.le_of_ble_eq_true rfl)) fun t => by rw [hall.len]; exact q t)
end
/-- what stands as the data: nothing told of any code, the defaults by f -/
structure DataIs (z : Fz) (f : Str → Option Value) (v : Value) : Prop where
 ex : ∃ x dx D M m u1 u2, v = .ref x ∧ z x = some (.raw (instObj 751 dx)) ∧ z dx = some (.att [("words", u1), ("properties", u2), ("maps", .ref M), ("defaults", .ref D)]) ∧ z D = some (.dS f m) ∧ z M = some (.dS (fun u_ => none) 0) ∧ (M == sysModules) = false ∧ (D == sysModules) = false
theorem DataIs.mono {z z' : Fz} {f v} (h : DataIs z f v) (l : Le z z') : DataIs z' f v := by
 refine oEE h.ex fun x dx h_ => oEE h_ fun D M h_ => oEEEAAAAA h_ fun m u1 u2 e h1 h2 h3 h4 r => ?_
 exact ⟨x, dx, D, M, m, u1, u2, e, l _ _ h1, l _ _ h2, l _ _ h3, l _ _ h4, r⟩
section
variable {prog : Program} {w : World} {K : Frag} {A : Around} {z : Fz} {n : Led} {c : Cx} {m : M} {α : Type}
theorem fn_CQ {k : Nat} {f : Addr} {args : List Value} {oc : Value} {od : Option Addr} {osl : Array (Option Value)} {name qual : Str} {params : Arguments} {body : List Stmt} {scope : Scope} {dV kV doc pm cdv ct : Value} {an : Option Addr} {Q : KV}
  (binds : List (Str × Value)) (own : Option Str) (names locs : List Str) (g : List (Str × Value)) (hroom : Room A (k + 1)) (ho : K.lookup f = some ⟨oc, od, .func (fnOf name qual params body scope dV kV doc pm an cdv ct), osl⟩) (hcd : codeIn K cdv qual = true)
  (hbind : ∀ s : Shared, K.In s.heap → BindsTo s (fnOf name qual params body scope dV kV doc pm an cdv ct) ⟨args, []⟩ binds) (hn : binds.map (·.1) = names) (hcf : ∀ p, cellsFrom p scope.names [] = ownCl own p []) (hfn : fnOk scope own names locs = true) (hg : GlobOk K scope g)
  (h : ∀ (L : Addr) (env : Env), env = envAt qual scope L f cdv (ownCl own (L + 1) []) → CxOk prog w K (A.deeper env) ⟨env, L, scope, g, ownCl own (L + 1) []⟩ → Room (A.deeper env) k → ∀ QF : KF, Ends (fun fl m z' n' => Le z z' → ∃ n'', n''.Sublist n' ∧ Q (retOf fl) z' n'') QF →
   exs prog w K (A.deeper env) ⟨env, L, scope, g, ownCl own (L + 1) []⟩ body (locs.map fun x => (x, bl binds x)) z (ownB own binds L ++ n) QF)
  (hco : scope.isCoroutine = false := by rfl) (hgen : scope.isGenerator = false := by rfl) (hkf : scope.kind = .function := by rfl) : WCall prog w K A (.ref f) args z n Q :=
 fn_C binds own names locs g hroom ho hcd hbind hn hcf hfn hg (fun L env e hC hR => h L env e hC hR _ fun u_ u_ u_ u_ x => x) hco hgen hkf
end
/-! the table of elements -/
abbrev Rows := List (List Int × List El)
noncomputable def look (rows : Rows) (ks : List Int) : Option (List El) := (rows.find? fun r => decide (r.1 = ks)).map (·.2)
noncomputable def RowsAt (z : Fz) : Rows → List (List Int × Addr × Value) → Prop
 | [], [] => True
 | r :: rs, x :: xs => (r.1 = x.1 ∧ Vz z (.tuple (r.1.map .int)) (.ref x.2.1) ∧ Vz z (eL eE r.2) x.2.2) ∧ RowsAt z rs xs
 | _, _ => False
theorem RowsAt.ind {z : Fz} {P : Rows → List (List Int × Addr × Value) → Prop} (h0 : P [] []) (h1 : ∀ r rs x xs, r.1 = x.1 → Vz z (.tuple (r.1.map .int)) (.ref x.2.1) → Vz z (eL eE r.2) x.2.2 → P rs xs → P (r :: rs) (x :: xs)) {rs : Rows} {xs} (h : RowsAt z rs xs) : P rs xs := by
 induction rs generalizing xs with
 | nil => cases xs with
  | nil => exact h0
  | cons => exact h.elim
 | cons r rs ih => cases xs with
  | nil => exact h.elim
  | cons x xs => exact h1 r rs x xs h.1.1 h.1.2.1 h.1.2.2 (ih h.2)
theorem RowsAt.mono {z z' : Fz} (l : Le z z') {rs : Rows} {xs} (h : RowsAt z rs xs) : RowsAt z' rs xs := RowsAt.ind (P := fun rs xs => RowsAt z' rs xs) trivial (fun r rs x xs a b c ih => show (_ ∧ _ ∧ _) ∧ RowsAt z' rs xs from ⟨⟨a, b.up l, c.up l⟩, ih⟩) h
theorem RowsAt.keys {z : Fz} {rs : Rows} {xs} (h : RowsAt z rs xs) : KeysZ z xs :=
 RowsAt.ind (P := fun u_ xs => KeysZ z xs) (fun u_ h => nomatch h) (fun r rs x xs a b c ih y hy => by
  rcases List.mem_cons.mp hy with rfl | hy
  ·rw [← a]; exact b
  ·exact ih y hy) h
theorem RowsAt.len {z : Fz} {rs : Rows} {xs} (h : RowsAt z rs xs) : xs.length = rs.length := RowsAt.ind (P := fun rs xs => xs.length = rs.length) rfl (fun r rs x xs a b c ih => congrArg Nat.succ ih) h
theorem RowsAt.find {z : Fz} {ks : List Int} : ∀ {rs : Rows} {xs}, RowsAt z rs xs → (atKey xs ks = none ∧ look rs ks = none) ∨ ∃ p es, atKey xs ks = some p ∧ look rs ks = some es ∧ Vz z (eL eE es) p.2
 | [], [], _ => .inl ⟨rfl, rfl⟩
 | r :: rs, x :: xs, h => by
  unfold atKey look
  rw [List.find?_cons, List.find?_cons]
  by_cases e : r.1 = ks
  ·rw [decide_eq_true e, ← h.1.1, decide_eq_true e]
   exact .inr ⟨_, _, rfl, rfl, h.1.2.2⟩
  ·rw [decide_eq_false e, ← h.1.1, decide_eq_false e]
   exact RowsAt.find h.2
theorem RowsAt.some {z : Fz} {ks : List Int} {rs : Rows} {xs} (h : RowsAt z rs xs) : (atKey xs ks).isSome = (look rs ks).isSome := by
 rcases h.find (ks := ks) with ⟨e1, e2⟩ | ⟨p, es, e1, e2, _⟩ <;> rw [e1, e2] <;> rfl
theorem RowsAt.snoc {z : Fz} {ks : List Int} {a : Addr} {v : Value} {es : List El} {rs : Rows} {xs} (h : RowsAt z rs xs) (h1 : Vz z (.tuple (ks.map .int)) (.ref a)) (h2 : Vz z (eL eE es) v) : RowsAt z (rs ++ [(ks, es)]) (xs ++ [(ks, a, v)]) :=
 RowsAt.ind (P := fun rs xs => RowsAt z (rs ++ [(ks, es)]) (xs ++ [(ks, a, v)])) ⟨⟨rfl, h1, h2⟩, trivial⟩ (fun r rs x xs a b c ih => show (_ ∧ _ ∧ _) ∧ RowsAt z (rs ++ _) (xs ++ _) from ⟨⟨a, b, c⟩, ih⟩) h
theorem RowsAt.put {z : Fz} {ks : List Int} {a : Addr} {v : Value} {es : List El} {rs : Rows} {xs} (h : RowsAt z rs xs) (hn : look rs ks = none) (h1 : Vz z (.tuple (ks.map .int)) (.ref a)) (h2 : Vz z (eL eE es) v) : RowsAt z (rs ++ [(ks, es)]) (storedH xs ks a v) := by
 rcases h.find (ks := ks) with ⟨e1, _⟩ | ⟨p, es, _, e2, _⟩
 ·rw [storedH_new e1]; exact h.snoc h1 h2
 ·rw [hn] at e2; cases e2
/-- the longest key by its first sign -/
noncomputable def LonIs (f : Int → Option Value) (lon : Int → Nat) : Prop := ∀ i, (f i = none ∧ lon i = 0) ∨ ∃ t, f i = some (.int (lon i) t)
/-- what stands as the table -/
structure TableIs (z : Fz) (rows : Rows) (lon : Int → Nat) (v : Value) : Prop where
 ex : ∃ x dx T G xs u1 u2 mG f, v = .ref x ∧ z x = some (.raw (instObj 629 dx)) ∧ z dx = some (.att [("bases", u1), ("factors", u2), ("longest", .ref G), ("table", .ref T)]) ∧ z T = some (.dT xs) ∧ (T == sysModules) = false ∧ RowsAt z rows xs ∧ z G = some (.dI f mG) ∧ (G == sysModules) = false ∧ LonIs f lon
theorem TableIs.mono {z z' : Fz} {rows lon v} (h : TableIs z rows lon v) (l : Le z z') : TableIs z' rows lon v := by
 obtain ⟨x, dx, T, G, xs, u1, u2, mG, f, e, h1, h2, h3, h4, h5, h6, r⟩ := h.ex
 exact ⟨x, dx, T, G, xs, u1, u2, mG, f, e, l _ _ h1, l _ _ h2, l _ _ h3, h4, h5.mono l, l _ _ h6, r⟩
/-- what a match gives back -/
noncomputable def MatchIs (z : Fz) (es : List El) (places : List Int) (on : Int) (v : Value) : Prop := ∃ x dx u1 u2 t, v = .ref x ∧ z x = some (.raw (instObj 523 dx)) ∧ z dx = some (.att [("onward", .int on t), ("places", u1), ("elements", u2)]) ∧ Vz z (eL eI places) u1 ∧ Vz z (eL eE es) u2
/-- the rows as the law makes them: keys of one sign or of two; the longest known -/
structure Good (rows : Rows) (lon : Int → Nat) : Prop where
 pair : ∀ c d, (look rows [c, d]).isSome = true → 2 ≤ lon c
 most : ∀ c, lon c ≤ 2
/-- how many signs are taken -/
noncomputable def many2 (rows : Rows) (c : Int) : List Int → Nat
 | [] => 1
 | d :: _ => if (look rows [c, d]).isSome = true then 2 else 1
noncomputable def many (rows : Rows) : List Int → Nat
 | [] => 1
 | c :: r => many2 rows c r
section
variable {prog : Program} {w : World} {K : Frag} {A : Around} {z : Fz} {n : Led}
theorem vz_tup {ks : List Int} {a : Addr} {vs : List Value} (hz : z a = some (.tup vs)) (h : All2 (fun i v => Vz z (eI i) v) ks vs) : Vz z (.tuple (ks.map .int)) (.ref a) := by
 exact ⟨a, vs, rfl, hz, vzAll_iff.mpr (All2.map.mpr h)⟩
theorem fromI_mem {a : Int} {k : Nat} {p : Int} (h : p ∈ fromI a k) : ∃ j, j < k ∧ p = a + (j : Int) := by
 unfold fromI at h
 refine oEA (List.mem_map.mp h) fun j hj e0_ => ?_
 subst e0_
 exact ⟨j, List.mem_range.mp hj, rfl⟩
theorem getD_get {xs : List Int} {i : Nat} (h : i < xs.length) : xs[i]? = some (xs.getD i 0) := by
 rw [List.getD_eq_getElem?_getD, List.getElem?_eq_getElem h]; rfl
theorem fromI_map {xs : List Int} {a s : Nat} (h : a + s ≤ xs.length) : (fromI (a : Int) s).map (fun p => xs.getD p.toNat 0) = (xs.drop a).take s := by
 unfold fromI
 rw [List.map_map]
 refine List.ext_getElem? fun i => ?_
 by_cases hi : i < s
 ·rw [List.getElem?_map, List.getElem?_range hi, List.getElem?_take_of_lt hi, List.getElem?_drop]
  show some (xs.getD ((a : Int) + (i : Int)).toNat 0) = _
  rw [show ((a : Int) + (i : Int)).toNat = a + i by exact rfl, ← getD_get (by (first | lia | omega))]
 ·rw [List.getElem?_eq_none (by rw [List.length_map, List.length_range]; exact (Nat.le_of_not_lt hi)), List.getElem?_eq_none (by rw [List.length_take]; exact Nat.le_trans (Nat.min_le_left _ _) (Nat.le_of_not_lt hi))]
theorem fromI_last {a s : Nat} (h : 0 < s) : (fromI (a : Int) s).getLast? = some ((a + s - 1 : Nat) : Int) := by
 unfold fromI
 rw [List.getLast?_map, List.getLast?_range, if_neg (by (first | lia | omega))]
 show some ((a : Int) + ((s - 1 : Nat) : Int)) = _
 congr 1
 (first | lia | omega)
theorem item_Vlast {α : Type} {e : α → PyData} {xs : List α} {v : Value} {k : Int} {t : Tok} {y : α} {Q : KV} (h : Vz z (eL e xs) v) (hy : xs.getLast? = some y) (hk : k = -1) (hl : xs.length ≤ 1000000) (q : ∀ u, Vz z (e y) u → Q u z n) : itemE prog w K A v (.int k t) z n Q := by
 refine oEEAA (vzL.mp h) fun a vs e0_ hz hall => ?_
 subst e0_
 obtain ⟨ys, rfl⟩ := List.getLast?_eq_some_iff.mp hy
 refine oEEAA hall.snoc_inv fun ws u e0_ h1 h2 => ?_
 subst e0_
 exact item_last (.inl hz) hk (by have := hall.len; simp at this hl; exact Nat.le_trans (Nat.le_trans (Nat.le_of_eq this) hl) (Nat.le_of_ble_eq_true rfl)) (q u h2)
/-- an object and its dict, frozen behind a call -/
theorem W.post_fz2 {α : Type} {t : Sem α} {Q : α → Fz → Led → Prop} (h : W prog w K A t z n fun v z' n' => ∃ a lo b lo2 n2, n' = (a, lo) :: (b, lo2) :: n2 ∧ ∀ z2, Le z' z2 → z2 a = some lo → z2 b = some lo2 → Q v z2 n2) : W prog w K A t z n Q := fun E s hs =>
 W.runk hs (h.mono fun v z' n' u_ hq s' st => by
  refine oEEE hq fun a lo b h_ => oEEA h_ fun lo2 n2 e q => ?_
  clear hq
  subst e
  have st1 := st.freeze
  have hb : fset z' a lo b = none := st1.st.off b (.head _)
  exact ⟨_, _, st1.freeze, q _ ((Le.fset (st.st.off a (.head _))).trans (Le.fset hb)) (Le.fset hb _ _ fset_self) fset_self⟩)
theorem notin_of_in {a b : Value} {c : Bool} {Q : KV} (h : W prog w K A (compareOp .In a b) z n fun v z' n' => v = .bool c ∧ Q (.bool (!c)) z' n') : W prog w K A (compareOp .NotIn a b) z n Q := fun E s hs Γ p hΓ => by
 have := h E s hs Γ p hΓ
 have e1 : compareOp .In a b = (contains b a >>= fun t => pure (Value.bool t)) := rfl
 have e2 : compareOp .NotIn a b = (contains b a >>= fun t => pure (Value.bool (!t))) := rfl
 rw [e1, Sem.wp_bind'] at this
 rw [e2, Sem.wp_bind']
 refine Sem.wp_mono _ Γ _ (fun t p' s' h' => ?_) (fun u_ u_ u_ h' => h') p s this
 rw [Sem.wp_pure'] at h' ⊢
 refine oEEAA h' fun z' n' st e q => ?_
 clear h'
 cases e
 exact ⟨z', n', st, q⟩
end
section
variable {prog : Program} {w : World} {K : Frag} {A : Around} {z : Fz} {n : Led} {α : Type} {e : α → PyData} {xs : List α} {v : Value}
theorem slice_V {l u st : Value} {lo hi s3 : Option Int} {Q : KV} (h : Vz z (eL e xs) v) (pl : IsPart l lo) (pu : IsPart u hi) (ps : IsPart st s3) (h0 : s3 ≠ some 0) (hl : xs.length ≤ 1000000) (f : List α → List α)
  (hf : ∀ vs : List Value, All2 (fun x v => Vz z (e x) v) xs vs → All2 (fun x v => Vz z (e x) v) (f xs) (slicePick vs.toArray lo hi s3).toList) (q : ∀ z' u, Le z z' → Vz z' (eL e (f xs)) u → Q u z' n) : sliceE prog w K A v l u st z n Q := by
 refine oEEAA (vzL.mp h) fun a vs e0_ hz hall => ?_
 subst e0_
 refine slice_lst (.inl hz) pl pu ps h0 (by have := hall.len; exact Nat.le_trans (Nat.le_trans (Nat.le_of_eq this) hl) (Nat.le_of_ble_eq_true rfl)) fun i hi' => .inr fun D hD => q _ _ ((Le.fset hi').trans (Le.fset hD)) (vzL.mpr ⟨D, _, rfl, fset_self, ?_⟩)
 exact (hf vs hall).vmono ((Le.fset hi').trans (Le.fset hD))
theorem part_nat {b : Nat} {k : Int} {t : Tok} (hk : k = (b : Nat)) : IsPart (.int k t) (some (b : Int)) := by subst hk; exact .int _ _
theorem slice_upto {b : Nat} {k : Int} {t : Tok} {Q : KV} (h : Vz z (eL e xs) v) (hk : k = (b : Nat)) (hl : xs.length ≤ 1000000) (q : ∀ z' u, Le z z' → Vz z' (eL e (xs.take b)) u → Q u z' n) : sliceE prog w K A v .none (.int k t) .none z n Q :=
 slice_V h .none (part_nat hk) .none (by simp) hl (fun xs => xs.take b) (fun vs hv => by rw [pick_upto']; exact hv.take b) q
theorem slice_from {b : Nat} {k : Int} {t : Tok} {Q : KV} (h : Vz z (eL e xs) v) (hk : k = (b : Nat)) (hl : xs.length ≤ 1000000) (q : ∀ z' u, Le z z' → Vz z' (eL e (xs.drop b)) u → Q u z' n) : sliceE prog w K A v (.int k t) .none .none z n Q :=
 slice_V h (part_nat hk) .none .none (by simp) hl (fun xs => xs.drop b) (fun vs hv => by rw [pick_from']; exact hv.drop b) q
theorem slice_cut {a b : Nat} {i k : Int} {t u : Tok} {Q : KV} (h : Vz z (eL e xs) v) (hi : i = (a : Nat)) (hk : k = (b : Nat)) (hl : xs.length ≤ 1000000) (q : ∀ z' u, Le z z' → Vz z' (eL e ((xs.drop a).take (b - a))) u → Q u z' n) : sliceE prog w K A v (.int i t) (.int k u) .none z n Q :=
 slice_V h (part_nat hi) (part_nat hk) .none (by simp) hl (fun xs => (xs.drop a).take (b - a)) (fun vs hv => by rw [pick_cut]; exact (hv.drop a).take _) q
theorem slice_rev {k : Int} {t : Tok} {Q : KV} (h : Vz z (eL e xs) v) (hk : k = -1) (hl : xs.length ≤ 1000000) (q : ∀ z' u, Le z z' → Vz z' (eL e xs.reverse) u → Q u z' n) : sliceE prog w K A v .none .none (.int k t) z n Q :=
 slice_V h .none .none (by subst hk; exact .int _ _) (by simp) hl (fun xs => xs.reverse) (fun vs hv => by rw [pick_rev]; exact hv.reverse) q
end
theorem fromI_take {a : Int} {k b : Nat} : (fromI a k).take b = fromI a (min b k) := by
 unfold fromI
 rw [← List.map_take, List.take_range]
/-! how many signs are taken -/
section
variable {rows : Rows} {lon : Int → Nat} {xs : List Int} {a : Nat}
theorem many_cases (rows : Rows) (c d : Int) (r : List Int) : ((look rows [c, d]).isSome = true ∧ many rows (c :: d :: r) = 2) ∨ (¬ (look rows [c, d]).isSome = true ∧ many rows (c :: d :: r) = 1) := by
 by_cases h : (look rows [c, d]).isSome = true
 ·exact .inl ⟨h, if_pos h⟩
 ·exact .inr ⟨h, if_neg h⟩
theorem many_le (rows : Rows) : ∀ (xs : List Int), xs ≠ [] → 1 ≤ many rows xs ∧ many rows xs ≤ 2 ∧ many rows xs ≤ xs.length
 | [], h => absurd rfl h
 | [c], _ => ⟨Nat.le_refl 1, (Nat.le_succ 1), Nat.le_refl 1⟩
 | c :: d :: r, _ => by
  rw [List.length_cons, List.length_cons]
  rcases many_cases rows c d r with ⟨_, e⟩ | ⟨_, e⟩ <;> rw [e] <;> (first | lia | omega)
theorem many_key (rows : Rows) : ∀ (xs : List Int), (∀ c ∈ xs, (look rows [c]).isSome = true) → xs ≠ [] → (look rows (xs.take (many rows xs))).isSome = true
 | [], _, h => absurd rfl h
 | [c], hs, _ => hs c (.head _)
 | c :: d :: r, hs, _ => by
  rcases many_cases rows c d r with ⟨h, e⟩ | ⟨_, e⟩ <;> rw [e]
  ·exact h
  ·exact hs c (.head _)
theorem many_two (rows : Rows) : ∀ (xs : List Int), 2 ≤ xs.length → (look rows (xs.take 2)).isSome = true → many rows xs = 2
 | [], h, _ => by simp at h
 | [c], h, _ => by simp at h
 | c :: d :: r, _, h => if_pos h
theorem many_lon (g : Good rows lon) : ∀ {xs : List Int} {c : Int}, xs.head? = some c → many rows xs ≤ max 1 (lon c)
 | [], _, h => by cases h
 | [c], d, _ => by show 1 ≤ _; (first | lia | omega)
 | c :: d :: r, x, h => by
  cases h
  rcases many_cases rows c d r with ⟨h, e⟩ | ⟨_, e⟩ <;> rw [e]
  ·have := g.pair _ _ h; (first | lia | omega)
  ·(first | lia | omega)
end
section
variable {prog : Program} {w : World} {K : Frag} {A : Around} {z : Fz} {n : Led} {rows : Rows} {lon : Int → Nat} {v : Value}
theorem T_in {Q : KV} (hA : Room A 0) {T : Addr} {xs} (hT : z T = some (.dT xs)) (hs : (T == sysModules) = false) (hr : RowsAt z rows xs) {ks : List Int} {a : Addr} (ha : Vz z (.tuple (ks.map .int)) (.ref a)) (q : Q (.bool (look rows ks).isSome) z n) : W prog w K A (compareOp .In (.ref a) (.ref T)) z n Q :=
 inT hA (.inl (.inl hT)) hr.keys hs ha (by rw [hr.some]; exact q)
theorem T_item {Q : KV} (hA : Room A 0) {T : Addr} {xs} (hT : z T = some (.dT xs)) (hr : RowsAt z rows xs) {ks : List Int} {a : Addr} (ha : Vz z (.tuple (ks.map .int)) (.ref a)) {es : List El} (he : look rows ks = some es) (q : ∀ u, Vz z (eL eE es) u → Q u z n) : itemE prog w K A (.ref T) (.ref a) z n Q := by
 rcases hr.find (ks := ks) with ⟨_, e2⟩ | ⟨p, es', e1, e2, h⟩
 ·rw [he] at e2; cases e2
 ·rw [he] at e2; cases e2
  exact itemT hA (.inl (.inl hT)) hr.keys ha e1 (q _ h)
end
/-- the groups of a text: elements, first place, the place behind -/
abbrev Gr := List El × Int × Int
noncomputable def groups (rows : Rows) : Nat → List Int → List Gr
 | _, [] => []
 | a, [c] => [((look rows [c]).getD [], (a : Int), ((a + 1 : Nat) : Int))]
 | a, c :: d :: r => if (look rows [c, d]).isSome = true then ((look rows [c, d]).getD [], (a : Int), ((a + 2 : Nat) : Int)) :: groups rows (a + 2) r else ((look rows [c]).getD [], (a : Int), ((a + 1 : Nat) : Int)) :: groups rows (a + 1) (d :: r)
theorem groups_c {rows : Rows} {a : Nat} {c d r} : groups rows a (c :: d :: r) = if (look rows [c, d]).isSome = true then ((look rows [c, d]).getD [], (a : Int), ((a + 2 : Nat) : Int)) :: groups rows (a + 2) r else ((look rows [c]).getD [], (a : Int), ((a + 1 : Nat) : Int)) :: groups rows (a + 1) (d :: r) := rfl
theorem groups_eq (rows : Rows) (a : Nat) : ∀ (xs : List Int), xs ≠ [] → groups rows a xs = ((look rows (xs.take (many rows xs))).getD [], (a : Int), ((a + many rows xs : Nat) : Int)) :: groups rows (a + many rows xs) (xs.drop (many rows xs))
 | [], h => absurd rfl h
 | [c], _ => rfl
 | c :: d :: r, _ => by
  rw [groups_c]
  rcases many_cases rows c d r with ⟨h, e⟩ | ⟨h, e⟩
  ·rw [if_pos h, e]; rfl
  ·rw [if_neg h, e]; rfl
noncomputable def eG : Gr → PyData := eT (eL eE) eI eI
/-- a text's elements -/
noncomputable def elems (rows : Rows) (xs : List Int) : List El := (groups rows 0 xs).flatMap (·.1)
section
variable {prog : Program} {w : World} {K : Frag} {A : Around} {z : Fz} {n : Led}
theorem fold_repl (v : Value) : ∀ (k : Nat) (acc : Array Value), List.foldl (fun x1 x2 => x1 ++ x2) acc (List.replicate k #[v]) = acc ++ (List.replicate k v).toArray
 | 0, acc => by simp
 | k + 1, acc => by
  rw [List.replicate_succ, List.foldl_cons, fold_repl v k, List.replicate_succ, Array.append_assoc]
  congr 1
  apply Array.ext'
  simp
theorem mulL_W {a : Addr} {v : Value} {k : Nat} {i : Int} {t : Tok} {Q : KV} (h : Hs z n a (.lst [v])) (hi : i = (k : Nat)) (hk : k ≤ 1000) (q : newL (List.replicate k v) z n Q) : W prog w K A (binaryOp .Mult (.ref a) (.int i t)) z n Q := fun E s hs => by
 obtain ⟨m, ho⟩ := h.obj hs
 subst hi
 have hn : ((k : Nat) : Int).toNat = k := rfl
 refine wpAny_binaryOp_repeat_ref (T := "list") (U := "int") (by decide) ⟨_, ho, rfl⟩ (fun s' => typeIs_int s' _ t) noFill_list_mul F.fills_int_mul F.slot_int_rmul repeat_list F.slot_int_index.lookup ?_
 refine call_meets F.slot_int_rmul (typeIs_int s _ t) F.entry_int_rmul (F.args_int_rmul_2 _ _) (int___rmul___int_list _ t a _ m) ⟨ho, rfl, ⟨_, ho, rfl⟩, ?_⟩
 refine call_meets F.slot_list_mul ⟨_, ho, rfl⟩ F.entry_list_mul (F.args_list_mul_2 _ _) (AutoListH.list___mul___list_int_3 a _ m _ t ?_ ?_ ?_) ⟨ho, ?_⟩
 ·unfold Builtin.List.listFitsIndex
  rw [show (decide (-(2 ^ 63 : Int) ≤ (k : Int))) = true from decide_eq_true (by exact Int.natCast_nonneg _), show (decide ((k : Int) < 2 ^ 63)) = true from decide_eq_true (by (first | lia | omega))]
  decide
 ·rw [hn]; simp; exact Nat.le_trans hk (Nat.le_of_ble_eq_true rfl)
 ·rw [hn]
  unfold Builtin.List.listTooLong
  rw [sizeLine_eq]
  simp
  exact Nat.le_trans hk (Nat.le_of_ble_eq_true rfl)
 ·have := q.out (tk := s.toks) hs
  rw [show (if ([v].toArray).isEmpty = true then 0 else ((k : Nat) : Int).toNat) = k from rfl, show [v].toArray = #[v] from rfl, fold_repl]
  simpa using this
end
theorem eL_map {α β : Type} {e : β → PyData} {f : α → β} {xs : List α} {z : Fz} {v : Value} : Vz z (eL e (xs.map f)) v ↔ Vz z (eL (fun x => e (f x)) xs) v := by
 unfold eL
 rw [List.map_map]
 exact Iff.rfl
theorem iterV_rng {prog : Program} {w : World} {K : Frag} {A : Around} {z : Fz} (hh : A.handled = none) {r : Addr} {a b : Int} {t u v : Tok} {k : Nat} (hz : z r = some (.raw (rangeO a b t u v))) (hs1 : -1000000 < a) (hs2 : a < 1000000) (hs3 : -1000000 < b) (hs4 : b < 1000000) (hk : (b - a).toNat = k) {target : PySem.Expr} :
  IterV prog w K A target (.ref r) [] eI (fromI a k) z := hk ▸ iterV_range hh hz (by (first | lia | omega)) (by (first | lia | omega)) (by (first | lia | omega)) (by (first | lia | omega))
/-- every row's elements are two at most -/
noncomputable def Short (rows : Rows) : Prop := ∀ ks es, look rows ks = some es → es.length ≤ 2
theorem groups_short {rows : Rows} (h : Short rows) : ∀ (a : Nat) (xs : List Int), (groups rows a xs).length ≤ xs.length ∧ ∀ g ∈ groups rows a xs, g.1.length ≤ 2
 | _, [] => ⟨Nat.le_refl _, fun u_ h => nomatch h⟩
 | a, [c] => ⟨Nat.le_refl 1, fun g hg => by
  rw [List.mem_singleton.mp hg]
  show ((look rows [c]).getD []).length ≤ 2
  cases e : look rows [c] with
  | none => exact Nat.zero_le _
  | some es => exact h _ _ e⟩
 | a, c :: d :: r => by
  have aux : ∀ ks, ((look rows ks).getD []).length ≤ 2 := fun ks => by
   cases e : look rows ks with
   | none => exact Nat.zero_le _
   | some es => exact h _ _ e
  rw [groups_c]
  split
  ·obtain ⟨h1, h2⟩ := groups_short h (a + 2) r
   refine ⟨by rw [List.length_cons, List.length_cons, List.length_cons]; exact Nat.succ_le_succ (Nat.le_trans h1 (Nat.le_add_right _ _)), fun g hg => ?_⟩
   rcases List.mem_cons.mp hg with rfl | hg
   ·exact aux _
   ·exact h2 g hg
  ·obtain ⟨h1, h2⟩ := groups_short h (a + 1) (d :: r)
   refine ⟨by rw [List.length_cons, List.length_cons]; exact Nat.succ_le_succ h1, fun g hg => ?_⟩
   rcases List.mem_cons.mp hg with rfl | hg
   ·exact aux _
   ·exact h2 g hg
theorem flat_len {gs : List Gr} (h : ∀ g ∈ gs, g.1.length ≤ 2) : (gs.flatMap (·.1)).length ≤ 2 * gs.length := by
 induction gs with
 | nil => exact Nat.le_refl _
 | cons g r ih =>
  have := ih fun x hx => h x (.tail _ hx)
  have := h g (.head _)
  rw [List.flatMap_cons, List.length_append, List.length_cons]
  (first | lia | omega)
theorem elems_len {rows : Rows} (h : Short rows) (xs : List Int) : (elems rows xs).length ≤ 2 * xs.length := by
 obtain ⟨h1, h2⟩ := groups_short h 0 xs
 have := flat_len h2
 unfold elems
 (first | lia | omega)
/-- a weight out of an element -/
noncomputable def wt (x : El) : Wt := (x.1, x.2.1, x.2.2, if 0 < x.1 + x.2.1 + x.2.2 then 65535 else 0)
/-- an element's number at a level -/
noncomputable def lv (i : Nat) (x : El) : Int := if i = 0 then x.1 else if i = 1 then x.2.1 else x.2.2
/-- what is told of elements, level by level -/
noncomputable def told (s : Nat) (es : List El) : List (List Int) := (List.range s).map fun i => (es.map (lv i)).filter fun v => !decide (v = 0)
theorem vzW_at {z : Fz} {x : El} {v : Value} {i : Nat} (h : Vz z (eW (wt x)) v) (hi : i < 3) : ∃ a vs u, v = .ref a ∧ z a = some (.tup vs) ∧ vs.length = 4 ∧ vs[i]? = some u ∧ Vz z (eI (lv i x)) u := by
 refine oEEE (vzW.mp h) fun a t1 t2 h_ => oEEA h_ fun t3 t4 e0_ hz => ?_
 subst e0_
 match i, hi with
 | 0, _ => exact ⟨a, _, _, rfl, hz, rfl, rfl, vzI.mpr ⟨t1, rfl⟩⟩
 | 1, _ => exact ⟨a, _, _, rfl, hz, rfl, rfl, vzI.mpr ⟨t2, rfl⟩⟩
 | 2, _ => exact ⟨a, _, _, rfl, hz, rfl, rfl, vzI.mpr ⟨t3, rfl⟩⟩
theorem vzE_at {z : Fz} {x : El} {v : Value} {i : Nat} (h : Vz z (eE x) v) (hi : i < 3) : ∃ a vs u, v = .ref a ∧ z a = some (.tup vs) ∧ vs.length = 4 ∧ vs[i]? = some u ∧ Vz z (eI (lv i x)) u := by
 refine oEEE (vzE.mp h) fun a t1 t2 h_ => oEA h_ fun t3 e0_ hz => ?_
 subst e0_
 match i, hi with
 | 0, _ => exact ⟨a, _, _, rfl, hz, rfl, rfl, vzI.mpr ⟨t1, rfl⟩⟩
 | 1, _ => exact ⟨a, _, _, rfl, hz, rfl, rfl, vzI.mpr ⟨t2, rfl⟩⟩
 | 2, _ => exact ⟨a, _, _, rfl, hz, rfl, rfl, vzI.mpr ⟨t3, rfl⟩⟩
/-- places apart -/
noncomputable def apartF : Int → List (Int × Int) → List (Int × Int)
 | _, [] => []
 | r, p :: t => if r ≤ p.1 then p :: apartF p.2 t else apartF r t
theorem apartF_c {a : Int} {p t} : apartF a (p :: t) = if a ≤ p.1 then p :: apartF p.2 t else apartF a t := rfl
/-- groups that follow one another -/
noncomputable def Ch : Int → List Gr → Prop
 | _, [] => True
 | a, g :: r => g.2.1 = a ∧ a ≤ g.2.2 ∧ Ch g.2.2 r
theorem groups_ch (rows : Rows) : ∀ (a : Nat) (xs : List Int), Ch (a : Nat) (groups rows a xs)
 | _, [] => trivial
 | a, [c] => ⟨rfl, by show (a : Int) ≤ ((a + 1 : Nat) : Int); exact Int.ofNat_le.mpr (Nat.le_add_right _ _), trivial⟩
 | a, c :: d :: r => by
  rw [groups_c]
  split
  ·exact ⟨rfl, by show (a : Int) ≤ ((a + 2 : Nat) : Int); exact Int.ofNat_le.mpr (Nat.le_add_right _ _), groups_ch rows (a + 2) r⟩
  ·exact ⟨rfl, by show (a : Int) ≤ ((a + 1 : Nat) : Int); exact Int.ofNat_le.mpr (Nat.le_add_right _ _), groups_ch rows (a + 1) (d :: r)⟩
theorem Ch.mid : ∀ {l : List Gr} {a : Int} {x : Gr} {r : List Gr}, Ch a (l ++ x :: r) → x.2.1 ≤ x.2.2 ∧ Ch x.2.2 r ∧ (l = [] → x.2.1 = a) ∧ (∀ y, l.getLast? = some y → x.2.1 = y.2.2)
 | [], a, x, r, h => ⟨by rw [h.1]; exact h.2.1, h.2.2, fun u_ => h.1, fun y e => by cases e⟩
 | [g], a, x, r, h => by
  refine oAAA (Ch.mid (l := []) h.2.2) fun h1 h2 h3 h4 => ?_
  exact ⟨h1, h2, fun e => (nomatch e), fun y e => by cases e; exact h3 rfl⟩
 | g :: g' :: l, a, x, r, h => by
  refine oAAA (Ch.mid (l := g' :: l) h.2.2) fun h1 h2 h3 h4 => ?_
  exact ⟨h1, h2, fun e => (nomatch e), fun y e => h4 y (by rw [List.getLast?_cons_cons] at e; exact e)⟩
theorem enumI_cut {α : Type} {xs : List α} {pre post : List (Int × α)} {i : Int} {x : α} (h : enumI xs = pre ++ (i, x) :: post) : i = (pre.length : Nat) ∧ xs[pre.length]? = some x ∧ xs = pre.map (·.2) ++ x :: post.map (·.2) := by
 have h1 : (enumI xs)[pre.length]? = some (i, x) := by rw [h]; simp
 rw [enumI_get] at h1
 refine oEA (Option.map_eq_some_iff.mp h1) fun y hy e => ?_
 cases e
 refine ⟨rfl, hy, ?_⟩
 have h2 : (enumI xs).map (·.2) = xs := by
  unfold enumI
  rw [List.map_map]
  exact List.ext_getElem? fun i => by
   rw [List.getElem?_map, List.getElem?_zipIdx]
   cases xs[i]? <;> rfl
 rw [← h2, h, List.map_append, List.map_cons]
section
variable {prog : Program} {w : World} {K : Frag} {A : Around} {z : Fz} {n : Led} {α : Type} {e : α → PyData}
end
/-- a piece: first place, the place behind, what is told level by level -/
abbrev Pc := Int × Int × List (List Int)
noncomputable def PieceIs (z : Fz) (p : Pc) (v : Value) : Prop := ∃ x dx u t1 t2, v = .ref x ∧ z x = some (.raw (instObj 160 dx)) ∧ z dx = some (.att [("levels", u), ("behind", .int p.2.1 t2), ("first", .int p.1 t1)]) ∧ Vz z (eL (eL eI) p.2.2) u
theorem PieceIs.up {z z' : Fz} {p : Pc} {v : Value} (h : PieceIs z p v) (l : Le z z') : PieceIs z' p v := by
 refine oEE h fun x dx h_ => oEEEAAA h_ fun u t1 t2 e h1 h2 h3 => ?_
 clear h
 exact ⟨x, dx, u, t1, t2, e, l _ _ h1, l _ _ h2, h3.up l⟩
noncomputable def PiecesIs (z : Fz) (ps : List Pc) (v : Value) : Prop := ∃ a vs, v = .ref a ∧ z a = some (.lst vs) ∧ All2 (fun p v => PieceIs z p v) ps vs
theorem PiecesIs.up {z z' : Fz} {ps : List Pc} {v : Value} (h : PiecesIs z ps v) (l : Le z z') : PiecesIs z' ps v := by
 refine oEEAA h fun a vs e h1 h2 => ?_
 clear h
 exact ⟨a, vs, e, l _ _ h1, h2.mono fun u_ u_ r => r.up l⟩
section
variable {prog : Program} {w : World} {K : Frag} {A : Around} {z : Fz} {n : Led} {ps : List Pc} {v : Value}
theorem item_P {i : Nat} {k : Int} {t : Tok} {y : Pc} {Q : KV} (h : PiecesIs z ps v) (hk : k = (i : Nat)) (hy : ps[i]? = some y) (hl : ps.length ≤ 1000000) (q : ∀ u, PieceIs z y u → Q u z n) : itemE prog w K A v (.int k t) z n Q := by
 refine oEEAA h fun a vs e0_ hz hall => ?_
 clear h
 subst e0_
 refine oEA (hall.get hy) fun u hu hv => ?_
 exact item_at (.inl hz) hk hu (by have := hall.len; exact Nat.le_trans (Nat.le_trans (Nat.le_of_eq this) hl) (Nat.le_of_ble_eq_true rfl)) (q u hv)
theorem len_P {Q : KV} (h : PiecesIs z ps v) (hl : ps.length ≤ 1000000) (q : ∀ t, Q (.int ps.length t) z n) : callE prog w K A (.builtin "len") [v] z n Q := by
 refine oEEAA h fun a vs e0_ hz hall => ?_
 clear h
 subst e0_
 exact callE_b (len_W (.inl hz) (by have := hall.len; exact Nat.lt_of_le_of_lt (Nat.le_trans (Nat.le_of_eq this) hl) (Nat.le_of_ble_eq_true rfl)) fun t => by rw [hall.len]; exact q t)
end
noncomputable def pcOf (s : Nat) (g : Gr) : Pc := (g.2.1, g.2.2, told s g.1)
/-- the pieces of a text -/
noncomputable def piecesF (rows : Rows) (s : Nat) (xs : List Int) : List Pc := (groups rows 0 xs).map (pcOf s)
theorem flat_cut {gs pre post : List Gr} {g : Gr} (h : gs = pre ++ g :: post) : ((gs.flatMap (·.1)).drop (pre.flatMap (·.1)).length).take g.1.length = g.1 := by
 rw [h, List.flatMap_append, List.flatMap_cons, List.drop_left, List.take_left]
section
variable {prog : Program} {w : World} {K : Frag} {A : Around} {z z' : Fz} {n n' : Led} {s : Shared} {E : Value → Shared → Prop}
/-- the table turned by its one code -/
theorem Step.lay (hs : St prog w K z n s) {c' : Addr} {oc : Obj} {h' : Heap} {tk : Nat} (hx : ∀ b o, b ≠ tb → s.heap.get? b = some o → h'.get? b = some o) (hge : s.heap.get? c' = none) (hoc : h'.get? c' = some oc)
  (htb : h'.get? tb = some (tabObj #[rawInt 366, rawInt 53, .ref c'])) (hrec : h'.CodeRec (.ref c') "form_sorted.<locals>.<lambda>") :
  Step prog w K z n s (fset z c' (.raw oc)) n { s with heap := h', toks := tk } := by
 have hz : z c' = none := hs.off' hge
 have hne : c' ≠ tb := fun e => by
  have := hs.tblt
  rcases hs.tab with q | ⟨_, _, q, _⟩ <;> rw [e, q] at hge <;> cases hge
 refine ⟨⟨_, _, rfl⟩, fun a o u_ ht e => hx a o ht e, fun a lo e => Le.fset hz _ _ e, fun a o e u_ => fset_ne fun q => (by rw [q, hge] at e; cases e), fun a ha => .inl ha, ?_⟩
 refine ⟨fun b lo e => ?_, fun p hp => ?_, fun a ha => ?_, ?_, ?_, hs.ntb, .inr ⟨c', oc, htb, fset_self, hrec⟩, hs.base.mono (Le.fset hz)⟩
 ·by_cases q : b = c'
  ·subst q
   rw [fset_self] at e
   cases e
   exact ⟨oc, hoc, rfl⟩
  ·rw [fset_ne q] at e
   exact (hs.frz b lo e).kept fun o' e' => hx b o' (fun q => by rw [q, hs.ztb] at e; cases e) e'
 ·exact (hs.led p hp).kept fun o' e' => hx _ o' (fun q => hs.ntb (by rw [← q]; exact List.mem_map_of_mem hp)) e'
 ·obtain ⟨o, e⟩ := hs.has ha
  rw [fset_ne (fun q => by rw [q, hge] at e; cases e)]
  exact hs.off a ha
 ·exact hs.nodup
 ·rw [fset_ne (Ne.symm hne)]; exact hs.ztb
theorem mkfn_W {env : Env} {c : Addr} {params : Arguments} {body : PySem.Expr} {scope : Scope} {pos : Pos} {name : Str} {firstLine : Nat} {clos : List (Str × Addr)} (hge : env.globals = mainGlobals) (hcode : env.code = .ref c) (hC : ∀ h : Heap, K.In h → CodeHd h c tb) (hp1 : pos.line = 366) (hp2 : pos.col = 53)
  (hcl : closureFor scope env = pure clos) {Q : KV} (q : ∀ f z', Le z z' → Q (.ref f) z' n) : W prog w K A (makeFunction name "form_sorted.<locals>.<lambda>" params (.expr body) scope env [] [] [] pos firstLine) z n Q := fun E s hs => by
 refine oEA hs.boot fun mg hg hb => ?_
 rcases hs.tab with htb | ⟨c0, o0, htb, hz0, hrec0⟩
 ·refine kla_makeFunction hcl hge hg hcode (hC _ hs.fragIn) htb trivial rfl (by decide) hb fun c' ctv h' tk hx hge' hlt hrec htb' => ?_
  rw [hp1, hp2] at htb'
  refine Exists.elim (id hrec) fun c₂ h_ => oEEEAAA h_ fun oc vs t e2 hoc hd hv => ?_
  cases e2
  have hnone : s.heap.get? c' = none := by
   cases e : s.heap.get? c' with
   | none => rfl
   | some o => exact absurd (Heap.lt_size e) (Nat.not_lt.mpr hge')
  refine ⟨_, _, Step.lay hs (fun b o hb' e => Heap.get?_push_of_some _ (hx b o hb' e)) hnone (Heap.get?_push_of_some _ hoc) (Heap.get?_push_of_some _ htb') ⟨_, _, vs, t, rfl, Heap.get?_push_of_some _ hoc, hd, hv⟩, q _ _ (Le.fset (hs.off' hnone))⟩
 ·have hf : codeAmong pos (#[rawInt 366, rawInt 53, .ref c0] : Array Value).toList = some (.ref c0) := by
   show (if ((366 : Int) == (pos.line : Int) && (53 : Int) == (pos.col : Int)) = true then some (Value.ref c0) else _) = _
   rw [hp1, hp2]; rfl
  refine kla_makeFunctionHit hcl hge hg hcode (hC _ hs.fragIn) htb trivial hf hb fun ctv h' tk hx hsz => ?_
  exact ⟨_, _, Step.old hs fun a o e => Heap.get?_push_of_some _ (hx a o e), q _ _ (Le.refl _)⟩
theorem sorted_nil {c : Cx} {m : M} {l q : Addr} (hl : Hs z n l (.lst [])) {Q : KV} (h : newL [] z n Q) : VW prog w K A c (call (.builtin "sorted") [.ref l] [(Str.ofString "key", .ref q)]) m z n Q := fun E s hs => by
 have hl' : Hs z ((c.L, .ns c.sc c.g m) :: n) l (.lst []) := hl.imp id (.tail _)
 obtain ⟨oL, hoL, ⟨es, ep, hd, hk, hf⟩, r1, r2⟩ := hs.led _ (.head _)
 have hNs : s.heap.Ns c.L (nsFind es) := ⟨oL, es, ep, hoL, hd, hk, fun u_ => rfl⟩
 let h0 : Heap := { objs := #[], life := s.heap.life }
 have h00 : ∀ a, h0.get? a = none := fun a => by
  unfold Heap.get?
  simp [h0]
 have F : Fr h0 c.L s.heap (nsFind es) := ⟨hNs, fun b o e => (by rw [h00] at e; cases e), Nat.zero_le _⟩
 let news : List (Addr × Obj) := (List.range s.heap.objs.size).filterMap fun a => if a = c.L then none else (s.heap.get? a).map fun o => (a, o)
 have hnews : ∀ a o, a ≠ c.L → s.heap.get? a = some o → (a, o) ∈ news := fun a o ha e => by
  refine List.mem_filterMap.mpr ⟨a, List.mem_range.mpr (Heap.lt_size e), ?_⟩
  rw [if_neg ha, e]; rfl
 have N : News h0 c.L s.heap news := fun p hp => by
  refine oEA (List.mem_filterMap.mp hp) fun a u_ e => ?_
  by_cases ha : a = c.L
  ·rw [if_pos ha] at e; cases e
  ·rw [if_neg ha] at e
   refine oEA (Option.map_eq_some_iff.mp e) fun o e1 e2 => ?_
   subst e2
   exact ⟨e1, ha, h00 _⟩
 refine ksk_sorted (kz := []) (b := false) (vs := []) F N (hl'.isList hs) rfl (by decide) (ksk_s1 _ _) (fun x => ksk_l1 _ _) (fun x => ksk_t1 _ _) (fun i v k hv => by simp at hv) fun D h' tk out c' F' N' hlt ko => ?_
 refine oEAA ko fun ps hp ho u_ => ?_
 clear ko
 have hps : ps = [] := by simpa using hp
 subst hps
 have hout : out = #[] := by
  have : out.toList = [] := ho
  simpa using this
 subst hout
 have keep : ∀ a o, a ≠ c.L → s.heap.get? a = some o → h'.get? a = some o := fun a o ha e => (N' _ (.tail _ (hnews a o ha e))).1
 have hD := N' _ (.head _)
 have hDn : s.heap.get? D = none := by
  cases e : s.heap.get? D with
  | none => rfl
  | some o => exact absurd (hlt _ (hnews D o hD.2.1 e)) (Nat.lt_irrefl _)
 have nd := List.nodup_cons.mp hs.nodup
 have st : Step prog w K z ((c.L, .ns c.sc c.g m) :: n) s z ((D, .lst []) :: (c.L, .ns c.sc c.g m) :: n) { s with heap := h', toks := tk } := by
  refine Step.ext hs (fun a o ha e => keep a o (fun q => ha (q ▸ .head _)) e) (fun p hp => ?_) (fun a ha => ?_) ?_
  ·rcases List.mem_cons.mp hp with rfl | hp
   ·exact ⟨_, hD.1, rfl, rfl, rfl, c', rfl⟩
   ·rcases List.mem_cons.mp hp with rfl | hp
    ·refine oEEEAAA F'.ns fun o2 es2 ep2 e1 e2 e3 e4 => ?_
     exact ⟨o2, e1, ⟨es2, ep2, e2, e3, fun x v hx => (e4 x).trans (hf x v hx)⟩, r1, r2⟩
    ·exact (hs.led p (.tail _ hp)).kept fun o e => keep _ o (fun q => nd.1 (by rw [← q]; exact List.mem_map_of_mem (f := (·.1)) hp)) e
  ·rcases List.mem_cons.mp (show a ∈ D :: addrs ((c.L, Lo.ns c.sc c.g m) :: n) from ha) with rfl | ha
   ·exact .inr hDn
   ·exact .inl ha
  ·show (D :: addrs ((c.L, Lo.ns c.sc c.g m) :: n)).Nodup
   exact List.nodup_cons.mpr ⟨fun hm => (by obtain ⟨o, e⟩ := hs.has hm; rw [hDn] at e; cases e), hs.nodup⟩
 rcases h with h | h
 ·exact ⟨_, _, st.perm (List.Perm.swap ..), _, rfl, h D⟩
 ·exact ⟨_, _, st.freeze, _, rfl, h D (st.st.off D (.head _))⟩
variable {c : Cx} {m : M}
theorem lam_W (hE : CxOk prog w K A c) {cd : Addr} {params : Arguments} {body : PySem.Expr} {scope : Scope} {pos : Pos} {clos : List (Str × Addr)} (hcode : c.env.code = .ref cd) (hC : ∀ h : Heap, K.In h → CodeHd h cd tb) (hq : c.env.qual ++ "<lambda>" = "form_sorted.<locals>.<lambda>") (hd : params.defaults = []) (hkd : params.kw_defaults = []) (hp1 : pos.line = 366) (hp2 : pos.col = 53)
  (hcl : closureFor scope c.env = pure clos) {Q : KV} (q : ∀ f z', Le z z' → Q (.ref f) z' n) : VW prog w K A c (eval (.Lambda params body scope pos) c.env) m z n Q := by
 obtain ⟨a1, a2, a3, a4, a5, a6, a7⟩ := params
 simp only at hd hkd
 subst hd hkd
 have e : eval (.Lambda ⟨a1, a2, a3, a4, [], a6, []⟩ body scope pos) c.env = makeFunction "<lambda>" "form_sorted.<locals>.<lambda>" ⟨a1, a2, a3, a4, [], a6, []⟩ (.expr body) scope c.env [] [] [] pos pos.line := by
  rw [← hq]; rfl
 exact W.of_eq e (VW.leaf (mkfn_W hE.globals hcode hC hp1 hp2 hcl q))
theorem sortedKey_V (hE : CxOk prog w K A c) {cd : Addr} {params : Arguments} {body : PySem.Expr} {scope : Scope} {pos lp kp p1 p2 : Pos} {x : Str} {l : Addr} {clos : List (Str × Addr)} (hcode : c.env.code = .ref cd) (hC : ∀ h : Heap, K.In h → CodeHd h cd tb) (hq : c.env.qual ++ "<lambda>" = "form_sorted.<locals>.<lambda>") (hd : params.defaults = []) (hkd : params.kw_defaults = []) (hp1 : lp.line = 366) (hp2 : lp.col = 53)
  (hcl : closureFor scope c.env = pure clos) {Q : KV} (hname : ∀ Q' : KV, Q' (.builtin "sorted") z n → nameE c "sorted" m z n Q') (hx : ∀ Q' : KV, Q' (.ref l) z n → nameE c x m z n Q') (hl : z l = some (.lst [])) (q : ∀ z', Le z z' → newL [] z' n Q) :
  VW prog w K A c (eval (.Call (.Name "sorted" p1) [.Name x p2] [⟨some (Str.ofString "key"), .Lambda params body scope lp, kp⟩] pos) c.env) m z n Q := fun E s hs => by
 refine wpAny_Call_Name_kw (SW.seq (evE hE (e := .Name "sorted" p1) (Q := fun f z1 n1 => f = .builtin "sorted" ∧ z1 = z ∧ n1 = n) (hname _ ⟨rfl, rfl, rfl⟩)) hs fun f z1 n1 s1 st1 h_ => oAA h_ fun e1 e2 e3 => ?_)
 subst e1 e2 e3
 refine callWith_kw (SW.seq ((okXs hE [.Name x p2]).evs rfl pos (Q := fun vs z2 n2 => vs = [.ref l] ∧ z2 = z1 ∧ n2 = n1) (hx (fun v z2 n2 => [v] = [.ref l] ∧ z2 = z1 ∧ n2 = n1) ⟨rfl, rfl, rfl⟩)) st1.st fun vs z2 n2 s2 st2 h_ => oAA h_ fun e1 e2 e3 => ?_)
 subst e1 e2 e3
 refine kws_cons (SW.seq (lam_W hE hcode hC hq hd hkd hp1 hp2 hcl (Q := fun v z3 n3 => (∃ f, v = .ref f) ∧ Le z2 z3 ∧ n3 = n2) fun f z' l => ⟨⟨f, rfl⟩, l, rfl⟩) st2.st fun v z3 n3 s3 st3 ⟨⟨f, e1⟩, l3, e2⟩ => ?_)
 subst e1 e2
 refine kws_nil ?_
 exact W.runk st3.st (W.mono (sorted_nil (q := f) (.inl (l3 _ _ hl)) (q z3 l3)) fun v z4 n4 u_ r s4 st4 => ⟨z4, n4, ((st1.trans st2 hs.ztb).trans st3 hs.ztb).trans st4 hs.ztb, r⟩)
variable {elt target iter : PySem.Expr} {ifs : List PySem.Expr} {csc : Scope} {pos : Pos}
theorem comp_VW (hE : CxOk prog w K A c) (cl : List (Str × Addr)) (own : Option Str) (g : List (Str × Value)) (xs : List Str) {Q : KV}
  (hclos : closureFor csc c.env = pure cl) (hcf : ∀ p, cellsFrom p csc.names cl = ownCl own p cl) (hpc : ∀ h, pushCells h csc.names = ownH own h) (hcl : clOk csc (ownCl own 0 cl) = true) (hsc : scOk csc xs = true) (hg : GlobOk K csc g)
  (h : VW prog w K A c (eval iter c.env) m z n fun x z1 n1 => CompAsk prog w K A c.env elt target ifs csc cl own g xs x z1 n1 fun vs zN nN => newL vs zN nN Q)
  (hfs : ∀ x, foldedSetIterable iter c.env x = pure x := by intro _; rfl) : VW prog w K A c (eval (.ListComp elt [⟨target, iter, ifs, 0⟩] csc pos) c.env) m z n Q := by
 refine oAA (and3 hsc) fun hc hxs hkind => ?_
 have hc' := List.all_eq_true.mp hc
 have hx' := List.all_eq_true.mp hxs
 intro E s hs
 rw [eval_ListComp]
 refine W.runk hs (comp_W (own := own) (g := g) (xs := xs) (use := none) hE.handled [(c.L, .ns c.sc c.g m)] hE.globals hE.builtins hclos hcf hpc hcl (beq_iff_eq.mp hkind) (fun y hy e => ?_) (fun x hx => ?_) (relabel_glob hg) h (fun D vs zN nN q s' st => ?_) hfs)
 ·have := hc' y hy
  rw [e] at this
  simpa using this
 ·have := Bool.and_eq_true_iff.mp (hx' x hx)
  exact ⟨lookup_relabel (fun q => by cases q) (by simpa using this.1), by simpa using this.2⟩
 ·rcases q with q | q
  ·exact ⟨_, _, st.perm (List.Perm.swap ..), _, rfl, q D⟩
  ·exact ⟨_, _, st.freeze, _, rfl, q D (st.st.off D (.head _))⟩
end
section
variable {prog : Program} {w : World} {K : Frag} {A : Around} {z z' : Fz} {n n' : Led} {k : Nat}
theorem setItem_lst {a : Addr} {vs : List Value} {i : Nat} {j : Int} {t : Tok} {v : Value} (U : Up a (.lst vs) (.lst (vs.set i v)) n n') (hj : j = (i : Nat)) (hi : i < vs.length) (hl : vs.length ≤ 1000000) {Q : Fz → Led → Prop} (q : Q z n') : setItemE prog w K A (.ref a) (.int j t) v z n Q := fun E s hs => by
 obtain ⟨m, ho⟩ := Hs.obj (.inr U.mem) hs
 have hT : s.TypeIs (.ref a) "list" := ⟨_, ho, rfl⟩
 have hfit : Builtin.List.listFitsIndex j = true := fitsIndex_of (by (first | lia | omega)) (by (first | lia | omega))
 unfold setItem
 try with_reducible refine wpAny_holding ?_
 first | refine wpAny_bind (wpAny_pure ?_) | skip
 refine wpAny_bind (wpAny_sequenceKey hT (by decide) ?_)
 refine wpAny_bind (wpAny_callSpecial?_slot (name := Str.ofString "__setitem__") hT F.slot_list_setitem (wpAny_call_entry F.slot_list_setitem hT F.entry_list_setitem ?_ (F.args_list_setitem_3 _ _ _)))
 show wpAny _ _ (Builtin.List.listSubscript? (.int j t) >>= _) _ _ s
 refine wpAny_bind (wpAny_listSubscript_int hfit ?_)
 clear hfit
 obtain ⟨i', rfl⟩ := Int.eq_ofNat_of_zero_le (show 0 ≤ j by (first | lia | omega))
 obtain rfl : i' = i := by exact Nat.le_antisymm (Nat.le_of_eq (Int.ofNat.inj hj)) (Nat.le_of_eq (Int.ofNat.inj hj).symm)
 have hx : vs.toArray[i']? = some vs[i'] := by simp [hi]
 show wpAny _ _ ((seqItemAt a i' >>= fun r => pure (r.map (i', ·))) >>= _) _ _ s
 refine wpAny_bind (wpAny_bind (wpAny_seqItemAt ho rfl (wpAny_pure ?_)))
 rw [hx]
 show wpAny _ _ (setSeqItemAt a i' v >>= _) _ _ s
 have fin := upd_lst (tk := s.toks) hs U ho (f := (·.setIfInBounds i' v)) (by simp)
 refine wpAny_bind (wpAny_setSeqItemAt ho rfl ?_)
 exact wpAny_pure ⟨.none, rfl, wpAny_pure ⟨z, n', fin, q⟩⟩
theorem repr_W {a : Addr} {d : PyData} {T : Str} (hA : Room A 0) (h : Vz z d (.ref a)) (hs : d.showable = true) (hd : d.hasDict = false) (hk : d.depth < 100) (hT : d.shown = T) (hz : T.length ≤ 1000) {Q : KV} (q : ∀ u, Q (.str T u) z n) : W prog w K A (call (.builtin "repr") [.ref a] []) z n Q := fun E s hs' => by
 subst hT
 obtain ⟨as, ra⟩ := Vz.reads hs' _ _ h
 exact repr_of_reads' ra hs (fun x => by rw [hd] at x; cases x) hA.guards (by have := hA.units; (first | lia | omega)) (fun u_ u_ e => e) (fun h' u tk hk => ⟨z, n, Step.old hs' hk, q u⟩) (by rw [sizeLine_eq]; exact Nat.le_trans hz (Nat.le_of_ble_eq_true rfl))
/-! zip of two lists -/
theorem zip_W {l1 l2 : Addr} {xs ys : List Value} {Q : KV} (h1 : z l1 = some (.lst xs)) (h2 : z l2 = some (.lst ys)) (q : ∀ Z TI TO i1 i2, Q (.ref Z) z (zipL Z TI TO i1 i2 l1 l2 xs ys 0 ++ n)) : W prog w K A (call (.type "zip") [.ref l1, .ref l2] []) z n Q := fun E s hs => by
 refine call_zip_2 (isList_of (hs.frz l1 _ h1)) (isList_of (hs.frz l2 _ h2)) fun h' a1 a2 a3 a4 a5 a6 keep => ?_
 refine oEAA a4 fun o4 b4 c4 d4 => ?_
 clear a4
 refine oEAA a5 fun o5 b5 c5 d5 => ?_
 clear a5
 generalize hS : s.heap.objs.size = S at *
 have hf : ∀ a, S ≤ a → s.heap.get? a = none := fun a ha => by
  cases e : s.heap.get? a with
  | none => rfl
  | some o => exact absurd (Heap.lt_size e) (by rw [hS]; exact Nat.not_lt.mpr ha)
 refine ⟨z, _, Step.laid hs (zipL (S + 4) (S + 2) (S + 3) S (S + 1) l1 l2 xs ys 0) keep (fun p hp => ?_) (fun a ha => ?_) ?_, q _ _ _ _ _⟩
 ·have hp' : p = (S + 4, .raw (zipO (S + 2) (S + 3) .none)) ∨ p = (S + 2, .raw (pairO (.ref S) (.ref (S + 1)))) ∨ p = (S + 3, .raw (pairO (lastOf xs 0) (lastOf ys 0))) ∨ p = (S, .fld "list_iterator" [.ref l1, .int (0 : Nat) 0]) ∨ p = (S + 1, .fld "list_iterator" [.ref l2, .int (0 : Nat) 0]) := by simpa [zipL] using hp
  rcases hp' with rfl | rfl | rfl | rfl | rfl
  ·exact ⟨_, a1, rfl⟩
  ·exact ⟨_, a2, rfl⟩
  ·exact ⟨_, a3, rfl⟩
  ·exact ⟨_, b4, c4, d4⟩
  ·exact ⟨_, b5, c5, d5⟩
 ·refine hf a ?_
  have : a = S + 4 ∨ a = S + 2 ∨ a = S + 3 ∨ a = S ∨ a = S + 1 := by simpa [addrs, zipL] using ha
  clear hs q a1 a2 a3 b4 b5 keep hf ha
  simp only [Addr] at *
  (first | lia | omega)
 ·simp [addrs, zipL]
theorem iter_zip (hh : A.handled = none) {Z TI TO i1 i2 l1 l2 : Addr} {xs ys : List Value} (h1 : z l1 = some (.lst xs)) (h2 : z l2 = some (.lst ys)) {target : PySem.Expr} (ht : isTup target) :
  IterOf prog w K A target (.ref Z) (zipL Z TI TO i1 i2 l1 l2 xs ys 0) (min xs.length ys.length) (fun i v z' => ∃ T x y, v = .ref T ∧ z' T = some (.tup [x, y]) ∧ xs[i]? = some x ∧ ys[i]? = some y) z := fun E s hs => by
 have apart : ∀ {z1 : Fz} {s1 : Shared} {i : Nat}, Le z z1 → St prog w K z1 (zipL Z TI TO i1 i2 l1 l2 xs ys i) s1 → ZipApart Z TI TO i1 i2 l1 l2 := fun {z1 s1 i} le hs1 => by
  have nd := hs1.nodup
  have off := hs1.off
  have g1 := le _ _ h1
  have g2 := le _ _ h2
  have ne : ∀ a ∈ [Z, TI, TO, i1, i2], l1 ≠ a ∧ l2 ≠ a := fun a ha => by
   have := off a ha
   constructor
   ·rintro rfl; rw [this] at g1; cases g1
   ·rintro rfl; rw [this] at g2; cases g2
  have nd' : [Z, TI, TO, i1, i2].Nodup := nd
  simp only [List.nodup_cons, List.mem_cons, List.not_mem_nil, or_false, not_or] at nd'
  obtain ⟨⟨n1, n2, n3, n4⟩, ⟨n5, n6, n7⟩, ⟨n8, n9⟩, n10, _⟩ := nd'
  have e1 := ne Z (by simp)
  have e3 := ne TO (by simp)
  have e4 := ne i1 (by simp)
  have e5 := ne i2 (by simp)
  exact ⟨Ne.symm n1, Ne.symm n2, Ne.symm n3, Ne.symm n4, n5, n6, n7, n8, n9, n10, e1.1, e3.1, e4.1, e5.1, e1.2, e3.2, e4.2, e5.2⟩
 have itr : ∀ {s1 : Shared} {it l : Addr} {i : Nat}, At prog w K s1.heap it (.fld "list_iterator" [.ref l, .int i 0]) → s1.heap.IsListIter it l i := fun h_ => oEAA h_ fun o a b c => ⟨o, a, b, c⟩
 have hz0 : IsZip s.heap Z TI TO .none := raw_of (hs.led _ (.head _))
 refine wpAny_pyIter_zip hz0 ⟨z, _, .refl hs, rfl, fun i => zipL Z TI TO i1 i2 l1 l2 xs ys i, fun i v => zipML Z TI TO i1 i2 l1 l2 xs ys i v, rfl, ?_⟩
 refine ⟨fun i z1 Q hi le hQ E s1 hs1 => ?_, fun z1 Q le hQ E s1 hs1 => ?_, fun i z1 Q le hQ E s1 hs1 => ?_, fun i z1 v Q hi le hv hQ E s1 hs1 => ?_⟩
 ·have hx : i < xs.length := by exact Nat.lt_of_lt_of_le hi (Nat.min_le_left _ _)
  have hy : i < ys.length := by exact Nat.lt_of_lt_of_le hi (Nat.min_le_right _ _)
  have D := apart le hs1
  have m1 := hs1.led _ (.head _)
  have m2 := hs1.led _ (.tail _ (.head _))
  have m3 := hs1.led _ (.tail _ (.tail _ (.head _)))
  have m4 := hs1.led _ (.tail _ (.tail _ (.tail _ (.head _))))
  have m5 := hs1.led _ (.tail _ (.tail _ (.tail _ (.tail _ (.head _)))))
  refine wpAny_pyNext_zip_item D (raw_of m1) (raw_of m2) (raw_of m3) (itr m4) (itr m5) (isList_of (hs1.frz l1 _ (le _ _ h1))) (isList_of (hs1.frz l2 _ (le _ _ h2))) (x := xs[i]) (y := ys[i]) (by simp [hx]) (by simp [hy]) fun h' c1 c2 c3 c4 c5 c6 keep => ?_
  have hT : s1.heap.get? s1.heap.objs.size = none := get_size_none _
  have gx : xs.getD i .none = xs[i] := by simp [hx]
  have gy : ys.getD i .none = ys[i] := by simp [hy]
  have hne : s1.heap.objs.size ∉ addrs (zipL Z TI TO i1 i2 l1 l2 xs ys i) := fun m => by
   obtain ⟨o, e⟩ := hs1.has m
   rw [hT] at e; cases e
  have e2 : h'.get? TI = some (pairO (.ref i1) (.ref i2)) := keep TI _ D.TIz D.TITO D.TIi1 D.TIi2 (raw_of m2)
  refine oEAA c3 fun o4 b4 d4 f4 => ?_
  clear c3
  refine oEAA c4 fun o5 b5 d5 f5 => ?_
  clear c4
  have st : Step prog w K z1 (zipL Z TI TO i1 i2 l1 l2 xs ys i) s1 z1 ((s1.heap.objs.size, .tup [xs[i], ys[i]]) :: zipML Z TI TO i1 i2 l1 l2 xs ys i (.ref s1.heap.objs.size)) { s1 with heap := h' } := by
   refine Step.ext (tk := s1.toks) hs1 (fun a o hn q => keep a o (fun x => hn (x ▸ .head _)) (fun x => hn (x ▸ .tail _ (.tail _ (.head _)))) (fun x => hn (x ▸ .tail _ (.tail _ (.tail _ (.head _))))) (fun x => hn (x ▸ .tail _ (.tail _ (.tail _ (.tail _ (.head _)))))) q) (fun p hp => ?_) (fun a ha => ?_) (List.nodup_cons.mpr ⟨hne, hs1.nodup⟩)
   ·rcases List.mem_cons.mp hp with rfl | hp
    ·exact ⟨_, c5, rfl, 0, rfl⟩
    rcases List.mem_cons.mp hp with rfl | hp
    ·exact ⟨_, c1, rfl⟩
    rcases List.mem_cons.mp hp with rfl | hp
    ·exact ⟨_, e2, rfl⟩
    rcases List.mem_cons.mp hp with rfl | hp
    ·exact ⟨_, c2, by show _ = pairO _ _; rw [gx, gy]; rfl⟩
    rcases List.mem_cons.mp hp with rfl | hp
    ·exact ⟨_, b4, d4, f4⟩
    rcases List.mem_cons.mp hp with rfl | hp
    ·exact ⟨_, b5, d5, f5⟩
    cases hp
   ·rcases List.mem_cons.mp (show a ∈ s1.heap.objs.size :: addrs (zipL Z TI TO i1 i2 l1 l2 xs ys i) from ha) with rfl | h
    ·exact .inr hT
    ·exact .inl h
  exact ⟨_, _, st.freeze, hQ _ _ (Le.fset hs1.fresh) ⟨_, _, _, rfl, fset_self, by simp [hx], by simp [hy]⟩⟩
 ·have D := apart le hs1
  have m1 := hs1.led _ (.head _)
  have m2 := hs1.led _ (.tail _ (.head _))
  have m3 := hs1.led _ (.tail _ (.tail _ (.head _)))
  have m4 := hs1.led _ (.tail _ (.tail _ (.tail _ (.head _))))
  have m5 := hs1.led _ (.tail _ (.tail _ (.tail _ (.tail _ (.head _)))))
  refine wpAny_pyNext_zip_end hh D (raw_of m1) (raw_of m2) (raw_of m3) (itr m4) (itr m5) (isList_of (hs1.frz l1 _ (le _ _ h1))) (isList_of (hs1.frz l2 _ (le _ _ h2))) (by simp; (first | lia | omega)) fun h' keep => ⟨z1, [], ?_, hQ⟩
  exact Step.ext (tk := s1.toks) hs1 (fun a o hn q => keep a o (fun x => hn (x ▸ .head _)) (fun x => hn (x ▸ .tail _ (.tail _ (.head _)))) (fun x => hn (x ▸ .tail _ (.tail _ (.tail _ (.head _))))) (fun x => hn (x ▸ .tail _ (.tail _ (.tail _ (.tail _ (.head _)))))) q) (fun u_ h => nomatch h) (fun u_ h => nomatch h) List.nodup_nil
 ·exact wpAny_pyIter_zip (raw_of (hs1.led _ (.head _))) ⟨z1, _, .refl hs1, hQ⟩
 ·refine oEEEAAA hv fun T x y e0_ hT hx hy => ?_
  clear hv
  subst e0_
  have ho : IsZip s1.heap Z TI TO (rawInt T) := raw_of (hs1.led _ (.head _))
  cases target with
  | Tuple elts k pos =>
   refine wpAny_letOwnedTupleGo_zip ho fun h' he' sb => ⟨z1, _, Step.upd (tk := s1.toks) hs1 (lo' := .raw (zipO TI TO .none)) Up.head sb ⟨_, he', rfl⟩, hQ _ ?_⟩
   unfold zipL lastOf
   rfl
  | _ => exact ht.elim
theorem iterV_zip {α β : Type} (hh : A.handled = none) {e1 : α → PyData} {e2 : β → PyData} {as : List α} {bs : List β} {Z TI TO i1 i2 l1 l2 : Addr} {xs ys : List Value} (h1 : z l1 = some (.lst xs)) (h2 : z l2 = some (.lst ys)) (ha : All2 (fun x v => Vz z (e1 x) v) as xs) (hb : All2 (fun x v => Vz z (e2 x) v) bs ys) {target : PySem.Expr} (ht : isTup target) :
  IterV prog w K A target (.ref Z) (zipL Z TI TO i1 i2 l1 l2 xs ys 0) (eP e1 e2) (as.zip bs) z := by
 have hit := iter_zip (prog := prog) (w := w) (K := K) hh (Z := Z) (TI := TI) (TO := TO) (i1 := i1) (i2 := i2) h1 h2 ht
 rw [ha.len, hb.len, ← List.length_zip] at hit
 refine ⟨_, hit, fun i v z' le hp => ?_⟩
 ·refine oEEEAAA hp fun T u v' e hT hx hy => ?_
  clear hp
  refine oEA (ha.at' hx) fun x hx1 hx2 => ?_
  refine oEA (hb.at' hy) fun y hy1 hy2 => ?_
  exact ⟨(x, y), by rw [List.getElem?_zip_eq_some]; exact ⟨hx1, hy1⟩, e ▸ vzP.mpr ⟨T, _, _, rfl, hT, hx2.up le, hy2.up le⟩⟩
end
theorem drop_of_get {α : Type} {xs : List α} {i : Nat} {x : α} (h : xs[i]? = some x) : xs.drop i = x :: xs.drop (i + 1) := by
 obtain ⟨hi, e⟩ := List.getElem?_eq_some_iff.mp h
 rw [List.drop_eq_getElem_cons hi, e]
noncomputable def eB (b : Bool) : PyData := .bool b
theorem vzB {z : Fz} {b : Bool} {v : Value} : Vz z (eB b) v ↔ v = .bool b := Iff.rfl
noncomputable def nonE (ls : List (List Int)) : List (List Int) := ls.filter fun l => !decide (l = [])
/-- a piece that tells nothing -/
noncomputable def idleL (ls : List (List Int)) : Bool := decide (nonE ls = [])
noncomputable def joinL (a b : List (List Int)) : List (List Int) := List.zipWith (fun x y => x ++ y) a b
noncomputable def begs (lv wd : List (List Int)) : Bool := ((enumI lv).map fun p => decide ((wd.getD p.1.toNat []).take p.2.length = p.2)).all id
/-- how far the stretch reaches -/
noncomputable def strF (wd : List (List Int)) : Nat → List (List Int) → List Pc → Option Nat
 | _, _, [] => none
 | k, lv, p :: r => if joinL lv p.2.2 = wd then some (k + 1) else if begs (joinL lv p.2.2) wd = true then strF wd (k + 1) (joinL lv p.2.2) r else none
theorem strF_c {wd k lv} {p : Pc} {r} : strF wd k lv (p :: r) = if joinL lv p.2.2 = wd then some (k + 1) else if begs (joinL lv p.2.2) wd = true then strF wd (k + 1) (joinL lv p.2.2) r else none := rfl
noncomputable def strAt (wd : List (List Int)) (i : Nat) (ps : List Pc) : Option (Int × Int) := match ps with
 | [] => none
 | p :: r => if idleL p.2.2 = true then none else (strF wd i (List.replicate wd.length []) (p :: r)).map fun (b : Nat) => ((i : Int), (b : Int))
/-- pieces of the same width, no level too long -/
noncomputable def Wide3 (s : Nat) (ps : List Pc) : Prop := ∀ p ∈ ps, p.2.2.length = s ∧ ∀ l ∈ p.2.2, l.length ≤ 2
theorem joinL_len {a b : List (List Int)} {s : Nat} (ha : a.length = s) (hb : b.length = s) : (joinL a b).length = s := by
 unfold joinL
 rw [List.length_zipWith]
 (first | lia | omega)
theorem joinL_short {a b : List (List Int)} {i j : Nat} (ha : ∀ l ∈ a, l.length ≤ i) (hb : ∀ l ∈ b, l.length ≤ j) : ∀ l ∈ joinL a b, l.length ≤ i + j := by
 induction a generalizing b with
 | nil => intro l h; unfold joinL at h; simp at h
 | cons x a ih => cases b with
  | nil => intro l h; unfold joinL at h; simp at h
  | cons y b =>
   intro l h
   unfold joinL at h
   rw [List.zipWith_cons_cons] at h
   rcases List.mem_cons.mp h with rfl | h
   ·have := ha x (.head _)
    have := hb y (.head _)
    rw [List.length_append]
    (first | lia | omega)
   ·exact ih (fun l h => ha l (.tail _ h)) (fun l h => hb l (.tail _ h)) l h
/-- joined up to a place -/
noncomputable def joinT (k : Nat) (a b : List (List Int)) : List (List Int) := joinL (a.take k) (b.take k) ++ a.drop k
theorem joinT_all {a b : List (List Int)} {s : Nat} (ha : a.length = s) (hb : b.length = s) : joinT s a b = joinL a b := by
 unfold joinT
 rw [List.take_of_length_le (by exact Nat.le_of_eq ha), List.take_of_length_le (by exact Nat.le_of_eq hb), List.drop_eq_nil_of_le (by exact Nat.le_of_eq ha), List.append_nil]
theorem joinT_len {a b : List (List Int)} {k s : Nat} (ha : a.length = s) (hb : b.length = s) (hk : k ≤ s) : (joinT k a b).length = s := by
 unfold joinT joinL
 rw [List.length_append, List.length_zipWith, List.length_take, List.length_take, List.length_drop]
 (first | lia | omega)
theorem joinT_get {a b : List (List Int)} {k s : Nat} (ha : a.length = s) (hb : b.length = s) (hk : k < s) : (joinT k a b)[k]? = a[k]? := by
 unfold joinT joinL
 rw [List.getElem?_append_right (by rw [List.length_zipWith, List.length_take, List.length_take]; exact Nat.le_trans (Nat.min_le_right _ _) (Nat.min_le_left _ _)), List.length_zipWith, List.length_take, List.length_take, List.getElem?_drop]
 congr 1
 (first | lia | omega)
theorem joinT_set {a b : List (List Int)} {k s : Nat} {x y : List Int} (ha : a.length = s) (hb : b.length = s) (hx : a[k]? = some x) (hy : b[k]? = some y) : (joinT k a b).set k (x ++ y) = joinT (k + 1) a b := by
 have hk := lt_of_get hx
 have e1 : a.take (k + 1) = a.take k ++ [x] := by rw [List.take_add_one, hx]; rfl
 have e2 : b.take (k + 1) = b.take k ++ [y] := by rw [List.take_add_one, hy]; rfl
 have e3 : a.drop k = x :: a.drop (k + 1) := by
  rw [List.drop_eq_getElem_cons hk, ← (List.getElem?_eq_some_iff.mp hx).2]
 unfold joinT joinL
 rw [e1, e2, e3, List.zipWith_append (by rw [List.length_take, List.length_take]; (first | lia | omega)), List.zipWith_cons_cons, List.zipWith_nil_left]
 have hl : (List.zipWith (fun x y => x ++ y) (a.take k) (b.take k)).length = k := by rw [List.length_zipWith, List.length_take, List.length_take]; (first | lia | omega)
 rw [List.set_append_right _ _ (by exact Nat.le_of_eq hl), hl, Nat.sub_self, List.set_cons_zero, List.append_assoc]
 rfl
theorem All2.set {α : Type} {R : α → Value → Prop} {xs : List α} {vs : List Value} {i : Nat} {x : α} {v : Value} (h : All2 R xs vs) (r : R x v) : All2 R (xs.set i x) (vs.set i v) := by
 induction xs generalizing vs i with
 | nil => cases vs with
  | nil => trivial
  | cons => exact h.elim
 | cons a xs ih => cases vs with
  | nil => exact h.elim
  | cons b vs => cases i with
   | zero => exact ⟨r, h.2⟩
   | succ i => exact ⟨h.1, ih h.2⟩
/-- one address hidden again -/
noncomputable def fhid (z : Fz) (a : Addr) : Fz := fun b => if b = a then none else z b
section
variable {prog : Program} {w : World} {K : Frag} {A : Around} {α : Type} {z z' : Fz} {n n' : Led}
/-- an entry of the ledger lent: frozen for a while -/
theorem W.peek {t : Sem α} {a : Addr} {lo : Lo} {P : α → Led → Prop} {Q : α → Fz → Led → Prop} (hr : ∀ o, lo ≠ .raw o) (h : z a = none → W prog w K A t (fset z a lo) n fun v z' n' => P v n') (q : ∀ v z' n', Le z z' → P v n' → ∃ n2, ((a, lo) :: n').Perm n2 ∧ Q v z' n2) : W prog w K A t z ((a, lo) :: n) Q := fun E s hs => by
 have hz : z a = none := hs.off a (.head _)
 have hn : a ∉ addrs n := (List.nodup_cons.mp hs.nodup).1
 refine wpAny_mono (h hz E s hs.freeze) (fun v s' hq => ?_) fun u_ u_ e => e
 refine oEEA hq fun z' n' st p => ?_
 clear hq
 have ha : z' a = some lo := st.zle a lo fset_self
 have hn' : a ∉ addrs n' := fun m => by rw [st.st.off a m] at ha; cases ha
 have lz : Le z (fhid z' a) := fun b x e => by
  have hb : b ≠ a := fun q => by rw [q, hz] at e; cases e
  unfold fhid
  rw [if_neg hb]
  exact st.zle b x (by rw [fset_ne hb]; exact e)
 have lz' : ∀ b x, fhid z' a b = some x → z' b = some x := fun b x e => by
  unfold fhid at e
  by_cases hb : b = a
  ·rw [if_pos hb] at e; cases e
  ·rw [if_neg hb] at e; exact e
 refine oEA (q _ _ _ lz p) fun n2 hp q => ?_
 refine ⟨fhid z' a, n2, Step.perm (n' := (a, lo) :: n') ⟨st.eq, fun b o hb ht e => st.keep b o (fun q => hb (.tail _ q)) ht e, lz, fun b o e hb => ?_, fun b hb => ?_, ⟨fun b x e => st.st.frz b x (lz' b x e), fun p hp => ?_, fun b hb => ?_, List.nodup_cons.mpr ⟨hn', st.st.nodup⟩, ?_, fun m => ?_, ?_, hs.base.mono lz⟩⟩ hp, q⟩
 ·have hba : b ≠ a := fun q => hb (q ▸ .head _)
  unfold fhid
  rw [if_neg hba, st.zold b o e fun q => hb (.tail _ q), fset_ne hba]
 ·rcases List.mem_cons.mp hb with rfl | hb
  ·exact .inl (.head _)
  ·exact (st.nold b hb).imp (fun q => .tail _ q) id
 ·rcases List.mem_cons.mp hp with rfl | hp
  ·exact st.st.frz a lo ha
  ·exact st.st.led p hp
 ·unfold fhid
  rcases List.mem_cons.mp hb with rfl | hb
  ·exact if_pos rfl
  ·by_cases hba : b = a
   ·rw [if_pos hba]
   ·rw [if_neg hba]; exact st.st.off b hb
 ·unfold fhid
  by_cases hba : tb = a
  ·rw [if_pos hba]
  ·rw [if_neg hba]; exact st.st.ztb
 ·rcases List.mem_cons.mp m with e | m
  ·exact hs.ntb (e ▸ .head _)
  ·exact st.st.ntb m
 ·rcases st.st.tab with x | ⟨c, o, h1, h2, h3⟩
  ·exact .inl x
  ·refine .inr ⟨c, o, h1, ?_, h3⟩
   have hc : c ≠ a := fun q => by
    rw [q, ha] at h2
    exact hr o (Option.some.inj h2)
   unfold fhid
   rw [if_neg hc]
   exact h2
theorem VW.peek {c : Cx} {m : M} {t : Sem α} {a : Addr} {lo : Lo} {Q : α → Fz → Led → Prop} (P : α → Led → Prop) (hr : ∀ o, lo ≠ .raw o) (h : z a = none → VW prog w K A c t m (fset z a lo) n fun v z' n' => P v n') (q : ∀ v z' n', Le z z' → P v n' → Q v z' ((a, lo) :: n')) : VW prog w K A c t m z ((a, lo) :: n) Q :=
 W.perm (List.Perm.swap ..) (W.peek hr h fun v z' n' l h_ => oEA h_ fun n1 e p => ⟨(c.L, Lo.ns c.sc c.g m) :: (a, lo) :: n1, e ▸ List.Perm.swap .., (a, lo) :: n1, rfl, q v z' n1 l p⟩)
end
section
variable {prog : Program} {w : World} {K : Frag} {A : Around} {z : Fz} {n : Led} {c : Cx} {m : M}
/-- a while with what holds behind it -/
theorem while_mid (hE : CxOk prog w K A c) {test : PySem.Expr} {body : List Stmt} {pos : Pos} {Q : KF} (J : Nat → M → Fz → Led → Prop) (P : M → Fz → Led → Prop) (k : Nat) (h0 : J k m z n)
  (turn : ∀ k m' zi ni, Le z zi → J k m' zi ni → tst prog w K A c test (ev prog w K A c test m') m' zi ni fun b z1 n1 => brE b (exs prog w K A c body m' z1 n1 (turnW J k z1 fun fl m z n => fl = .next ∧ P m z n)) (P m' z1 n1))
  (after : ∀ m' z1 n1, Le z z1 → P m' z1 n1 → Q .next m' z1 n1) : SW prog w K A c (exec (.While test body [] pos) c.env) m z n Q :=
 SW.mono (while_ok hE (Q := fun fl m z n => fl = .next ∧ P m z n) J k h0 fun k m' zi ni l h => castP (by simp only [true_and]) (turn k m' zi ni l h)) fun fl m1 z1 n1 l h => by
   obtain ⟨e, h⟩ := h
   subst e
   exact after _ _ _ l h
end
/-- idle pieces ahead are taken in -/
noncomputable def downF (ps : List Pc) : Nat → Nat
 | 0 => 0
 | k + 1 => if idleL (ps.getD k (0, 0, [])).2.2 = true then downF ps k else k + 1
theorem downF_c {ps : List Pc} {k : Nat} : downF ps (k + 1) = if idleL (ps.getD k (0, 0, [])).2.2 = true then downF ps k else k + 1 := rfl
/-- idle pieces behind are taken in -/
noncomputable def upF : List Pc → Nat → Nat
 | [], k => k
 | p :: r, k => if idleL p.2.2 = true then upF r (k + 1) else k
theorem upF_c {p : Pc} {r k} : upF (p :: r) k = if idleL p.2.2 = true then upF r (k + 1) else k := rfl
theorem downF_le (ps : List Pc) : ∀ k, downF ps k ≤ k
 | 0 => Nat.le_refl 0
 | k + 1 => by
  rw [downF_c]
  split
  ·exact Nat.le_trans (downF_le ps k) (Nat.le_succ k)
  ·exact Nat.le_refl _
theorem upF_le : ∀ (l : List Pc) (k : Nat), k ≤ upF l k ∧ upF l k ≤ k + l.length
 | [], k => ⟨Nat.le_refl _, Nat.le_refl _⟩
 | p :: r, k => by
  rw [upF_c]
  split
  ·obtain ⟨h1, h2⟩ := upF_le r (k + 1)
   rw [List.length_cons]
   (first | lia | omega)
  ·exact ⟨Nat.le_refl _, Nat.le_add_right _ _⟩
noncomputable def wideF (ps : List Pc) (st : Nat × Nat) : Nat × Nat := (downF ps st.1, upF (ps.drop st.2) st.2)
noncomputable def chosenF (ps : List Pc) (wide : Bool) (st : Nat × Nat) : Nat × Nat := if wide = true then wideF ps st else st
theorem chosenF_in {ps : List Pc} {wide : Bool} {f b : Nat} (h1 : f < b) (h2 : b ≤ ps.length) : (chosenF ps wide (f, b)).1 < (chosenF ps wide (f, b)).2 ∧ (chosenF ps wide (f, b)).2 ≤ ps.length := by
 unfold chosenF
 split
 ·have := downF_le ps f
  obtain ⟨h3, h4⟩ := upF_le (ps.drop b) b
  rw [List.length_drop] at h4
  show downF ps f < upF (ps.drop b) b ∧ upF (ps.drop b) b ≤ ps.length
  (first | lia | omega)
 ·exact ⟨h1, h2⟩
noncomputable def strN (wd : List (List Int)) (i : Nat) (ps : List Pc) : Option Nat := match ps with
 | [] => none
 | p :: r => if idleL p.2.2 = true then none else strF wd i (List.replicate wd.length []) (p :: r)
theorem strAt_eq (wd : List (List Int)) (i : Nat) (ps : List Pc) : strAt wd i ps = (strN wd i ps).map fun (b : Nat) => ((i : Int), (b : Int)) := by
 unfold strAt strN
 cases ps with
 | nil => rfl
 | cons p r => dsimp only; split <;> rfl
theorem strF_le {wd : List (List Int)} : ∀ {l : List Pc} {k : Nat} {lv : List (List Int)} {b : Nat}, strF wd k lv l = some b → k < b ∧ b ≤ k + l.length
 | [], _, _, _, h => by cases h
 | p :: r, k, lv, b, h => by
  rw [strF_c] at h
  rw [List.length_cons]
  split at h
  ·cases h; (first | lia | omega)
  ·split at h
   ·have := strF_le h; (first | lia | omega)
   ·cases h
theorem strN_le {wd : List (List Int)} {ps : List Pc} {i b : Nat} (h : strN wd i (ps.drop i) = some b) : i < b ∧ b ≤ ps.length := by
 have hl : (ps.drop i).length = ps.length - i := List.length_drop
 cases hd : ps.drop i with
 | nil => rw [hd] at h; cases h
 | cons p r =>
  rw [hd] at h hl
  unfold strN at h
  dsimp only at h
  rw [List.length_cons] at hl
  split at h
  ·cases h
  ·have := strF_le h
   rw [List.length_cons] at this
   (first | lia | omega)
noncomputable def placesF (ps : List Pc) (st : Nat × Nat) : Int × Int := ((ps.getD st.1 (0, 0, [])).1, (ps.getD (st.2 - 1) (0, 0, [])).2.1)
noncomputable def addF (acc : List (Int × Int)) (p : Int × Int) : List (Int × Int) := if acc.getLast? = some p then acc else acc ++ [p]
noncomputable def stepF (ps : List Pc) (wd : List (List Int)) (wide : Bool) (acc : List (Int × Int)) (i : Nat) : List (Int × Int) := match strN wd i (ps.drop i) with
 | none => acc
 | some b => addF acc (placesF ps (chosenF ps wide (i, b)))
theorem stepF_n {ps : List Pc} {wd : List (List Int)} {wide : Bool} {acc : List (Int × Int)} {i : Nat} (h : strN wd i (ps.drop i) = none) : stepF ps wd wide acc i = acc := by unfold stepF; rw [h]
theorem stepF_s {ps : List Pc} {wd : List (List Int)} {wide : Bool} {acc : List (Int × Int)} {i b : Nat} (h : strN wd i (ps.drop i) = some b) : stepF ps wd wide acc i = addF acc (placesF ps (chosenF ps wide (i, b))) := by unfold stepF; rw [h]
/-- what search_all finds -/
noncomputable def allF (ps : List Pc) (wd : List (List Int)) (wide : Bool) : List (Int × Int) := if idleL wd = true then [] else (List.range ps.length).foldl (stepF ps wd wide) []
theorem addF_len (acc : List (Int × Int)) (p : Int × Int) : (addF acc p).length ≤ acc.length + 1 := by
 unfold addF
 split
 ·exact Nat.le_succ _
 ·rw [List.length_append]; exact Nat.le_refl _
theorem getD_at {ps : List Pc} {i : Nat} (h : i < ps.length) : ps[i]? = some (ps.getD i (0, 0, [])) := by
 rw [List.getD_eq_getElem?_getD, List.getElem?_eq_getElem h]; rfl
/-- what stands as the searcher -/
structure SearchIs (z : Fz) (rows : Rows) (lon : Int → Nat) (f : Str → Option Value) (s : Nat) (wd : List (List Int)) (v : Value) : Prop where
 ex : ∃ x dx wv tab data t u, v = .ref x ∧ z x = some (.raw (instObj 315 dx)) ∧ z dx = some (.att [("wanted", wv), ("is_whole", .bool false), ("how", .str "non-ignorable" u), ("strength", .int (s : Nat) t), ("data", data), ("table", tab)]) ∧ Vz z (eL (eL eI) wd) wv ∧ TableIs z rows lon tab ∧ DataIs z f data
theorem SearchIs.mono {z z' : Fz} {rows lon f s wd v} (h : SearchIs z rows lon f s wd v) (l : Le z z') : SearchIs z' rows lon f s wd v := by
 refine oEE h.ex fun x dx h_ => oEE h_ fun wv tab h_ => oEEEAAAAA h_ fun data t u e h1 h2 h3 h4 h5 => ?_
 exact ⟨x, dx, wv, tab, data, t, u, e, l _ _ h1, l _ _ h2, h3.up l, h4.mono l, h5.mono l⟩
theorem told_len (s : Nat) (es : List El) : (told s es).length = s := by unfold told; rw [List.length_map, List.length_range]
theorem told_short {s : Nat} {es : List El} : ∀ l ∈ told s es, l.length ≤ es.length := fun l h => by
 unfold told at h
 refine oEA (List.mem_map.mp h) fun i u_ e0_ => ?_
 subst e0_
 refine Nat.le_trans (List.length_filter_le _ _) ?_
 rw [List.length_map]
 exact Nat.le_refl _
theorem pieces_len {rows : Rows} (hS : Short rows) (s : Nat) (xs : List Int) : (piecesF rows s xs).length ≤ xs.length := by
 unfold piecesF
 rw [List.length_map]
 exact (groups_short hS 0 xs).1
theorem pieces_wide {rows : Rows} (hS : Short rows) (s : Nat) (xs : List Int) : Wide3 s (piecesF rows s xs) := fun p hp => by
 unfold piecesF at hp
 refine oEA (List.mem_map.mp hp) fun g hg e0_ => ?_
 subst e0_
 refine ⟨told_len _ _, fun l hl => ?_⟩
 have := told_short l hl
 have := (groups_short hS 0 xs).2 g hg
 (first | lia | omega)
theorem foldl_len {ps : List Pc} {wd : List (List Int)} {wide : Bool} : ∀ (is : List Nat) (acc : List (Int × Int)), (is.foldl (stepF ps wd wide) acc).length ≤ acc.length + is.length
 | [], acc => Nat.le_refl _
 | i :: is, acc => by
  rw [List.foldl_cons, List.length_cons]
  have h1 := foldl_len (ps := ps) (wd := wd) (wide := wide) is (stepF ps wd wide acc i)
  have h2 : (stepF ps wd wide acc i).length ≤ acc.length + 1 := by
   unfold stepF
   split
   ·exact Nat.le_succ _
   ·exact addF_len _ _
  (first | lia | omega)
theorem allF_len (ps : List Pc) (wd : List (List Int)) (wide : Bool) : (allF ps wd wide).length ≤ ps.length := by
 unfold allF
 split
 ·exact Nat.zero_le _
 ·have := foldl_len (ps := ps) (wd := wd) (wide := wide) (List.range ps.length) []
  rw [List.length_range] at this
  simpa using this
/-- the first from a place on -/
noncomputable def firstF (a : Int) : List (Int × Int) → Option (Int × Int)
 | [] => none
 | p :: r => if a ≤ p.1 then some p else firstF a r
/-- the first that ends at a place or ahead of it -/
noncomputable def lastF (a : Int) : List (Int × Int) → Option (Int × Int)
 | [] => none
 | p :: r => if p.2 ≤ a then some p else lastF a r
theorem firstF_c {a : Int} {p : Int × Int} {r} : firstF a (p :: r) = if a ≤ p.1 then some p else firstF a r := rfl
theorem lastF_c {a : Int} {p : Int × Int} {r} : lastF a (p :: r) = if p.2 ≤ a then some p else lastF a r := rfl
noncomputable def begunF : List (Int × Int) → Bool
 | [] => false
 | p :: _ => decide (p.1 = 0)
/-- with others in their places -/
noncomputable def replF (xs ys : List Int) : Nat → List (Int × Int) → List Int
 | a, [] => xs.drop a
 | a, p :: r => ((xs.drop a).take (p.1.toNat - a) ++ ys) ++ replF xs ys p.2.toNat r
/-- cut at them -/
noncomputable def partF (xs : List Int) : Nat → List (Int × Int) → List (List Int)
 | a, [] => [xs.drop a]
 | a, p :: r => (xs.drop a).take (p.1.toNat - a) :: partF xs p.2.toNat r
theorem apartF_mem {p : Int × Int} : ∀ {a : Int} {l : List (Int × Int)}, p ∈ apartF a l → p ∈ l
 | _, [], h => by cases h
 | a, q :: l, h => by
  rw [apartF_c] at h
  split at h
  ·rcases List.mem_cons.mp h with rfl | h
   ·exact .head _
   ·exact .tail _ (apartF_mem h)
  ·exact .tail _ (apartF_mem h)
theorem apartF_len : ∀ (a : Int) (l : List (Int × Int)), (apartF a l).length ≤ l.length
 | _, [] => Nat.le_refl _
 | a, q :: l => by
  rw [apartF_c]
  split
  ·rw [List.length_cons, List.length_cons]
   exact Nat.succ_le_succ (apartF_len _ l)
  ·exact Nat.le_succ_of_le (apartF_len _ l)
/-- every place is a number from nought on -/
noncomputable def Nats (l : List (Int × Int)) : Prop := ∀ p ∈ l, 0 ≤ p.1 ∧ 0 ≤ p.2
theorem groups_nat (rows : Rows) : ∀ (a : Nat) (xs : List Int), ∀ g ∈ groups rows a xs, 0 ≤ g.2.1 ∧ 0 ≤ g.2.2
 | _, [], g, h => nomatch h
 | a, [c], g, h => by
  rw [List.mem_singleton.mp h]
  exact ⟨Int.natCast_nonneg _, Int.natCast_nonneg _⟩
 | a, c :: d :: r, g, h => by
  rw [groups_c] at h
  split at h
  ·rcases List.mem_cons.mp h with rfl | h
   ·exact ⟨Int.natCast_nonneg _, Int.natCast_nonneg _⟩
   ·exact groups_nat rows _ _ g h
  ·rcases List.mem_cons.mp h with rfl | h
   ·exact ⟨Int.natCast_nonneg _, Int.natCast_nonneg _⟩
   ·exact groups_nat rows _ _ g h
theorem placesF_nat {ps : List Pc} (h : ∀ p ∈ ps, 0 ≤ p.1 ∧ 0 ≤ p.2.1) (st : Nat × Nat) : 0 ≤ (placesF ps st).1 ∧ 0 ≤ (placesF ps st).2 := by
 have aux : ∀ i : Nat, 0 ≤ (ps.getD i (0, 0, [])).1 ∧ 0 ≤ (ps.getD i (0, 0, [])).2.1 := fun i => by
  by_cases hi : i < ps.length
  ·exact h _ (List.mem_of_getElem? (getD_at hi))
  ·rw [List.getD_eq_getElem?_getD, List.getElem?_eq_none (by exact (Nat.le_of_not_lt hi))]
   exact ⟨Int.le_refl 0, Int.le_refl 0⟩
 exact ⟨(aux _).1, (aux _).2⟩
theorem fold_nat {ps : List Pc} {wd : List (List Int)} {wide : Bool} (h : ∀ p ∈ ps, 0 ≤ p.1 ∧ 0 ≤ p.2.1) : ∀ (is : List Nat) (acc : List (Int × Int)), Nats acc → Nats (is.foldl (stepF ps wd wide) acc)
 | [], acc, ha => ha
 | i :: is, acc, ha => by
  rw [List.foldl_cons]
  refine fold_nat h is _ ?_
  unfold stepF
  split
  ·exact ha
  ·unfold addF
   split
   ·exact ha
   ·intro p hp
    rcases List.mem_append.mp hp with hp | hp
    ·exact ha p hp
    ·rw [List.mem_singleton.mp hp]; exact placesF_nat h _
theorem allF_nat {rows : Rows} {s : Nat} {xs : List Int} {wd : List (List Int)} {wide : Bool} : Nats (allF (piecesF rows s xs) wd wide) := by
 unfold allF
 split
 ·exact fun p h => nomatch h
 ·refine fold_nat (fun p hp => ?_) _ _ fun p h => nomatch h
  unfold piecesF at hp
  refine oEA (List.mem_map.mp hp) fun g hg e0_ => ?_
  subst e0_
  exact groups_nat rows 0 xs g hg
/-- what a searcher's walk asks of what it was made of -/
structure RdyS (rows : Rows) (lon : Int → Nat) (f : Str → Option Value) (s : Nat) (wd : List (List Int)) : Prop where
 hs : s ≤ 3
 hG : Good rows lon
 hS : Short rows
 hwl : wd.length = s
 hws : ∀ l ∈ wd, l.length ≤ 1000
 hf : ∃ t0, f "ccc" = some (.int 0 t0)
 hf2 : f "dm" = some .none
noncomputable def TextOk (rows : Rows) (xs : List Int) : Prop := xs.length ≤ 400 ∧ ∀ i ∈ xs, i < 1000 ∧ (look rows [i]).isSome = true
noncomputable abbrev foundF (rows : Rows) (s : Nat) (wd : List (List Int)) (xs : List Int) (wide : Bool) : List (Int × Int) := allF (piecesF rows s xs) wd wide
theorem foundF_len {rows : Rows} {lon : Int → Nat} {f : Str → Option Value} {s : Nat} {wd : List (List Int)} {xs : List Int} {wide : Bool} (h : RdyS rows lon f s wd) (hx : TextOk rows xs) : (foundF rows s wd xs wide).length ≤ 400 := by
 have h1 := allF_len (piecesF rows s xs) wd wide
 have h2 := pieces_len h.hS s xs
 have h3 := hx.1
 show (allF (piecesF rows s xs) wd wide).length ≤ 400
 exact Nat.le_trans (Nat.le_trans (Nat.le_trans h1 h2) h3) (Nat.le_of_ble_eq_true rfl)
section
variable {prog : Program} {w : World} {K : Frag} {A : Around} {z z' : Fz} {n n' : Led} {c : Cx} {m : M}
theorem iterV_tupE {α : Type} (hh : A.handled = none) {e : α → PyData} {xs : List α} {x : Value} (hV : Vz z (.tuple (xs.map e)) x) {target : PySem.Expr} : IterV prog w K A target x [] e xs z := by
 refine oEEAA hV fun a vs e0_ hz hall => ?_
 clear hV
 subst e0_
 rw [vzAll_iff, All2.map] at hall
 refine ⟨_, hall.len ▸ iter_tup hh hz, fun i v z' le p => ?_⟩
 refine oEA (hall.at' p) fun y hy hv => ?_
 exact ⟨y, hy, hv.up le⟩
/-! a dict display of string keys -/
noncomputable def evp (prog : Program) (w : World) (K : Frag) (A : Around) (c : Cx) : List (PySem.Expr × PySem.Expr) → M → Fz → Led → (List (Value × Value) → Fz → Led → Prop) → Prop
 | [], m, z, n, Q => Q [] z n
 | p :: r, m, z, n, Q => ev prog w K A c p.1 m z n fun kv z1 n1 => ev prog w K A c p.2 m z1 n1 fun vv z2 n2 => evp prog w K A c r m z2 n2 fun l z3 n3 => Q ((kv, vv) :: l) z3 n3
theorem evp_ok (hE : CxOk prog w K A c) (pos : Pos) : ∀ (ps : List (PySem.Expr × PySem.Expr)) (z : Fz) (n : Led) (Q : List (Value × Value) → Fz → Led → Prop), evp prog w K A c ps m z n Q →
  VW prog w K A c (evalPairs (ps.map fun p => (eval p.1 c.env, do let x ← eval p.2 c.env; PySem.standAt pos; pure x))) m z n Q
 | [], z, n, Q, h => VW.pure h
 | p :: r, z, n, Q, h => by
  rw [List.map_cons, evalPairs]
  refine VW.bind (VW.mono (evE hE h) fun kv z1 n1 h1 => ?_)
  refine VW.bind (W.holding (VW.bind (VW.mono (evE hE h1) fun vv z2 n2 h2 => W.standAt (VW.pure ?_))))
  exact VW.bind (W.holding (VW.mono (evp_ok hE pos r z2 n2 _ h2) fun l z3 n3 h3 => VW.pure h3))
theorem dictS_V (hE : CxOk prog w K A c) {keys : List (Option PySem.Expr)} {values : List PySem.Expr} {pos : Pos} (ps : List (PySem.Expr × PySem.Expr)) (h0 : ps ≠ []) (hlen : ps.length ≤ 15)
  (hshape : (evalEachOpt keys c.env).zip ((evalEach values c.env).map fun v => do let x ← v; PySem.standAt pos; pure x) = (ps.map fun p => (eval p.1 c.env, do let x ← eval p.2 c.env; PySem.standAt pos; pure x)).map fun p => (some p.1, p.2)) {Q : KV}
  (h : ∀ d, (d == sysModules) = false → evp prog w K A c ps m z ((d, .dS (fun u_ => none) 0) :: n) fun l z1 n1 => ∃ kvs n2, Carries (strKind prog w) l kvs ∧ kvs.length ≤ 100 ∧ n1.Perm ((d, .dS (fun u_ => none) 0) :: n2) ∧ Q (.ref d) z1 ((d, .dS (fun y => valueAt (merged [] kvs) y) kvs.length) :: n2)) :
  VW prog w K A c (eval (.Dict keys values pos) c.env) m z n Q := fun E s hs => by
 refine wpAny_Dict_pairs (knd := strKind prog w) hshape (by simpa using h0) (by simpa using hlen) ?_
 have hd : (s.heap.objs.size == sysModules) = false := by
  refine oEEAA hs.from fun mg mb g u_ u_ => ?_
  have h3 : mainGlobals < s.heap.objs.size := g.lt
  refine beq_eq_false_iff_ne.mpr fun e => ?_
  rw [e] at h3
  exact absurd h3 (by decide)
 have st1 := Step.push (tk := s.toks) hs (o := { cls := .type "dict", data := .dict #[] }) (lo := .dS (fun u_ => none) 0) isS0 rfl
 refine wpAny_mono (evp_ok hE pos ps _ _ _ (h _ hd) E _ st1.st) (fun l s2 h2 => ?_) fun u_ u_ e => e
 refine oEEA h2 fun z2 n3 st2 h_ => oEA h_ fun n4 e4 h_ => oEEAAA h_ fun kvs n2 hc hl e2 q => ?_
 clear h2
 subst e4
 replace st2 := st2.perm (e2.cons _)
 have st := st1.trans st2 hs.ztb
 refine oEA (st2.st.led (s.heap.objs.size, .dS (fun u_ => none) 0) (.tail _ (.head _))) fun o ho hi => ?_
 refine oEAA (DD.of (dsIs o hi) ho) fun kvs0 hd0 hl0 u_ => ?_
 have e0 : kvs0 = [] := List.eq_nil_of_length_eq_zero (Nat.le_zero.mp hl0)
 subst e0
 refine ⟨kvs, hc, hd0, fun h' hd' sb => ?_⟩
 refine (fun hlm => ?_ : ∀ hlm : (merged [] kvs).length ≤ kvs.length, _) ?_
 ·refine oEA (DD.to (f := fun y => valueAt (merged [] kvs) y) (m := kvs.length) hd' hlm fun u_ => rfl) fun o' ho' hi' => ?_
  exact ⟨z2, _, st.trans (Step.upd st2.st (lo' := .dS (fun y => valueAt (merged [] kvs) y) kvs.length) (.tail .head) sb ⟨o', ho', hi'⟩) hs.ztb, _, rfl, q⟩
 ·have aux : ∀ (l acc : List (Str × Value)), (merged acc l).length ≤ acc.length + l.length := by
   intro l
   induction l with
   | nil => intro acc; exact Nat.le_refl _
   | cons p r ih =>
    intro acc
    have h1 := ih (stored acc p.1 p.2)
    have h2 := stored_length_le acc p.1 p.2
    rw [List.length_cons]
    exact Nat.le_trans h1 (by (first | lia | omega))
  have := aux kvs []
  rw [List.length_nil] at this
  (first | lia | omega)
end
/-! over a dict's keys -/
section
variable {prog : Program} {w : World} {A : Around} {E : Value → Shared → Prop} {s : Shared} {d it : Addr} {od : Obj} {es : Array DictEntry} {ep i : Nat}
noncomputable def keyIt (d : Addr) (i n ep : Nat) : Obj := { cls := .type "dict_keyiterator", data := .fields #[.ref d, .int i 0, .int n 0, .int ep 0] }
theorem rawIter {Q : Value → Shared → Prop} (hd : (d == sysModules) = false) (ho : s.heap.get? d = some od) (hc : od.ExactDict) (hdat : od.data = .dict es ep)
  (hQ : Q (.ref s.heap.objs.size) { s with heap := s.heap.push (keyIt d 0 es.size ep) }) : wpAny (model prog w) A (pyIter (.ref d)) Q E s := by
 have hT : s.TypeIs (.ref d) "dict" := ⟨_, ho, hc.1⟩
 refine wpAny_pyIter_slot hT F.slot_dict_iter (wpAny_call_entry F.slot_dict_iter hT F.entry_dict_iter ?_ (F.args_dict_iter_1 _))
 unfold Builtin.«dict.__iter__»
 refine wpAny_bind ?_
 unfold Builtin.Dict.dictSlotNone
 refine wpAny_bind (wpAny_notOrdered_dict hT ?_)
 show wpAny _ _ (pure (Value.ref d)) _ _ s
 refine wpAny_pure ?_
 show wpAny _ _ (Builtin.Dict.showsAll d >>= _) _ _ s
 unfold Builtin.Dict.showsAll
 rw [if_neg (by rw [hd]; exact Bool.false_ne_true)]
 refine wpAny_bind (wpAny_pure ?_)
 refine wpAny_bind (wpAny_dictEntries ho hdat ?_)
 refine wpAny_bind (wpAny_dictEpoch ho hdat ?_)
 refine wpAny_bind (wpAny_newObj_type (wpAny_pure ⟨_, rfl, "dict_keyiterator", _, ⟨_, Heap.get?_push_size _ rfl, rfl⟩, F.slot_dict_keyiterator_next.lookup, ?_⟩))
 exact hQ
theorem rawNext {Q : Option Value → Shared → Prop} (hit : s.heap.IsKeyIter it d i es.size ep) (hod : s.heap.get? d = some od) (hdd : od.data = .dict es ep) (hx : i < es.size)
  (hQ : ∀ h', h'.IsKeyIter it d (i + 1) es.size ep → Heap.SameBut it s.heap h' → Q (some es[i].key) { s with heap := h' }) : wpAny (model prog w) A (pyNext (.ref it)) Q E s := by
 refine oEAA (id hit) fun o ho hc hd => ?_
 unfold pyNext
 refine wpAny_bind (wpAny_attempt (wpAny_callSpecial?_slot (name := Str.ofString "__next__") hit.typeIs F.slot_dict_keyiterator_next
  (wpAny_call_entry F.slot_dict_keyiterator_next hit.typeIs F.entry_dict_keyiterator_next ?_ (F.args_dict_keyiterator_next_1 _))))
 refine wpAny_bind (wpAny_pure ?_)
 refine wpAny_bind ?_
 refine wpAny_bind ?_
 first | refine wpAny_bind (wpAny_typeNameOfWhole_keyiter hit.typeIs (wpAny_pure ?_)) | refine wpAny_bind (wpAny_typeNameOf_keyiter hit.typeIs (wpAny_pure ?_))
 refine wpAny_bind (wpAny_fieldsOf ho hd ?_)
 have hown : Builtin.Dict_items.ownsTuple "dict_keyiterator" = false := by decide
 rw [hown]
 show wpAny _ _ (if (Value.ref d == Value.none) = true then _ else _) _ _ s
 rw [if_neg (show ¬ ((Value.ref d == Value.none) = true) from Bool.false_ne_true)]
 refine wpAny_bind (wpAny_pure ?_)
 refine wpAny_bind (wpAny_dictEntries hod hdd ?_)
 rw [if_neg (by simp)]
 refine wpAny_bind (wpAny_pure ?_)
 refine wpAny_bind (wpAny_dictEpoch hod hdd ?_)
 rw [if_neg (by simp)]
 refine wpAny_pure ?_
 simp only [show ¬ ((i : Int) < 0) from by (first | lia | omega), if_false, Int.toNat_natCast, Array.getElem?_eq_getElem hx]
 refine wpAny_bind ?_
 first | refine wpAny_bind (wpAny_typeNameOfWhole_keyiter hit.typeIs (wpAny_pure ?_)) | refine wpAny_bind (wpAny_typeNameOf_keyiter hit.typeIs (wpAny_pure ?_))
 refine wpAny_bind (wpAny_isOneOf_keyiter hit.typeIs ?_)
 show wpAny _ _ (setField (.ref it) 1 (rawInt ((i : Int) + 1)) >>= _) _ _ s
 refine wpAny_bind (wpAny_setField ho hd (by simp) ?_)
 have hit' : (s.heap.update it (Obj.mapFields (·.setIfInBounds 1 (rawInt ((i : Int) + 1))))).IsKeyIter it d (i + 1) es.size ep :=
  ⟨_, Heap.get?_update_self _ ho (Obj.isFreed_of_fields (Obj.data_mapFields hd _)), (Obj.cls_mapFields ..).trans hc, by rw [Obj.data_mapFields hd]; simp [rawInt]⟩
 refine wpAny_bind (wpAny_holding ?_)
 refine wpAny_bind (wpAny_isOneOf_keyiter (s := { s with heap := s.heap.update it (Obj.mapFields (·.setIfInBounds 1 (rawInt ((i : Int) + 1)))) }) hit'.typeIs ?_)
 show wpAny _ _ (pure es[i].key) _ _ _
 exact wpAny_pure (wpAny_pure ⟨_, rfl, wpAny_pure (hQ _ hit' (Heap.SameBut.update ..))⟩)
theorem rawEnd {Q : Option Value → Shared → Prop} (hh : A.handled = none) (hit : s.heap.IsKeyIter it d i es.size ep) (hod : s.heap.get? d = some od) (hdd : od.data = .dict es ep) (hge : es.size ≤ i)
  (hQ : ∀ h', Heap.ExtBut it s.heap h' → Q none { s with heap := h' }) : wpAny (model prog w) A (pyNext (.ref it)) Q E s := by
 refine oEAA (id hit) fun o ho hc hd => ?_
 unfold pyNext
 refine wpAny_bind (wpAny_attempt (wpAny_callSpecial?_slot (name := Str.ofString "__next__") hit.typeIs F.slot_dict_keyiterator_next
  (wpAny_call_entry F.slot_dict_keyiterator_next hit.typeIs F.entry_dict_keyiterator_next ?_ (F.args_dict_keyiterator_next_1 _))))
 refine wpAny_bind (wpAny_pure ?_)
 refine wpAny_bind ?_
 refine wpAny_bind ?_
 first | refine wpAny_bind (wpAny_typeNameOfWhole_keyiter hit.typeIs (wpAny_pure ?_)) | refine wpAny_bind (wpAny_typeNameOf_keyiter hit.typeIs (wpAny_pure ?_))
 refine wpAny_bind (wpAny_fieldsOf ho hd ?_)
 have hown : Builtin.Dict_items.ownsTuple "dict_keyiterator" = false := by decide
 rw [hown]
 show wpAny _ _ (if (Value.ref d == Value.none) = true then _ else _) _ _ s
 rw [if_neg (show ¬ ((Value.ref d == Value.none) = true) from Bool.false_ne_true)]
 refine wpAny_bind (wpAny_pure ?_)
 refine wpAny_bind (wpAny_dictEntries hod hdd ?_)
 rw [if_neg (by simp)]
 refine wpAny_bind (wpAny_pure ?_)
 refine wpAny_bind (wpAny_dictEpoch hod hdd ?_)
 rw [if_neg (by simp)]
 refine wpAny_pure ?_
 simp only [show ¬ ((i : Int) < 0) from by (first | lia | omega), if_false, Int.toNat_natCast, Array.getElem?_eq_none hge]
 refine wpAny_bind ?_
 first | refine wpAny_bind (wpAny_typeNameOfWhole_keyiter hit.typeIs (wpAny_pure ?_)) | refine wpAny_bind (wpAny_typeNameOf_keyiter hit.typeIs (wpAny_pure ?_))
 show wpAny _ _ (setField (.ref it) 0 .none >>= _) _ _ s
 refine wpAny_bind (wpAny_setField ho hd (by simp) ?_)
 show wpAny _ _ (newExc (.type "StopIteration") [] >>= _) _ _ _
 refine wpAny_bind ?_
 unfold newExc newTuple
 refine wpAny_bind (wpAny_newObj_type ?_ (by size_fits))
 refine wpAny_bind (m := firstArgMember _ _) (wpAny_of_eq (a := Value.none) (by first | rfl | (simp only [firstArgMember]; rfl)) ?_)
 refine wpAny_newObj_type ?_ (by size_fits)
 unfold raiseNew
 refine wpAny_bind (wpAny_handled ?_)
 rw [show A.in1.handled = none from hh]
 refine wpAny_bind (wpAny_pure (wpAny_throw ?_))
 refine wpAny_bind (wpAny_isInstance (T := "StopIteration") (b := true) ⟨_, Heap.get?_push_size _ rfl, rfl⟩ isSubtype_stop ?_)
 exact wpAny_pure (hQ _ (((Heap.SameBut.update ..).extBut.push _).push _))
end
section
variable {prog : Program} {w : World} {K : Frag} {A : Around} {z z' : Fz} {n n' : Led} {c : Cx} {m : M}
theorem iter_keys (hh : A.handled = none) {d : Addr} {o : Obj} {es : Array DictEntry} {ep : Nat} (hd : (d == sysModules) = false) (hz : z d = some (.raw o)) (hc : o.ExactDict) (hdat : o.data = .dict es ep) {target : PySem.Expr} :
  IterOf prog w K A target (.ref d) [] es.size (fun i v u_ => (es[i]?).map (·.key) = some v) z := fun E s hs => by
 have itr : ∀ {s1 : Shared} {it : Addr} {i : Nat}, At prog w K s1.heap it (.fld "dict_keyiterator" [.ref d, .int i 0, .int es.size 0, .int ep 0]) → s1.heap.IsKeyIter it d i es.size ep := fun h_ => oEAA h_ fun o a b c => ⟨o, a, b, c⟩
 refine rawIter hd (raw_of (hs.frz d _ hz)) hc hdat ⟨z, _, Step.push (tk := s.toks) hs (lo := .fld "dict_keyiterator" [.ref d, .int (0 : Nat) 0, .int es.size 0, .int ep 0]) ⟨rfl, rfl⟩ rfl, rfl, fun i => [(s.heap.objs.size, .fld "dict_keyiterator" [.ref d, .int i 0, .int es.size 0, .int ep 0])], fun i u_ => [(s.heap.objs.size, .fld "dict_keyiterator" [.ref d, .int ((i + 1 : Nat) : Int) 0, .int es.size 0, .int ep 0])], rfl, ?_⟩
 refine ⟨fun i z1 Q hi le hQ E s1 hs1 => ?_, fun z1 Q le hQ E s1 hs1 => ?_, fun i z1 Q le hQ E s1 hs1 => ?_, fun i z1 v Q hi le u_ hQ => letOwned_keep (fun u_ u_ u_ => lent_fld (by decide)) (.head _) (hQ _ rfl)⟩
 ·refine rawNext (itr (hs1.led _ (.head _))) (raw_of (hs1.frz d _ (le _ _ hz))) hdat hi fun h' hit sb => ?_
  refine oEAA hit fun o' ho' hc' hd' => ?_
  clear hit
  exact ⟨z1, _, Step.upd (tk := s1.toks) hs1 (lo' := .fld "dict_keyiterator" [.ref d, .int ((i + 1 : Nat) : Int) 0, .int es.size 0, .int ep 0]) Up.head sb ⟨o', ho', hc', hd'⟩, hQ _ _ (Le.refl _) (by simp [hi])⟩
 ·exact rawEnd hh (itr (hs1.led _ (.head _))) (raw_of (hs1.frz d _ (le _ _ hz))) hdat (Nat.le_refl _) fun h' hk => ⟨z1, [], Step.forget (tk := s1.toks) hs1 rfl hk, hQ⟩
 ·exact wpAny_pyIter_keyiter (itr (hs1.led _ (.head _))) ⟨z1, _, .refl hs1, hQ⟩
end
section
variable {prog : Program} {w : World} {K : Frag} {A : Around} {α : Type} {z z' : Fz} {n n' : Led}
/-- an entry frozen behind a call -/
theorem W.post_frz {t : Sem α} {Q : α → Fz → Led → Prop} (h : W prog w K A t z n fun v z' n' => ∃ a lo n2, n'.Perm ((a, lo) :: n2) ∧ (z' a = none → Q v (fset z' a lo) n2)) : W prog w K A t z n Q := fun E s hs =>
 wpAny_mono (h E s hs) (fun v s' hq => by
  refine oEEA hq fun z' n' st h_ => oEEEA h_ fun a lo n2 hp q => ?_
  clear hq
  have st1 := st.perm hp
  exact ⟨_, _, st1.freeze, q (st1.st.off a (.head _))⟩) fun u_ u_ e => e
end
section
variable {prog : Program} {w : World} {K : Frag} {A : Around} {z z' : Fz} {n n' : Led} {c : Cx} {m : M}
theorem valueAt_some {X : Type} [DecidableEq X] {kvs : List (X × Value)} {x : X} (h : x ∈ kvs.map (·.1)) : ∃ v, valueAt kvs x = some v := by
 unfold valueAt
 refine oEA (List.mem_map.mp h) fun p hp e0_ => ?_
 subst e0_
 have : (kvs.find? fun kv => decide (kv.1 = p.1)).isSome = true := by
  rw [List.find?_isSome]
  exact ⟨p, hp, by simp⟩
 obtain ⟨q, hq⟩ := Option.isSome_iff_exists.mp this
 exact ⟨q.2, by rw [hq]; rfl⟩
theorem nodup_len {X : Type} [DecidableEq X] : ∀ {a b : List X}, a.Nodup → (∀ x ∈ a, x ∈ b) → a.length ≤ b.length
 | [], b, _, _ => Nat.zero_le _
 | x :: a, b, hn, h => by
  have hn' := List.nodup_cons.mp hn
  have h1 := nodup_len (a := a) (b := b.erase x) hn'.2 fun y hy => (List.mem_erase_of_ne (fun (e : y = x) => hn'.1 (by rw [← e]; exact hy))).mpr (h y (.tail _ hy))
  have h2 := List.length_erase_of_mem (h x (.head _))
  have h3 := List.length_pos_of_mem (h x (.head _))
  rw [List.length_cons]
  exact Nat.lt_of_le_of_lt (Nat.le_trans h1 (Nat.le_of_eq h2)) (Nat.sub_lt (Nat.zero_lt_of_lt h3) (Nat.zero_lt_succ _))
/-- a dict is no longer than its keys' list -/
theorem DD.shrink {X : Type} [DecidableEq X] {knd : KeyKind prog w X} {f : X → Option Value} {m : Nat} {o : Obj} (x : DD knd f m o) {l : List X} (h : ∀ k, f k ≠ none → k ∈ l) : DD knd f l.length o := by
 refine and_e x fun hc h_ => oEEEAAAAA h_ fun es ep kvs hd hk hp hn hl hf => ?_
 clear x
 refine ⟨hc, es, ep, kvs, hd, hk, hp, hn, ?_, hf⟩
 rw [← List.length_map (f := (·.1))]
 refine nodup_len hn fun k hk => h k ?_
 obtain ⟨v, e⟩ := valueAt_some hk
 rw [← hf, e]
 simp
/-- the deck: its cells, and the number mixed -/
noncomputable def deckF (C : Addr) (mx : Int) (t : Tok) : Str → Option Value := fun y => if y = Str.ofString "cells" then some (.ref C) else if y = Str.ofString "mixed" then some (.int mx t) else none
noncomputable def deckL (d C : Addr) (cs : List Value) (mx : Int) (t : Tok) : Led := [(d, .dS (deckF C mx t) 2), (C, .lst cs)]
theorem deckF_set {C : Addr} {mx mx' : Int} {t t' : Tok} : (fun y => if y = Str.ofString "mixed" then some (.int mx' t') else deckF C mx t y) = deckF C mx' t' := by
 funext y
 unfold deckF
 by_cases h1 : y = Str.ofString "mixed"
 ·have : ¬ y = Str.ofString "cells" := fun e => by
   rw [h1] at e
   exact absurd (str_inj.mp e) (by decide)
  rw [if_pos h1, if_neg this, if_pos h1]
 ·simp only [if_neg h1]
theorem deckF_cells {C : Addr} {mx : Int} {t : Tok} : deckF C mx t (Str.ofString "cells") = some (.ref C) := if_pos rfl
theorem deckF_mixed {C : Addr} {mx : Int} {t : Tok} : deckF C mx t (Str.ofString "mixed") = some (.int mx t) := by
 unfold deckF
 rw [if_neg (fun e => absurd (str_inj.mp e) (by decide)), if_pos rfl]
theorem deck_set {C : Addr} {mx mx' : Int} {t t' : Tok} (o : Obj) (h : DD (strKind prog w) (fun y => if y = Str.ofString "mixed" then some (.int mx' t') else deckF C mx t y) (2 + 1) o) : (Lo.dS (deckF C mx' t') 2).Is prog w K o := by
 rw [deckF_set] at h
 refine DD.shrink h (l := [Str.ofString "cells", Str.ofString "mixed"]) fun k hk => ?_
 unfold deckF at hk
 by_cases h1 : k = Str.ofString "cells"
 ·rw [h1]; exact .head _
 ·rw [if_neg h1] at hk
  by_cases h2 : k = Str.ofString "mixed"
  ·rw [h2]; exact .tail _ (.head _)
  ·rw [if_neg h2] at hk; exact absurd rfl hk
/-- what is known of a deck -/
structure DeckOk (d : Addr) (cs : List Value) (mx : Int) : Prop where
 nums : ∃ is : List Int, All2 (fun i v => ∀ z, Vz z (eI i) v) is cs
 len : cs.length ≤ 40
 lo : 0 ≤ mx
 hi : mx < 2147483648
 sys : (d == sysModules) = false
theorem fmod_lt {i j : Int} (h : 0 < j) : 0 ≤ Int.fmod i j ∧ Int.fmod i j < j := ⟨Int.fmod_nonneg_of_pos i h, Int.fmod_lt_of_pos i h⟩
end
/-- the longest known, one key put -/
noncomputable def lonPut (lon : Int → Nat) (c : Int) (k : Nat) : Int → Nat := fun i => if i = c ∧ lon i < k then k else lon i
theorem LonIs.put {f : Int → Option Value} {lon : Int → Nat} {c : Int} {k : Nat} {t : Tok} (h : LonIs f lon) (hk : lon c < k) : LonIs (fun y => if y = c then some (.int (k : Nat) t) else f y) (lonPut lon c k) := fun i => by
 unfold lonPut
 dsimp only
 by_cases hi : i = c
 ·subst hi
  rw [if_pos rfl, if_pos ⟨rfl, hk⟩]
  exact .inr ⟨t, rfl⟩
 ·rw [if_neg hi, if_neg (fun e => hi e.1)]
  exact h i
theorem lonPut_same {lon : Int → Nat} {c : Int} {k : Nat} (hk : ¬ lon c < k) : lonPut lon c k = lon := by
 funext i
 unfold lonPut
 by_cases hi : i = c
 ·subst hi
  rw [if_neg (fun e => hk e.2)]
 ·rw [if_neg (fun e => hi e.1)]
section
variable {prog : Program} {w : World} {K : Frag} {A : Around} {z z' : Fz} {n n' : Led} {c : Cx} {m : M}
noncomputable def zipKV (keys : List (Option PySem.Expr)) (values : List PySem.Expr) : List (PySem.Expr × PySem.Expr) := (keys.filterMap id).zip values
theorem dictK_V (hE : CxOk prog w K A c) {keys : List (Option PySem.Expr)} {values : List PySem.Expr} {pos : Pos} (h0 : (zipKV keys values).isEmpty = false) (hlen : Nat.ble (zipKV keys values).length 15 = true)
  (hshape : (evalEachOpt keys c.env).zip ((evalEach values c.env).map fun v => do let x ← v; PySem.standAt pos; pure x) = ((zipKV keys values).map fun p => (eval p.1 c.env, do let x ← eval p.2 c.env; PySem.standAt pos; pure x)).map fun p => (some p.1, p.2)) {Q : KV}
  (h : ∀ d, (d == sysModules) = false → evp prog w K A c (zipKV keys values) m z ((d, .dS (fun u_ => none) 0) :: n) fun l z1 n1 => ∃ kvs n2, Carries (strKind prog w) l kvs ∧ kvs.length ≤ 100 ∧ n1.Perm ((d, .dS (fun u_ => none) 0) :: n2) ∧ Q (.ref d) z1 ((d, .dS (fun y => valueAt (merged [] kvs) y) kvs.length) :: n2)) :
  VW prog w K A c (eval (.Dict keys values pos) c.env) m z n Q := dictS_V hE _ (fun e => by rw [e] at h0; cases h0) (Nat.le_of_ble_eq_true hlen) hshape h
noncomputable def eS (x : Str) : PyData := .str x
theorem vzS {z : Fz} {x : Str} {v : Value} : Vz z (eS x) v ↔ ∃ t, v = .str x t := Iff.rfl
theorem vzS_use {z : Fz} {x : Str} {motive : (v : Value) → Vz z (eS x) v → Prop} (k : ∀ t h, motive (.str x t) h) {v : Value} (h : Vz z (eS x) v) : motive v h := by
 obtain ⟨t, rfl⟩ := vzS.mp h
 exact k t h
theorem vzS_mk {z : Fz} {x : Str} {t : Tok} : Vz z (eS x) (.str x t) := vzS.mpr ⟨t, rfl⟩
theorem slice_rawU {a : Addr} {o : Obj} {vs : List Value} {mm b : Nat} {k : Int} {t : Tok} {Q : KV} (hz : z a = some (.raw o)) (hc : o.cls = .type "list") (hd : o.data = .seq vs.toArray mm) (hk : k = (b : Nat)) (hl : vs.length ≤ 1000000) (q : ∀ z' D, Le z z' → z' D = some (.lst (vs.take b)) → Q (.ref D) z' n) : sliceE prog w K A (.ref a) .none (.int k t) .none z n Q := fun i hi' => by
 have hiL : ∀ {s : Shared}, St prog w K (fset z i (.raw { cls := .type "slice", data := .fields #[.none, .int k t, .none] })) n s → s.heap.IsList a vs.toArray := fun hs => ⟨o, raw_of (hs.frz a _ (Le.fset hi' _ _ hz)), hc, mm, hd⟩
 refine ⟨⟨"list", "list.__getitem__", fun s hs => (hiL hs).typeIs, list_getitem_lookup⟩, fun E s hs => ?_⟩
 refine oEA (hs.frz i _ fset_self) fun o2 ho io => ?_
 have io' : o2 = { cls := .type "slice", data := .fields #[.none, .int k t, .none] } := io
 subst io'
 have pu : IsPart (.int k t) (some (b : Int)) := part_nat hk
 refine wpAny_getItem_list_slice (hiL hs) ⟨_, ho, rfl, rfl⟩ .none pu .none (by simp) ?_ (by rw [List.size_toArray, sizeLine_eq]; exact Nat.le_trans hl (Nat.le_of_ble_eq_true rfl))
 have this : newL (slicePick vs.toArray none (some (b : Int)) none).toList (fset z i (.raw { cls := .type "slice", data := .fields #[.none, .int k t, .none] })) n Q := .inr fun D hD => q _ D ((Le.fset hi').trans (Le.fset hD)) (by rw [pick_upto']; exact fset_self)
 have := this.out (tk := s.toks) hs
 simpa using this
theorem ints_all {vs : List Value} {is : List Int} (h : IntsAre vs is) : All2 (fun i v => ∀ z, Vz z (eI i) v) is vs :=
 IntsAre.rec (motive := fun vs is u_ => All2 (fun i v => ∀ z, Vz z (eI i) v) is vs) trivial (fun i t u1 u2 u3 ih => ⟨fun z => vzI.mpr ⟨t, rfl⟩, ih⟩) h
end
section
variable {prog : Program} {w : World} {K : Frag} {A : Around} {z z' : Fz} {n n' : Led} {c : Cx} {m : M}
theorem assignSub_ok (hE : CxOk prog w K A c) {o i : PySem.Expr} {p : Pos} {v : Value} {Q : Fz → Led → Prop} (h : ev prog w K A c o m z n fun ov z1 n1 => ev prog w K A c i m z1 n1 fun iv z2 n2 => setItemE prog w K A ov iv v z2 n2 Q) : SW prog w K A c (assign (.Subscript o i p) c.env v) m z n fun u_ m1 z1 n1 => m1 = m ∧ Q z1 n1 := by
 refine W.of_eq (assign_Subscript o i p v) ?_
 refine SW.bindV (W.holding (VW.mono (evE hE h) fun ov z1 n1 h1 => ?_))
 refine SW.bindV (W.holding (VW.mono (evE hE h1) fun iv z2 n2 h2 => ?_))
 refine W.standAt ?_
 refine SW.bindV (W.holding (VW.leaf (W.mono h2 fun u_ z3 n3 u_ h3 => ?_)))
 exact SW.leaf (W.release ⟨rfl, h3⟩)
theorem pairSub_W (hE : CxOk prog w K A c) {o1 i1 o2 i2 v : PySem.Expr} {p1 p2 tp p : Pos} {k : Nat} {Q : KF} (hn : notComp v = true) (hw : swappedStores [.Tuple [.Subscript o1 i1 p1, .Subscript o2 i2 p2] k tp] v c.env = pure none)
  (h : ev prog w K A c v m z n fun u z1 n1 => ∃ a x y, u = .ref a ∧ Hs z1 n1 a (.tup [x, y]) ∧ ev prog w K A c o1 m z1 n1 fun ov z2 n2 => ev prog w K A c i1 m z2 n2 fun iv z3 n3 => setItemE prog w K A ov iv x z3 n3 fun z4 n4 => ev prog w K A c o2 m z4 n4 fun ov z5 n5 => ev prog w K A c i2 m z5 n5 fun iv z6 n6 => setItemE prog w K A ov iv y z6 n6 (Q .next m)) :
  SW prog w K A c (exec (.Assign [.Tuple [.Subscript o1 i1 p1, .Subscript o2 i2 p2] k tp] v p) c.env) m z n Q := by
 refine W.of_eq (PyProof.Rows.exec_Assign _ v p) (W.standAt ?_)
 rw [swapsSole_no hn]
 refine SW.bindV (VW.pure ?_)
 show SW prog w K A c (do let u ← eval v c.env; assignStores c.env u (← swappedStores [.Tuple [.Subscript o1 i1 p1, .Subscript o2 i2 p2] k tp] v c.env) ((assignEach [.Tuple [.Subscript o1 i1 p1, .Subscript o2 i2 p2] k tp] c.env).map (·.2))) m z n Q
 rw [hw]
 refine SW.bindV (VW.mono (evE hE h) fun u z1 n1 h1 => ?_)
 refine oEEEAA h1 ?_
 clear h1
 intro a x y e0_ hk h1
 subst e0_
 refine SW.bindV (VW.pure ?_)
 show SW prog w K A c (do assignAll (.ref a) [assign (.Tuple [.Subscript o1 i1 p1, .Subscript o2 i2 p2] k tp) c.env]; pure Flow.next) m z1 n1 Q
 show SW prog w K A c (do (do PySem.standAt tp; unpack (.ref a) (assignEach [.Subscript o1 i1 p1, .Subscript o2 i2 p2] c.env)); pure Flow.next) m z1 n1 Q
 refine SW.bind (W.standAt ?_)
 have hs : Hs z1 ((c.L, .ns c.sc c.g m) :: n1) a (.tup [x, y]) := hk.imp id (.tail _)
 have e1 : assignEach [.Subscript o1 i1 p1, .Subscript o2 i2 p2] c.env = [(false, assign (.Subscript o1 i1 p1) c.env), (false, assign (.Subscript o2 i2 p2) c.env)] := rfl
 rw [e1]
 show SW prog w K A c (do let items ← PySem.holding [Value.ref a] (unpackItems (.ref a) 2 none); assignInOrder [assign (.Subscript o1 i1 p1) c.env, assign (.Subscript o2 i2 p2) c.env] items) m z1 n1 _
 refine SW.bindV (W.holding (W.mono (unp_items hE.handled hs (Q := fun ws z' n' => ws = [x, y] ∧ z' = z1 ∧ n' = (c.L, .ns c.sc c.g m) :: n1) ⟨rfl, rfl, rfl⟩) fun ws z' n' u_ h_ => oAA h_ fun e1 e2 e3 => ⟨n1, e3, ?_⟩))
 subst e1 e2
 refine SW.bind (W.holding (SW.mono (assignSub_ok hE h1) fun u_ m2 z2 n2 u_ h2 => ?_))
 obtain ⟨rfl, h2⟩ := h2
 refine SW.bind (W.holding (SW.mono (assignSub_ok hE h2) fun u_ m3 z3 n3 u_ h3 => ?_))
 obtain ⟨rfl, h3⟩ := h3
 exact SW.pure (SW.pure h3)
end
/-! keys of the rows -/
theorem look_none {rows : Rows} {ks : List Int} (h : ks ∉ rows.map (·.1)) : look rows ks = none := by
 unfold look
 rw [List.find?_eq_none.mpr fun r hr e => h ?_]
 ·rfl
 ·rw [← of_decide_eq_true e]
  exact List.mem_map_of_mem hr
theorem look_some {rows : Rows} {ks : List Int} (h : ks ∈ rows.map (·.1)) : ∃ es, look rows ks = some es ∧ (ks, es) ∈ rows := by
 unfold look
 refine oEA (List.mem_map.mp h) fun r hr e0_ => ?_
 subst e0_
 have : (rows.find? fun x => decide (x.1 = r.1)).isSome = true := by
  rw [List.find?_isSome]
  exact ⟨r, hr, by simp⟩
 obtain ⟨q, hq⟩ := Option.isSome_iff_exists.mp this
 have h1 := List.find?_some hq
 have h2 := List.mem_of_find?_eq_some hq
 have h3 : q.1 = r.1 := of_decide_eq_true h1
 exact ⟨q.2, by rw [hq]; rfl, by rw [← h3]; exact h2⟩
theorem look_key {rows : Rows} {ks : List Int} {es : List El} (h : look rows ks = some es) : (ks, es) ∈ rows := by
 unfold look at h
 refine oEA (Option.map_eq_some_iff.mp h) fun q hq e0_ => ?_
 subst e0_
 have h1 := List.find?_some hq
 have h3 : q.1 = ks := of_decide_eq_true h1
 rw [← h3]
 exact List.mem_of_find?_eq_some hq
/-- the longest known when all keys are put -/
noncomputable def lonK (lon : Int → Nat) : List (List Int) → Int → Nat
 | [] => lon
 | ks :: r => lonK (match ks with | [] => lon | c :: t => lonPut lon c (t.length + 1)) r
theorem lonPut_ge (lon : Int → Nat) (c : Int) (k : Nat) (i : Int) : lon i ≤ lonPut lon c k i := by
 unfold lonPut
 split
 ·next h => exact Nat.le_of_lt h.2
 ·exact Nat.le_refl _
theorem lonPut_at (lon : Int → Nat) (c : Int) (k : Nat) : k ≤ lonPut lon c k c := by
 unfold lonPut
 split
 ·exact Nat.le_refl _
 ·next h => exact Nat.not_lt.mp fun e => h ⟨rfl, e⟩
theorem lonK_ge : ∀ (l : List (List Int)) (lon : Int → Nat) (i : Int), lon i ≤ lonK lon l i
 | [], _, _ => Nat.le_refl _
 | [] :: r, lon, i => lonK_ge r lon i
 | (c :: t) :: r, lon, i => Nat.le_trans (lonPut_ge lon c _ i) (lonK_ge r _ i)
theorem lonK_at : ∀ {l : List (List Int)} {lon : Int → Nat} {c : Int} {t : List Int}, (c :: t) ∈ l → t.length + 1 ≤ lonK lon l c
 | ks :: r, lon, c, t, h => by
  rcases List.mem_cons.mp h with e | h'
  ·subst e
   exact Nat.le_trans (lonPut_at lon c _) (lonK_ge r _ c)
  ·clear h
   cases ks with
   | nil => exact lonK_at (l := r) h'
   | cons d u => exact lonK_at (l := r) h'
theorem lonK_le {b : Nat} : ∀ {l : List (List Int)} {lon : Int → Nat}, (∀ ks ∈ l, ks.length ≤ b) → (∀ i, lon i ≤ b) → ∀ i, lonK lon l i ≤ b
 | [], _, _, h, i => h i
 | [] :: r, lon, hl, h, i => lonK_le (l := r) (fun ks hk => hl ks (.tail _ hk)) h i
 | (c :: t) :: r, lon, hl, h, i => lonK_le (l := r) (fun ks hk => hl ks (.tail _ hk)) (fun j => by
   show lonPut lon c (t.length + 1) j ≤ b
   unfold lonPut
   split
   ·have := hl _ (.head _); simpa using this
   ·exact h j) i
theorem good_rows {rows : Rows} (h : ∀ r ∈ rows, r.1.length ≤ 2) : Good rows (lonK (fun u_ => 0) (rows.map (·.1))) := ⟨fun c d hc => by
  obtain ⟨es, he⟩ := Option.isSome_iff_exists.mp hc
  exact lonK_at (t := [d]) (List.mem_map_of_mem (f := (·.1)) (look_key he)), fun c => lonK_le (fun ks hk => by
  refine oEA (List.mem_map.mp hk) fun r hr e0_ => ?_
  subst e0_
  exact h r hr) (fun u_ => Nat.zero_le _) c⟩
theorem short_rows {rows : Rows} (h : ∀ r ∈ rows, r.2.length ≤ 2) : Short rows := fun ks es he => h _ (look_key he)
section
variable {prog : Program} {w : World} {K : Frag} {A : Around} {z : Fz} {n : Led} {rows : Rows} {T : Addr} {xs : List (List Int × Addr × Value)} {ks : List Int} {a : Addr}
theorem Td_item {es : List El} {Q : KV} (hA : Room A 0) (hT : Td prog w K z n T xs) (hr : RowsAt z rows xs) (ha : Vz z (.tuple (ks.map .int)) (.ref a)) (he : look rows ks = some es) (q : ∀ u, Vz z (eL eE es) u → Q u z n) : itemE prog w K A (.ref T) (.ref a) z n Q := by
 rcases hr.find (ks := ks) with ⟨_, e2⟩ | ⟨p, es', e1, e2, h⟩
 ·rw [he] at e2; cases e2
 ·rw [he] at e2; cases e2
  exact itemT hA hT hr.keys ha e1 (q _ h)
theorem Td_in {Q : KV} (hA : Room A 0) (hT : Td prog w K z n T xs) (hs : (T == sysModules) = false) (hr : RowsAt z rows xs) (ha : Vz z (.tuple (ks.map .int)) (.ref a)) (q : Q (.bool (look rows ks).isSome) z n) : W prog w K A (compareOp .In (.ref a) (.ref T)) z n Q :=
 inT hA hT hr.keys hs ha (by rw [hr.some]; exact q)
theorem one_tup {i : Int} {t : Tok} (hz : z a = some (.tup [.int i t])) : Vz z (.tuple (([i] : List Int).map .int)) (.ref a) := vz_tup hz ⟨vzI.mpr ⟨t, rfl⟩, trivial⟩
theorem two_tup {i j : Int} {t u : Tok} (hz : z a = some (.tup [.int i t, .int j u])) : Vz z (.tuple (([i, j] : List Int).map .int)) (.ref a) := vz_tup hz ⟨vzI.mpr ⟨t, rfl⟩, vzI.mpr ⟨u, rfl⟩, trivial⟩
/-- a row stored -/
theorem row_set {es : List El} {v : Value} {r : Led} {Q : Fz → Led → Prop} (hA : Room A 0) (hr : RowsAt z rows xs) (hn : ks ∉ rows.map (·.1)) (hl : rows.length ≤ 100) (ha : Vz z (.tuple (ks.map .int)) (.ref a)) (hv : Vz z (eL eE es) v) (q : ∀ xs', RowsAt z (rows ++ [(ks, es)]) xs' → Q z ((T, .dT xs') :: r)) : setItemE prog w K A (.ref T) (.ref a) v z ((T, .dT xs) :: r) Q :=
 setT (v := v) hA .head hr.keys ha (by rw [hr.len]; exact Nat.le_trans hl (Nat.le_of_ble_eq_true rfl)) (q _ (hr.put (look_none hn) ha hv))
end
noncomputable def midK (P : M → Fz → Led → Prop) (z0 : Fz) (fl : Flow) (m : M) (z : Fz) (n : Led) : Prop := Le z0 z → (match fl with
 | .next => P m z n
 | .cont => False
 | .brk => False
 | .ret _ => False)
section
variable {prog : Program} {w : World} {K : Frag} {A : Around} {z : Fz} {n : Led} {c : Cx} {m : M}
/-- a statement with what holds behind it -/
theorem exs_mid (hE : CxOk prog w K A c) {st : Stmt} {rest : List Stmt} {Q : KF} (P : M → Fz → Led → Prop) (h : ex prog w K A c st m z n (midK P z)) (after : ∀ m' z' n', Le z z' → P m' z' n' → exs prog w K A c rest m' z' n' Q) : exs prog w K A c (st :: rest) m z n Q :=
 exs_sem (SW.mono (ex_ok hE h) fun fl m1 z1 n1 l h => by
  replace h := h l
  cases fl with
  | next => exact after _ _ _ l h
  | cont => exact h.elim
  | brk => exact h.elim
  | ret v => exact h.elim)
end
noncomputable def eK (ks : List Int) : PyData := .tuple (ks.map .int)
section
variable {prog : Program} {w : World} {K : Frag} {A : Around} {z z' : Fz} {n n' : Led} {c : Cx} {m : M} {rows : Rows} {v : Value}
/-- what stands as the law's rows -/
noncomputable def RowsIs (prog : Program) (w : World) (K : Frag) (z : Fz) (rows : Rows) (v : Value) : Prop := ∃ R xs o, v = .ref R ∧ z R = some (.raw o) ∧ (Lo.dT xs).Is prog w K o ∧ (R == sysModules) = false ∧ RowsAt z rows xs
theorem RowsIs.mono (h : RowsIs prog w K z rows v) (l : Le z z') : RowsIs prog w K z' rows v := by
 refine oEEEAAAA h fun R xs o e h1 h2 h3 h4 => ?_
 clear h
 exact ⟨R, xs, o, e, l _ _ h1, h2, h3, h4.mono l⟩
theorem rowsKeys_at : ∀ {rs : Rows} {xs : List (List Int × Addr × Value)} {i : Nat} {x : List Int × Addr × Value}, RowsAt z rs xs → xs[i]? = some x → ∃ r, rs[i]? = some r ∧ r.1 = x.1 ∧ Vz z (eK r.1) (.ref x.2.1)
 | [], [], i, x, h, e => by simp at e
 | [], _ :: _, i, x, h, e => h.elim
 | _ :: _, [], i, x, h, e => h.elim
 | r :: rs, y :: xs, 0, x, h, e => by
  cases e
  exact ⟨r, rfl, h.1.1, h.1.2.1⟩
 | r :: rs, y :: xs, i + 1, x, h, e => by
  refine oEA (rowsKeys_at (i := i) h.2 (by simpa using e)) fun r' e1 e2 => ?_
  exact ⟨r', by simpa using e1, e2⟩
theorem iterV_keys (hh : A.handled = none) (h : RowsIs prog w K z rows v) {target : PySem.Expr} : IterV prog w K A target v [] eK (rows.map (·.1)) z := by
 refine oEEEAAAA h fun R xs o e0_ hz hi hR hr => ?_
 clear h
 subst e0_
 refine and_e hi fun hc h_ => oEEAA h_ fun es ep hd he hn => ?_
 clear hi
 have hsz : es.size = rows.length := by
  have := congrArg List.length he
  rw [List.length_map, Array.length_toList, hr.len] at this
  exact this
 have hit := iter_keys (prog := prog) (w := w) (K := K) (A := A) hh hR hz hc hd (target := target)
 rw [hsz, ← List.length_map (f := (·.1)) (as := rows)] at hit
 refine ⟨_, hit, fun i u z' le hp => ?_⟩
 have h1 : es.toList[i]?.map (·.key) = some u := by simpa using hp
 rw [he, List.getElem?_map] at h1
 refine oEA (Option.map_eq_some_iff.mp h1) fun y hy e0_ => ?_
 subst e0_
 refine oEA (Option.map_eq_some_iff.mp hy) fun x hx e0_ => ?_
 subst e0_
 refine oEAA (rowsKeys_at hr hx) fun r e1 e2 e3 => ?_
 exact ⟨r.1, by rw [List.getElem?_map, e1]; rfl, e3.up le⟩
theorem R_item {ks : List Int} {a : Addr} {es : List El} {Q : KV} (hA : Room A 0) (h : RowsIs prog w K z rows v) (ha : Vz z (eK ks) (.ref a)) (he : look rows ks = some es) (q : ∀ u, Vz z (eL eE es) u → Q u z n) : itemE prog w K A v (.ref a) z n Q := by
 refine oEEEAAAA h fun R xs o e0_ hz hi hR hr => ?_
 clear h
 subst e0_
 exact Td_item hA (.inr ⟨o, .inl hz, hi⟩) hr ha he q
theorem R_in {ks : List Int} {a : Addr} {Q : KV} (hA : Room A 0) (h : RowsIs prog w K z rows v) (ha : Vz z (eK ks) (.ref a)) (q : Q (.bool (look rows ks).isSome) z n) : W prog w K A (compareOp .In (.ref a) v) z n Q := by
 refine oEEEAAAA h fun R xs o e0_ hz hi hR hr => ?_
 clear h
 subst e0_
 exact Td_in hA (.inr ⟨o, .inl hz, hi⟩) hR hr ha q
theorem exs_freezeRaw {ss : List Stmt} {Q : KF} {a : Addr} {lo : Lo} (h : ∀ o, z a = none → lo.Is prog w K o → exs prog w K A c ss m (fset z a (.raw o)) n Q) : exs prog w K A c ss m z ((a, lo) :: n) Q :=
 W.perm (List.Perm.swap ..) (W.freezeRaw fun o hz hi => h o hz hi)
end
/-- a piece as the law has it -/
noncomputable def ePc : Pc → PyData := eT eI eI (eL (eL eI))
/-- how many signs, as the law asks -/
theorem many_law {rows : Rows} {xs : List Int} {a : Nat} (h1 : ∀ c ∈ xs, (look rows [c]).isSome = true) (ha : a < xs.length) : many rows (xs.drop a) = if (look rows ((xs.drop a).take 2)).isSome = true ∧ a + 1 < xs.length then 2 else 1 := by
 have hl : (xs.drop a).length = xs.length - a := List.length_drop
 cases hd : xs.drop a with
 | nil => rw [hd] at hl; simp at hl; (first | lia | omega)
 | cons c r => cases r with
  | nil =>
   rw [hd] at hl
   simp at hl
   rw [if_neg (by (first | lia | omega))]
   rfl
  | cons d r =>
   rw [hd] at hl
   simp at hl
   have e : (c :: d :: r).take 2 = [c, d] := rfl
   rw [e]
   by_cases h : (look rows [c, d]).isSome = true
   ·rw [if_pos ⟨h, by (first | lia | omega)⟩]; exact if_pos h
   ·rw [if_neg (fun x => h x.1)]; exact if_neg h
theorem take_key {rows : Rows} {xs : List Int} {a : Nat} (h1 : ∀ c ∈ xs, (look rows [c]).isSome = true) (ha : a < xs.length) : ∃ es, look rows ((xs.drop a).take (many rows (xs.drop a))) = some es := by
 refine Option.isSome_iff_exists.mp (many_key rows _ (fun c hc => h1 c (List.mem_of_mem_drop hc)) fun e => ?_)
 have := congrArg List.length e
 rw [List.length_drop] at this
 simp at this
 (first | lia | omega)
theorem groups_at {rows : Rows} {xs : List Int} {a : Nat} {es : List El} (ha : a < xs.length) (he : look rows ((xs.drop a).take (many rows (xs.drop a))) = some es) : groups rows a (xs.drop a) = (es, (a : Int), ((a + many rows (xs.drop a) : Nat) : Int)) :: groups rows (a + many rows (xs.drop a)) (xs.drop (a + many rows (xs.drop a))) := by
 rw [groups_eq rows a (xs.drop a) (fun e => ?_), he, List.drop_drop]
 ·rfl
 ·have := congrArg List.length e
  rw [List.length_drop] at this
  simp at this
  (first | lia | omega)
noncomputable def lvls (ps : List Pc) (i : Nat) : List (List Int) := (ps.getD i (0, 0, [])).2.2
/-- what a stretch tells -/
noncomputable def accT (ps : List Pc) (low : Nat) : Nat → List (List Int)
 | 0 => lvls ps low
 | j + 1 => joinL (accT ps low j) (lvls ps (low + (j + 1)))
noncomputable def hitF (ps : List Pc) (wd : List (List Int)) (low j : Nat) : Bool := decide (accT ps low j = wd) && (!idleL (lvls ps low) && !idleL (lvls ps (low + j)))
noncomputable def innerF (ps : List Pc) (wd : List (List Int)) (low k : Nat) : List (Int × Int) := ((List.range k).filter fun j => hitF ps wd low j).map fun (j : Nat) => ((low : Int), ((low + j : Nat) : Int) + 1)
/-- all stretches, as the law has them -/
noncomputable def lawStr (ps : List Pc) (wd : List (List Int)) (k : Nat) : List (Int × Int) := (List.range k).flatMap fun low => innerF ps wd low (ps.length - low)
theorem innerF_t {ps : List Pc} {wd : List (List Int)} {low j : Nat} (h : hitF ps wd low j = true) : innerF ps wd low (j + 1) = innerF ps wd low j ++ [((low : Int), ((low + j : Nat) : Int) + 1)] := by
 unfold innerF
 rw [List.range_succ, List.filter_append, List.map_append, List.filter_cons, if_pos h]
 rfl
theorem innerF_f {ps : List Pc} {wd : List (List Int)} {low j : Nat} (h : hitF ps wd low j = false) : innerF ps wd low (j + 1) = innerF ps wd low j := by
 unfold innerF
 rw [List.range_succ, List.filter_append, List.map_append, List.filter_cons, if_neg (by rw [h]; exact Bool.false_ne_true)]
 simp
theorem lawStr_succ {ps : List Pc} {wd : List (List Int)} {k : Nat} : lawStr ps wd (k + 1) = lawStr ps wd k ++ innerF ps wd k (ps.length - k) := by
 unfold lawStr
 rw [List.range_succ, List.flatMap_append, List.flatMap_cons, List.flatMap_nil, List.append_nil]
theorem accT_len {ps : List Pc} {s low : Nat} (hW : Wide3 s ps) : ∀ {j : Nat}, low + j < ps.length → (accT ps low j).length = s ∧ ∀ l ∈ accT ps low j, l.length ≤ 2 * (j + 1)
 | 0, h => by
  have := hW _ (List.mem_of_getElem? (getD_at (ps := ps) (i := low) h))
  exact ⟨this.1, this.2⟩
 | j + 1, h => by
  obtain ⟨h1, h2⟩ := accT_len (low := low) hW (j := j) (by (first | lia | omega))
  obtain ⟨h3, h4⟩ := hW _ (List.mem_of_getElem? (getD_at (ps := ps) (i := low + (j + 1)) h))
  exact ⟨joinL_len h1 h3, fun l hl => joinL_short h2 h4 l hl⟩
theorem innerF_len (ps : List Pc) (wd : List (List Int)) (low k : Nat) : (innerF ps wd low k).length ≤ k := by
 unfold innerF
 rw [List.length_map]
 have := List.length_filter_le (hitF ps wd low) (List.range k)
 rw [List.length_range] at this
 exact this
theorem lawStr_len {ps : List Pc} {wd : List (List Int)} (hl : ps.length ≤ 400) : ∀ k, (lawStr ps wd k).length ≤ k * 400
 | 0 => Nat.le_refl 0
 | k + 1 => by
  rw [lawStr_succ, List.length_append]
  have h1 := lawStr_len (wd := wd) hl k
  have h2 := innerF_len ps wd k (ps.length - k)
  (first | lia | omega)
theorem innerF_mem {ps : List Pc} {wd : List (List Int)} {low k : Nat} {p : Int × Int} (h : p ∈ innerF ps wd low k) : ∃ j, j < k ∧ hitF ps wd low j = true ∧ p = ((low : Int), ((low + j : Nat) : Int) + 1) := by
 unfold innerF at h
 refine oEA (List.mem_map.mp h) fun j hj e0_ => ?_
 subst e0_
 obtain ⟨h1, h2⟩ := List.mem_filter.mp hj
 exact ⟨j, List.mem_range.mp h1, h2, rfl⟩
theorem lawStr_mem {ps : List Pc} {wd : List (List Int)} {k : Nat} {p : Int × Int} (h : p ∈ lawStr ps wd k) : ∃ low high : Nat, low < high ∧ high ≤ ps.length ∧ p = ((low : Int), (high : Int)) := by
 unfold lawStr at h
 refine oEA (List.mem_flatMap.mp h) fun low u_ h => ?_
 refine oEAA (innerF_mem h) fun j h1 u_ e0_ => ?_
 subst e0_
 exact ⟨low, low + j + 1, by exact Nat.lt_succ_of_le (Nat.le_add_right _ _), by (first | lia | omega), by rw [Int.natCast_add (low + j) 1]; rfl⟩
/-- what the law finds -/
noncomputable def lawFound (ps : List Pc) (wd : List (List Int)) (wide : Bool) : List (Int × Int) := (if idleL wd = true then [] else lawStr ps wd ps.length).map fun p => placesF ps (chosenF ps wide (p.1.toNat, p.2.toNat))
noncomputable def lastE (acc : List (Int × Int)) : Int := match acc.getLast? with
 | none => 0
 | some y => y.2
theorem lastE_nil : lastE [] = 0 := rfl
theorem lastE_concat (acc : List (Int × Int)) (y : Int × Int) : lastE (acc ++ [y]) = y.2 := by
 unfold lastE
 rw [List.getLast?_concat]
theorem firstF_eq (a : Int) : ∀ l : List (Int × Int), firstF a l = (l.filter fun p => decide (a ≤ p.1)).head?
 | [] => rfl
 | p :: r => by
  rw [firstF_c]
  by_cases h : a ≤ p.1
  ·rw [if_pos h, List.filter_cons, if_pos (decide_eq_true h)]; rfl
  ·rw [if_neg h, List.filter_cons, if_neg (by rw [decide_eq_false h]; exact Bool.false_ne_true)]
   exact firstF_eq a r
theorem lastF_head (a : Int) : ∀ l : List (Int × Int), lastF a l = (l.filter fun p => decide (p.2 ≤ a)).head?
 | [] => rfl
 | p :: r => by
  rw [lastF_c]
  by_cases h : p.2 ≤ a
  ·rw [if_pos h, List.filter_cons, if_pos (decide_eq_true h)]; rfl
  ·rw [if_neg h, List.filter_cons, if_neg (by rw [decide_eq_false h]; exact Bool.false_ne_true)]
   exact lastF_head a r
theorem lastF_eq (a : Int) (l : List (Int × Int)) : lastF a l.reverse = (l.filter fun p => decide (p.2 ≤ a)).getLast? := by
 rw [lastF_head, List.filter_reverse, List.head?_reverse]
section
variable {prog : Program} {w : World} {K : Frag} {A : Around} {z z' : Fz} {n n' : Led} {c : Cx} {m : M} {α β : Type}
/-- a comprehension whose turns may turn the ledger -/
theorem comp_any {elt target : PySem.Expr} {csc : Scope} {cl : List (Str × Addr)} {own : Option Str} {env : Env} {g : List (Str × Value)} {ks : List Str} {x : Value} {Q : List Value → Fz → Led → Prop}
  (E0 n1' : Led) (e : α → PyData) (xs : List α) (I : Led → Prop) (R : β → Prop) (e' : β → PyData) (hp : n.Perm (n1' ++ E0)) (hit : IterV prog w K A target x E0 e xs z) (hl : xs.length ≤ 1000000) (hI : I n1')
  (turn : ∀ C, CxOk prog w K A (compC csc cl own g env C) → ∀ y v zi m ov n0, y ∈ xs → I n0 → Le z zi → Vz zi (e y) v → keysAre ks m →
   asg (compC csc cl own g env C) target v m zi (ownL own C ov ++ n0) fun m2 z2 n2 => ifsE prog w K A (compC csc cl own g env C) [] m2 z2 n2 fun ok z3 n3 =>
    brE ok (ev prog w K A (compC csc cl own g env C) elt m2 z3 n3 fun u z4 n4 => Le zi z4 → keysAre ks m2 ∧ (∃ ov' n0', n4 = ownL own C ov' ++ n0' ∧ I n0') ∧ ∃ b, R b ∧ Vz z4 (e' b) u) False)
  (done : ∀ bs vs zN n0, Le z zN → bs.length = xs.length → (∀ b ∈ bs, R b) → I n0 → All2 (fun y v => Vz zN (e' y) v) bs vs → Q vs zN n0) : CompAsk prog w K A env elt target [] csc cl own g ks x z n Q := by
 refine oEA hit ?_
 clear hit
 intro P hit hP
 refine ⟨E0, n1', xs.length, P, fun i vs z' n' => ∃ bs, bs.length = i ∧ (∀ b ∈ bs, R b) ∧ I n' ∧ All2 (fun y v => Vz z' (e' y) v) bs vs, hp, hit, hl, ⟨[], rfl, (by intro b hb; cases hb), hI, trivial⟩, ⟨fun C hC i vs v zi zi' ni m ov hi hvl l1 l2 hv hJ hk => ?_⟩, fun vs zN nN l hvl hJ => ?_⟩
 ·refine oEAAA hJ fun bs h1 h2 h3 hall => ?_
  clear hJ
  refine oEA (hP i v zi' (l1.trans l2) hv) fun y hy hvy => ?_
  refine turn_mono (turn_of hC (turn C hC y v zi' m ov ni (List.mem_of_getElem? hy) h3 (l1.trans l2) hvy hk)) (fun m2 u z4 n4 q l4 => ?_) fun m2 z3 n3 q l3 => q.elim
  obtain ⟨q1, ⟨ov', n0', q2, q3⟩, b, q4, q5⟩ := q l4
  refine ⟨q1, ov', n0', q2, bs ++ [b], by rw [List.length_append, h1]; rfl, fun x hx => ?_, q3, (hall.vmono (l2.trans l4)).snoc q5⟩
  rcases List.mem_append.mp hx with hx | hx
  ·exact h2 x hx
  ·rw [List.mem_singleton.mp hx]; exact q4
 ·refine oEAAA hJ fun bs h1 h2 h3 hall => ?_
  clear hJ
  exact done bs vs zN nN l h1 h2 h3 hall
/-- an item of a tuple of the top -/
theorem item_K {a : Addr} {oc : Value} {od : Option Addr} {osl : Array (Option Value)} {vs : Array Value} {mm : Nat} {i : Nat} {k : Int} {t : Tok} {x : Value} {Q : KV} (ho : K.lookup a = some ⟨oc, od, .seq vs mm, osl⟩) (hc : oc = .type "tuple") (hk : k = (i : Nat)) (hx : vs[i]? = some x) (hl : vs.size ≤ 1000) (q : Q x z n) : itemE prog w K A (.ref a) (.int k t) z n Q := by
 subst hc hk
 have hi : i < vs.size := by
  rcases Nat.lt_or_ge i vs.size with h | h
  ·exact h
  ·rw [Array.getElem?_eq_none h] at hx; cases hx
 refine ⟨⟨"tuple", "tuple.__getitem__", fun s hs => ⟨_, hs.fragIn _ _ ho, rfl⟩, tuple_getitem_lookup⟩, fun E s hs => ?_⟩
 have ht : IsTup s.heap a vs := ⟨_, hs.fragIn _ _ ho, rfl, mm, rfl⟩
 refine PyProof.Rows.getItem_tuple ht (by exact Int.natCast_nonneg _) (by (first | lia | omega)) (seqIndex_idx (by (first | lia | omega)) (by rw [idx_nat]; exact hi)) (by rw [idx_nat]; exact hx) ⟨_, _, .refl hs, q⟩
end
/-- the signs of the law -/
noncomputable def signs : List Int := [97, 98, 99, 100, 101, 120, 121]
/-- the keys of the rows that the law draws -/
noncomputable def KeysOk (rows : Rows) : Prop := ∃ e1 e2 : List (List Int), (e1 = [] ∨ e1 = [[97, 98]]) ∧ (e2 = [] ∨ e2 = [[98, 99]]) ∧ rows.map (·.1) = [[97], [98], [99], [100], [101], [120], [121]] ++ e1 ++ e2
theorem KeysOk.facts {rows : Rows} (h : KeysOk rows) : (rows.map (·.1)).Nodup ∧ (∀ ks ∈ rows.map (·.1), ks ≠ [] ∧ ks.length ≤ 2) ∧ rows.length ≤ 10 ∧ ∀ c ∈ signs, [c] ∈ rows.map (·.1) := by
 refine oEEAA h fun e1 e2 h1 h2 h3 => ?_
 clear h
 have hl := congrArg List.length h3
 rw [List.length_map] at hl
 rw [h3]
 rcases h1 with rfl | rfl <;> rcases h2 with rfl | rfl <;> refine ⟨by decide, by decide, by rw [hl]; decide, by decide⟩
theorem KeysOk.text {rows : Rows} (h : KeysOk rows) {xs : List Int} (hx : ∀ c ∈ xs, c ∈ signs) (hl : xs.length ≤ 400) : TextOk rows xs := ⟨hl, fun i hi => ⟨by
  have h1 : ∀ c ∈ signs, c < 1000 := by decide
  exact h1 i (hx i hi), by
  refine oEA (look_some (h.facts.2.2.2 i (hx i hi))) fun es he u_ => ?_
  rw [he]; rfl⟩⟩
theorem look_at : ∀ {rows : Rows} {i : Nat} {r : List Int × List El}, (rows.map (·.1)).Nodup → rows[i]? = some r → look rows r.1 = some r.2
 | q :: rows, 0, r, _, h => by
  cases h
  unfold look
  rw [List.find?_cons, decide_eq_true rfl]
  rfl
 | q :: rows, i + 1, r, hn, h => by
  have hn' := List.nodup_cons.mp hn
  have h' : rows[i]? = some r := by simpa using h
  have hne : q.1 ≠ r.1 := fun e => hn'.1 (by
   show q.1 ∈ _
   rw [e]
   exact List.mem_map_of_mem (f := (·.1)) (List.mem_of_getElem? h'))
  have ih := look_at hn'.2 h'
  unfold look at ih ⊢
  rw [List.find?_cons, decide_eq_false hne]
  exact ih
theorem lonK_snoc {c : Int} {t : List Int} : ∀ {l : List (List Int)} {lon : Int → Nat}, lonK lon (l ++ [c :: t]) = lonPut (lonK lon l) c (t.length + 1)
 | [], _ => rfl
 | [] :: r, lon => lonK_snoc (l := r) (lon := lon)
 | (d :: u) :: r, lon => lonK_snoc (l := r) (lon := lonPut lon d (u.length + 1))
/-! the program's stretches are the law's -/
noncomputable def PreL : List (List Int) → List (List Int) → Prop
 | [], [] => True
 | x :: a, y :: b => x <+: y ∧ PreL a b
 | _, _ => False
theorem PreL.refl : ∀ a, PreL a a
 | [] => trivial
 | x :: a => ⟨List.prefix_refl x, PreL.refl a⟩
theorem PreL.trans : ∀ {a b c : List (List Int)}, PreL a b → PreL b c → PreL a c
 | [], [], [], _, _ => trivial
 | _ :: _, _ :: _, _ :: _, h, g => ⟨h.1.trans g.1, PreL.trans h.2 g.2⟩
 | [], [], _ :: _, _, g => g.elim
 | [], _ :: _, _, h, _ => h.elim
 | _ :: _, [], _, h, _ => h.elim
 | _ :: _, _ :: _, [], _, g => g.elim
theorem PreL.join : ∀ {a b : List (List Int)}, a.length = b.length → PreL a (joinL a b)
 | [], [], _ => trivial
 | x :: a, y :: b, h => ⟨List.prefix_append x y, PreL.join (Nat.succ.inj h)⟩
 | [], _ :: _, h => nomatch h
 | _ :: _, [], h => nomatch h
theorem PreL.get : ∀ {a b : List (List Int)} {i : Nat} {x : List Int}, PreL a b → a[i]? = some x → ∃ y, b[i]? = some y ∧ x <+: y
 | _ :: _, y :: _, 0, x, h, e => ⟨y, rfl, by cases e; exact h.1⟩
 | _ :: a, _ :: b, i + 1, x, h, e => by simpa using PreL.get (i := i) h.2 (by simpa using e)
 | [], _, _, _, _, e => by simp at e
 | _ :: _, [], _, _, h, _ => h.elim
theorem begs_of {a wd : List (List Int)} (h : PreL a wd) : begs a wd = true := by
 unfold begs
 rw [List.all_eq_true]
 intro b hb
 refine oEA (List.mem_map.mp hb) fun p hp e0_ => ?_
 subst e0_
 obtain ⟨j, hj⟩ := List.getElem?_of_mem hp
 rw [enumI_get] at hj
 refine oEA (Option.map_eq_some_iff.mp hj) fun x hx e0_ => ?_
 subst e0_
 refine oEA (h.get hx) fun y hy hxy => ?_
 have e : wd.getD j [] = y := by rw [List.getD_eq_getElem?_getD, hy]; rfl
 show decide ((wd.getD ((j : Int)).toNat []).take x.length = x) = true
 rw [Int.toNat_natCast, e]
 exact decide_eq_true (List.prefix_iff_eq_take.mp hxy).symm
noncomputable def tot (a : List (List Int)) : Nat := (a.map List.length).sum
theorem tot_join : ∀ {a b : List (List Int)}, a.length = b.length → tot (joinL a b) = tot a + tot b
 | [], [], _ => rfl
 | x :: a, y :: b, h => by
  have ih := tot_join (a := a) (b := b) (Nat.succ.inj h)
  unfold joinL tot at ih ⊢
  rw [List.zipWith_cons_cons, List.map_cons, List.sum_cons, List.map_cons, List.sum_cons, List.map_cons, List.sum_cons, ih, List.length_append]
  (first | lia | omega)
 | [], _ :: _, h => nomatch h
 | _ :: _, [], h => nomatch h
theorem idleL_iff {a : List (List Int)} : idleL a = true ↔ tot a = 0 := by
 unfold idleL nonE tot
 rw [decide_eq_true_iff]
 induction a with
 | nil => exact ⟨fun u_ => rfl, fun u_ => rfl⟩
 | cons x a ih =>
  rw [List.filter_cons, List.map_cons, List.sum_cons]
  cases x with
  | nil =>
   rw [if_neg (by decide)]
   rw [ih]
   exact ⟨fun h => by rw [h]; rfl, fun h => by simpa using h⟩
  | cons y x =>
   rw [if_pos (by simp)]
   exact ⟨fun h => (by cases h), fun h => by simp at h⟩
theorem join_idle : ∀ {a b : List (List Int)}, a.length = b.length → tot b = 0 → joinL a b = a
 | [], [], _, _ => rfl
 | x :: a, y :: b, h, g => by
  unfold tot at g
  rw [List.map_cons, List.sum_cons] at g
  have hy : y = [] := List.eq_nil_of_length_eq_zero (by (first | lia | omega))
  have ih := join_idle (a := a) (b := b) (Nat.succ.inj h) (by unfold tot; (first | lia | omega))
  subst hy
  unfold joinL at ih ⊢
  rw [List.zipWith_cons_cons, ih, List.append_nil]
 | [], _ :: _, h, _ => nomatch h
 | _ :: _, [], h, _ => nomatch h
section
variable {ps : List Pc} {wd : List (List Int)} {low : Nat}
theorem lvls_len (hW : Wide3 wd.length ps) {i : Nat} (hi : i < ps.length) : (lvls ps i).length = wd.length := (hW _ (List.mem_of_getElem? (getD_at hi))).1
theorem accT_pre (hW : Wide3 wd.length ps) {j : Nat} : ∀ {k : Nat}, low + (j + k) < ps.length → PreL (accT ps low j) (accT ps low (j + k)) ∧ tot (accT ps low j) ≤ tot (accT ps low (j + k))
 | 0, _ => ⟨PreL.refl _, Nat.le_refl _⟩
 | k + 1, h => by
  obtain ⟨h1, h2⟩ := accT_pre hW (j := j) (k := k) (by (first | lia | omega))
  have e1 := (accT_len (low := low) hW (j := j + k) (by (first | lia | omega))).1
  have e2 := lvls_len hW (i := low + (j + k + 1)) (by (first | lia | omega))
  have e3 : accT ps low (j + (k + 1)) = joinL (accT ps low (j + k)) (lvls ps (low + (j + k + 1))) := rfl
  rw [e3]
  exact ⟨h1.trans (PreL.join (by rw [e1, e2])), by rw [tot_join (by rw [e1, e2])]; exact Nat.le_trans h2 (Nat.le_add_right _ _)⟩
/-- what strF finds from a place on -/
theorem strF_spec (hW : Wide3 wd.length ps) : ∀ (m j : Nat) (lv : List (List Int)), low + j + m = ps.length → (∀ p, ps[low + j]? = some p → joinL lv p.2.2 = accT ps low j) → (∀ i, i < j → accT ps low i ≠ wd) →
  (∃ q, j ≤ q ∧ low + q < ps.length ∧ strF wd (low + j) lv (ps.drop (low + j)) = some (low + q + 1) ∧ accT ps low q = wd ∧ ∀ i, i < q → accT ps low i ≠ wd) ∨
  (strF wd (low + j) lv (ps.drop (low + j)) = none ∧ ∀ i, low + i < ps.length → accT ps low i ≠ wd)
 | 0, j, lv, hm, _, hno => .inr ⟨by rw [List.drop_eq_nil_of_le (by (first | lia | omega))]; rfl, fun i hi => hno i (by (first | lia | omega))⟩
 | m + 1, j, lv, hm, hlv, hno => by
  have hlt : low + j < ps.length := by (first | lia | omega)
  have hg := getD_at (ps := ps) (i := low + j) hlt
  have hacc := hlv _ hg
  rw [drop_of_get hg, strF_c, hacc]
  by_cases h1 : accT ps low j = wd
  ·rw [if_pos h1]
   exact .inl ⟨j, Nat.le_refl _, hlt, rfl, h1, hno⟩
  ·rw [if_neg h1]
   by_cases h2 : begs (accT ps low j) wd = true
   ·rw [if_pos h2]
    have ih := strF_spec hW m (j + 1) (accT ps low j) (by (first | lia | omega)) (fun p hp => by
     have e : lvls ps (low + (j + 1)) = p.2.2 := by
      unfold lvls
      rw [List.getD_eq_getElem?_getD, hp]
      rfl
     show joinL _ _ = joinL (accT ps low j) (lvls ps (low + (j + 1)))
     rw [e]) (fun i hi => by
     by_cases h3 : i = j
     ·rw [h3]; exact h1
     ·exact hno i (by (first | lia | omega)))
    rw [← Nat.add_assoc] at ih
    rcases ih with ⟨q, g1, g2, g3, g4, g5⟩ | ⟨g1, g2⟩
    ·exact .inl ⟨q, by exact Nat.le_of_lt g1, g2, g3, g4, g5⟩
    ·exact .inr ⟨g1, g2⟩
   ·rw [if_neg h2]
    refine .inr ⟨rfl, fun i hi e => ?_⟩
    by_cases h3 : i < j
    ·exact hno i h3 e
    ·obtain ⟨k, rfl⟩ : ∃ k, i = j + k := ⟨i - j, by (first | lia | omega)⟩
     exact h2 (begs_of (e ▸ (accT_pre hW hi).1))
theorem filter_one {k q : Nat} {p : Nat → Bool} (hq : q < k) (h : ∀ i, i < k → (p i = true ↔ i = q)) : (List.range k).filter p = [q] := by
 induction k with
 | zero => (first | lia | omega)
 | succ k ih =>
  rw [List.range_succ, List.filter_append, List.filter_cons, List.filter_nil]
  by_cases e : q = k
  ·subst e
   rw [if_pos ((h q (by exact Nat.lt_add_of_pos_right (Nat.zero_lt_succ _))).mpr rfl), List.filter_eq_nil_iff.mpr]
   ·rfl
   ·intro a ha e
    have := (h a (by have := List.mem_range.mp ha; exact Nat.lt_of_lt_of_le this (Nat.le_add_right _ _))).mp e
    have := List.mem_range.mp ha
    (first | lia | omega)
  ·rw [if_neg (fun x => e ((h k (by exact Nat.lt_add_of_pos_right (Nat.zero_lt_succ _))).mp x).symm), ih (by (first | lia | omega)) (fun i hi => h i (by exact Nat.lt_of_lt_of_le hi (Nat.le_add_right _ _)))]
   rfl
theorem strN_law (hW : Wide3 wd.length ps) (hlow : low < ps.length) : innerF ps wd low (ps.length - low) = (match strN wd low (ps.drop low) with
  | none => []
  | some b => [((low : Int), (b : Int))]) := by
 have hg := getD_at (ps := ps) (i := low) hlow
 have hd := drop_of_get hg
 have hsl := lvls_len hW hlow
 have hstr : strN wd low (ps.drop low) = if idleL (lvls ps low) = true then none else strF wd low (List.replicate wd.length []) (ps.drop low) := by
  rw [hd]; rfl
 rw [hstr]
 unfold innerF
 by_cases hid : idleL (lvls ps low) = true
 ·rw [if_pos hid, List.filter_eq_nil_iff.mpr]
  ·rfl
  ·intro a _ e
   unfold hitF at e
   rw [hid] at e
   simp at e
 rw [if_neg hid]
 have hid' : idleL (lvls ps low) = false := by simpa using hid
 rcases strF_spec (low := low) hW (ps.length - low) 0 (List.replicate wd.length []) (by (first | lia | omega)) (fun p hp => by
   have e : lvls ps low = p.2.2 := by
    unfold lvls
    rw [List.getD_eq_getElem?_getD, show ps[low]? = some p from hp]
    rfl
   show joinL _ _ = lvls ps low
   rw [← e]
   have : ∀ (k : Nat) (l : List (List Int)), l.length = k → joinL (List.replicate k []) l = l := by
    intro k
    induction k with
    | zero => intro l h; rw [List.eq_nil_of_length_eq_zero h]; rfl
    | succ k ih =>
     intro l h
     cases l with
     | nil => simp at h
     | cons x l =>
      have := ih l (by simpa using h)
      unfold joinL at this ⊢
      rw [List.replicate_succ, List.zipWith_cons_cons, this, List.nil_append]
   exact this _ _ hsl) (fun i hi => absurd hi (Nat.not_lt_zero i)) with ⟨q, _, g2, g3, g4, g5⟩ | ⟨g1, g2⟩
 ·rw [Nat.add_zero] at g3
  rw [g3]
  have hone := filter_one (k := ps.length - low) (q := q) (p := fun j => hitF ps wd low j) (by (first | lia | omega)) (fun i hi => ?_)
  ·rw [hone]
   rfl
  ·unfold hitF
   rw [hid', Bool.not_false, Bool.true_and, Bool.and_eq_true, decide_eq_true_iff, Bool.not_eq_true']
   constructor
   ·rintro ⟨e1, e2⟩
    rcases Nat.lt_trichotomy i q with h | h | h
    ·exact absurd e1 (g5 i h)
    ·exact h
    ·obtain ⟨k, rfl⟩ : ∃ k, i = q + k + 1 := ⟨i - q - 1, by (first | lia | omega)⟩
     have h1 := (accT_pre hW (low := low) (j := q) (k := k) (by (first | lia | omega))).2
     have h2 := (accT_len (low := low) hW (j := q + k) (by (first | lia | omega))).1
     have h3 := lvls_len hW (i := low + (q + k + 1)) (by exact Nat.add_lt_of_lt_sub' hi)
     have h4 : accT ps low (q + k + 1) = joinL (accT ps low (q + k)) (lvls ps (low + (q + k + 1))) := rfl
     have h5 := congrArg tot h4
     rw [tot_join (by rw [h2, h3]), e1] at h5
     rw [g4] at h1
     have h6 : tot (lvls ps (low + (q + k + 1))) = 0 := by (first | lia | omega)
     rw [idleL_iff.mpr h6] at e2
     cases e2
   ·intro e
    subst e
    refine ⟨g4, ?_⟩
    cases i with
    | zero => exact hid'
    | succ j =>
     cases hb : idleL (lvls ps (low + (j + 1))) with
     | false => rfl
     | true =>
      exfalso
      have h2 := (accT_len (low := low) hW (j := j) (by (first | lia | omega))).1
      have h3 := lvls_len hW (i := low + (j + 1)) (by exact g2)
      have h4 : accT ps low (j + 1) = joinL (accT ps low j) (lvls ps (low + (j + 1))) := rfl
      rw [join_idle (by rw [h2, h3]) (idleL_iff.mp hb)] at h4
      exact g5 j (Nat.lt_succ_self j) (h4 ▸ g4)
 ·rw [Nat.add_zero] at g1
  rw [g1, List.filter_eq_nil_iff.mpr]
  ·rfl
  ·intro a ha e
   unfold hitF at e
   have := List.mem_range.mp ha
   exact g2 a (by exact Nat.add_lt_of_lt_sub' this) (of_decide_eq_true (Bool.and_eq_true_iff.mp e).1)
end
theorem downF_gt {ps : List Pc} {j : Nat} (hj : idleL (lvls ps j) = false) : ∀ {k : Nat}, j < k → j < downF ps k
 | k + 1, h => by
  rw [downF_c]
  split
  ·next hi =>
   by_cases e : j = k
   ·subst e
    unfold lvls at hj
    rw [hj] at hi
    cases hi
   ·exact downF_gt hj (by (first | lia | omega))
  ·exact h
/-- firsts that grow -/
noncomputable def Grow (ps : List Pc) : Prop := ∀ i j, i < j → j < ps.length → (ps.getD i (0, 0, [])).1 < (ps.getD j (0, 0, [])).1
theorem foundL (ps : List Pc) (wd : List (List Int)) (wide : Bool) (hW : Wide3 wd.length ps) (hG : Grow ps) : ∀ k, k ≤ ps.length →
  (List.range k).foldl (stepF ps wd wide) [] = (lawStr ps wd k).map (fun p => placesF ps (chosenF ps wide (p.1.toNat, p.2.toNat))) ∧
  ∀ y, ((List.range k).foldl (stepF ps wd wide) []).getLast? = some y → ∃ j, j < k ∧ idleL (lvls ps j) = false ∧ y.1 ≤ (ps.getD j (0, 0, [])).1
 | 0, _ => ⟨rfl, fun y h => by cases h⟩
 | k + 1, hk => by
  obtain ⟨h1, h2⟩ := foundL ps wd wide hW hG k (by exact Nat.le_of_lt hk)
  rw [List.range_succ, List.foldl_append, List.foldl_cons, List.foldl_nil, lawStr_succ, List.map_append, strN_law hW (by exact hk)]
  cases hs : strN wd k (ps.drop k) with
  | none =>
   rw [stepF_n hs]
   refine ⟨by rw [h1, List.map_nil, List.append_nil], fun y hy => ?_⟩
   refine oEAA (h2 y hy) fun j g1 g2 g3 => ?_
   exact ⟨j, by exact Nat.lt_of_lt_of_le g1 (Nat.le_add_right _ _), g2, g3⟩
  | some b =>
   rw [stepF_s hs]
   obtain ⟨hb1, hb2⟩ := strN_le hs
   have hni : idleL (lvls ps k) = false := by
    have hg := getD_at (ps := ps) (i := k) (by exact hk)
    rw [drop_of_get hg] at hs
    unfold strN at hs
    dsimp only at hs
    split at hs
    ·cases hs
    ·next hn => unfold lvls; simpa using hn
   obtain ⟨c1, c2⟩ := chosenF_in (ps := ps) (wide := wide) hb1 hb2
   have hle : (chosenF ps wide (k, b)).1 ≤ k := by
    unfold chosenF wideF
    split
    ·exact downF_le ps k
    ·exact Nat.le_refl _
   have hgt : ∀ j, j < k → idleL (lvls ps j) = false → j < (chosenF ps wide (k, b)).1 := fun j hj hi => by
    unfold chosenF wideF
    split
    ·exact downF_gt hi hj
    ·exact hj
   have hp1 : (placesF ps (chosenF ps wide (k, b))).1 = (ps.getD (chosenF ps wide (k, b)).1 (0, 0, [])).1 := rfl
   have hne : ¬ ((List.range k).foldl (stepF ps wd wide) []).getLast? = some (placesF ps (chosenF ps wide (k, b))) := fun e => by
    refine oEAA (h2 _ e) fun j g1 g2 g3 => ?_
    have := hG j _ (hgt j g1 g2) (by exact Nat.lt_of_lt_of_le c1 c2)
    rw [hp1] at g3
    (first | lia | omega)
   unfold addF
   rw [if_neg hne]
   refine ⟨by rw [h1]; rfl, fun y hy => ?_⟩
   rw [List.getLast?_concat] at hy
   cases hy
   refine ⟨k, Nat.lt_succ_self k, hni, ?_⟩
   rw [hp1]
   rcases Nat.lt_or_ge (chosenF ps wide (k, b)).1 k with h | h
   ·exact Int.le_of_lt (hG _ _ h (by exact hk))
   ·rw [show (chosenF ps wide (k, b)).1 = k by exact Nat.le_antisymm hle h]
    exact Int.le_refl _
theorem groups_grow (rows : Rows) : ∀ (a : Nat) (xs : List Int) (i : Nat) (g : Gr), (groups rows a xs)[i]? = some g → (a : Int) + (i : Int) ≤ g.2.1
 | a, [], i, g, h => nomatch h
 | a, [c], i, g, h => by
  cases i with
  | zero => cases h; show (a : Int) + 0 ≤ (a : Int); exact Int.le_refl _
  | succ i => exact nomatch h
 | a, c :: d :: r, i, g, h => by
  rw [groups_c] at h
  split at h
  ·cases i with
   | zero => cases h; show (a : Int) + 0 ≤ (a : Int); exact Int.le_refl _
   | succ i =>
    have := groups_grow rows (a + 2) r i g (by simpa using h)
    (first | lia | omega)
  ·cases i with
   | zero => cases h; show (a : Int) + 0 ≤ (a : Int); exact Int.le_refl _
   | succ i =>
    have := groups_grow rows (a + 1) (d :: r) i g (by simpa using h)
    (first | lia | omega)
theorem groups_lt (rows : Rows) : ∀ (a : Nat) (xs : List Int) (i j : Nat) (g h : Gr), i < j → (groups rows a xs)[i]? = some g → (groups rows a xs)[j]? = some h → g.2.1 < h.2.1
 | a, [], i, j, g, h, _, h1, _ => nomatch h1
 | a, [c], i, j, g, h, hij, h1, h2 => by
  cases j with
  | zero => (first | lia | omega)
  | succ j => exact nomatch h2
 | a, c :: d :: r, i, j, g, h, hij, h1, h2 => by
  rw [groups_c] at h1 h2
  split at h1
  ·next hc =>
   rw [if_pos hc] at h2
   cases j with
   | zero => (first | lia | omega)
   | succ j =>
    have h3 : (groups rows (a + 2) r)[j]? = some h := by simpa using h2
    cases i with
    | zero =>
     have := groups_grow rows (a + 2) r j h h3
     cases h1
     show (a : Int) < _
     (first | lia | omega)
    | succ i => exact groups_lt rows (a + 2) r i j g h (by (first | lia | omega)) (by simpa using h1) h3
  ·next hc =>
   rw [if_neg hc] at h2
   cases j with
   | zero => (first | lia | omega)
   | succ j =>
    have h3 : (groups rows (a + 1) (d :: r))[j]? = some h := by simpa using h2
    cases i with
    | zero =>
     have := groups_grow rows (a + 1) (d :: r) j h h3
     cases h1
     show (a : Int) < _
     (first | lia | omega)
    | succ i => exact groups_lt rows (a + 1) (d :: r) i j g h (by (first | lia | omega)) (by simpa using h1) h3
theorem pieces_grow (rows : Rows) (s : Nat) (xs : List Int) : Grow (piecesF rows s xs) := fun i j hij hj => by
 have h1 := getD_at (ps := piecesF rows s xs) (i := i) (by exact Nat.lt_trans hij hj)
 have h2 := getD_at (ps := piecesF rows s xs) (i := j) hj
 generalize (piecesF rows s xs).getD i (0, 0, []) = p at *
 generalize (piecesF rows s xs).getD j (0, 0, []) = q at *
 unfold piecesF at h1 h2
 rw [List.getElem?_map] at h1 h2
 refine oEA (Option.map_eq_some_iff.mp h1) fun g hg e0_ => ?_
 subst e0_
 refine oEA (Option.map_eq_some_iff.mp h2) fun h hh e0_ => ?_
 subst e0_
 exact groups_lt rows 0 xs i j g h hij hg hh
theorem found_law {rows : Rows} {s : Nat} {xs : List Int} {wd : List (List Int)} {wide : Bool} (hS : Short rows) (hw : wd.length = s) : foundF rows s wd xs wide = lawFound (piecesF rows s xs) wd wide := by
 show allF (piecesF rows s xs) wd wide = _
 unfold allF lawFound
 split
 ·rfl
 ·subst hw
  exact (foundL _ wd wide (pieces_wide hS _ xs) (pieces_grow rows _ xs) _ (Nat.le_refl _)).1
section
variable {prog : Program} {w : World} {K : Frag} {A : Around} {z z' : Fz} {n n' : Led} {s s' : Shared} {mg mb : Str → Option Value}
/-- the state at the law's call -/
abbrev zStart (h : Heap) : Fz := fun a => ((ghostOf h [(384, 382)]).get? a).map Lo.raw
theorem start_St {p : Program} {loose : List Str} {mean : ExcName → Option Value} (hT : TabsAt [(384, 382)] s.heap) (X : K.In s.heap) (hK : noTabs K = true) (T : Top p loose mean mg mb s.heap) : St prog w K (zStart s.heap) [] s := by
 have hg := ghost_top hT T
 have h382 : (ghostOf s.heap [(384, 382)]).get? 382 = none := hideAll_none _ (.head _)
 refine ⟨fun a lo e => ?_, (by intro p hp; cases hp), (by intro a ha; cases ha), List.nodup_nil, ?_, (by intro h; cases h), .inl (hT (384, 382) (.head _)).2, ghostOf s.heap [(384, 382)], mg, mb, fun a o e => ?_, ghost_K hT X hK, hg.g, hg.b, hg.nolimit, hg.builtins, ?_⟩
 ·refine oEA (Option.map_eq_some_iff.mp e) fun o ho e0_ => ?_
  subst e0_
  exact ⟨o, of_hideAll _ ho, rfl⟩
 ·show Option.map Lo.raw _ = none
  rw [show (ghostOf s.heap [(384, 382)]).get? tb = none from h382]
  rfl
 ·show Option.map Lo.raw _ = _
  rw [e]; rfl
 ·refine oEEAAA hg.bmain fun bm ob a1 a2 a3 h_ => oAA h_ fun a4 a5 a6 => ?_
  refine ⟨bm, ob, a1, a2, fun e => ?_, fun e => ?_, a3, a4, a5, a6⟩
  ·refine oEEEAA hg.g fun o es ep ho hd u_ => ?_
   rw [e, ho] at a3
   cases a3
   rw [hd] at a6
   cases a6
  ·rw [e, h382] at a3
   cases a3
theorem end_old (hT : TabsAt [(384, 382)] s.heap) (st : Step prog w K z [] s z' n' s') : OldK s.heap s'.heap := by
 obtain ⟨hc, ht⟩ := hT (384, 382) (.head _)
 have key : ∀ b o, s.heap.get? b = some o → b ≠ 382 → s'.heap.get? b = some o := fun b o e hb => st.keep b o (by intro h; cases h) hb e
 refine ⟨fun b o e => ?_, fun b o e => ?_⟩
 ·by_cases hb : b = 382
  ·subst hb
   rw [ht] at e
   cases e
   rcases st.st.tab with x | ⟨c, o, x, _⟩
   ·exact .inl x
   ·exact .inr (.inl ⟨(hc.tab ht).isCodeTable, rfl, #[], #[rawInt 366, rawInt 53, .ref c], rfl, by simpa using x⟩)
  ·exact .inl (key b o e hb)
 ·by_cases hb : b = 382
  ·subst hb
   rcases st.st.tab with x | ⟨c, o, x, _⟩
   ·exact ⟨_, x⟩
   ·exact ⟨_, x⟩
  ·exact ⟨o, key b o e hb⟩
end
set_option compiler.extract_closed false
def qs : Array Lean.Ident := ("q_Const q_Name q_BinOp q_UnaryOp q_And q_IfExp q_Compare q_Call q_Attribute q_Subscript q_List q_Tuple q_Dict q_ListComp q_evs0 q_evs q_evo0 q_evo q_fAttr q_fName q_iSlice q_iConst q_iName q_iBinOp q_iUnaryOp q_iCall q_iSub q_iTuple q_tNot q_tBool q_tCmp q_tName q_tCall q_tAttr q_tSub q_and0 q_or0 q_and q_or q_brT q_brF q_grd q_truB q_truN q_notB q_neg q_ci q_cs q_cb q_cn q_add q_sub q_mul q_div q_mod q_addR q_mulR q_iadd q_isub q_lt q_le q_gt q_ge q_eq q_ne q_isN q_isnN q_nI q_nR q_nB q_nN q_eqR q_neR q_eqS q_neS q_inR q_ninR q_lkm q_lkm0 q_lkv q_lkv0 q_lka q_lka0 q_put q_bl0 q_name q_nm1 q_nm2 q_nm3 q_st q_st1 q_st2 q_sts0 q_sts q_gN q_gA q_gC q_gS q_gK q_gB q_gU q_gO q_gI q_gP q_gL q_gT q_gD q_gM q_fOf q_noStar q_plain q_notC q_elts q_okN q_okA q_cOk q_newl q_newt q_drN q_drB q_drI q_tn0 q_tn q_tnS q_cO q_unpT q_unpE q_xExpr q_xName q_xAttr q_xSub q_xTup q_asN q_xAug q_xIf q_xRet q_xRet0 q_xCont q_xBrk q_xPass q_xFor q_xWh q_sN q_sB q_sC q_sR q_aN q_aT q_as0 q_as q_if0 q_if1 q_dN q_dC q_dB q_dR q_wN q_wC q_wB q_wR q_kN q_kC q_kR q_ret q_retN q_bl q_blS q_blN q_cC q_oc0 q_oc q_ol0 q_ol q_ob0 q_ob str_inj q_b1 q_b2 q_b3 q_b4 q_b5 q_b6 q_b7 q_b8 q_b9 List.map_cons List.map_nil List.all_cons List.all_nil Bool.and_self Bool.and_true Bool.true_and Bool.and_false Bool.false_and Bool.or_true Bool.true_or Bool.or_false Bool.false_or Bool.or_self if_true if_false ite_true ite_false reduceCtorEq String.reduceEq Nat.reduceBEq Nat.reduceBNe Nat.reduceAdd Nat.reduceEqDiff BEq.rfl bne_self_eq_false List.length_cons List.length_nil List.reverse_cons List.reverse_nil List.nil_append List.cons_append Bool.not_true Bool.not_false Bool.false_eq_true Nat.beq Nat.ble Nat.blt".splitOn " ").toArray.map fun s => Lean.mkIdent s.toName
/-- the judgement, of this text -/
abbrev Wp {α : Type} (w : World) (A : Around) (t : Sem α) (z : Fz) (n : Led) (Q : α → Fz → Led → Prop) : Prop := W PySem.Challenge.pw_nt0082_01 w (k0.heap_1 w.params) A t z n Q
theorem gl_BadTable (w : World) : GlobIs (k0.heap_1 w.params) "BadTable" (Value.ref 350) := ⟨by decide +kernel, .inl (by k_is)⟩
theorem gl_COLLKEY_TOP (w : World) : GlobIs (k0.heap_1 w.params) "COLLKEY_TOP" (Value.int 65535 348) := ⟨by decide +kernel, .inl (by k_is)⟩
theorem gl_COLL_CORE (w : World) : GlobIs (k0.heap_1 w.params) "COLL_CORE" (Value.int 64320 904) := ⟨by decide +kernel, .inl (by k_is)⟩
theorem gl_COLL_EXTENSIONS (w : World) : GlobIs (k0.heap_1 w.params) "COLL_EXTENSIONS" (Value.int 64384 906) := ⟨by decide +kernel, .inl (by k_is)⟩
theorem gl_COLL_OTHERS (w : World) : GlobIs (k0.heap_1 w.params) "COLL_OTHERS" (Value.int 64448 902) := ⟨by decide +kernel, .inl (by k_is)⟩
theorem gl_CollBase (w : World) : GlobIs (k0.heap_1 w.params) "CollBase" (Value.ref 497) := ⟨by decide +kernel, .inl (by k_is)⟩
theorem gl_CollMatch (w : World) : GlobIs (k0.heap_1 w.params) "CollMatch" (Value.ref 523) := ⟨by decide +kernel, .inl (by k_is)⟩
theorem gl_Data (w : World) : GlobIs (k0.heap_1 w.params) "Data" (Value.ref 751) := ⟨by decide +kernel, .inl (by k_is)⟩
theorem gl_Elements (w : World) : GlobIs (k0.heap_1 w.params) "Elements" (Value.ref 629) := ⟨by decide +kernel, .inl (by k_is)⟩
theorem gl_LEAD_FIRST (w : World) : GlobIs (k0.heap_1 w.params) "LEAD_FIRST" (Value.int 4352 198) := ⟨by decide +kernel, .inl (by k_is)⟩
theorem gl_MAX_CODE (w : World) : GlobIs (k0.heap_1 w.params) "MAX_CODE" (Value.int 1114111 676) := ⟨by decide +kernel, .inl (by k_is)⟩
theorem gl_SEARCH_LEVELS (w : World) : GlobIs (k0.heap_1 w.params) "SEARCH_LEVELS" (Value.int 4 396) := ⟨by decide +kernel, .inl (by k_is)⟩
theorem gl_SYLLABLES (w : World) : GlobIs (k0.heap_1 w.params) "SYLLABLES" (Value.int 11172 211) := ⟨by decide +kernel, .inl (by k_is)⟩
theorem gl_SYLLABLE_FIRST (w : World) : GlobIs (k0.heap_1 w.params) "SYLLABLE_FIRST" (Value.int 44032 196) := ⟨by decide +kernel, .inl (by k_is)⟩
theorem gl_SearchPiece (w : World) : GlobIs (k0.heap_1 w.params) "SearchPiece" (Value.ref 160) := ⟨by decide +kernel, .inl (by k_is)⟩
theorem gl_Searcher (w : World) : GlobIs (k0.heap_1 w.params) "Searcher" (Value.ref 315) := ⟨by decide +kernel, .inl (by k_is)⟩
theorem gl_TAILS (w : World) : GlobIs (k0.heap_1 w.params) "TAILS" (Value.int 28 208) := ⟨by decide +kernel, .inl (by k_is)⟩
theorem gl_TAIL_NONE (w : World) : GlobIs (k0.heap_1 w.params) "TAIL_NONE" (Value.int 4519 202) := ⟨by decide +kernel, .inl (by k_is)⟩
theorem gl_VOWELS (w : World) : GlobIs (k0.heap_1 w.params) "VOWELS" (Value.int 21 206) := ⟨by decide +kernel, .inl (by k_is)⟩
theorem gl_VOWEL_FIRST (w : World) : GlobIs (k0.heap_1 w.params) "VOWEL_FIRST" (Value.int 4449 200) := ⟨by decide +kernel, .inl (by k_is)⟩
theorem gl_law_apart (w : World) : GlobIs (k0.heap_1 w.params) "_law_apart" (Value.ref 825) := ⟨by decide +kernel, .inl (by k_is)⟩
theorem gl_law_cut_right (w : World) : GlobIs (k0.heap_1 w.params) "_law_cut_right" (Value.ref 842) := ⟨by decide +kernel, .inl (by k_is)⟩
theorem gl_law_deck (w : World) : GlobIs (k0.heap_1 w.params) "_law_deck" (Value.ref 761) := ⟨by decide +kernel, .inl (by k_is)⟩
theorem gl_law_draw (w : World) : GlobIs (k0.heap_1 w.params) "_law_draw" (Value.ref 768) := ⟨by decide +kernel, .inl (by k_is)⟩
theorem gl_law_elements (w : World) : GlobIs (k0.heap_1 w.params) "_law_elements" (Value.ref 782) := ⟨by decide +kernel, .inl (by k_is)⟩
theorem gl_law_found (w : World) : GlobIs (k0.heap_1 w.params) "_law_found" (Value.ref 830) := ⟨by decide +kernel, .inl (by k_is)⟩
theorem gl_law_is_idle (w : World) : GlobIs (k0.heap_1 w.params) "_law_is_idle" (Value.ref 797) := ⟨by decide +kernel, .inl (by k_is)⟩
theorem gl_law_joined (w : World) : GlobIs (k0.heap_1 w.params) "_law_joined" (Value.ref 792) := ⟨by decide +kernel, .inl (by k_is)⟩
theorem gl_law_pieces (w : World) : GlobIs (k0.heap_1 w.params) "_law_pieces" (Value.ref 804) := ⟨by decide +kernel, .inl (by k_is)⟩
theorem gl_law_places_right (w : World) : GlobIs (k0.heap_1 w.params) "_law_places_right" (Value.ref 835) := ⟨by decide +kernel, .inl (by k_is)⟩
theorem gl_law_rows (w : World) : GlobIs (k0.heap_1 w.params) "_law_rows" (Value.ref 775) := ⟨by decide +kernel, .inl (by k_is)⟩
theorem gl_law_signs (w : World) : GlobIs (k0.heap_1 w.params) "_law_signs" (Value.ref 756) := ⟨by decide +kernel, .inl (by k_is)⟩
theorem gl_law_stretches (w : World) : GlobIs (k0.heap_1 w.params) "_law_stretches" (Value.ref 811) := ⟨by decide +kernel, .inl (by k_is)⟩
theorem gl_law_told (w : World) : GlobIs (k0.heap_1 w.params) "_law_told" (Value.ref 787) := ⟨by decide +kernel, .inl (by k_is)⟩
theorem gl_law_wide (w : World) : GlobIs (k0.heap_1 w.params) "_law_wide" (Value.ref 818) := ⟨by decide +kernel, .inl (by k_is)⟩
theorem gl_all (w : World) : GlobIs (k0.heap_1 w.params) "all" (.builtin "all") := ⟨by decide +kernel, .inr ⟨by k_is, by boot_by_name, by decide +kernel⟩⟩
theorem gl_coll_decomposed (w : World) : GlobIs (k0.heap_1 w.params) "coll_decomposed" (Value.ref 645) := ⟨by decide +kernel, .inl (by k_is)⟩
theorem gl_coll_ideographs (w : World) : GlobIs (k0.heap_1 w.params) "coll_ideographs" (Value.ref 472) := ⟨by decide +kernel, .inl (by k_is)⟩
theorem gl_coll_live (w : World) : GlobIs (k0.heap_1 w.params) "coll_live" (Value.ref 640) := ⟨by decide +kernel, .inl (by k_is)⟩
theorem gl_data_defaults (w : World) : GlobIs (k0.heap_1 w.params) "data_defaults" (Value.ref 713) := ⟨by decide +kernel, .inl (by k_is)⟩
theorem gl_decomposed (w : World) : GlobIs (k0.heap_1 w.params) "decomposed" (Value.ref 393) := ⟨by decide +kernel, .inl (by k_is)⟩
theorem gl_enumerate (w : World) : GlobIs (k0.heap_1 w.params) "enumerate" (.type "enumerate") := ⟨by decide +kernel, .inr ⟨by k_is, by boot_by_name, by decide +kernel⟩⟩
theorem gl_form_expanded (w : World) : GlobIs (k0.heap_1 w.params) "form_expanded" (Value.ref 373) := ⟨by decide +kernel, .inl (by k_is)⟩
theorem gl_form_mapping (w : World) : GlobIs (k0.heap_1 w.params) "form_mapping" (Value.ref 366) := ⟨by decide +kernel, .inl (by k_is)⟩
theorem gl_form_of (w : World) : GlobIs (k0.heap_1 w.params) "form_of" (Value.ref 458) := ⟨by decide +kernel, .inl (by k_is)⟩
theorem gl_form_sorted (w : World) : GlobIs (k0.heap_1 w.params) "form_sorted" (Value.ref 385) := ⟨by decide +kernel, .inl (by k_is)⟩
theorem gl_hangul_numbers (w : World) : GlobIs (k0.heap_1 w.params) "hangul_numbers" (Value.ref 35) := ⟨by decide +kernel, .inl (by k_is)⟩
theorem gl_hangul_parts (w : World) : GlobIs (k0.heap_1 w.params) "hangul_parts" (Value.ref 42) := ⟨by decide +kernel, .inl (by k_is)⟩
theorem gl_int (w : World) : GlobIs (k0.heap_1 w.params) "int" (.type "int") := ⟨by decide +kernel, .inr ⟨by k_is, by boot_by_name, by decide +kernel⟩⟩
theorem gl_is_hangul_syllable (w : World) : GlobIs (k0.heap_1 w.params) "is_hangul_syllable" (Value.ref 28) := ⟨by decide +kernel, .inl (by k_is)⟩
theorem gl_len (w : World) : GlobIs (k0.heap_1 w.params) "len" (.builtin "len") := ⟨by decide +kernel, .inr ⟨by k_is, by boot_by_name, by decide +kernel⟩⟩
theorem gl_list (w : World) : GlobIs (k0.heap_1 w.params) "list" (.type "list") := ⟨by decide +kernel, .inr ⟨by k_is, by boot_by_name, by decide +kernel⟩⟩
theorem gl_max (w : World) : GlobIs (k0.heap_1 w.params) "max" (.builtin "max") := ⟨by decide +kernel, .inr ⟨by k_is, by boot_by_name, by decide +kernel⟩⟩
theorem gl_min (w : World) : GlobIs (k0.heap_1 w.params) "min" (.builtin "min") := ⟨by decide +kernel, .inr ⟨by k_is, by boot_by_name, by decide +kernel⟩⟩
theorem gl_nfd (w : World) : GlobIs (k0.heap_1 w.params) "nfd" (Value.ref 465) := ⟨by decide +kernel, .inl (by k_is)⟩
theorem gl_ordered (w : World) : GlobIs (k0.heap_1 w.params) "ordered" (Value.ref 380) := ⟨by decide +kernel, .inl (by k_is)⟩
theorem gl_range (w : World) : GlobIs (k0.heap_1 w.params) "range" (.type "range") := ⟨by decide +kernel, .inr ⟨by k_is, by boot_by_name, by decide +kernel⟩⟩
theorem gl_repr (w : World) : GlobIs (k0.heap_1 w.params) "repr" (.builtin "repr") := ⟨by decide +kernel, .inr ⟨by k_is, by boot_by_name, by decide +kernel⟩⟩
theorem gl_search_all (w : World) : GlobIs (k0.heap_1 w.params) "search_all" (Value.ref 240) := ⟨by decide +kernel, .inl (by k_is)⟩
theorem gl_search_apart (w : World) : GlobIs (k0.heap_1 w.params) "search_apart" (Value.ref 247) := ⟨by decide +kernel, .inl (by k_is)⟩
theorem gl_search_begins (w : World) : GlobIs (k0.heap_1 w.params) "search_begins" (Value.ref 202) := ⟨by decide +kernel, .inl (by k_is)⟩
theorem gl_search_chosen (w : World) : GlobIs (k0.heap_1 w.params) "search_chosen" (Value.ref 235) := ⟨by decide +kernel, .inl (by k_is)⟩
theorem gl_search_cuts (w : World) : GlobIs (k0.heap_1 w.params) "search_cuts" (Value.ref 176) := ⟨by decide +kernel, .inl (by k_is)⟩
theorem gl_search_levels (w : World) : GlobIs (k0.heap_1 w.params) "search_levels" (Value.ref 169) := ⟨by decide +kernel, .inl (by k_is)⟩
theorem gl_search_pieces (w : World) : GlobIs (k0.heap_1 w.params) "search_pieces" (Value.ref 181) := ⟨by decide +kernel, .inl (by k_is)⟩
theorem gl_search_stretch (w : World) : GlobIs (k0.heap_1 w.params) "search_stretch" (Value.ref 207) := ⟨by decide +kernel, .inl (by k_is)⟩
theorem gl_search_wanted (w : World) : GlobIs (k0.heap_1 w.params) "search_wanted" (Value.ref 188) := ⟨by decide +kernel, .inl (by k_is)⟩
theorem gl_search_widest (w : World) : GlobIs (k0.heap_1 w.params) "search_widest" (Value.ref 214) := ⟨by decide +kernel, .inl (by k_is)⟩
theorem gl_sorted (w : World) : GlobIs (k0.heap_1 w.params) "sorted" (.builtin "sorted") := ⟨by decide +kernel, .inr ⟨by k_is, by boot_by_name, by decide +kernel⟩⟩
theorem gl_sum (w : World) : GlobIs (k0.heap_1 w.params) "sum" (.builtin "sum") := ⟨by decide +kernel, .inr ⟨by k_is, by boot_by_name, by decide +kernel⟩⟩
theorem gl_tuple (w : World) : GlobIs (k0.heap_1 w.params) "tuple" (.type "tuple") := ⟨by decide +kernel, .inr ⟨by k_is, by boot_by_name, by decide +kernel⟩⟩
theorem gl_weighted (w : World) : GlobIs (k0.heap_1 w.params) "weighted" (Value.ref 138) := ⟨by decide +kernel, .inl (by k_is)⟩
theorem gl_zip (w : World) : GlobIs (k0.heap_1 w.params) "zip" (.type "zip") := ⟨by decide +kernel, .inr ⟨by k_is, by boot_by_name, by decide +kernel⟩⟩
set_option compiler.extract_closed false
local macro_rules | `(tactic| walk_at "v") => `(tactic| (refine' (?vf : TT _ ?vb) ?vd; (case vd => (conv => lhs; (try simp only [-eq_self, $[$qs:term],*]))); (case' vf => refine' (fun ($(Lean.mkIdent `hx):ident : _ = ?vcc) => (?vg : ?vcc)); clear $(Lean.mkIdent `hx)); walk_at "e"))
local macro_rules | `(tactic| walk_at "e") => `(tactic| with_reducible ((repeat (first | refine' @Ends.ret _ _ _ _ _ _ _ _ _ _ _ _ (by assumption) ?_ | refine' @Ends.brk _ _ _ _ _ _ _ _ _ _ _ (by assumption) ?_ | refine' @Ends.cont _ _ _ _ _ _ _ _ _ _ _ (by assumption) ?_)); try refine' @Ends.next _ _ _ _ _ _ _ _ _ _ _ (by assumption) ?_))
local macro_rules | `(tactic| walk_at "t") => `(tactic| (walk_at "e"; refine' @exs_consQ _ _ _ _ _ _ _ _ ?hE _ _ _ (fun $(Lean.mkIdent `QS):ident $(Lean.mkIdent `hQS):ident => ?_); (case hE => assumption); walk_at "v"))
local macro_rules | `(tactic| walk_at "n") => `(tactic| (walk_at "e"; refine exs_nil ?_; walk_at "v"))
/-! Hangul: a small code is none -/
theorem s_is_hangul (w : World) {A : Around} {k : Nat} (hA : Room A (k + 1)) {i : Int} {t : Nat} (hi : i < 1000) {z : Fz} : Wp w A (call (.ref 28) [.int i t] []) z [] fun v z' n' => n' = [] ∧ v = .bool false := by
 refine WCall.W ?_
 refine fn_CQ (binds := [("code", .int i t)]) (own := none) (names := ["code"]) (locs := ["code"]) (g := [("SYLLABLE_FIRST", Value.int 44032 196), ("SYLLABLES", Value.int 11172 211)]) hA (by k_is) (by k_is) (fun _ X => by first | exact BindsTo.of_eq rfl | exact binds_K X rfl (by k_is) rfl rfl rfl) rfl (fun _ => rfl) (by decide +kernel) ⟨⟨rfl, gl_SYLLABLE_FIRST w⟩, ⟨⟨rfl, gl_SYLLABLES w⟩, trivial⟩⟩ fun L env eenv hC hR QF hQF => ?_
 refine ret_sem (cmp2_ok hC rfl ?_)
 walk_at "v"
 intro t1 t2
 refine brE_pf (by (first | lia | omega)) (hQF _ _ _ _ fun u_ => ⟨[], List.nil_sublist _, rfl, ?_⟩)
 show Value.bool _ = _
 rw [decide_eq_false (by (first | lia | omega))]
theorem s_hangul_parts (w : World) {A : Around} {k : Nat} (hA : Room A (k + 2)) {i : Int} {t : Nat} (hi : i < 1000) {z : Fz} : Wp w A (call (.ref 42) [.int i t] []) z [] fun v z' n' => n' = [] ∧ v = .none := by
 refine WCall.W ?_
 refine fn_CQ (binds := [("code", .int i t)]) (own := none) (names := ["code"]) (locs := ["code", "lead", "vowel", "tail"]) (g := [("is_hangul_syllable", Value.ref 28), ("hangul_numbers", Value.ref 35), ("LEAD_FIRST", Value.int 4352 198), ("VOWEL_FIRST", Value.int 4449 200), ("TAIL_NONE", Value.int 4519 202)]) hA (by k_is) (by k_is) (fun _ X => by first | exact BindsTo.of_eq rfl | exact binds_K X rfl (by k_is) rfl rfl rfl) rfl (fun _ => rfl) (by decide +kernel) ⟨⟨rfl, gl_is_hangul_syllable w⟩, ⟨⟨rfl, gl_hangul_numbers w⟩, ⟨⟨rfl, gl_LEAD_FIRST w⟩, ⟨⟨rfl, gl_VOWEL_FIRST w⟩, ⟨⟨rfl, gl_TAIL_NONE w⟩, trivial⟩⟩⟩⟩⟩ fun L env eenv hC hR QF hQF => ?_
 walk_at "t"
 refine callE_k (by k_is) ((s_is_hangul w hR hi).apart fun v z' l h => ?_)
 subst h
 walk_at "v"
 walk_at "t"
 exact hQF _ _ _ _ fun u_ => ⟨[], List.nil_sublist _, rfl, rfl⟩
/-! Data: nothing is told of any code -/
theorem s_get (w : World) {A : Around} {k : Nat} (hA : Room A (k + 1)) {z : Fz} {f : Str → Option Value} {data : Value} (hd : DataIs z f data) {x : Str} {t : Nat} {c u : Value} (hf : f x = some u) : Wp w A (call (.ref 741) [data, .str x t, c] []) z [] fun v z' n' => n' = [] ∧ v = u := by
 refine oEE hd.ex fun a da h_ => oEEEEEAAAA h_ fun D M m u1 u2 e0_ h1 h2 h3 h_ => oAA h_ fun h4 h5 h6 => ?_
 subst e0_
 refine WCall.W ?_
 refine fn_CQ (binds := [("self", .ref a), ("name", .str x t), ("code", c)]) (own := none) (names := ["self", "name", "code"]) (locs := ["self", "name", "code"]) (g := []) hA (by k_is) (by k_is) (fun _ X => by first | exact BindsTo.of_eq rfl | exact binds_K X rfl (by k_is) rfl rfl rfl) rfl (fun _ => rfl) (by decide +kernel) trivial fun L env eenv hC hR QF hQF => ?_
 have I : ∀ n, Inst z n 751 a da [("words", u1), ("properties", u2), ("maps", .ref M), ("defaults", .ref D)] := fun n => ⟨.inl h1, .inl h2⟩
 walk_at "t"
 refine attr_W (I _) (v := .ref M) rfl (by k_is) (by k_is) (by k_is) rfl ?_
 walk_at "v"
 refine inD (strKind _ _) dsIs (.inl h4) h5 (strKey x t) ?_
 walk_at "v"
 walk_at "n"
 walk_at "t"
 refine attr_W (I _) (v := .ref D) rfl (by k_is) (by k_is) (by k_is) rfl ?_
 refine methD (fun o h => (dsIs (f := f) (m := m) o h).1) (.inl h3) ?_
 walk_at "v"
 refine callE_b (get1D (strKind _ _) dsIs (.inl h3) h6 (strKey x t) ?_)
 walk_at "e"
 refine hQF _ _ _ _ fun u_ => ⟨[], List.nil_sublist _, rfl, ?_⟩
 show (f x).getD .none = u
 rw [hf]; rfl
theorem data_meth {w : World} {A : Around} {z : Fz} {n : Led} {f : Str → Option Value} {data : Value} (hD : DataIs z f data) {Q : Value → List Value → Fz → Led → Prop} (q : Q (.ref 741) [data] z n) : methE PySem.Challenge.pw_nt0082_01 w (k0.heap_1 w.params) A data "get" z n Q := by
 refine oEE hD.ex fun x dx h_ => oEEEEEAAAA h_ fun D M m u1 u2 e0_ h1 h2 h3 h_ => oAA h_ fun h4 h5 h6 => ?_
 subst e0_
 exact meth_W (C := 751) (x := x) (dx := dx) (m := [("words", u1), ("properties", u2), ("maps", .ref M), ("defaults", .ref D)]) ⟨.inl h1, .inl h2⟩ rfl (by k_is) (by k_is) (by k_is) (by k_is) q
theorem s_form_mapping (w : World) {A : Around} {k : Nat} (hA : Room A (k + 3)) {i : Int} {t : Nat} (hi : i < 1000) {z : Fz} {f : Str → Option Value} {data c : Value} (hD : DataIs z f data) (hf : f "dm" = some .none) : Wp w A (call (.ref 366) [.int i t, data, c] []) z [] fun v z' n' => n' = [] ∧ v = .none := by
 refine WCall.W ?_
 refine fn_CQ (binds := [("code", .int i t), ("data", data), ("is_compat", c)]) (own := none) (names := ["code", "data", "is_compat"]) (locs := ["code", "data", "is_compat", "parts", "told"]) (g := [("hangul_parts", Value.ref 42)]) hA (by k_is) (by k_is) (fun _ X => by first | exact BindsTo.of_eq rfl | exact binds_K X rfl (by k_is) rfl rfl rfl) rfl (fun _ => rfl) (by decide +kernel) ⟨⟨rfl, gl_hangul_parts w⟩, trivial⟩ fun L env eenv hC hR QF hQF => ?_
 walk_at "t"
 refine callE_k (by k_is) ((s_hangul_parts w hR hi).apart fun v z1 l1 h => ?_)
 subst h
 walk_at "v"
 walk_at "t"
 walk_at "n"
 walk_at "t"
 refine data_meth (hD.mono l1) ?_
 walk_at "v"
 intro t2
 refine callE_k (by k_is) ((s_get w hR (hD.mono l1) hf).apart fun v z2 l2 h => ?_)
 subst h
 walk_at "v"
 walk_at "t"
 walk_at "t"
 exact hQF _ _ _ _ fun u_ => ⟨[], List.nil_sublist _, rfl, rfl⟩
theorem s_form_expanded (w : World) {A : Around} {k : Nat} (hA : Room A (k + 4)) {i : Int} {t : Nat} (hi : i < 1000) {z : Fz} {f : Str → Option Value} {data c : Value} (hD : DataIs z f data) (hf : f "dm" = some .none) : Wp w A (call (.ref 373) [.int i t, data, c] []) z [] fun v z' n' => n' = [] ∧ Vz z' (eL eI [i]) v := by
 refine WCall.W ?_
 refine fn_CQ (binds := [("code", .int i t), ("data", data), ("is_compat", c)]) (own := none) (names := ["code", "data", "is_compat"]) (locs := ["code", "data", "is_compat", "found", "waiting", "open_codes", "here", "parts", "part"]) (g := [("form_mapping", Value.ref 366), ("BadTable", Value.ref 350)]) hA (by k_is) (by k_is) (fun _ X => by first | exact BindsTo.of_eq rfl | exact binds_K X rfl (by k_is) rfl rfl rfl) rfl (fun _ => rfl) (by decide +kernel) ⟨⟨rfl, gl_form_mapping w⟩, ⟨⟨rfl, gl_BadTable w⟩, trivial⟩⟩ fun L env eenv hC hR QF hQF => ?_
 walk_at "t"
 refine .inl fun F => ?_
 walk_at "v"
 walk_at "t"
 refine ⟨true, by subst eenv; rfl, ?_⟩
 walk_at "v"
 refine .inl fun Wt => ?_
 walk_at "v"
 refine .inl fun O => ?_
 walk_at "v"
 intro T hT
 walk_at "v"
 let J : Nat → M → Fz → Led → Prop := fun k m' z' n' => Le z z' ∧ ∃ here parts, m' = ([("code", some (.int i t)), ("data", some (data)), ("is_compat", some (c)), ("found", some (.ref F)), ("waiting", some (.ref Wt)), ("open_codes", some (.ref O)), ("here", here), ("parts", parts), ("part", none)] : M) ∧
  ((k = 1 ∧ n' = [(O, .lst []), (Wt, .lst [.int i t]), (F, .lst [])]) ∨ (k = 0 ∧ n' = [(O, .lst []), (Wt, .lst []), (F, .lst [.int i t])]))
 walk_at "e"
 refine @exs_semQ _ _ _ _ _ _ _ _ _ _ _ fun QS hQS => while_ok hC J 1 ⟨Le.fset hT, none, none, rfl, .inl ⟨rfl, rfl⟩⟩ fun k m' zi ni l hJp => ?_
 refine oAEEA hJp fun lz here parts hm hJ => ?_
 clear hJp
 subst hm
 rcases hJ with ⟨rfl, rfl⟩ | ⟨rfl, rfl⟩
 ·walk_at "v"
  refine .inr fun E hE0 => ?_
  walk_at "v"
  refine ne_W (hR.less (Nat.zero_le _)) Enc.int.list (by decide) (x := [i]) (y := []) (.inr ⟨Wt, [.int i t], _, rfl, rfl, .inr (.tail _ (.head _)), vzAll_iff.mpr ⟨⟨t, rfl⟩, trivial⟩⟩) (.inl (vzL_mk (a := E) fset_self trivial)) ?_
  walk_at "v"
  refine brE_nt (by simp) ?_
  walk_at "t"
  refine meth_lst (.inr (.tail _ (.head _))) PySem.F.slot_list_pop PySem.F.type_list_pop ?_
  walk_at "v"
  refine callE_b (pop_W (vs := []) (.tail .head) (by simp) ?_)
  walk_at "v"
  walk_at "t"
  walk_at "n"
  walk_at "t"
  have lE := Le.fset (lo := .lst []) hE0
  refine callE_k (by k_is) ((s_form_mapping w hR hi (hD.mono (lz.trans lE)) hf).apart fun v z1 l1 h => ?_)
  subst h
  walk_at "v"
  walk_at "t"
  walk_at "t"
  refine meth_lst (.inr (.tail _ (.tail _ (.head _)))) PySem.F.slot_list_append PySem.F.type_list_append ?_
  walk_at "v"
  refine callE_b (append_W (.tail (.tail .head)) (by simp) ?_)
  walk_at "v"
  walk_at "n"
  walk_at "n"
  exact fun u_ => ⟨0, by decide, (lz.trans lE).trans l1, _, _, rfl, .inr ⟨rfl, rfl⟩⟩
 ·walk_at "v"
  refine .inr fun E hE0 => ?_
  walk_at "v"
  refine ne_W (hR.less (Nat.zero_le _)) Enc.int.list (by decide) (x := []) (y := []) (.inr ⟨Wt, [], _, rfl, rfl, .inr (.tail _ (.head _)), vzAll_iff.mpr trivial⟩) (.inl (vzL_mk (a := E) fset_self trivial)) ?_
  walk_at "v"
  refine brE_nf (by simp) ?_
  walk_at "v"
  refine exs_perm (n2 := (F, .lst [.int i t]) :: [(O, .lst []), (Wt, .lst [])]) (List.perm_append_comm (l₁ := [_, _])) (exs_freeze fun hF => ?_)
  walk_at "t"
  exact hQF _ _ _ _ fun u_ => ⟨[], List.nil_sublist _, rfl, vzL.mpr ⟨F, _, rfl, fset_self, ⟨t, rfl⟩, trivial⟩⟩
theorem codeHd_K {K : Frag} {c P : Addr} {od : Option Addr} {osl : Array (Option Value)} {vs : Array Value} {file : Str} {flags text : Int} {tf tg tt : Tok} {inF : Bool} (ho : K.lookup c = some ⟨.type "code", od, .fields vs, osl⟩) (h11 : vs[11]? = some (.ref P)) (h18 : vs.getD 18 .none = .str file tf)
  (h7 : vs.getD 7 .none = .int flags tg) (h9 : vs.getD 9 .none = .bool inF) (h10 : vs.getD 10 .none = .int text tt) (hne : c ≠ P) (h : Heap) (X : K.In h) : CodeHd h c P :=
 ⟨_, vs, file, tf, flags, tg, inF, text, tt, X _ _ ho, rfl, rfl, h11, by rw [Array.getD_eq_getD_getElem?, h11]; rfl, h18, h7, h9, h10, hne⟩
theorem s_form_sorted (w : World) {A : Around} {k : Nat} (hA : Room A (k + 2)) {z : Fz} {a : Addr} (ha : z a = some (.lst [])) : Wp w A (call (.ref 385) [.ref a] []) z [] fun v z' n' => n' = [] ∧ Vz z' (eL eI []) v := by
 refine WCall.W ?_
 refine fn_CQ (binds := [("run", .ref a)]) (own := none) (names := ["run"]) (locs := ["run"]) (g := [("sorted", .builtin "sorted")]) hA (by k_is) (by k_is) (fun _ X => by first | exact BindsTo.of_eq rfl | exact binds_K X rfl (by k_is) rfl rfl rfl) rfl (fun _ => rfl) (by decide +kernel) ⟨⟨rfl, gl_sorted w⟩, trivial⟩ fun L env eenv hC hR QF hQF => ?_
 refine ret_sem ?_
 refine comp_VW hC [] none [] ["weight", "code"] (by subst eenv; rfl) (fun u_ => rfl) (fun u_ => rfl) (by decide +kernel) (by decide +kernel) trivial ?_
 refine sortedKey_V hC (cd := 384) (clos := []) (by subst eenv; rfl) (codeHd_K (by k_is) rfl rfl rfl rfl rfl (by decide)) (by subst eenv; kernel_rfl) rfl rfl rfl rfl (by subst eenv; rfl) (fun Q' h => ?_) (fun Q' h => ?_) ha fun z1 l1 => ?_
 ·walk_at "v"
  exact h
 ·walk_at "v"
  exact h
 ·refine .inr fun D hD => ?_
  refine comp_data [] [] (eP eI eI) ([] : List (Int × Int)) (fun u_ => true) (fun p => p.2) eI nilPerm (iterV_list (e := eP eI eI) (xs := ([] : List (Int × Int))) hR.handled (vzL_mk (a := D) (vs := []) fset_self trivial)) (by simp) ?_ ?_
  ·intro C hC' y v zi m ov hm
   exact nomatch hm
  ·intro vs zN l2 hvl hall
   obtain rfl := All2.nil_iff.mp hall
   refine .inr fun D2 hD2 => ?_
   walk_at "e"
   exact hQF _ _ _ _ fun u_ => ⟨[], List.nil_sublist _, rfl, vzL_mk (a := D2) (vs := []) fset_self trivial⟩
theorem s_ordered (w : World) {A : Around} {k : Nat} (hA : Room A (k + 3)) {z : Fz} {f : Str → Option Value} {data text : Value} {xs : List Int} {t0 : Nat} (hl : xs.length ≤ 1000) (hT : Vz z (eL eI xs) text) (hD : DataIs z f data) (hf : f "ccc" = some (.int 0 t0)) :
  Wp w A (call (.ref 380) [text, data] []) z [] fun v z' n' => n' = [] ∧ Vz z' (eL eI xs) v := by
 refine WCall.W ?_
 refine fn_CQ (binds := [("text", text), ("data", data)]) (own := none) (names := ["text", "data"]) (locs := ["text", "data", "found", "run", "code", "weight"]) (g := [("form_sorted", Value.ref 385)]) hA (by k_is) (by k_is) (fun _ X => by first | exact BindsTo.of_eq rfl | exact binds_K X rfl (by k_is) rfl rfl rfl) rfl (fun _ => rfl) (by decide +kernel) ⟨⟨rfl, gl_form_sorted w⟩, trivial⟩ fun L env eenv hC hR QF hQF => ?_
 walk_at "t"
 refine ⟨true, by subst eenv; rfl, ?_⟩
 walk_at "v"
 refine .inl fun F => ?_
 walk_at "v"
 refine .inr fun R0 hR0 => ?_
 walk_at "v"
 intro T hT0
 walk_at "v"
 have l0 : Le z (fset (fset z R0 (.lst [])) T (.tup [.ref F, .ref R0])) := (Le.fset hR0).trans (Le.fset hT0)
 let J : List Int → M → Fz → Led → Prop := fun pre m' z' n' => ∀ GG9 : M → Led → Prop, (∀ R c u ws, (z' R = some (.lst [])) → (All2 (fun x v => Vz z' (eI x) v) pre ws) → GG9 (([("text", some (text)), ("data", some (data)), ("found", some (.ref F)), ("run", some (.ref R)), ("code", c), ("weight", u)] : M)) ([(F, .lst ws)])) → GG9 m' n'
 walk_at "e"
 refine @exs_semQ _ _ _ _ _ _ _ _ _ _ _ fun QS hQS => for_dataQ hC J ?_
 walk_at "v"
 refine LoopL_mk hC eI xs (hT.up l0) (fun u_ k9 => k9 R0 none none [] (Le.fset hT0 _ _ fset_self) trivial) ?_ ?_
 ·rintro pre x post v m' zi zi' ni hx l1 l2 hv hJ QB hQB
  apply hJ
  intro R c u ws h1 h2
  induction hv using vzI_use with | _ t hv => ?_
  have lz := (l0.trans l1).trans l2
  have hwl := h2.len
  have hpl : pre.length < 1000 := by rw [hx] at hl; simp at hl; omega
  walk_at "v"
  walk_at "t"
  refine data_meth (hD.mono lz) ?_
  walk_at "v"
  intro t2
  refine callE_k (by k_is) ((s_get w (k := 0) (hR.less (by lia)) (hD.mono lz) hf).apart fun v z1 l3 h => ?_)
  subst h
  walk_at "v"
  walk_at "t"
  intro t3
  refine brE_pf (by (first | lia | omega)) ?_
  walk_at "t"
  refine meth_lst (.inr (.head _)) PySem.F.slot_list_extend PySem.F.type_list_extend ?_
  walk_at "v"
  refine callE_k (by k_is) ((s_form_sorted w hR (l3 _ _ (l2 _ _ h1))).apart fun v z2 l4 h => ?_)
  induction h using vzL_use with | _ sa svs hs1 hs2 h => ?_
  rw [All2.nil_iff] at hs2
  subst hs2
  walk_at "v"
  refine callE_b (extend_W (ws := []) .head (.inl hs1) (by simp; omega) ?_)
  rw [List.append_nil]
  walk_at "v"
  walk_at "t"
  refine meth_lst (.inr (.head _)) PySem.F.slot_list_append PySem.F.type_list_append ?_
  walk_at "v"
  refine callE_b (append_W .head (by exact Nat.le_of_lt (Nat.lt_of_lt_of_le (Nat.lt_of_le_of_lt (Nat.le_of_eq hwl) hpl) (Nat.le_of_ble_eq_true rfl))) ?_)
  walk_at "v"
  walk_at "t"
  refine .inr fun R2 hR2 => ?_
  walk_at "v"
  walk_at "n"
  walk_at "n"
  refine hQB _ _ _ _ fun l5 => fun u_ k9 => k9 R2 _ _ _ fset_self ?_
  exact (h2.vmono (l2.trans (l3.trans (l4.trans (Le.fset hR2))))).snoc (vzI_mk)
 ·rintro m' zi ni l1 hJ
  apply hJ
  intro R c u ws h1 h2
  have hwl := h2.len
  walk_at "v"
  walk_at "t"
  refine meth_lst (.inr (.head _)) PySem.F.slot_list_extend PySem.F.type_list_extend ?_
  walk_at "v"
  refine callE_k (by k_is) ((s_form_sorted w hR h1).apart fun v z2 l4 h => ?_)
  induction h using vzL_use with | _ sa svs hs1 hs2 h => ?_
  rw [All2.nil_iff] at hs2
  subst hs2
  walk_at "v"
  refine callE_b (extend_W (ws := []) .head (.inl hs1) (by simp; omega) ?_)
  rw [List.append_nil]
  walk_at "v"
  refine exs_freeze fun hF => ?_
  walk_at "t"
  exact hQF _ _ _ _ fun u_ => ⟨[], List.nil_sublist _, rfl, vzL_mk (a := F) fset_self (h2.vmono (l4.trans (Le.fset hF)))⟩
theorem s_decomposed (w : World) {A : Around} {k : Nat} (hA : Room A (k + 5)) {z : Fz} {f : Str → Option Value} {data text c : Value} {xs : List Int} {t0 : Nat} (hl : xs.length ≤ 1000) (hx : ∀ i ∈ xs, i < 1000) (hT : Vz z (eL eI xs) text) (hD : DataIs z f data) (hf : f "ccc" = some (.int 0 t0)) (hf2 : f "dm" = some .none) :
  Wp w A (call (.ref 393) [text, data, c] []) z [] fun v z' n' => n' = [] ∧ Vz z' (eL eI xs) v := by
 refine WCall.W ?_
 refine fn_CQ (binds := [("text", text), ("data", data), ("is_compat", c)]) (own := none) (names := ["text", "data", "is_compat"]) (locs := ["text", "data", "is_compat", "found", "code"]) (g := [("form_expanded", Value.ref 373), ("ordered", Value.ref 380)]) hA (by k_is) (by k_is) (fun _ X => by first | exact BindsTo.of_eq rfl | exact binds_K X rfl (by k_is) rfl rfl rfl) rfl (fun _ => rfl) (by decide +kernel) ⟨⟨rfl, gl_form_expanded w⟩, ⟨⟨rfl, gl_ordered w⟩, trivial⟩⟩ fun L env eenv hC hR QF hQF => ?_
 walk_at "t"
 refine .inl fun F => ?_
 walk_at "v"
 let J : List Int → M → Fz → Led → Prop := fun pre m' z' n' => ∀ GG9 : M → Led → Prop, (∀ c' ws, (All2 (fun x v => Vz z' (eI x) v) pre ws) → GG9 (([("text", some (text)), ("data", some (data)), ("is_compat", some (c)), ("found", some (.ref F)), ("code", c')] : M)) ([(F, .lst ws)])) → GG9 m' n'
 walk_at "e"
 refine @exs_semQ _ _ _ _ _ _ _ _ _ _ _ fun QS hQS => for_dataQ hC J ?_
 walk_at "v"
 refine LoopL_mk hC eI xs hT (fun u_ k9 => k9 none [] trivial) ?_ ?_
 ·rintro pre x post v m' zi zi' ni hxs l1 l2 hv hJ QB hQB
  apply hJ
  intro c' ws h2
  induction hv using vzI_use with | _ t hv => ?_
  have hwl := h2.len
  have hpl : pre.length < 1000 := by rw [hxs] at hl; simp at hl; omega
  walk_at "v"
  walk_at "t"
  refine meth_lst (.inr (.head _)) PySem.F.slot_list_extend PySem.F.type_list_extend ?_
  walk_at "v"
  refine callE_k (by k_is) ((s_form_expanded w (k := k) (hR.down rfl) (hx x (hxs ▸ by simp)) (hD.mono (l1.trans l2)) hf2).apart fun v z1 l3 h => ?_)
  induction h using vzL_use with | _ sa svs hs1 hs2 h => ?_
  have hsl := hs2.len
  walk_at "v"
  refine callE_b (extend_W (ws := svs) .head (.inl hs1) (by simp at hsl; omega) ?_)
  walk_at "v"
  walk_at "n"
  exact hQB _ _ _ _ fun l5 => fun u_ k9 => k9 _ _ ((h2.vmono (l2.trans l5)).append hs2)
 ·rintro m' zi ni l1 hJ
  apply hJ
  intro c' ws h2
  walk_at "v"
  refine exs_freeze fun hF => ?_
  walk_at "t"
  refine callE_k (by k_is) ((s_ordered w (k := k) (hR.down rfl) hl (vzL_mk (a := F) fset_self (h2.vmono (Le.fset hF))) (hD.mono (l1.trans (Le.fset hF))) hf).apart fun v z2 l4 h => ?_)
  walk_at "e"
  exact hQF _ _ _ _ fun u_ => ⟨[], List.nil_sublist _, rfl, h⟩
theorem s_form_of (w : World) {A : Around} {k : Nat} (hA : Room A (k + 6)) {z : Fz} {f : Str → Option Value} {data text : Value} {xs : List Int} {t0 : Nat} {u : Nat} (hl : xs.length ≤ 1000) (hx : ∀ i ∈ xs, i < 1000) (hT' : Vz z (eL eI xs) text) (hD : DataIs z f data) (hf : f "ccc" = some (.int 0 t0)) (hf2 : f "dm" = some .none) :
  Wp w A (call (.ref 458) [text, data, .str "nfd" u] []) z [] fun v z' n' => n' = [] ∧ Vz z' (eL eI xs) v := by
 refine WCall.W ?_
 refine fn_CQ (binds := [("text", text), ("data", data), ("word", .str "nfd" u), ("composer", .none)]) (own := none) (names := ["text", "data", "word", "composer"]) (locs := ["text", "data", "word", "composer", "found"]) (g := [("decomposed", Value.ref 393)]) hA (by k_is) (by k_is) (fun _ X => by first | exact BindsTo.of_eq rfl | exact binds_K X rfl (by k_is) rfl rfl rfl) rfl (fun _ => rfl) (by decide +kernel) ⟨⟨rfl, gl_decomposed w⟩, trivial⟩ fun L env eenv hC hR QF hQF => ?_
 walk_at "t"
 intro t1 t2 T hT
 walk_at "v"
 refine inTup_W (hR.less (Nat.zero_le _)) (ds := [.str "nfkd", .str "nfkc"]) (d := .str "nfd") ?_ ⟨u, rfl⟩ (by decide +kernel) (by decide +kernel) (by decide) ?_
 ·exact ⟨T, _, rfl, fset_self, vzAll_iff.mpr ⟨⟨t1, rfl⟩, ⟨t2, rfl⟩, trivial⟩⟩
 have l0 := Le.fset (lo := .tup [.str "nfkd" t1, .str "nfkc" t2]) hT
 walk_at "v"
 refine callE_k (by k_is) ((s_decomposed w (k := k) hR hl hx (hT'.up l0) (hD.mono l0) hf hf2).apart fun v z1 l1 h => ?_)
 walk_at "v"
 walk_at "t"
 intro t3 t4 T2 hT2
 walk_at "v"
 refine inTup_W (hR.less (Nat.zero_le _)) (ds := [.str "nfd", .str "nfkd"]) (d := .str "nfd") ?_ ⟨u, rfl⟩ (by decide +kernel) (by decide +kernel) (by decide) ?_
 ·exact ⟨T2, _, rfl, fset_self, vzAll_iff.mpr ⟨⟨t3, rfl⟩, ⟨t4, rfl⟩, trivial⟩⟩
 walk_at "v"
 refine brE_t (by simp only [List.any_cons, List.any_nil, PyData.eqv, str_beq]; decide) ?_
 walk_at "e"
 exact hQF _ _ _ _ fun u_ => ⟨[], List.nil_sublist _, rfl, h.up (Le.fset hT2)⟩
theorem s_nfd (w : World) {A : Around} {k : Nat} (hA : Room A (k + 7)) {z : Fz} {f : Str → Option Value} {data text : Value} {xs : List Int} {t0 : Nat} (hl : xs.length ≤ 1000) (hx : ∀ i ∈ xs, i < 1000) (hT : Vz z (eL eI xs) text) (hD : DataIs z f data) (hf : f "ccc" = some (.int 0 t0)) (hf2 : f "dm" = some .none) :
  Wp w A (call (.ref 465) [text, data] []) z [] fun v z' n' => n' = [] ∧ Vz z' (eL eI xs) v := by
 refine WCall.W ?_
 refine fn_CQ (binds := [("text", text), ("data", data)]) (own := none) (names := ["text", "data"]) (locs := ["text", "data"]) (g := [("form_of", Value.ref 458)]) hA (by k_is) (by k_is) (fun _ X => by first | exact BindsTo.of_eq rfl | exact binds_K X rfl (by k_is) rfl rfl rfl) rfl (fun _ => rfl) (by decide +kernel) ⟨⟨rfl, gl_form_of w⟩, trivial⟩ fun L env eenv hC hR QF hQF => ?_
 walk_at "t"
 intro t
 refine callE_k (by k_is) ((s_form_of w (k := k) hR hl hx hT hD hf hf2).apart fun v z1 l1 h => ?_)
 walk_at "e"
 exact hQF _ _ _ _ fun u_ => ⟨[], List.nil_sublist _, rfl, h⟩
theorem s_coll_decomposed (w : World) {A : Around} {k : Nat} (hA : Room A (k + 8)) {z : Fz} {f : Str → Option Value} {data text : Value} {xs : List Int} {t0 : Nat} (hl : xs.length ≤ 1000) (hx : ∀ i ∈ xs, i < 1000) (hT : Vz z (eL eI xs) text) (hD : DataIs z f data) (hf : f "ccc" = some (.int 0 t0)) (hf2 : f "dm" = some .none) :
  Wp w A (call (.ref 645) [text, data] []) z [] fun v z' n' => n' = [] ∧ Vz z' (eL (eP eI eI) (xs.zipIdx.map fun p => (p.1, (p.2 : Int)))) v := by
 refine WCall.W ?_
 refine fn_CQ (binds := [("text", text), ("data", data)]) (own := none) (names := ["text", "data"]) (locs := ["text", "data", "rows", "place", "code", "part", "rank", "at"]) (g := [("enumerate", .type "enumerate"), ("nfd", Value.ref 465), ("len", .builtin "len")]) hA (by k_is) (by k_is) (fun _ X => by first | exact BindsTo.of_eq rfl | exact binds_K X rfl (by k_is) rfl rfl rfl) rfl (fun _ => rfl) (by decide +kernel) ⟨⟨rfl, gl_enumerate w⟩, ⟨⟨rfl, gl_nfd w⟩, ⟨⟨rfl, gl_len w⟩, trivial⟩⟩⟩ fun L env eenv hC hR QF hQF => ?_
 walk_at "t"
 refine .inl fun F => ?_
 walk_at "v"
 let row : Int × Int → Int × Int × Int := fun p => (p.2, p.1, 0)
 let J : List (Int × Int) → M → Fz → Led → Prop := fun pre m' z' n' => ∀ GG9 : M → Led → Prop, (∀ p c pt r a ws, (All2 (fun x v => Vz z' (eT eI eI eI x) v) (pre.map row) ws) → GG9 (([("text", some (text)), ("data", some (data)), ("rows", some (.ref F)), ("place", p), ("code", c), ("part", pt), ("rank", r), ("at", a)] : M)) ([(F, .lst ws)])) → GG9 m' n'
 walk_at "e"
 refine @exs_semQ _ _ _ _ _ _ _ _ _ _ _ fun QS hQS => for_dataQ hC J ?_
 walk_at "v"
 refine callE_t (enum_V hT fun l vs en it ex hz hall => ?_)
 refine LoopD.mk _ [(F, .lst [])] (eP eI eI) (enumI xs) List.perm_append_comm (iterV_enum hR.handled hz hall trivial) (fun u_ k9 => k9 none none none none none [] trivial) ?_ ?_
 ·rintro pre ⟨i, x⟩ post v m' zi zi' ni hxs l1 l2 hv hJ QB hQB
  apply hJ
  intro p c pt r a ws h2
  induction hv using vzP_use with | _ T u1 u2 hT0 hv1 hv2 hv => ?_
  induction hv1 using vzI_use with | _ t hv1 => ?_
  induction hv2 using vzI_use with | _ u hv2 => ?_
  have hxm : x ∈ xs := by
   have : (i, x) ∈ enumI xs := hxs ▸ by simp
   unfold enumI at this
   refine oEA (List.mem_map.mp this) fun q hq e => ?_
   cases e
   exact (List.mem_zipIdx' hq).2 ▸ List.getElem_mem _
  have hwl := h2.len
  have hpl : pre.length < 1000 := by
   have := congrArg List.length hxs
   rw [enumI_len] at this
   simp at this; omega
  walk_at "v"
  refine unp_mk (.inl hT0) rfl ?_
  walk_at "v"
  have lz := l1.trans l2
  let J2 : List Int → M → Fz → Led → Prop := fun pr m' z' n' => ∀ GG9 : M → Led → Prop, (∀ pt r a ws, (All2 (fun x v => Vz z' (eT eI eI eI x) v) (pre.map row ++ pr.map fun y => (y, i, 0)) ws) → GG9 (([("text", some (text)), ("data", some (data)), ("rows", some (.ref F)), ("place", some (.int i t)), ("code", some (.int x u)), ("part", pt), ("rank", r), ("at", a)] : M)) ([(F, .lst ws)])) → GG9 m' n'
  walk_at "e"
  refine @exs_semQ _ _ _ _ _ _ _ _ _ _ _ fun QS hQS => for_dataQ hC J2 ?_
  walk_at "v"
  refine .inr fun C hC0 => ?_
  walk_at "v"
  have lC := Le.fset (lo := .lst [.int x u]) hC0
  refine callE_k (by k_is) ((s_nfd w (k := k) hR (xs := [x]) (by simp) (by simpa using hx x hxm) (vzL.mpr ⟨C, [.int x u], rfl, fset_self, ⟨u, rfl⟩, trivial⟩) (hD.mono (lz.trans lC)) hf hf2).apart fun v z1 l3 h => ?_)
  refine LoopL_mk hC eI [x] h (fun u_ k9 => k9 pt r a ws (by simpa using h2.vmono (l2.trans ((Le.fset hC0).trans l3)))) ?_ ?_
  ·rintro pr y po v m2 zj zj' nj hxs2 m1 m2' hv' hJ QB hQB
   apply hJ
   intro pt r a ws2 h3
   obtain ⟨rfl, rfl⟩ : pr = [] ∧ x = y := by
    cases pr with
    | nil => exact ⟨rfl, (List.cons.inj hxs2).1⟩
    | cons q r => simp at hxs2
   induction hv' using vzI_use with | _ u' hv' => ?_
   rw [List.map_nil, List.append_nil] at h3
   have hwl2 := h3.len
   rw [List.length_map] at hwl2
   have lz2 := (((lz.trans lC).trans l3).trans m1).trans m2'
   walk_at "v"
   walk_at "t"
   refine data_meth (hD.mono lz2) ?_
   walk_at "v"
   intro t2
   refine callE_k (by k_is) ((s_get w (k := 0) (hR.less (by lia)) (hD.mono lz2) hf).apart fun v z2 l4 h => ?_)
   subst h
   walk_at "v"
   walk_at "t"
   refine callE_b (len_W (.inr (.head _)) (by exact Nat.lt_of_lt_of_le (Nat.lt_of_le_of_lt (Nat.le_of_eq hwl2) hpl) (Nat.le_of_ble_eq_true rfl)) fun t4 => ?_)
   walk_at "v"
   refine @exs_semQ _ _ _ _ _ _ _ _ _ _ _ fun QS hQS => while_ok hC (fun k' m' z' n' => z' = z2 ∧ m' = ([("text", some (text)), ("data", some (data)), ("rows", some (.ref F)), ("place", some (.int i t)), ("code", some (.int x u)), ("part", some (.int x u')), ("rank", some (.int 0 t0)), ("at", some (.int ws2.length t4))] : M) ∧ n' = [(F, .lst ws2)]) 0 ⟨rfl, rfl, rfl⟩ fun k' mk zk nk l5 hJp => ?_
   refine oAA hJp fun e1 e2 e3 => ?_
   clear hJp
   subst e1 e2 e3
   clear l5
   walk_at "v"
   intro t5
   refine brE_pf (by (first | lia | omega)) ?_
   walk_at "v"
   walk_at "t"
   refine meth_lst (.inr (.head _)) PySem.F.slot_list_insert PySem.F.type_list_insert ?_
   walk_at "v"
   intro T3 hT3
   refine callE_b (insert_W (vs := ws2) (ws := []) (by rw [List.append_nil]; exact .head) rfl (by simp; omega) ?_)
   walk_at "v"
   walk_at "n"
   refine hQB _ _ _ _ fun l6 => fun u_ k9 => k9 _ _ _ _ ?_
   exact (h3.vmono (m2'.trans (l4.trans (Le.fset hT3)))).snoc (vzT_mk (a := T3) fset_self ⟨_, rfl⟩ ⟨_, rfl⟩ ⟨_, rfl⟩)
  ·rintro m' zj nj m1 hJ
   apply hJ
   intro pt r a ws h3
   walk_at "v"
   walk_at "n"
   refine hQB _ _ _ _ fun l6 => fun u_ k9 => k9 _ _ _ _ _ ws ?_
   rw [List.map_append]
   exact h3
 ·rintro m' zi ni l1 hJ
  apply hJ
  intro p c pt r a ws h2
  walk_at "v"
  refine exs_freeze fun hF => ?_
  have hV : Vz (fset zi F (.lst ws)) (eL (eT eI eI eI) ((enumI xs).map row)) (.ref F) := vzL_mk (a := F) (vs := ws) fset_self (h2.vmono (Le.fset hF))
  walk_at "t"
  refine comp_V hC [] none [] ["row"] (by subst eenv; rfl) (fun u_ => rfl) (fun u_ => rfl) (by decide +kernel) (by decide +kernel) trivial ?_
  walk_at "v"
  refine comp_data [] [] (eT eI eI eI) ((enumI xs).map row) (fun u_ => true) (fun x => (x.1, x.2.1)) (eP eI eI) nilPerm (iterV_list hR.handled hV) (by rw [List.length_map, enumI_len]; omega) ?_ ?_
  ·rintro C hC' ⟨a, b, c⟩ v zj m ov hm l2 hv hk
   obtain ⟨v0, rfl⟩ := keys1 hk
   induction hv using vzT_use with | _ T u1 u2 u3 hT0 hp95 hp96 _ hv => ?_
   obtain ⟨t1, rfl⟩ := hp95
   obtain ⟨t2, rfl⟩ := hp96
   walk_at "v"
   intro t5
   refine slice_tup (.inl hT0) (by simp) (by simp) fun T2 z3 l3 hT2 => ?_
   refine fun l4 => ⟨rfl, ⟨none, rfl⟩, rfl, vzP_mk (a := T2) fset_self ⟨t1, rfl⟩ ⟨t2, rfl⟩⟩
  ·intro vs zN l2 hvl hall2
   refine .inr fun D hD2 => ?_
   walk_at "e"
   refine hQF _ _ _ _ fun l3 => ⟨[], List.nil_sublist _, rfl, vzL_mk (a := D) (vs := vs) fset_self ?_⟩
   have e : (List.filter (fun u_ => true) ((enumI xs).map row)).map (fun x => (x.1, x.2.1)) = xs.zipIdx.map fun p => (p.1, (p.2 : Int)) := by
    rw [filter_tt, List.map_map]
    unfold enumI
    rw [List.map_map]; rfl
   rw [← e]
   exact hall2.vmono (Le.fset hD2)
theorem s_coll_live (w : World) {A : Around} {k : Nat} (hA : Room A (k + 1)) {z : Fz} {g : Addr} {a c m t u : Nat} (hm : m ≤ 1000) (ha : a ≤ m) (hg : z g = some (.lst (List.replicate m (.bool false)))) :
  Wp w A (call (.ref 640) [.ref g, .int (a : Nat) t, .int (c : Nat) u] []) z [] fun v z' n' => n' = [] ∧ Vz z' (eL eI (fromI a (min c (m - a)))) v := by
 refine WCall.W ?_
 refine fn_CQ (binds := [("gone", .ref g), ("at", .int (a : Nat) t), ("most", .int (c : Nat) u)]) (own := none) (names := ["gone", "at", "most"]) (locs := ["gone", "at", "most", "found"]) (g := [("len", .builtin "len")]) hA (by k_is) (by k_is) (fun _ X => by first | exact BindsTo.of_eq rfl | exact binds_K X rfl (by k_is) rfl rfl rfl) rfl (fun _ => rfl) (by decide +kernel) ⟨⟨rfl, gl_len w⟩, trivial⟩ fun L env eenv hC hR QF hQF => ?_
 walk_at "t"
 refine .inl fun F => ?_
 walk_at "v"
 let J : Nat → M → Fz → Led → Prop := fun k' m' z' n' => ∀ GG9 : M → Led → Prop, (∀ j t' ws, (k' = m - a - j) → (j ≤ min c (m - a)) → (All2 (fun x v => Vz z' (eI x) v) (fromI a j) ws) → GG9 (([("gone", some (.ref g)), ("at", some (.int ((a + j : Nat) : Int) t')), ("most", some (.int (c : Nat) u)), ("found", some (.ref F))] : M)) ([(F, .lst ws)])) → GG9 m' n'
 walk_at "e"
 refine @exs_semQ _ _ _ _ _ _ _ _ _ _ _ fun QS hQS => while_ok hC J (m - a) (fun u_ k9 => k9 0 t [] rfl (Nat.zero_le _) trivial) fun k' m' zi ni l hJp => ?_
 apply hJp
 intro j t' ws e1 hj h2
 subst e1
 have hwl := h2.len
 rw [fromI_len] at hwl
 walk_at "v"
 refine callE_b (len_W (.inl (l _ _ hg)) (by simp; omega) fun t4 => ?_)
 walk_at "v"
 refine brE_dec (fun h1 => ?_) (fun h1 => ?_)
 ·refine callE_b (len_W (.inr (.head _)) (by exact Nat.lt_of_le_of_lt (Nat.le_trans (Nat.le_trans (Nat.le_trans (Nat.le_trans (Nat.le_of_eq hwl) hj) (Nat.min_le_right _ _)) (Nat.sub_le _ _)) hm) (Nat.le_of_ble_eq_true rfl)) fun t5 => ?_)
  walk_at "v"
  refine brE_dec (fun h3 => ?_) (fun h3 => ?_)
  ·rw [List.length_replicate] at h1
   walk_at "t"
   refine item_at (i := a + j) (.inl (l _ _ hg)) rfl (by rw [List.getElem?_replicate, if_pos (by exact (Int.ofNat_lt.mp h1))]) (by simp; omega) ?_
   walk_at "v"
   walk_at "t"
   refine meth_lst (.inr (.head _)) PySem.F.slot_list_append PySem.F.type_list_append ?_
   walk_at "v"
   refine callE_b (append_W .head (by exact Nat.le_trans (Nat.le_trans (Nat.le_trans (Nat.le_trans (Nat.le_trans (Nat.le_of_eq hwl) hj) (Nat.min_le_right _ _)) (Nat.sub_le _ _)) hm) (Nat.le_of_ble_eq_true rfl)) ?_)
   walk_at "v"
   walk_at "n"
   walk_at "t"
   intro t6 t7
   walk_at "n"
   refine fun l2 => ⟨m - a - (j + 1), by first | exact subStep h1 | lia | omega, fun u_ k9 => k9 (j + 1) t7 (ws ++ [_]) rfl (by first | exact Nat.le_min.mpr ⟨Nat.lt_of_le_of_lt (Nat.le_of_eq hwl.symm) (Int.ofNat_lt.mp h3), Nat.lt_sub_of_add_lt (Nat.lt_of_le_of_lt (Nat.le_of_eq (Nat.add_comm _ _)) (Int.ofNat_lt.mp h1))⟩ | lia | omega) ?_⟩
   have e : fromI (a : Int) (j + 1) = fromI a j ++ [((a + j : Nat) : Int)] := by unfold fromI; rw [List.range_succ]; simp
   rw [e]
   exact (h2.vmono l2).snoc (vzI_mk)
  ·walk_at "e"
   refine exs_freeze fun hF => ?_
   walk_at "t"
   rw [show j = min c (m - a) by exact Nat.le_antisymm hj (Nat.le_trans (Nat.le_trans (Nat.min_le_left _ _) (Nat.le_of_not_lt fun q9 => h3 (Int.ofNat_lt.mpr q9))) (Nat.le_of_eq hwl))] at h2
   walk_at "e"
   exact hQF _ _ _ _ fun u_ => ⟨[], List.nil_sublist _, rfl, vzL_mk (a := F) fset_self (h2.vmono (Le.fset hF))⟩
 ·walk_at "e"
  refine exs_freeze fun hF => ?_
  walk_at "t"
  rw [show j = min c (m - a) by rw [List.length_replicate] at h1; omega] at h2
  walk_at "e"
  exact hQF _ _ _ _ fun u_ => ⟨[], List.nil_sublist _, rfl, vzL_mk (a := F) fset_self (h2.vmono (Le.fset hF))⟩
theorem s_match_init (w : World) {A : Around} {k : Nat} (hA : Room A (k + 1)) {z : Fz} {n : Led} {x dx : Addr} {a b c : Value} : WCall PySem.Challenge.pw_nt0082_01 w (k0.heap_1 w.params) A (.ref 520) [.ref x, a, b, c] z ((x, .raw (instObj 523 dx)) :: (dx, .att []) :: n)
  fun v z' n' => v = .none ∧ z' = z ∧ n' = (x, .raw (instObj 523 dx)) :: (dx, .att [("onward", c), ("places", b), ("elements", a)]) :: n := by
 refine fn_CQ (binds := [("self", .ref x), ("elements", a), ("places", b), ("onward", c)]) (own := none) (names := ["self", "elements", "places", "onward"]) (locs := ["self", "elements", "places", "onward"]) (g := []) hA (by k_is) (by k_is) (fun _ X => by first | exact BindsTo.of_eq rfl | exact binds_K X rfl (by k_is) rfl rfl rfl) rfl (fun _ => rfl) (by decide +kernel) trivial fun L env eenv hC hR QF hQF => ?_
 walk_at "t"
 refine setattr_S (by kernel_rfl) rfl (by k_is) (by k_is) (by k_is) (by k_is) ?_
 walk_at "v"
 walk_at "t"
 refine setattr_S (by kernel_rfl) rfl (by k_is) (by k_is) (by k_is) (by k_is) ?_
 walk_at "v"
 walk_at "t"
 refine setattr_S (by kernel_rfl) rfl (by k_is) (by k_is) (by k_is) (by k_is) ?_
 walk_at "v"
 walk_at "n"
 exact hQF _ _ _ _ fun u_ => ⟨_, List.Sublist.refl _, rfl, rfl, rfl⟩
theorem s_match_make (w : World) {A : Around} {k : Nat} (hA : Room A (k + 2)) {z : Fz} {n : Led} {a b : Value} {i : Int} {t : Nat} {es : List El} {ps : List Int} (ha : Vz z (eL eE es) a) (hb : Vz z (eL eI ps) b) {Q : KV} (q : ∀ v z', Le z z' → MatchIs z' es ps i v → Q v z' n) :
  callE PySem.Challenge.pw_nt0082_01 w (k0.heap_1 w.params) A (.ref 523) [a, b, .int i t] z n Q := by
 refine callE_k (by k_is) (W.post_fz2 (WCall.W (make_W hA (by k_is) (by k_is) (by k_is) fun x dx A' hA' => ?_)))
 intro s hs
 refine codeAny_mono (s_match_init w hA' (n := n) s hs) fun r s' hJp => ?_
 refine oEEEAAAA hJp fun v z' n' e st e1 e2 e3 => ?_
 clear hJp
 subst e1 e2 e3
 exact ⟨_, _, _, e, st, rfl, x, _, dx, _, n, rfl, fun z2 l h1 h2 => q _ z2 l ⟨x, dx, b, a, t, rfl, h1, h2, hb.up l, ha.up l⟩⟩
theorem s_with_marks (w : World) {A : Around} {k : Nat} (hA : Room A (k + 2)) {z : Fz} {f : Str → Option Value} {self codes places gone data : Value} {xs : List Int} {a s : Nat} {t0 : Nat} (hl : xs.length ≤ 1000) (hs : 0 < s) (has : a + s ≤ xs.length) (hx : Vz z (eL eI xs) codes) (hp : Vz z (eL eI (fromI a s)) places) (hD : DataIs z f data) (hf : f "ccc" = some (.int 0 t0)) :
  Wp w A (call (.ref 614) [self, codes, places, gone, data] []) z [] fun v z' n' => n' = [] ∧ ∃ T, v = .ref T ∧ Vz z' (.tuple (((xs.drop a).take s).map .int)) (.ref T) := by
 refine WCall.W ?_
 refine fn_CQ (binds := [("self", self), ("codes", codes), ("places", places), ("gone", gone), ("data", data)]) (own := (some "codes")) (names := ["self", "codes", "places", "gone", "data"]) (locs := ["self", "places", "gone", "data", "key", "at", "stays", "rank"]) (g := [("tuple", .type "tuple"), ("len", .builtin "len")]) hA (by k_is) (by k_is) (fun _ X => by first | exact BindsTo.of_eq rfl | exact binds_K X rfl (by k_is) rfl rfl rfl) rfl (fun _ => rfl) (by decide +kernel) ⟨⟨rfl, gl_tuple w⟩, ⟨⟨rfl, gl_len w⟩, trivial⟩⟩ fun L env eenv hC hR QF hQF => ?_
 walk_at "v"
 refine exs_freeze fun hc0 => ?_
 have lc := Le.fset (lo := .cell (some codes)) hc0
 walk_at "t"
 refine comp_V hC [("codes", L + 1)] none [] ["place"] (by subst eenv; rfl) (fun u_ => rfl) (fun u_ => rfl) (by kernel_rfl) (by decide +kernel) trivial ?_
 walk_at "v"
 refine comp_data [] [] eI (fromI a s) (fun u_ => true) (fun p => xs.getD p.toNat 0) eI nilPerm (iterV_list hR.handled (hp.up lc)) (by rw [fromI_len]; omega) ?_ ?_
 ·rintro C hC' p v zj m ov hm l2 hv hk
  obtain ⟨v0, rfl⟩ := keys1 hk
  induction hv using vzI_use with | _ t hv => ?_
  refine oEA (fromI_mem hm) fun j hj e0_ => ?_
  subst e0_
  walk_at "v"
  refine ⟨_, .inl (l2 _ _ fset_self), ?_⟩
  refine item_V (i := a + j) (y := xs.getD (a + j) 0) ((hx.up lc).up l2) (by exact rfl) (getD_get (by first | exact Nat.lt_of_lt_of_le (Nat.add_lt_add_left hj a) has | lia | omega)) (by exact Nat.le_trans hl (Nat.le_of_ble_eq_true rfl)) fun u hu => ?_
  refine fun l3 => ⟨rfl, ⟨none, rfl⟩, rfl, ?_⟩
  rw [show ((a : Int) + (j : Int)).toNat = a + j by exact rfl]
  exact hu
 ·intro vs zN l2 hvl hall
  rw [filter_tt, fromI_map (by exact has)] at hall
  refine .inr fun D hD2 => ?_
  walk_at "v"
  have hlen := hall.len
  rw [List.length_take, List.length_drop] at hlen
  refine callE_t (tupleL_W (.inl fset_self) (by exact Nat.le_trans (Nat.le_trans (Nat.le_trans (Nat.le_trans (Nat.le_of_eq hlen) (Nat.min_le_right _ _)) (Nat.sub_le _ _)) hl) (Nat.le_of_ble_eq_true rfl)) fun T hT => ?_)
  walk_at "v"
  have hV : ∀ z', Le (fset (fset zN D (.lst vs)) T (.tup vs)) z' → Vz z' (.tuple (((xs.drop a).take s).map .int)) (.ref T) := fun z' l => vz_tup (l _ _ fset_self) (hall.vmono ((Le.fset hD2).trans ((Le.fset hT).trans l)))
  have lz : Le (fset z (L + 1) (.cell (some codes))) (fset (fset zN D (.lst vs)) T (.tup vs)) := l2.trans ((Le.fset hD2).trans (Le.fset hT))
  clear hall
  generalize hzz : fset (fset zN D (.lst vs)) T (.tup vs) = zz at *
  walk_at "t"
  refine ⟨true, by subst eenv; rfl, ?_⟩
  walk_at "v"
  intro t1 t1'
  refine item_Vlast (xs := fromI a s) (y := ((a + s - 1 : Nat) : Int)) (hp.up (lc.trans lz)) (fromI_last hs) rfl (by rw [fromI_len]; omega) fun u hu => ?_
  induction hu using vzI_use with | _ t2 hu => ?_
  walk_at "v"
  intro t3 t4 t5 T2 hT2
  walk_at "v"
  have l2' := Le.fset (lo := .tup [.int (((a + s - 1 : Nat) : Int) + 1) t4, .int 0 t5]) hT2
  walk_at "e"
  refine @exs_semQ _ _ _ _ _ _ _ _ _ _ _ fun QS hQS => while_ok hC (fun k m' z' n' => z' = fset zz T2 (.tup [.int (((a + s - 1 : Nat) : Int) + 1) t4, .int 0 t5]) ∧ n' = [] ∧ m' = ([("self", some (self)), ("places", some (places)), ("gone", some (gone)), ("data", some (data)), ("key", some (.ref T)), ("at", some (.int (((a + s - 1 : Nat) : Int) + 1) t4)), ("stays", some (.int 0 t5)), ("rank", none)] : M)) 0 ⟨rfl, rfl, rfl⟩ fun k' m' zi ni l hJp => ?_
  refine oAA hJp fun e1 e2 e3 => ?_
  clear hJp
  subst e1 e2 e3
  walk_at "v"
  have lzz := lc.trans (lz.trans l2')
  refine ⟨_, .inl ((lz.trans l2') _ _ fset_self), ?_⟩
  refine len_V (hx.up lzz) (by exact Nat.le_trans hl (Nat.le_of_ble_eq_true rfl)) fun t6 => ?_
  walk_at "v"
  refine brE_dec (fun h1 => ?_) (fun h1 => ?_)
  ·walk_at "t"
   refine data_meth (hD.mono lzz) ?_
   walk_at "v"
   intro t7
   refine ⟨_, .inl ((lz.trans l2') _ _ fset_self), ?_⟩
   refine item_V (i := a + s) (y := xs.getD (a + s) 0) (hx.up lzz) (by first | exact congrArg (Nat.cast (R := Int)) (Nat.sub_add_cancel (Nat.le_trans hs (Nat.le_add_left _ _))) | lia | omega) (getD_get (by (first | lia | omega))) (by exact Nat.le_trans hl (Nat.le_of_ble_eq_true rfl)) fun u hu => ?_
   walk_at "v"
   refine callE_k (by k_is) ((s_get w (k := 0) (hR.less (by lia)) (hD.mono lzz) hf).apart fun v z1 l3 h => ?_)
   subst h
   walk_at "v"
   walk_at "t"
   intro t8
   refine brE_pt rfl ?_
   walk_at "t"
   intro l4
   walk_at "t"
   exact hQF _ _ _ _ fun u_ => ⟨[], List.nil_sublist _, rfl, T, rfl, hV _ (l2'.trans l4)⟩
  ·walk_at "t"
   exact hQF _ _ _ _ fun u_ => ⟨[], List.nil_sublist _, rfl, T, rfl, hV _ l2'⟩
theorem table_meth {w : World} {A : Around} {z : Fz} {n : Led} {rows : Rows} {lon : Int → Nat} {tab : Value} (hT : TableIs z rows lon tab) {name : Str} {f : Addr} (h1 : (name == "bases" || name == "factors" || name == "longest" || name == "table") = false) (h2 : findIn (k0.heap_1 w.params) (.ref 629) name = some (some (.ref f))) (h3 : typeIn (k0.heap_1 w.params) (.ref f) = some (.type "function"))
  {Q : Value → List Value → Fz → Led → Prop} (q : Q (.ref f) [tab] z n) : methE PySem.Challenge.pw_nt0082_01 w (k0.heap_1 w.params) A tab name z n Q := by
 refine oEEE hT.ex fun x dx T h_ => oEEE h_ fun G xs u1 h_ => oEEEAAA h_ fun u2 mG f e0_ h4 h5 u_ => ?_
 subst e0_
 simp only [Bool.or_eq_false_iff, beq_eq_false_iff_ne] at h1
 refine meth_W (C := 629) (x := x) (dx := dx) ⟨.inl h4, .inl h5⟩ ?_ (by k_is) (by k_is) h2 h3 q
 simp only [lkv, h1, if_false]
theorem s_match (w : World) {A : Around} {k : Nat} (hA : Room A (k + 3)) {z : Fz} {f : Str → Option Value} {rows : Rows} {lon : Int → Nat} {tab codes data : Value} {g : Addr} {xs : List Int} {a : Nat} {t t0 : Nat} (hl : xs.length ≤ 1000) (ha : a < xs.length) (hG : Good rows lon) (hone : ∀ c ∈ xs, (look rows [c]).isSome = true)
  (hT : TableIs z rows lon tab) (hx : Vz z (eL eI xs) codes) (hg : z g = some (.lst (List.replicate xs.length (.bool false)))) (hD : DataIs z f data) (hf : f "ccc" = some (.int 0 t0)) :
  Wp w A (call (.ref 609) [tab, codes, .int (a : Nat) t, .ref g, data] []) z [] fun v z' n' => n' = [] ∧ ∃ es, look rows ((xs.drop a).take (many rows (xs.drop a))) = some es ∧ MatchIs z' es (fromI (a : Nat) (many rows (xs.drop a))) ((a + many rows (xs.drop a) : Nat) : Int) v := by
 refine WCall.W ?_
 refine fn_CQ (binds := [("self", tab), ("codes", codes), ("at", .int (a : Nat) t), ("gone", .ref g), ("data", data)]) (own := (some "codes")) (names := ["self", "codes", "at", "gone", "data"]) (locs := ["self", "at", "gone", "data", "live", "size", "places", "key"]) (g := [("coll_live", Value.ref 640), ("max", .builtin "max"), ("len", .builtin "len"), ("tuple", .type "tuple"), ("CollMatch", Value.ref 523)]) hA (by k_is) (by k_is) (fun _ X => by first | exact BindsTo.of_eq rfl | exact binds_K X rfl (by k_is) rfl rfl rfl) rfl (fun _ => rfl) (by decide +kernel) ⟨⟨rfl, gl_coll_live w⟩, ⟨⟨rfl, gl_max w⟩, ⟨⟨rfl, gl_len w⟩, ⟨⟨rfl, gl_tuple w⟩, ⟨⟨rfl, gl_CollMatch w⟩, trivial⟩⟩⟩⟩⟩ fun L env eenv hC hR QF hQF => ?_
 walk_at "v"
 refine exs_freeze fun hc0 => ?_
 have lc := Le.fset (lo := .cell (some codes)) hc0
 have hcell : fset z (L + 1) (.cell (some codes)) (L + 1) = some (.cell (some codes)) := fset_self
 generalize fset z (L + 1) (.cell (some codes)) = z0 at *
 replace hT := hT.mono lc
 replace hx := hx.up lc
 replace hg := lc _ _ hg
 replace hD := hD.mono lc
 have hdr : (xs.drop a).length = xs.length - a := List.length_drop
 have hne : xs.drop a ≠ [] := fun e => by rw [e] at hdr; simp at hdr; omega
 refine oAA (many_le rows _ hne) fun m1 m2 m3 => ?_
 have hhead : (xs.drop a).head? = some (xs.getD a 0) := by rw [List.head?_drop]; exact getD_get ha
 have hmax := many_lon hG hhead
 have hkey := many_key rows (xs.drop a) (fun c hc => hone c (List.mem_of_mem_drop hc)) hne
 obtain ⟨x, dx, T, G, ys, u1, u2, mG, fG, rfl, h1, h2, h3, h4, h5, h6, h7, h8⟩ := hT.ex
 have I : ∀ n z', Le z0 z' → Inst z' n 629 x dx [("bases", u1), ("factors", u2), ("longest", .ref G), ("table", .ref T)] := fun n z' l => ⟨.inl (l _ _ h1), .inl (l _ _ h2)⟩
 walk_at "t"
 intro t1
 refine attr_W (I _ _ (Le.refl _)) (v := .ref G) (by kernel_rfl) (by k_is) (by k_is) (by k_is) rfl ?_
 refine methD (fun o h => (diIs (f := fG) (m := mG) o h).1) (.inl h6) ?_
 walk_at "v"
 refine ⟨_, .inl hcell, ?_⟩
 refine item_V (i := a) (y := xs.getD a 0) hx rfl (getD_get ha) (by exact Nat.le_trans hl (Nat.le_of_ble_eq_true rfl)) fun u hu => ?_
 induction hu using vzI_use with | _ t2 hu => ?_
 walk_at "v"
 intro t3
 have hlon : ∃ t4, (fG (xs.getD a 0)).getD (.int 0 t3) = .int (lon (xs.getD a 0)) t4 := by
  rcases h8 (xs.getD a 0) with ⟨e1, e2⟩ | ⟨t4, e⟩
  ·exact ⟨t3, by rw [e1, e2]; rfl⟩
  ·exact ⟨t4, by rw [e]; rfl⟩
 obtain ⟨t4, hlon⟩ := hlon
 refine callE_b (get2D (intKind _ _) diIs (.inl h6) h7 (intKey _ t2) ?_)
 rw [hlon]
 walk_at "v"
 refine callE_b (max2_W hR fun t5 => ?_)
 walk_at "v"
 rw [show max (1 : Int) ((lon (xs.getD a 0) : Nat) : Int) = ((max 1 (lon (xs.getD a 0)) : Nat) : Int) by first | exact castMax1 | lia | omega]
 generalize hmx : max 1 (lon (xs.getD a 0)) = mx at *
 refine callE_k (by k_is) ((s_coll_live w (k := k) (hR.down rfl) hl (by exact Nat.le_of_lt ha) hg).apart fun lv z1 l1 hlv => ?_)
 generalize hll : min mx (xs.length - a) = ll at *
 have hsl : many rows (xs.drop a) ≤ ll := by first | exact Nat.le_trans (Nat.le_min.mpr ⟨hmax, Nat.le_trans m3 (Nat.le_of_eq hdr)⟩) (Nat.le_of_eq hll) | lia | omega
 have hl2 : ll ≤ 2 := by have := hG.most (xs.getD a 0); omega
 walk_at "v"
 walk_at "t"
 refine len_V hlv (by rw [fromI_len]; omega) fun t6 => ?_
 rw [fromI_len]
 walk_at "v"
 let J : Nat → M → Fz → Led → Prop := fun k' m' z' n' => ∀ GG9 : M → Led → Prop, (∀ t', (many rows (xs.drop a) ≤ k') → (k' ≤ ll) → GG9 (([("self", some (.ref x)), ("at", some (.int (a : Nat) t)), ("gone", some (.ref g)), ("data", some (data)), ("live", some (lv)), ("size", some (.int (k' : Nat) t')), ("places", none), ("key", none)] : M)) ([])) → GG9 m' n'
 walk_at "e"
 refine @exs_semQ _ _ _ _ _ _ _ _ _ _ _ fun QS hQS => while_ok hC J ll (fun u_ k9 => k9 t6 hsl (Nat.le_refl _)) fun k' m' zi ni l2 hJp => ?_
 apply hJp
 intro t' j1 j2
 have lz := l1.trans l2
 walk_at "v"
 intro t7
 refine brE_pt (by exact Int.ofNat_lt.mpr (Nat.lt_of_lt_of_le (Nat.lt_of_lt_of_le (Nat.le_of_ble_eq_true rfl) m1) j1)) ?_
 refine comp_V hC [("codes", L + 1)] none [] ["place"] (by subst eenv; rfl) (fun u_ => rfl) (fun u_ => rfl) (by kernel_rfl) (by decide +kernel) trivial ?_
 walk_at "v"
 refine slice_upto (b := k') (hlv.up l2) rfl (by rw [fromI_len]; omega) fun z2 sv l3 hsv => ?_
 rw [fromI_take, Nat.min_eq_left j2] at hsv
 have lz2 := lz.trans l3
 refine comp_data [] [] eI (fromI a k') (fun u_ => true) (fun p => xs.getD p.toNat 0) eI nilPerm (iterV_list hR.handled hsv) (by rw [fromI_len]; omega) ?_ ?_
 ·rintro C hC' p v zj m ov hm l4 hv hk
  obtain ⟨v0, rfl⟩ := keys1 hk
  induction hv using vzI_use with | _ t8 hv => ?_
  refine oEA (fromI_mem hm) fun j hj e0_ => ?_
  subst e0_
  walk_at "v"
  refine ⟨_, .inl ((lz2.trans l4) _ _ hcell), ?_⟩
  refine item_V (i := a + j) (y := xs.getD (a + j) 0) (hx.up (lz2.trans l4)) (by exact rfl) (getD_get (by exact Nat.add_lt_of_lt_sub' (Nat.lt_of_lt_of_le (Nat.lt_of_lt_of_le (Nat.lt_of_lt_of_le hj j2) (Nat.le_of_eq hll.symm)) (Nat.min_le_right _ _)))) (by exact Nat.le_trans hl (Nat.le_of_ble_eq_true rfl)) fun u hu => ?_
  refine fun l5 => ⟨rfl, ⟨none, rfl⟩, rfl, ?_⟩
  rw [show ((a : Int) + (j : Int)).toNat = a + j by exact rfl]
  exact hu
 ·intro vs zN l4 hvl hall
  rw [filter_tt, fromI_map (by exact Nat.add_le_of_le_sub' (Nat.le_of_lt ha) (Nat.le_trans (Nat.le_trans j2 (Nat.le_of_eq hll.symm)) (Nat.min_le_right _ _)))] at hall
  refine .inr fun D hD2 => ?_
  walk_at "v"
  have hlen := hall.len
  rw [List.length_take, List.length_drop] at hlen
  refine callE_t (tupleL_W (.inl fset_self) (by exact Nat.le_trans (Nat.le_trans (Nat.le_trans (Nat.le_trans (Nat.le_of_eq hlen) (Nat.min_le_right _ _)) (Nat.sub_le _ _)) hl) (Nat.le_of_ble_eq_true rfl)) fun Tk hTk => ?_)
  walk_at "v"
  have hV : Vz (fset (fset zN D (.lst vs)) Tk (.tup vs)) (.tuple (((xs.drop a).take k').map .int)) (.ref Tk) := vz_tup fset_self (hall.vmono ((Le.fset hD2).trans (Le.fset hTk)))
  have lz3 : Le z0 (fset (fset zN D (.lst vs)) Tk (.tup vs)) := lz2.trans (l4.trans ((Le.fset hD2).trans (Le.fset hTk)))
  have lz4 : Le zi (fset (fset zN D (.lst vs)) Tk (.tup vs)) := l3.trans (l4.trans ((Le.fset hD2).trans (Le.fset hTk)))
  clear hall
  generalize fset (fset zN D (.lst vs)) Tk (.tup vs) = z3 at *
  refine attr_W (I _ _ lz3) (v := .ref T) (by kernel_rfl) (by k_is) (by k_is) (by k_is) rfl ?_
  walk_at "v"
  refine notin_of_in (T_in (hR.less (by lia)) (lz3 _ _ h3) h4 (h5.mono lz3) hV ⟨rfl, ?_⟩)
  walk_at "v"
  refine brE_any (fun hb => ?_) (fun hb => ?_)
  ·rw [Bool.not_eq_true'] at hb
   have hne2 : k' ≠ many rows (xs.drop a) := fun e => by rw [e, hkey] at hb; cases hb
   walk_at "t"
   intro t9 t10
   walk_at "n"
   exact fun l5 => ⟨k' - 1, by exact Nat.sub_lt (Nat.lt_of_lt_of_le (Nat.lt_of_lt_of_le (Nat.le_of_ble_eq_true rfl) m1) j1) (Nat.zero_lt_succ _), fun u_ k9 => by have h9 := k9 t10 (by first | exact Nat.le_sub_one_of_lt (Nat.lt_of_le_of_ne j1 hne2.symm) | lia | omega) (by exact Nat.le_of_lt (Nat.lt_of_lt_of_le (Nat.sub_lt (Nat.lt_of_lt_of_le (Nat.lt_of_lt_of_le (Nat.le_of_ble_eq_true rfl) m1) j1) (Nat.zero_lt_succ _)) j2)); rw [show ((k' - 1 : Nat) : Int) = (k' : Int) - 1 by exact Int.ofNat_sub (Nat.le_trans m1 j1)] at h9; exact h9⟩
  ·rw [Bool.not_eq_false'] at hb
   obtain rfl : k' = many rows (xs.drop a) := by
    by_cases e : k' = 2
    ·subst e
     exact (many_two rows _ (by exact Nat.le_trans (Nat.le_trans (Nat.le_trans j2 (Nat.le_of_eq hll.symm)) (Nat.min_le_right _ _)) (Nat.le_of_eq hdr.symm)) hb).symm
    ·omega
   obtain ⟨es, hes⟩ := Option.isSome_iff_exists.mp hkey
   generalize hmm : many rows (xs.drop a) = s at *
   walk_at "v"
   walk_at "t"
   intro t9
   refine brE_pf (by first | exact castNe0 m1 | lia | omega) ?_
   walk_at "n"
   walk_at "t"
   refine slice_upto (b := s) ((hlv.up l2).up lz4) rfl (by rw [fromI_len]; omega) fun z4 pv l5 hpv => ?_
   rw [fromI_take, Nat.min_eq_left j2] at hpv
   have lz5 := lz3.trans l5
   walk_at "v"
   walk_at "t"
   refine table_meth (hT.mono lz5) (by decide +kernel) (by k_is) (by k_is) ?_
   walk_at "v"
   refine ⟨_, .inl (lz5 _ _ hcell), ?_⟩
   refine callE_k (by k_is) ((s_with_marks w (k := k) hR (gone := .ref g) hl (s := s) (by exact Nat.lt_of_lt_of_le (Nat.le_of_ble_eq_true rfl) m1) (by exact Nat.add_le_of_le_sub' (Nat.le_of_lt ha) (Nat.le_trans m3 (Nat.le_of_eq hdr))) (hx.up lz5) hpv (hD.mono lz5) hf).apart fun kv z5 l6 hJp => ?_)
   refine oEA hJp fun Tv ekv hkv => ?_
   clear hJp
   subst ekv
   have lz6 := lz5.trans l6
   walk_at "v"
   walk_at "t"
   refine attr_W (I _ _ lz6) (v := .ref T) (by kernel_rfl) (by k_is) (by k_is) (by k_is) rfl ?_
   walk_at "v"
   refine T_item (hR.less (by lia)) (lz6 _ _ h3) (h5.mono lz6) hkv hes fun ev hev => ?_
   walk_at "v"
   intro t10 t11
   refine item_V (i := s - 1) (y := ((a + s - 1 : Nat) : Int)) (((hlv.up l2).up lz4).up (l5.trans l6)) (by exact (Int.ofNat_sub m1).symm) (by rw [fromI_get (by exact Nat.lt_of_lt_of_le (Nat.sub_lt (Nat.lt_of_lt_of_le (Nat.le_of_ble_eq_true rfl) m1) (Nat.zero_lt_succ _)) j2)]; congr 1; omega) (by rw [fromI_len]; omega) fun u hu => ?_
   induction hu using vzI_use with | _ t12 hu => ?_
   walk_at "v"
   intro t13 t14
   refine s_match_make w (k := k) hR hev (hpv.up l6) fun mv z6 l7 hmv => ?_
   walk_at "e"
   refine hQF _ _ _ _ fun u_ => ⟨[], List.nil_sublist _, rfl, es, hes, ?_⟩
   rw [show ((a + s : Nat) : Int) = ((a + s - 1 : Nat) : Int) + 1 by exact congrArg (Nat.cast (R := Int)) (Nat.sub_add_cancel (Nat.le_trans m1 (Nat.le_add_left _ _))).symm]
   exact hmv
theorem match_attrs {w : World} {A : Around} {z : Fz} {n : Led} {es : List El} {ps : List Int} {on : Int} {v : Value} (h : MatchIs z es ps on v) :
  (∀ {Q : KV}, (∀ u, Vz z (eL eE es) u → Q u z n) → attrE PySem.Challenge.pw_nt0082_01 w (k0.heap_1 w.params) A v "elements" z n Q) ∧
  (∀ {Q : KV}, (∀ u, Vz z (eL eI ps) u → Q u z n) → attrE PySem.Challenge.pw_nt0082_01 w (k0.heap_1 w.params) A v "places" z n Q) ∧
  (∀ {Q : KV}, (∀ t, Q (.int on t) z n) → attrE PySem.Challenge.pw_nt0082_01 w (k0.heap_1 w.params) A v "onward" z n Q) := by
 refine oEEEEEAAAA h fun x dx u1 u2 t e0_ h1 h2 h3 h4 => ?_
 clear h
 subst e0_
 have I : Inst z n 523 x dx [("onward", .int on t), ("places", u1), ("elements", u2)] := ⟨.inl h1, .inl h2⟩
 refine ⟨fun q => attr_W I (v := u2) (by kernel_rfl) (by k_is) (by k_is) (by k_is) ?_ (q _ h4), fun q => attr_W I (v := u1) (by kernel_rfl) (by k_is) (by k_is) (by k_is) ?_ (q _ h3), fun q => attr_W I (v := .int on t) (by kernel_rfl) (by k_is) (by k_is) (by k_is) rfl (q _)⟩
 ·refine oEEA (vzL.mp h4) fun a vs e0_ u_ => ?_; subst e0_; rfl
 ·refine oEEA (vzL.mp h3) fun a vs e0_ u_ => ?_; subst e0_; rfl
theorem s_located (w : World) {A : Around} {k : Nat} (hA : Room A (k + 9)) {z : Fz} {f : Str → Option Value} {rows : Rows} {lon : Int → Nat} {tab text data : Value} {xs : List Int} {t0 : Nat} (hl : xs.length ≤ 1000) (hlt : ∀ i ∈ xs, i < 1000) (hG : Good rows lon) (hone : ∀ c ∈ xs, (look rows [c]).isSome = true)
  (hT : TableIs z rows lon tab) (hx : Vz z (eL eI xs) text) (hD : DataIs z f data) (hf : f "ccc" = some (.int 0 t0)) (hf2 : f "dm" = some .none) :
  Wp w A (call (.ref 619) [tab, text, data] []) z [] fun v z' n' => n' = [] ∧ Vz z' (eL eG (groups rows 0 xs)) v := by
 refine WCall.W ?_
 refine fn_CQ (binds := [("self", tab), ("text", text), ("data", data)]) (own := (some "rows")) (names := ["self", "text", "data"]) (locs := ["self", "text", "data", "codes", "gone", "found", "at", "taken", "origins"]) (g := [("coll_decomposed", Value.ref 645), ("len", .builtin "len"), ("min", .builtin "min"), ("max", .builtin "max")]) hA (by k_is) (by k_is) (fun _ X => by first | exact BindsTo.of_eq rfl | exact binds_K X rfl (by k_is) rfl rfl rfl) rfl (fun _ => rfl) (by decide +kernel) ⟨⟨rfl, gl_coll_decomposed w⟩, ⟨⟨rfl, gl_len w⟩, ⟨⟨rfl, gl_min w⟩, ⟨⟨rfl, gl_max w⟩, trivial⟩⟩⟩⟩ fun L env eenv hC hR QF hQF => ?_
 walk_at "t"
 refine callE_k (by k_is) ((s_coll_decomposed w (k := k) hR hl hlt hx hD hf hf2).apart fun rv z1 l1 hrv => ?_)
 generalize hcd : (xs.zipIdx.map fun p => (p.1, (p.2 : Int))) = cd at *
 have hcl : cd.length = xs.length := by rw [← hcd, List.length_map, List.length_zipIdx]
 have hcg : ∀ i : Nat, cd[i]? = xs[i]?.map fun x => (x, (i : Int)) := fun i => by
  rw [← hcd, List.getElem?_map, List.getElem?_zipIdx]
  cases xs[i]? <;> simp
 walk_at "v"
 refine ⟨by kernel_rfl, none, _, .head, ?_⟩
 walk_at "v"
 refine exs_freeze fun hc0 => ?_
 have lc := l1.trans (Le.fset (lo := .cell (some rv)) hc0)
 have hcell : fset z1 (L + 1) (.cell (some rv)) (L + 1) = some (.cell (some rv)) := fset_self
 replace hrv := hrv.up (Le.fset (lo := .cell (some rv)) hc0)
 generalize fset z1 (L + 1) (.cell (some rv)) = z0 at *
 clear hc0 l1
 replace hT := hT.mono lc
 replace hx := hx.up lc
 replace hD := hD.mono lc
 walk_at "t"
 refine ⟨false, by subst eenv; rfl, ?_⟩
 walk_at "v"
 refine comp_V hC [] none [] ["row"] (by subst eenv; rfl) (fun u_ => rfl) (fun u_ => rfl) (by kernel_rfl) (by decide +kernel) trivial ?_
 walk_at "v"
 refine ⟨_, .inl hcell, ?_⟩
 refine comp_data [] [] (eP eI eI) cd (fun u_ => true) (fun p => p.1) eI nilPerm (iterV_list hR.handled hrv) (by exact Nat.le_trans (Nat.le_trans (Nat.le_of_eq hcl) hl) (Nat.le_of_ble_eq_true rfl)) ?_ ?_
 ·rintro C hC' ⟨p1, p2⟩ v zj m ov hm l2 hv hk
  obtain ⟨v0, rfl⟩ := keys1 hk
  induction hv using vzP_use with | _ T u1 u2 hT0 hu1 hu2 hv => ?_
  walk_at "v"
  intro t1
  refine item_tat (i := 0) (.inl hT0) rfl rfl (by simp) ?_
  exact fun l3 => ⟨rfl, ⟨none, rfl⟩, rfl, hu1⟩
 ·intro cvs zN l2 hvl hall
  rw [filter_tt, show cd.map (fun p => p.1) = xs by rw [← hcd, List.map_map]; exact (List.ext_getElem? fun i => by rw [List.getElem?_map, List.getElem?_zipIdx]; cases xs[i]? <;> rfl)] at hall
  refine .inr fun D hD2 => ?_
  have hcodes : Vz (fset zN D (.lst cvs)) (eL eI xs) (.ref D) := vzL_mk (a := D) (vs := cvs) fset_self (hall.vmono (Le.fset hD2))
  have l3 : Le z0 (fset zN D (.lst cvs)) := l2.trans (Le.fset hD2)
  clear hall
  generalize fset zN D (.lst cvs) = z2 at *
  walk_at "v"
  refine .inr fun B hB => ?_
  walk_at "v"
  refine ⟨_, .inl ((l3.trans (Le.fset hB)) _ _ hcell), ?_⟩
  refine len_V (hrv.up (l3.trans (Le.fset hB))) (by exact Nat.le_trans (Nat.le_trans (Nat.le_of_eq hcl) hl) (Nat.le_of_ble_eq_true rfl)) fun t2 => ?_
  rw [hcl]
  walk_at "v"
  refine mulL_W (.inl fset_self) rfl hl (.inr fun G hG0 => ?_)
  walk_at "v"
  refine .inl fun F => ?_
  walk_at "v"
  intro t3 T4 hT4
  have l4 : Le z2 (fset (fset (fset z2 B (.lst [.bool false])) G (.lst (List.replicate xs.length (.bool false)))) T4 (.tup [.ref D, .ref G, .ref F, .int 0 t3])) := (Le.fset hB).trans ((Le.fset hG0).trans (Le.fset hT4))
  have hg : (fset (fset (fset z2 B (.lst [.bool false])) G (.lst (List.replicate xs.length (.bool false)))) T4 (.tup [.ref D, .ref G, .ref F, .int 0 t3])) G = some (.lst (List.replicate xs.length (.bool false))) := Le.fset hT4 _ _ fset_self
  walk_at "v"
  generalize (fset (fset (fset z2 B (.lst [.bool false])) G (.lst (List.replicate xs.length (.bool false)))) T4 (.tup [.ref D, .ref G, .ref F, .int 0 t3])) = z3 at *
  have l03 := l3.trans l4
  replace hcodes := hcodes.up l4
  let J : Nat → M → Fz → Led → Prop := fun k' m' z' n' => ∃ a t' tk og pre ws, k' = xs.length - a ∧ a ≤ xs.length ∧ Le z3 z' ∧ All2 (fun x v => Vz z' (eG x) v) pre ws ∧ pre.length ≤ a ∧ pre ++ groups rows a (xs.drop a) = groups rows 0 xs ∧ n' = [(F, .lst ws)] ∧
   m' = ([("self", some (tab)), ("text", some (text)), ("data", some (data)), ("codes", some (.ref D)), ("gone", some (.ref G)), ("found", some (.ref F)), ("at", some (.int (a : Nat) t')), ("taken", tk), ("origins", og)] : M)
  walk_at "e"
  refine @exs_semQ _ _ _ _ _ _ _ _ _ _ _ fun QS hQS => while_ok hC J xs.length ⟨0, t3, none, none, [], [], rfl, Nat.zero_le _, Le.refl _, trivial, Nat.le_refl _, rfl, rfl, rfl⟩ fun k' m' zi ni l5 hJp => ?_
  refine oEEE hJp fun a t' tk h_ => oEEEAAAAA h_ fun og pre ws j1 j2 j3 j4 j5 h_ => oAA h_ fun j6 e1 e2 => ?_
  clear hJp
  subst e1 e2
  clear l5
  have hwl := j4.len
  walk_at "v"
  refine len_V (hcodes.up j3) (by exact Nat.le_trans hl (Nat.le_of_ble_eq_true rfl)) fun t5 => ?_
  walk_at "v"
  refine brE_dec (fun h1 => ?_) (fun h1 => ?_)
  ·have h1' : a < xs.length := by exact (Int.ofNat_lt.mp h1)
   have hdr : (xs.drop a).length = xs.length - a := List.length_drop
   have hne : xs.drop a ≠ [] := fun e => by rw [e] at hdr; simp at hdr; omega
   refine oAA (many_le rows _ hne) fun m1 m2 m3 => ?_
   walk_at "t"
   refine item_at (i := a) (.inl (j3 _ _ hg)) rfl (by rw [List.getElem?_replicate, if_pos h1']) (by simp; omega) ?_
   walk_at "v"
   walk_at "t"
   refine table_meth (hT.mono (l03.trans j3)) (by decide +kernel) (by k_is) (by k_is) ?_
   walk_at "v"
   refine callE_k (by k_is) ((s_match w (k := k) (hR.down rfl) hl h1' hG hone (hT.mono (l03.trans j3)) (hcodes.up j3) (j3 _ _ hg) (hD.mono (l03.trans j3)) hf).apart fun tv z4 l6 hJp => ?_)
   refine oEA hJp fun es hes htv => ?_
   clear hJp
   have hgr := groups_eq rows a _ hne
   rw [hes] at hgr
   generalize many rows (xs.drop a) = s at *
   walk_at "v"
   have l04 := (l03.trans j3).trans l6
   walk_at "t"
   refine comp_S hC [("rows", L + 1)] none [] ["place"] (by subst eenv; rfl) (by subst eenv; rfl) (fun u_ => rfl) (fun u_ => rfl) (by kernel_rfl) (by decide +kernel) trivial ?_
   walk_at "v"
   refine (match_attrs htv).2.1 fun pv hpv => ?_
   refine comp_data [] _ eI (fromI a s) (fun u_ => true) (fun p => p) eI nilPerm (iterV_list hR.handled hpv) (by rw [fromI_len]; omega) ?_ ?_
   ·rintro C hC' p v zj m ov hm l7 hv hk
    obtain ⟨v0, rfl⟩ := keys1 hk
    induction hv using vzI_use with | _ t6 hv => ?_
    refine oEA (fromI_mem hm) fun j hj e0_ => ?_
    subst e0_
    walk_at "v"
    refine ⟨_, .inl ((l04.trans l7) _ _ hcell), ?_⟩
    refine item_V (i := a + j) (y := (xs.getD (a + j) 0, ((a + j : Nat) : Int))) (hrv.up (l04.trans l7)) (by exact rfl) (by rw [hcg, getD_get (by exact Nat.add_lt_of_lt_sub' (Nat.lt_of_lt_of_le (Nat.lt_of_lt_of_le hj m3) (Nat.le_of_eq hdr)))]; rfl) (by exact Nat.le_trans (Nat.le_trans (Nat.le_of_eq hcl) hl) (Nat.le_of_ble_eq_true rfl)) fun u hu => ?_
    induction hu using vzP_use with | _ T7 w1 w2 hT7 hw1 hw2 hu => ?_
    walk_at "v"
    intro t7
    refine item_tat (i := 1) (.inl hT7) rfl rfl (by simp) ?_
    refine fun l8 => ⟨rfl, ⟨none, rfl⟩, rfl, ?_⟩
    rw [show (a : Int) + (j : Int) = ((a + j : Nat) : Int) by exact rfl]
    exact hw2
   ·intro ovs zN l7 hvl hall2
    rw [filter_tt, List.map_id'] at hall2
    refine .inr fun O hO => ?_
    have hlo : All2 (fun i v => Vz (fset zN O (.lst ovs)) (eI i) v) (fromI a s) ovs := hall2.vmono (Le.fset hO)
    have hOz : fset zN O (.lst ovs) O = some (.lst ovs) := fset_self
    have l8 : Le z4 (fset zN O (.lst ovs)) := l7.trans (Le.fset hO)
    clear hall2
    generalize fset zN O (.lst ovs) = z5 at *
    walk_at "v"
    walk_at "t"
    refine meth_lst (.inr (.head _)) PySem.F.slot_list_append PySem.F.type_list_append ?_
    walk_at "v"
    have htv5 : MatchIs z5 es (fromI a s) ((a + s : Nat) : Int) tv := by
     refine oEEEEEAAAA htv fun x dx u1 u2 t e q1 q2 q3 q4 => ?_
     clear htv
     exact ⟨x, dx, u1, u2, t, e, l8 _ _ q1, l8 _ _ q2, q3.up l8, q4.up l8⟩
    refine (match_attrs htv5).1 fun ev hev => ?_
    walk_at "v"
    refine callE_b (minL_W (k := k) (hR.less (by lia)) (.inl hOz) hlo (by rw [fromI_len]; omega) fun mn t8 mn1 mn2 => ?_)
    obtain rfl : mn = (a : Int) := by
     refine oEA (fromI_mem mn1) fun j hj e0_ => ?_
     subst e0_
     have := mn2 (a : Int) (List.mem_of_getElem? (fromI_get (i := 0) (by exact Nat.lt_of_lt_of_le (Nat.le_of_ble_eq_true rfl) m1) |>.trans (by simp)))
     first | exact Int.le_antisymm this (Int.le_add_of_nonneg_right (Int.natCast_nonneg _)) | lia | omega
    walk_at "v"
    refine callE_b (maxL_W (k := k) (hR.less (by lia)) (.inl hOz) hlo (by rw [fromI_len]; omega) fun mx t9 mx1 mx2 => ?_)
    obtain rfl : mx = ((a + s - 1 : Nat) : Int) := by
     refine oEA (fromI_mem mx1) fun j hj e0_ => ?_
     subst e0_
     have := mx2 (((a + s - 1 : Nat) : Int)) (List.mem_of_getElem? ((fromI_get (a := (a : Int)) (k := s) (i := s - 1) (by exact Nat.sub_lt (Nat.zero_lt_of_lt hj) (Nat.zero_lt_succ _))).trans (by congr 1; omega)))
     first | exact midEq this hj | lia | omega
    walk_at "v"
    intro t10 t11 T9 hT9
    refine callE_b (append_W .head (by exact Nat.le_of_lt (Nat.lt_of_lt_of_le (Nat.lt_of_lt_of_le (Nat.lt_of_le_of_lt (Nat.le_trans (Nat.le_of_eq hwl) j5) h1') hl) (Nat.le_of_ble_eq_true rfl))) ?_)
    walk_at "v"
    walk_at "t"
    have htv6 : MatchIs (fset z5 T9 (.tup [ev, .int (a : Nat) t8, .int (((a + s - 1 : Nat) : Int) + 1) t11])) es (fromI a s) ((a + s : Nat) : Int) tv := by
     refine oEEEEEAAAA htv5 fun x dx u1 u2 t e q1 q2 q3 q4 => ?_
     clear htv5
     exact ⟨x, dx, u1, u2, t, e, Le.fset hT9 _ _ q1, Le.fset hT9 _ _ q2, q3.up (Le.fset hT9), q4.up (Le.fset hT9)⟩
    refine (match_attrs htv6).2.2 fun t12 => ?_
    walk_at "v"
    walk_at "n"
    walk_at "n"
    refine fun l9 => ⟨xs.length - (a + s), by first | exact subAdd j1 h1' m1 | lia | omega, a + s, t12, _, _, pre ++ [(es, (a : Int), ((a + s : Nat) : Int))], _, rfl, by exact Nat.add_le_of_le_sub' j2 (Nat.le_trans m3 (Nat.le_of_eq hdr)), j3.trans l9, ?_, by rw [List.length_append]; simp; omega, ?_, rfl, rfl⟩
    ·refine (j4.vmono (l9)).snoc ?_
     refine vzT_mk (a := T9) fset_self (hev.up (Le.fset hT9)) vzI_mk (vzI.mpr ⟨t11, ?_⟩)
     rw [show ((a + s : Nat) : Int) = ((a + s - 1 : Nat) : Int) + 1 by exact congrArg (Nat.cast (R := Int)) (Nat.sub_add_cancel (Nat.le_trans m1 (Nat.le_add_left _ _))).symm]
    ·rw [← j6, hgr, List.append_assoc, List.drop_drop]
     rfl
  ·have : a = xs.length := by exact Nat.le_antisymm j2 (Nat.le_of_not_lt fun q9 => h1 (Int.ofNat_lt.mpr q9))
   subst this
   rw [List.drop_length] at j6
   walk_at "e"
   refine exs_freeze fun hF => ?_
   walk_at "t"
   refine hQF _ _ _ _ fun u_ => ⟨[], List.nil_sublist _, rfl, vzL_mk (a := F) (vs := ws) fset_self ?_⟩
   rw [← j6, groups, List.append_nil]
   exact j4.vmono (Le.fset hF)
theorem s_elements_of (w : World) {A : Around} {k : Nat} (hA : Room A (k + 10)) {z : Fz} {f : Str → Option Value} {rows : Rows} {lon : Int → Nat} {tab text data : Value} {xs : List Int} {t0 : Nat} (hl : xs.length ≤ 1000) (hlt : ∀ i ∈ xs, i < 1000) (hG : Good rows lon) (hS : Short rows) (hone : ∀ c ∈ xs, (look rows [c]).isSome = true)
  (hT : TableIs z rows lon tab) (hx : Vz z (eL eI xs) text) (hD : DataIs z f data) (hf : f "ccc" = some (.int 0 t0)) (hf2 : f "dm" = some .none) :
  Wp w A (call (.ref 626) [tab, text, data] []) z [] fun v z' n' => n' = [] ∧ Vz z' (eL eE (elems rows xs)) v := by
 obtain ⟨hg1, hg2⟩ := groups_short hS 0 xs
 refine WCall.W ?_
 refine fn_CQ (binds := [("self", tab), ("text", text), ("data", data)]) (own := none) (names := ["self", "text", "data"]) (locs := ["self", "text", "data", "found", "elements", "begun", "ended"]) (g := []) hA (by k_is) (by k_is) (fun _ X => by first | exact BindsTo.of_eq rfl | exact binds_K X rfl (by k_is) rfl rfl rfl) rfl (fun _ => rfl) (by decide +kernel) trivial fun L env eenv hC hR QF hQF => ?_
 walk_at "t"
 refine .inl fun F => ?_
 walk_at "v"
 let J : List Gr → M → Fz → Led → Prop := fun pre m' z' n' => ∀ GG9 : M → Led → Prop, (∀ a b c ws, (All2 (fun x v => Vz z' (eE x) v) (pre.flatMap (·.1)) ws) → GG9 (([("self", some (tab)), ("text", some (text)), ("data", some (data)), ("found", some (.ref F)), ("elements", a), ("begun", b), ("ended", c)] : M)) ([(F, .lst ws)])) → GG9 m' n'
 walk_at "e"
 refine @exs_semQ _ _ _ _ _ _ _ _ _ _ _ fun QS hQS => for_dataQ hC J ?_
 walk_at "v"
 refine table_meth hT (by decide +kernel) (by k_is) (by k_is) ?_
 walk_at "v"
 refine callE_k (by k_is) ((s_located w (k := k) hR hl hlt hG hone hT hx hD hf hf2).apart fun gv z1 l1 hgv => ?_)
 refine LoopL_mk hC eG (groups rows 0 xs) hgv (fun u_ k9 => k9 none none none [] trivial) ?_ ?_
 ·rintro pre ⟨es, p, q⟩ post v m' zi zi' ni hxs l2 l3 hv hJ QB hQB
  apply hJ
  intro a b c ws j1
  induction hv using vzT_use with | _ T u1 u2 u3 hT1 hu1 hu2 hu3 hv => ?_
  induction hu1 using vzL_use with | _ ea evs hez hes hu1 => ?_
  have hwl := j1.len
  have hel : evs.length = es.length := hes.len
  have hpl : (pre.flatMap (·.1)).length + es.length ≤ 2 * xs.length := by
   have h1 := flat_len hg2
   rw [hxs, List.flatMap_append, List.length_append, List.flatMap_cons, List.length_append] at h1
   rw [← hxs] at h1
   have e5 : (es, p, q).1.length = es.length := rfl
   first | exact Nat.le_trans (Nat.add_le_add_left (Nat.le_add_right _ _) _) (Nat.le_trans h1 (Nat.mul_le_mul_left 2 hg1)) | lia | omega
  walk_at "v"
  refine unp_mk (.inl hT1) rfl ?_
  walk_at "v"
  walk_at "t"
  refine meth_lst (.inr (.head _)) PySem.F.slot_list_extend PySem.F.type_list_extend ?_
  walk_at "v"
  refine callE_b (extend_W .head (.inl hez) (by first | exact Nat.le_trans (Nat.add_le_add (Nat.le_of_eq hwl) (Nat.le_of_eq hel)) (Nat.le_trans hpl (Nat.le_trans (Nat.mul_le_mul_left 2 hl) (Nat.le_of_ble_eq_true rfl))) | lia | omega) ?_)
  walk_at "v"
  walk_at "n"
  refine hQB _ _ _ _ fun l4 => fun u_ k9 => k9 _ _ _ _ ?_
  rw [List.flatMap_append, List.flatMap_cons, List.flatMap_nil, List.append_nil]
  exact (j1.vmono (l3)).append (hes.vmono l4)
 ·rintro m' zi ni l2 hJ
  apply hJ
  intro a b c ws j1
  walk_at "v"
  refine exs_freeze fun hF => ?_
  walk_at "t"
  exact hQF _ _ _ _ fun u_ => ⟨[], List.nil_sublist _, rfl, vzL_mk (a := F) fset_self (j1.vmono (Le.fset hF))⟩
theorem s_weighted (w : World) {A : Around} {k : Nat} (hA : Room A (k + 1)) {z : Fz} {ev : Value} {es : List El} {t : Nat} (hl : es.length ≤ 10000) (he : Vz z (eL eE es) ev) :
  Wp w A (call (.ref 138) [ev, .str "non-ignorable" t] []) z [] fun v z' n' => n' = [] ∧ Vz z' (eL eW (es.map wt)) v := by
 refine WCall.W ?_
 refine fn_CQ (binds := [("elements", ev), ("how", .str "non-ignorable" t), ("spread", .int 1 _)]) (own := none) (names := ["elements", "how", "spread"]) (locs := ["elements", "how", "spread", "top", "found", "first", "second", "third", "is_variable"]) (g := [("COLLKEY_TOP", Value.int 65535 348)]) hA (by k_is) (by k_is) (fun _ X => by first | exact BindsTo.of_eq rfl | exact binds_K X rfl (by k_is) rfl rfl rfl) rfl (fun _ => rfl) (by decide +kernel) ⟨⟨rfl, gl_COLLKEY_TOP w⟩, trivial⟩ fun L env eenv hC hR QF hQF => ?_
 walk_at "t"
 refine ⟨by decide, fun t1 => ?_⟩
 walk_at "t"
 intro t2
 refine eqStr_W (hR.less (Nat.zero_le _)) (by decide +kernel) (by decide +kernel) ?_
 walk_at "v"
 walk_at "n"
 walk_at "t"
 intro t3
 refine neStr_W (hR.less (Nat.zero_le _)) (by decide +kernel) (by decide +kernel) ?_
 walk_at "v"
 walk_at "n"
 walk_at "t"
 refine .inl fun F => ?_
 walk_at "v"
 let J : List El → M → Fz → Led → Prop := fun pre m' z' n' => ∀ GG9 : M → Led → Prop, (∀ sp a b c d ws, (All2 (fun x v => Vz z' (eW x) v) (pre.map wt) ws) → GG9 (([("elements", some (ev)), ("how", some (.str "non-ignorable" t)), ("spread", sp), ("top", some (.int (65535 * 1) t1)), ("found", some (.ref F)), ("first", a), ("second", b), ("third", c), ("is_variable", d)] : M)) ([(F, .lst ws)])) → GG9 m' n'
 walk_at "e"
 refine @exs_semQ _ _ _ _ _ _ _ _ _ _ _ fun QS hQS => for_dataQ hC J ?_
 walk_at "v"
 refine LoopL_mk hC eE es he (fun u_ k9 => k9 _ none none none none [] trivial) ?_ ?_
 ·rintro pre x post v m' zi zi' ni hxs l2 l3 hv hJ QB hQB
  apply hJ
  intro sp a b c d ws j1
  induction hv using vzE_use with | _ T t4 t5 t6 hT1 hv => ?_
  have hwl := j1.len
  rw [List.length_map] at hwl
  have hpl : pre.length < es.length := by rw [hxs]; simp
  walk_at "v"
  refine unp_mk (.inl hT1) rfl ?_
  walk_at "v"
  walk_at "t"
  refine meth_lst (.inr (.head _)) PySem.F.slot_list_append PySem.F.type_list_append ?_
  walk_at "v"
  intro t7 t8 t9
  have fin : ∀ (i : Int) (u : Nat), i = (wt x).2.2.2 → ∀ (T2 : Addr), zi' T2 = none → callE PySem.Challenge.pw_nt0082_01 w (k0.heap_1 w.params) (A.deeper env) (.builtin "list.append") [.ref F, .ref T2] (fset zi' T2 (.tup [.int x.1 t4, .int x.2.1 t5, .int x.2.2 t6, .int i u])) [(F, .lst ws)] fun v z3 n3 => v = .none ∧ Le zi' z3 ∧ ∃ ws', n3 = [(F, .lst ws')] ∧ All2 (fun x v => Vz z3 (eW x) v) ((pre ++ [x]).map wt) ws' := by
   intro i u hi T2 hT2
   refine callE_b (append_W .head (by exact Nat.le_of_lt (Nat.lt_of_lt_of_le (Nat.lt_of_lt_of_le (Nat.lt_of_le_of_lt (Nat.le_of_eq hwl) hpl) hl) (Nat.le_of_ble_eq_true rfl))) ⟨rfl, Le.fset hT2, _, rfl, ?_⟩)
   rw [List.map_append]
   refine (j1.vmono (l3.trans (Le.fset hT2))).snoc (vzW.mpr ⟨T2, t4, t5, t6, u, rfl, ?_⟩)
   rw [← hi]
   exact fset_self
  refine brE_dec (fun h1 => ?_) (fun h1 => ?_)
  ·intro T2 hT2
   refine (fin _ _ (by show _ = if _ then _ else _; rw [if_pos h1]; rfl) T2 hT2).imp id fun h => W.mono h fun v z3 n3 u_ hJp => ?_
   refine oAA hJp fun e1 l4 h_ => oEA h_ fun ws' e2 h2 => ?_
   clear hJp
   subst e1 e2
   walk_at "v"
   walk_at "n"
   exact hQB _ _ _ _ fun l5 => fun u_ k9 => k9 _ _ _ _ _ _ h2
  ·intro t10 T2 hT2
   refine (fin _ _ (by show _ = if _ then _ else _; rw [if_neg h1]) T2 hT2).imp id fun h => W.mono h fun v z3 n3 u_ hJp => ?_
   refine oAA hJp fun e1 l4 h_ => oEA h_ fun ws' e2 h2 => ?_
   clear hJp
   subst e1 e2
   walk_at "v"
   walk_at "n"
   exact hQB _ _ _ _ fun l5 => fun u_ k9 => k9 _ _ _ _ _ _ h2
 ·rintro m' zi ni l2 hJ
  apply hJ
  intro sp a b c d ws j1
  walk_at "v"
  refine exs_freeze fun hF => ?_
  walk_at "t"
  exact hQF _ _ _ _ fun u_ => ⟨[], List.nil_sublist _, rfl, vzL_mk (a := F) fset_self (j1.vmono (Le.fset hF))⟩
theorem s_search_levels (w : World) {A : Around} {k : Nat} (hA : Room A (k + 1)) {z : Fz} {wv : Value} {es : List El} {s t : Nat} (hl : es.length ≤ 10000) (hs : s ≤ 3) (he : Vz z (eL eW (es.map wt)) wv) :
  Wp w A (call (.ref 169) [wv, .int (s : Nat) t] []) z [] fun v z' n' => n' = [] ∧ Vz z' (eL (eL eI) (told s es)) v := by
 refine WCall.W ?_
 refine fn_CQ (binds := [("weights", wv), ("strength", .int (s : Nat) t)]) (own := (some "number")) (names := ["weights", "strength"]) (locs := ["weights", "strength", "levels"]) (g := [("range", .type "range"), ("min", .builtin "min"), ("SEARCH_LEVELS", Value.int 4 396)]) hA (by k_is) (by k_is) (fun _ X => by first | exact BindsTo.of_eq rfl | exact binds_K X rfl (by k_is) rfl rfl rfl) rfl (fun _ => rfl) (by decide +kernel) ⟨⟨rfl, gl_range w⟩, ⟨⟨rfl, gl_min w⟩, ⟨⟨rfl, gl_SEARCH_LEVELS w⟩, trivial⟩⟩⟩ fun L env eenv hC hR QF hQF => ?_
 walk_at "t"
 refine .inl fun F => ?_
 walk_at "v"
 let lev : Int → List Int := fun i => (es.map (lv i.toNat)).filter fun v => !decide (v = 0)
 let J : List Int → M → Fz → Led → Prop := fun pre m' z' n' => ∀ GG9 : M → Led → Prop, (∀ ov ws, (All2 (fun x v => Vz z' (eL eI x) v) (pre.map lev) ws) → GG9 (([("weights", some (wv)), ("strength", some (.int (s : Nat) t)), ("levels", some (.ref F))] : M)) ([(F, .lst ws), (L + 1, .cell ov)])) → GG9 m' n'
 walk_at "e"
 refine @exs_semQ _ _ _ _ _ _ _ _ _ _ _ fun QS hQS => for_dataQ hC J ?_
 walk_at "v"
 refine callE_b (min2_W hR fun t1 => ?_)
 walk_at "v"
 refine callE_t (range1_W fun r t2 t3 hr => ?_)
 have e0 : (min (s : Int) 4 - 0).toNat = s := by (first | lia | omega)
 refine LoopD.mk [] [(F, .lst []), (L + 1, .cell none)] eI (fromI 0 s) nilPerm ?_ (fun u_ k9 => k9 none [] trivial) ?_ ?_
 ·exact iterV_rng (a := 0) (b := min (s : Int) 4) hR.handled fset_self (by exact Int.natCast_nonneg _) (by exact Int.natCast_nonneg _) (by (first | lia | omega)) (by (first | lia | omega)) e0
 ·rintro pre i post v m' zi zi' ni hxs l2 l3 hv hJ QB hQB
  apply hJ
  intro ov ws j1
  induction hv using vzI_use with | _ t4 hv => ?_
  have hwl := j1.len
  rw [List.length_map] at hwl
  have hpl : pre.length < s := by
   have := congrArg List.length hxs
   rw [fromI_len] at this
   simp at this; omega
  refine oEA (fromI_mem (show i ∈ fromI 0 s from hxs ▸ by simp)) fun j hj e0_ => ?_
  subst e0_
  have hjn : ((0 : Int) + (j : Int)).toNat = j := by exact Nat.zero_add _
  walk_at "v"
  refine ⟨by kernel_rfl, ov, _, .tail .head, ?_⟩
  walk_at "v"
  walk_at "t"
  refine meth_lst (.inr (.head _)) PySem.F.slot_list_append PySem.F.type_list_append ?_
  walk_at "v"
  refine comp_V hC [("number", L + 1)] none [] ["weight"] (by subst eenv; rfl) (fun u_ => rfl) (fun u_ => rfl) (by kernel_rfl) (by decide +kernel) trivial ?_
  walk_at "v"
  have he' := he.up ((Le.fset hr).trans (l2.trans l3))
  refine comp_data [] _ (fun x => eW (wt x)) es (fun x => !decide (lv j x = 0)) (lv j) eI nilPerm (iterV_list hR.handled (eL_map.mp he')) (by exact Nat.le_trans hl (Nat.le_of_ble_eq_true rfl)) ?_ ?_
  ·rintro C hC' x v zj m ov2 hm l7 hv hk
   obtain ⟨v0, rfl⟩ := keys1 hk
   refine oEEEAAAA (vzW_at hv (i := j) (by exact Nat.lt_of_lt_of_le (Nat.lt_of_lt_of_le hj hs) (Nat.le_of_ble_eq_true rfl))) fun T us u e0_ hT hul hui hu => ?_
   subst e0_
   induction hu using vzI_use with | _ t5 hu => ?_
   walk_at "v"
   refine ⟨_, .inr (.tail _ (.head _)), ?_⟩
   refine item_tat (i := j) (.inl hT) (by exact Int.zero_add _) hui (by exact Nat.le_trans (Nat.le_of_eq hul) (Nat.le_of_ble_eq_true rfl)) ?_
   walk_at "v"
   intro t6
   refine brE_any (fun hb => ?_) (fun hb => ?_)
   ·refine ⟨_, .inr (.tail _ (.head _)), ?_⟩
    refine item_tat (i := j) (.inl hT) (by exact Int.zero_add _) hui (by exact Nat.le_trans (Nat.le_of_eq hul) (Nat.le_of_ble_eq_true rfl)) ?_
    exact fun l8 => ⟨rfl, ⟨none, rfl⟩, hb, vzI_mk⟩
   ·exact fun l8 => ⟨rfl, ⟨none, rfl⟩, hb⟩
  ·intro vs zN l7 hvl hall
   refine .inr fun D hD => ?_
   walk_at "v"
   refine callE_b (append_W .head (by exact Nat.le_of_lt (Nat.lt_of_lt_of_le (Nat.lt_of_lt_of_le (Nat.lt_of_le_of_lt (Nat.le_of_eq hwl) hpl) hs) (Nat.le_of_ble_eq_true rfl))) ?_)
   walk_at "v"
   walk_at "n"
   refine hQB _ _ _ _ fun l8 => fun u_ k9 => k9 _ _ ?_
   rw [List.map_append]
   refine (j1.vmono (l3.trans (l7.trans (Le.fset hD)))).snoc (vzL_mk (a := D) (vs := vs) fset_self ?_)
   show All2 _ ((es.map (lv ((0 : Int) + (j : Int)).toNat)).filter _) vs
   rw [hjn, List.filter_map]
   exact hall.vmono (Le.fset hD)
 ·rintro m' zi ni l2 hJ
  apply hJ
  intro ov ws j1
  walk_at "v"
  refine exs_freeze fun hF => ?_
  walk_at "t"
  refine hQF _ _ _ _ fun u_ => ⟨[], List.nil_sublist _, rfl, vzL_mk (a := F) fset_self ?_⟩
  have e5 : (fromI 0 s).map lev = told s es := by
   unfold fromI told
   rw [List.map_map]
   refine List.map_congr_left fun i u_ => ?_
   show (es.map (lv ((0 : Int) + (i : Int)).toNat)).filter _ = _
   rw [show ((0 : Int) + (i : Int)).toNat = i by exact Nat.zero_add _]
  rw [← e5]
  exact j1.vmono (Le.fset hF)
theorem s_search_wanted (w : World) {A : Around} {k : Nat} (hA : Room A (k + 11)) {z : Fz} {f : Str → Option Value} {rows : Rows} {lon : Int → Nat} {tab pat data : Value} {xs : List Int} {t0 s t u : Nat} (hl : xs.length ≤ 1000) (hs : s ≤ 3) (hlt : ∀ i ∈ xs, i < 1000) (hG : Good rows lon) (hS : Short rows) (hone : ∀ c ∈ xs, (look rows [c]).isSome = true)
  (hT : TableIs z rows lon tab) (hx : Vz z (eL eI xs) pat) (hD : DataIs z f data) (hf : f "ccc" = some (.int 0 t0)) (hf2 : f "dm" = some .none) :
  Wp w A (call (.ref 188) [pat, tab, data, .int (s : Nat) t, .str "non-ignorable" u] []) z [] fun v z' n' => n' = [] ∧ Vz z' (eL (eL eI) (told s (elems rows xs))) v := by
 have hel := elems_len hS xs
 refine WCall.W ?_
 refine fn_CQ (binds := [("pattern", pat), ("table", tab), ("data", data), ("strength", .int (s : Nat) t), ("how", .str "non-ignorable" u)]) (own := none) (names := ["pattern", "table", "data", "strength", "how"]) (locs := ["pattern", "table", "data", "strength", "how"]) (g := [("search_levels", Value.ref 169), ("weighted", Value.ref 138)]) hA (by k_is) (by k_is) (fun _ X => by first | exact BindsTo.of_eq rfl | exact binds_K X rfl (by k_is) rfl rfl rfl) rfl (fun _ => rfl) (by decide +kernel) ⟨⟨rfl, gl_search_levels w⟩, ⟨⟨rfl, gl_weighted w⟩, trivial⟩⟩ fun L env eenv hC hR QF hQF => ?_
 walk_at "t"
 refine table_meth hT (by decide +kernel) (by k_is) (by k_is) ?_
 walk_at "v"
 refine callE_k (by k_is) ((s_elements_of w (k := k) hR hl hlt hG hS hone hT hx hD hf hf2).apart fun ev z1 l1 hev => ?_)
 walk_at "v"
 refine callE_k (by k_is) ((s_weighted w (k := k) (hR.down rfl) (by first | exact Nat.le_trans hel (Nat.le_trans (Nat.mul_le_mul_left 2 hl) (Nat.le_of_ble_eq_true rfl)) | lia | omega) hev).apart fun wv z2 l2 hwv => ?_)
 walk_at "v"
 refine callE_k (by k_is) ((s_search_levels w (k := k) (hR.down rfl) (by first | exact Nat.le_trans hel (Nat.le_trans (Nat.mul_le_mul_left 2 hl) (Nat.le_of_ble_eq_true rfl)) | lia | omega) hs hwv).apart fun v z3 l3 hv => ?_)
 walk_at "e"
 exact hQF _ _ _ _ fun u_ => ⟨[], List.nil_sublist _, rfl, hv⟩
theorem s_search_begins (w : World) {A : Around} {k : Nat} (hA : Room A (k + 1)) {z : Fz} {pv wv : Value} {p q : List Int} (hl : p.length ≤ 100000) (hl2 : q.length ≤ 100000) (hp : Vz z (eL eI p) pv) (hq : Vz z (eL eI q) wv) :
  Wp w A (call (.ref 202) [pv, wv] []) z [] fun v z' n' => n' = [] ∧ v = .bool (decide (q.take p.length = p)) := by
 refine WCall.W ?_
 refine fn_CQ (binds := [("part", pv), ("whole", wv)]) (own := none) (names := ["part", "whole"]) (locs := ["part", "whole"]) (g := [("len", .builtin "len")]) hA (by k_is) (by k_is) (fun _ X => by first | exact BindsTo.of_eq rfl | exact binds_K X rfl (by k_is) rfl rfl rfl) rfl (fun _ => rfl) (by decide +kernel) ⟨⟨rfl, gl_len w⟩, trivial⟩ fun L env eenv hC hR QF hQF => ?_
 walk_at "t"
 refine len_V hp (by exact Nat.le_trans hl (Nat.le_of_ble_eq_true rfl)) fun t1 => ?_
 walk_at "v"
 refine slice_upto (b := p.length) hq rfl (by exact Nat.le_trans hl2 (Nat.le_of_ble_eq_true rfl)) fun z1 u l1 hu => ?_
 induction hp using vzL_use with | _ pa pvs hpz hpa hp => ?_
 walk_at "v"
 refine eq_W (hR.less (Nat.zero_le _)) Enc.int.list (by decide) (.inl hu) (.inl (hp.up l1)) ?_
 walk_at "e"
 exact hQF _ _ _ _ fun u_ => ⟨[], List.nil_sublist _, rfl, rfl⟩
theorem s_search_apart (w : World) {A : Around} {k : Nat} (hA : Room A (k + 1)) {z : Fz} {fv : Value} {fs : List (Int × Int)} (hl : fs.length ≤ 10000) (hfv : Vz z (eL (eP eI eI) fs) fv) :
  Wp w A (call (.ref 247) [fv] []) z [] fun v z' n' => n' = [] ∧ Vz z' (eL (eP eI eI) (apartF 0 fs)) v := by
 refine WCall.W ?_
 refine fn_CQ (binds := [("found", fv)]) (own := none) (names := ["found"]) (locs := ["found", "apart", "reached", "first", "behind"]) (g := []) hA (by k_is) (by k_is) (fun _ X => by first | exact BindsTo.of_eq rfl | exact binds_K X rfl (by k_is) rfl rfl rfl) rfl (fun _ => rfl) (by decide +kernel) trivial fun L env eenv hC hR QF hQF => ?_
 walk_at "t"
 refine ⟨true, by subst eenv; rfl, ?_⟩
 walk_at "v"
 refine .inl fun F => ?_
 walk_at "v"
 intro t1 T1 hT1
 walk_at "v"
 let J : List (Int × Int) → M → Fz → Led → Prop := fun pre m' z' n' => ∀ GG9 : M → Led → Prop, (∀ a b acc r t ws, (acc.length ≤ pre.length) → ((∀ post, apartF 0 (pre ++ post) = acc ++ apartF r post)) → (All2 (fun x v => Vz z' (eP eI eI x) v) acc ws) → GG9 (([("found", some (fv)), ("apart", some (.ref F)), ("reached", some (.int r t)), ("first", a), ("behind", b)] : M)) ([(F, .lst ws)])) → GG9 m' n'
 walk_at "e"
 refine @exs_semQ _ _ _ _ _ _ _ _ _ _ _ fun QS hQS => for_dataQ hC J ?_
 walk_at "v"
 refine LoopL_mk hC (eP eI eI) fs (hfv.up (Le.fset hT1)) (fun u_ k9 => k9 none none [] 0 t1 [] (Nat.le_refl _) (fun u_ => rfl) trivial) ?_ ?_
 ·rintro pre ⟨p, q⟩ post v m' zi zi' ni hxs l2 l3 hv hJ QB hQB
  apply hJ
  intro a b acc r t ws j1 j2 j3
  induction hv using vzP_use with | _ T u1 u2 hT hu1 hu2 hv => ?_
  induction hu1 using vzI_use with | _ t2 hu1 => ?_
  induction hu2 using vzI_use with | _ t3 hu2 => ?_
  have hwl := j3.len
  have hpl : pre.length < fs.length := by rw [hxs]; simp
  walk_at "v"
  refine unp_mk (.inl hT) rfl ?_
  walk_at "v"
  walk_at "t"
  refine brE_dec (fun h1 => ?_) (fun h1 => ?_)
  ·walk_at "t"
   refine meth_lst (.inr (.head _)) PySem.F.slot_list_append PySem.F.type_list_append ?_
   walk_at "v"
   intro T2 hT2
   refine callE_b (append_W .head (by exact Nat.le_of_lt (Nat.lt_of_lt_of_le (Nat.lt_of_lt_of_le (Nat.lt_of_le_of_lt (Nat.le_trans (Nat.le_of_eq hwl) j1) hpl) hl) (Nat.le_of_ble_eq_true rfl))) ?_)
   walk_at "v"
   walk_at "t"
   walk_at "n"
   walk_at "n"
   refine hQB _ _ _ _ fun l4 => fun u_ k9 => k9 _ _ (acc ++ [(p, q)]) q t3 _ (by rw [List.length_append, List.length_append]; simp; omega) (fun post => ?_) ?_
   ·rw [List.append_assoc, j2]
    show acc ++ (if r ≤ p then (p, q) :: apartF q post else _) = _
    rw [if_pos h1]; simp
   ·exact (j3.vmono (l3.trans (Le.fset hT2))).snoc (vzP_mk (a := T2) fset_self vzI_mk vzI_mk)
  ·walk_at "n"
   walk_at "n"
   refine hQB _ _ _ _ fun l4 => fun u_ k9 => k9 _ _ acc r t _ (by rw [List.length_append]; omega) (fun post => ?_) (j3.vmono (l3))
   rw [List.append_assoc, j2]
   show acc ++ (if r ≤ p then _ else apartF r post) = _
   rw [if_neg h1]
 ·rintro m' zi ni l2 hJ
  apply hJ
  intro a b acc r t ws j1 j2 j3
  have e5 := j2 []
  rw [List.append_nil, apartF.eq_1, List.append_nil] at e5
  walk_at "v"
  refine exs_freeze fun hF => ?_
  walk_at "t"
  exact hQF _ _ _ _ fun u_ => ⟨[], List.nil_sublist _, rfl, vzL_mk (a := F) fset_self (e5 ▸ j3.vmono (Le.fset hF))⟩
theorem s_search_cuts (w : World) {A : Around} {k : Nat} (hA : Room A (k + 1)) {z : Fz} {gv : Value} {gs : List Gr} (hl : gs.length ≤ 10000) (hch : Ch 0 gs) (hgv : Vz z (eL eG gs) gv) :
  Wp w A (call (.ref 176) [gv] []) z [] fun v z' n' => n' = [] ∧ Vz z' (eL eI (fromI 0 gs.length)) v := by
 refine WCall.W ?_
 refine fn_CQ (binds := [("groups", gv)]) (own := none) (names := ["groups"]) (locs := ["groups", "least", "behind", "elements", "first", "end", "cuts", "reached", "number"]) (g := [("min", .builtin "min"), ("enumerate", .type "enumerate"), ("max", .builtin "max")]) hA (by k_is) (by k_is) (fun _ X => by first | exact BindsTo.of_eq rfl | exact binds_K X rfl (by k_is) rfl rfl rfl) rfl (fun _ => rfl) (by decide +kernel) ⟨⟨rfl, gl_min w⟩, ⟨⟨rfl, gl_enumerate w⟩, ⟨⟨rfl, gl_max w⟩, trivial⟩⟩⟩ fun L env eenv hC hR QF hQF => ?_
 walk_at "t"
 refine ⟨true, by subst eenv; rfl, ?_⟩
 walk_at "v"
 refine .inl fun F => ?_
 walk_at "v"
 intro T1 hT1
 walk_at "v"
 let bv : Option Gr → Option Value → Prop := fun g v => match g with
  | none => v = some .none
  | some g => ∃ t, v = some (.int g.2.1 t)
 let J : List Gr → M → Fz → Led → Prop := fun pre m' z' n' => ∀ GG9 : M → Led → Prop, (∀ a b c be ws, (bv pre.getLast? be) → (All2 (fun x v => Vz z' (eI x) v) (pre.map (·.2.1)) ws) → GG9 (([("groups", some (gv)), ("least", some (.ref F)), ("behind", be), ("elements", a), ("first", b), ("end", c), ("cuts", none), ("reached", none), ("number", none)] : M)) ([(F, .lst ws)])) → GG9 m' n'
 walk_at "e"
 refine @exs_semQ _ _ _ _ _ _ _ _ _ _ _ fun QS hQS => for_dataQ hC J ?_
 walk_at "v"
 intro t1 t2
 refine slice_rev (hgv.up (Le.fset hT1)) rfl (by exact Nat.le_trans hl (Nat.le_of_ble_eq_true rfl)) fun z1 rv l1 hrv => ?_
 refine LoopL_mk hC eG gs.reverse hrv (fun u_ k9 => k9 none none none (some .none) [] rfl trivial) ?_ ?_
 ·rintro pre ⟨es, p, q⟩ post v m' zi zi' ni hxs l2 l3 hv hJ QB hQB
  apply hJ
  intro a b c be ws j1 j2
  induction hv using vzT_use with | _ T u1 u2 u3 hT hu1 hu2 hu3 hv => ?_
  induction hu2 using vzI_use with | _ t3 hu2 => ?_
  have hwl := j2.len
  rw [List.length_map] at hwl
  have hpl : pre.length < gs.length := by have := congrArg List.length hxs; simp at this; omega
  have hgs : gs = post.reverse ++ (es, p, q) :: pre.reverse := by rw [← List.reverse_reverse gs, hxs]; simp
  refine oAAA (Ch.mid (hgs ▸ hch)) fun c1 c2 u_ u_ => ?_
  walk_at "v"
  refine unp_mk (.inl hT) rfl ?_
  walk_at "v"
  walk_at "t"
  cases hgl : pre.getLast? with
  | none =>
   rw [hgl] at j1
   obtain rfl : be = some .none := j1
   walk_at "v"
   walk_at "t"
   refine meth_lst (.inr (.head _)) PySem.F.slot_list_append PySem.F.type_list_append ?_
   walk_at "v"
   refine callE_b (append_W .head (by exact Nat.le_of_lt (Nat.lt_of_lt_of_le (Nat.lt_of_lt_of_le (Nat.lt_of_le_of_lt (Nat.le_of_eq hwl) hpl) hl) (Nat.le_of_ble_eq_true rfl))) ?_)
   walk_at "v"
   walk_at "n"
   refine hQB _ _ _ _ fun l4 => fun u_ k9 => k9 _ _ _ _ _ (by rw [List.getLast?_concat]; exact ⟨_, rfl⟩) ?_
   rw [List.map_append]
   exact (j2.vmono (l3)).snoc (vzI_mk)
  | some y =>
   rw [hgl] at j1
   obtain ⟨t4, rfl⟩ := j1
   have hy : p ≤ y.2.1 := by
    obtain ⟨ys, rfl⟩ := List.getLast?_eq_some_iff.mp hgl
    rw [List.reverse_append] at c2
    have e7 : y.2.1 = q := c2.1
    have e8 : p ≤ q := c1
    (first | lia | omega)
   walk_at "v"
   refine callE_b (min2_W hR fun t5 => ?_)
   rw [show min y.2.1 p = p by first | exact Int.min_eq_right hy | lia | omega]
   walk_at "v"
   walk_at "t"
   refine meth_lst (.inr (.head _)) PySem.F.slot_list_append PySem.F.type_list_append ?_
   walk_at "v"
   refine callE_b (append_W .head (by exact Nat.le_of_lt (Nat.lt_of_lt_of_le (Nat.lt_of_lt_of_le (Nat.lt_of_le_of_lt (Nat.le_of_eq hwl) hpl) hl) (Nat.le_of_ble_eq_true rfl))) ?_)
   walk_at "v"
   walk_at "n"
   refine hQB _ _ _ _ fun l4 => fun u_ k9 => k9 _ _ _ _ _ (by rw [List.getLast?_concat]; exact ⟨_, rfl⟩) ?_
   rw [List.map_append]
   exact (j2.vmono (l3)).snoc (vzI_mk)
 ·rintro m' zi ni l2 hJ
  apply hJ
  intro a b c be ws j1 j2
  clear j1
  have hwl := j2.len
  rw [List.length_map, List.length_reverse] at hwl
  have e5 : (gs.reverse.map (·.2.1)) = (gs.map (·.2.1)).reverse := by rw [List.map_reverse]
  walk_at "v"
  refine exs_freeze fun hF => ?_
  have hFv : Vz (fset zi F (.lst ws)) (eL eI (gs.map (·.2.1)).reverse) (.ref F) := vzL_mk (a := F) (vs := ws) fset_self (e5 ▸ j2.vmono (Le.fset hF))
  replace hgv : Vz (fset zi F (.lst ws)) (eL eG gs) gv := hgv.up ((Le.fset hT1).trans (l1.trans (l2.trans (Le.fset hF))))
  generalize fset zi F (.lst ws) = z2 at *
  walk_at "t"
  intro t5 t6
  refine slice_rev hFv rfl (by simp; omega) fun z3 lv l4 hlv => ?_
  rw [List.reverse_reverse] at hlv
  replace hgv := hgv.up l4
  walk_at "v"
  walk_at "t"
  refine ⟨true, by subst eenv; rfl, ?_⟩
  walk_at "v"
  refine .inl fun C => ?_
  walk_at "v"
  intro t7 T2 hT2
  walk_at "v"
  replace hlv := hlv.up (Le.fset (lo := .tup [.ref C, .int 0 t7]) hT2)
  replace hgv := hgv.up (Le.fset (lo := .tup [.ref C, .int 0 t7]) hT2)
  generalize fset z3 T2 (.tup [.ref C, .int 0 t7]) = z4 at *
  let J2 : List (Int × Gr) → M → Fz → Led → Prop := fun pre m' z' n' => ∀ GG9 : M → Led → Prop, (∀ a b c d r t ws, (r = (pre.getLast?.elim 0 fun y => y.2.2.2)) → (All2 (fun x v => Vz z' (eI x) v) (fromI 0 pre.length) ws) → GG9 (([("groups", some (gv)), ("least", some (lv)), ("behind", be), ("elements", a), ("first", b), ("end", c), ("cuts", some (.ref C)), ("reached", some (.int r t)), ("number", d)] : M)) ([(C, .lst ws)])) → GG9 m' n'
  walk_at "e"
  refine @exs_semQ _ _ _ _ _ _ _ _ _ _ _ fun QS hQS => for_dataQ hC J2 ?_
  walk_at "v"
  refine callE_t (enum_V hgv fun l vs en it ex hz hall => ?_)
  refine LoopD.mk _ [(C, .lst [])] (eP eI eG) (enumI gs) List.perm_append_comm (iterV_enum hR.handled hz hall trivial) (fun u_ k9 => k9 a b c none 0 t7 [] rfl trivial) ?_ ?_
  ·rintro pre ⟨i, es, p, q⟩ post v m' zi zi' ni hxs m1 m2 hv hJ QB hQB
   apply hJ
   intro a b c d r t ws2 j1 j3
   induction hv using vzP_use with | _ T w1 w2 hT3 hw1 hw2 hv => ?_
   induction hw1 using vzI_use with | _ t8 hw1 => ?_
   induction hw2 using vzT_use with | _ T4 u1 u2 u3 hT4 hu1 hu2 hu3 hw2 => ?_
   induction hu2 using vzI_use with | _ t9 hu2 => ?_
   induction hu3 using vzI_use with | _ t10 hu3 => ?_
   have hwl2 := j3.len
   rw [fromI_len] at hwl2
   refine oAA (enumI_cut hxs) fun hpi hgi hgs => ?_
   subst hpi
   have hpl : pre.length < gs.length := lt_of_get hgi
   refine oAAA (Ch.mid (hgs ▸ hch)) fun c1 c2 c3 c4 => ?_
   have hr : r = p := by
    rw [j1]
    cases hgl : pre.getLast? with
    | none =>
     rw [List.getLast?_eq_none_iff] at hgl
     subst hgl
     exact (c3 rfl).symm
    | some y => exact (c4 y.2 (by rw [List.getLast?_map, hgl]; rfl)).symm
   subst hr
   have c1 : r ≤ q := c1
   walk_at "v"
   refine unp_mk (.inl hT3) rfl ?_
   walk_at "v"
   refine unp_mk (.inl hT4) rfl ?_
   walk_at "v"
   walk_at "t"
   refine item_V (i := pre.length) (y := r) (hlv.up (m1.trans m2)) rfl (by rw [List.getElem?_map, hgi]; rfl) (by simp; omega) fun u hu => ?_
   induction hu using vzI_use with | _ t11 hu => ?_
   walk_at "v"
   refine brE_pt (Int.le_refl _) ?_
   walk_at "t"
   refine meth_lst (.inr (.head _)) PySem.F.slot_list_append PySem.F.type_list_append ?_
   walk_at "v"
   refine callE_b (append_W .head (by exact Nat.le_of_lt (Nat.lt_of_lt_of_le (Nat.lt_of_lt_of_le (Nat.lt_of_le_of_lt (Nat.le_of_eq hwl2) hpl) hl) (Nat.le_of_ble_eq_true rfl))) ?_)
   walk_at "v"
   walk_at "n"
   walk_at "t"
   refine callE_b (max2_W hR fun t12 => ?_)
   walk_at "v"
   walk_at "n"
   refine hQB _ _ _ _ fun l4 => fun u_ k9 => k9 _ _ _ _ _ _ _ (by rw [List.getLast?_concat]; show max r q = q; omega) ?_
   have e : fromI (0 : Int) (pre ++ [((pre.length : Int), es, r, q)]).length = fromI 0 pre.length ++ [(pre.length : Int)] := by
    unfold fromI
    rw [List.length_append, List.length_singleton, List.range_succ]
    simp
   rw [e]
   exact (j3.vmono (m2)).snoc (vzI_mk)
  ·rintro m' zi ni m1 hJ
   apply hJ
   intro a b c d r t ws2 j1 j3
   rw [enumI_len] at j3
   walk_at "v"
   refine exs_freeze fun hF => ?_
   walk_at "t"
   exact hQF _ _ _ _ fun u_ => ⟨[], List.nil_sublist _, rfl, vzL_mk (a := C) fset_self (j3.vmono (Le.fset hF))⟩
theorem s_piece_init (w : World) {A : Around} {k : Nat} (hA : Room A (k + 1)) {z : Fz} {n : Led} {x dx : Addr} {a b c : Value} : WCall PySem.Challenge.pw_nt0082_01 w (k0.heap_1 w.params) A (.ref 152) [.ref x, a, b, c] z ((x, .raw (instObj 160 dx)) :: (dx, .att []) :: n)
  fun v z' n' => v = .none ∧ z' = z ∧ n' = (x, .raw (instObj 160 dx)) :: (dx, .att [("levels", c), ("behind", b), ("first", a)]) :: n := by
 refine fn_CQ (binds := [("self", .ref x), ("first", a), ("behind", b), ("levels", c)]) (own := none) (names := ["self", "first", "behind", "levels"]) (locs := ["self", "first", "behind", "levels"]) (g := []) hA (by k_is) (by k_is) (fun _ X => by first | exact BindsTo.of_eq rfl | exact binds_K X rfl (by k_is) rfl rfl rfl) rfl (fun _ => rfl) (by decide +kernel) trivial fun L env eenv hC hR QF hQF => ?_
 walk_at "t"
 refine setattr_S (by kernel_rfl) rfl (by k_is) (by k_is) (by k_is) (by k_is) ?_
 walk_at "v"
 walk_at "t"
 refine setattr_S (by kernel_rfl) rfl (by k_is) (by k_is) (by k_is) (by k_is) ?_
 walk_at "v"
 walk_at "t"
 refine setattr_S (by kernel_rfl) rfl (by k_is) (by k_is) (by k_is) (by k_is) ?_
 walk_at "v"
 walk_at "n"
 exact hQF _ _ _ _ fun u_ => ⟨_, List.Sublist.refl _, rfl, rfl, rfl⟩
theorem s_piece_make (w : World) {A : Around} {k : Nat} (hA : Room A (k + 2)) {z : Fz} {n : Led} {c : Value} {i j : Int} {t u : Nat} {ls : List (List Int)} (hc : Vz z (eL (eL eI) ls) c) {Q : KV} (q : ∀ v z', Le z z' → PieceIs z' (i, j, ls) v → Q v z' n) :
  callE PySem.Challenge.pw_nt0082_01 w (k0.heap_1 w.params) A (.ref 160) [.int i t, .int j u, c] z n Q := by
 refine callE_k (by k_is) (W.post_fz2 (WCall.W (make_W hA (by k_is) (by k_is) (by k_is) fun x dx A' hA' => ?_)))
 intro s hs
 refine codeAny_mono (s_piece_init w hA' (n := n) s hs) fun r s' hJp => ?_
 refine oEEEAAAA hJp fun v z' n' e st e1 e2 e3 => ?_
 clear hJp
 subst e1 e2 e3
 exact ⟨_, _, _, e, st, rfl, x, _, dx, _, n, rfl, fun z2 l h1 h2 => q _ z2 l ⟨x, dx, c, t, u, rfl, h1, h2, hc.up l⟩⟩
theorem s_search_pieces (w : World) {A : Around} {k : Nat} (hA : Room A (k + 10)) {z : Fz} {f : Str → Option Value} {rows : Rows} {lon : Int → Nat} {tab text data : Value} {xs : List Int} {t0 s t u : Nat} (hl : xs.length ≤ 400) (hs : s ≤ 3) (hlt : ∀ i ∈ xs, i < 1000) (hG : Good rows lon) (hS : Short rows) (hone : ∀ c ∈ xs, (look rows [c]).isSome = true)
  (hT : TableIs z rows lon tab) (hx : Vz z (eL eI xs) text) (hD : DataIs z f data) (hf : f "ccc" = some (.int 0 t0)) (hf2 : f "dm" = some .none) :
  Wp w A (call (.ref 181) [text, tab, data, .int (s : Nat) t, .str "non-ignorable" u] []) z [] fun v z' n' => n' = [] ∧ PiecesIs z' (piecesF rows s xs) v := by
 obtain ⟨hg1, hg2⟩ := groups_short hS 0 xs
 have hch := groups_ch rows 0 xs
 refine WCall.W ?_
 refine fn_CQ (binds := [("text", text), ("table", tab), ("data", data), ("strength", .int (s : Nat) t), ("how", .str "non-ignorable" u)]) (own := none) (names := ["text", "table", "data", "strength", "how"]) (locs := ["text", "table", "data", "strength", "how", "groups", "elements", "some", "first", "behind", "weights", "at", "pieces", "cuts", "number", "part", "many", "places"]) (g := [("weighted", Value.ref 138), ("search_cuts", Value.ref 176), ("len", .builtin "len"), ("range", .type "range"), ("sum", .builtin "sum"), ("min", .builtin "min"), ("max", .builtin "max"), ("SearchPiece", Value.ref 160), ("search_levels", Value.ref 169)]) hA (by k_is) (by k_is) (fun _ X => by first | exact BindsTo.of_eq rfl | exact binds_K X rfl (by k_is) rfl rfl rfl) rfl (fun _ => rfl) (by decide +kernel) ⟨⟨rfl, gl_weighted w⟩, ⟨⟨rfl, gl_search_cuts w⟩, ⟨⟨rfl, gl_len w⟩, ⟨⟨rfl, gl_range w⟩, ⟨⟨rfl, gl_sum w⟩, ⟨⟨rfl, gl_min w⟩, ⟨⟨rfl, gl_max w⟩, ⟨⟨rfl, gl_SearchPiece w⟩, ⟨⟨rfl, gl_search_levels w⟩, trivial⟩⟩⟩⟩⟩⟩⟩⟩⟩ fun L env eenv hC hR QF hQF => ?_
 walk_at "t"
 refine table_meth hT (by decide +kernel) (by k_is) (by k_is) ?_
 walk_at "v"
 refine callE_k (by k_is) ((s_located w (k := k) hR (by exact Nat.le_trans hl (Nat.le_of_ble_eq_true rfl)) hlt hG hone hT hx hD hf hf2).apart fun gv z1 l1 hgv => ?_)
 have hfl := flat_len hg2
 unfold piecesF at hQF
 generalize groups rows 0 xs = gs at *
 walk_at "v"
 walk_at "t"
 refine .inl fun F => ?_
 walk_at "v"
 let J : List Gr → M → Fz → Led → Prop := fun pre m' z' n' => ∀ GG9 : M → Led → Prop, (∀ a b c ws, (All2 (fun x v => Vz z' (eE x) v) (pre.flatMap (·.1)) ws) → GG9 (([("text", some (text)), ("table", some (tab)), ("data", some (data)), ("strength", some (.int (s : Nat) t)), ("how", some (.str "non-ignorable" u)), ("groups", some (gv)), ("elements", some (.ref F)), ("some", a), ("first", b), ("behind", c), ("weights", none), ("at", none), ("pieces", none), ("cuts", none), ("number", none), ("part", none), ("many", none), ("places", none)] : M)) ([(F, .lst ws)])) → GG9 m' n'
 walk_at "e"
 refine @exs_semQ _ _ _ _ _ _ _ _ _ _ _ fun QS hQS => for_dataQ hC J ?_
 walk_at "v"
 refine LoopL_mk hC eG gs hgv (fun u_ k9 => k9 none none none [] trivial) ?_ ?_
 ·rintro pre ⟨es, p, q⟩ post v m' zi zi' ni hxs l2 l3 hv hJ QB hQB
  apply hJ
  intro a b c ws j1
  induction hv using vzT_use with | _ T u1 u2 u3 hT1 hu1 hu2 hu3 hv => ?_
  induction hu1 using vzL_use with | _ ea evs hez hes hu1 => ?_
  have hwl := j1.len
  have hel : evs.length = es.length := hes.len
  have hpl : (pre.flatMap (·.1)).length + es.length ≤ 2 * xs.length := by
   have h1 := hfl
   rw [hxs, List.flatMap_append, List.length_append, List.flatMap_cons, List.length_append] at h1
   rw [← hxs] at h1
   have e5 : (es, p, q).1.length = es.length := rfl
   first | exact Nat.le_trans (Nat.add_le_add_left (Nat.le_add_right _ _) _) (Nat.le_trans h1 (Nat.mul_le_mul_left 2 hg1)) | lia | omega
  walk_at "v"
  refine unp_mk (.inl hT1) rfl ?_
  walk_at "v"
  walk_at "t"
  refine meth_lst (.inr (.head _)) PySem.F.slot_list_extend PySem.F.type_list_extend ?_
  walk_at "v"
  refine callE_b (extend_W .head (.inl hez) (by first | exact Nat.le_trans (Nat.add_le_add (Nat.le_of_eq hwl) (Nat.le_of_eq hel)) (Nat.le_trans hpl (Nat.le_trans (Nat.mul_le_mul_left 2 hl) (Nat.le_of_ble_eq_true rfl))) | lia | omega) ?_)
  walk_at "v"
  walk_at "n"
  refine hQB _ _ _ _ fun l4 => fun u_ k9 => k9 _ _ _ _ ?_
  rw [List.flatMap_append, List.flatMap_cons, List.flatMap_nil, List.append_nil]
  exact (j1.vmono (l3)).append (hes.vmono l4)
 ·rintro m' zi ni l2 hJ
  apply hJ
  intro a b c ws j1
  walk_at "v"
  refine exs_freeze fun hF => ?_
  have hev : Vz (fset zi F (.lst ws)) (eL eE (gs.flatMap (·.1))) (.ref F) := vzL_mk (a := F) (vs := ws) fset_self (j1.vmono (Le.fset hF))
  replace hgv : Vz (fset zi F (.lst ws)) (eL eG gs) gv := hgv.up (l2.trans (Le.fset hF))
  generalize fset zi F (.lst ws) = z2 at *
  walk_at "t"
  refine ⟨true, by subst eenv; rfl, ?_⟩
  walk_at "v"
  refine callE_k (by k_is) ((s_weighted w (k := k) (hR.down rfl) (by first | exact Nat.le_trans hfl (Nat.le_trans (Nat.mul_le_mul_left 2 (Nat.le_trans hg1 hl)) (Nat.le_of_ble_eq_true rfl)) | lia | omega) hev).apart fun wv z3 l3 hwv => ?_)
  walk_at "v"
  intro t1
  refine .inl fun P => ?_
  walk_at "v"
  intro T3 hT3
  walk_at "v"
  replace hgv := hgv.up (l3.trans (Le.fset (lo := .tup [wv, .int 0 t1, .ref P]) hT3))
  replace hwv := hwv.up (Le.fset (lo := .tup [wv, .int 0 t1, .ref P]) hT3)
  generalize fset z3 T3 (.tup [wv, .int 0 t1, .ref P]) = z4 at *
  walk_at "t"
  refine callE_k (by k_is) ((s_search_cuts w (k := k) (hR.down rfl) (by exact Nat.le_trans (Nat.le_trans hg1 hl) (Nat.le_of_ble_eq_true rfl)) hch hgv).apart fun cv z5 l5 hcv => ?_)
  walk_at "v"
  refine len_V (hgv.up l5) (by exact Nat.le_trans (Nat.le_trans hg1 hl) (Nat.le_of_ble_eq_true rfl)) fun t2 => ?_
  walk_at "v"
  refine .inr fun B hB => ?_
  induction hcv using vzL_use with | _ ca cvs hcz hca hcv => ?_
  have hcl := hca.len
  rw [fromI_len] at hcl
  walk_at "v"
  refine cat_W (.inl (Le.fset hB _ _ hcz)) (.inl fset_self) (by simp; omega) (.inr fun C hC0 => ?_)
  have hcuts : Vz (fset (fset z5 B (.lst [.int gs.length t2])) C (.lst (cvs ++ [.int gs.length t2]))) (eL eI (fromI 0 (gs.length + 1))) (.ref C) := by
   refine vzL_mk (a := C) fset_self ?_
   have e : fromI (0 : Int) (gs.length + 1) = fromI 0 gs.length ++ [(gs.length : Int)] := by unfold fromI; rw [List.range_succ]; simp
   rw [e]
   exact (hca.vmono ((Le.fset hB).trans (Le.fset hC0))).snoc (vzI_mk)
  replace hgv : Vz (fset (fset z5 B (.lst [.int gs.length t2])) C (.lst (cvs ++ [.int gs.length t2]))) (eL eG gs) gv := hgv.up (l5.trans ((Le.fset hB).trans (Le.fset hC0)))
  replace hwv : Vz (fset (fset z5 B (.lst [.int gs.length t2])) C (.lst (cvs ++ [.int gs.length t2]))) _ wv := hwv.up (l5.trans ((Le.fset hB).trans (Le.fset hC0)))
  generalize fset (fset z5 B (.lst [.int gs.length t2])) C (.lst (cvs ++ [.int gs.length t2])) = z6 at *
  walk_at "v"
  let J2 : List Int → M → Fz → Led → Prop := fun pre m' z' n' => ∀ GG9 : M → Led → Prop, (∀ nu pa ma pl t3 ws2, (All2 (fun p v => PieceIs z' p v) ((gs.take pre.length).map (pcOf s)) ws2) → GG9 (([("text", some (text)), ("table", some (tab)), ("data", some (data)), ("strength", some (.int (s : Nat) t)), ("how", some (.str "non-ignorable" u)), ("groups", some (gv)), ("elements", some (.ref F)), ("some", a), ("first", b), ("behind", c), ("weights", some (wv)), ("at", some (.int (((gs.take pre.length).flatMap (·.1)).length : Nat) t3)), ("pieces", some (.ref P)), ("cuts", some (.ref C)), ("number", nu), ("part", pa), ("many", ma), ("places", pl)] : M)) ([(P, .lst ws2)])) → GG9 m' n'
  walk_at "e"
  refine @exs_semQ _ _ _ _ _ _ _ _ _ _ _ fun QS hQS => for_dataQ hC J2 ?_
  walk_at "v"
  refine len_V hcuts (by rw [fromI_len]; omega) fun t3 => ?_
  rw [fromI_len]
  walk_at "v"
  intro t4 t5
  refine callE_t (range1_W fun r t6 t7 hr => ?_)
  refine LoopD.mk [] _ eI (fromI 0 gs.length) nilPerm (iterV_rng hR.handled fset_self (by exact Int.natCast_nonneg _) (by exact Int.natCast_nonneg _) (by (first | lia | omega)) (by (first | lia | omega)) (by (first | lia | omega))) (fun u_ k9 => k9 none none none none t1 [] trivial) ?_ ?_
  ·rintro pre x post v m' zi zi' ni hxs l6 l7 hv hJ QB hQB
   apply hJ
   intro nu pa ma pl t8 ws2 j1
   induction hv using vzI_use with | _ t9 hv => ?_
   have hpl : pre.length < gs.length := by
    have := congrArg List.length hxs
    rw [fromI_len] at this
    simp at this; omega
   have hx' : x = ((pre.length : Nat) : Int) := by
    have h1 : (fromI 0 gs.length)[pre.length]? = some x := by rw [hxs]; simp
    rw [fromI_get hpl] at h1
    have := Option.some.inj h1
    first | exact this.symm.trans (Int.zero_add _) | lia | omega
   subst hx'
   obtain ⟨⟨es, p, q⟩, hg⟩ : ∃ g, gs[pre.length]? = some g := ⟨_, List.getElem?_eq_getElem hpl⟩
   have hgs := cut_at hg
   have hcutg : (gs.drop pre.length).take (pre.length + 1 - pre.length) = [(es, p, q)] := by
    rw [show pre.length + 1 - pre.length = 1 by first | exact Nat.add_sub_cancel_left | lia | omega, List.drop_eq_getElem_cons hpl, ← (List.getElem?_eq_some_iff.mp hg).2]
    rfl
   have hfc := flat_cut hgs
   have htk : gs.take (pre ++ [((pre.length : Nat) : Int)]).length = gs.take pre.length ++ [(es, p, q)] := by
    rw [List.length_append, List.length_singleton, List.take_add_one, hg]; rfl
   have hel : es.length ≤ 2 := hg2 (es, p, q) (List.mem_of_getElem? hg)
   have hAl : ((gs.take pre.length).flatMap (·.1)).length + es.length ≤ 2 * xs.length := by
    have h1 := congrArg (fun l => (l.flatMap (·.1)).length) hgs
    simp only [List.flatMap_append, List.length_append, List.flatMap_cons] at h1
    (first | lia | omega)
   have hwl := j1.len
   rw [List.length_map, List.length_take] at hwl
   have lz := (Le.fset hr).trans (l6.trans l7)
   generalize hAA : ((gs.take pre.length).flatMap (·.1)).length = AA at *
   walk_at "v"
   walk_at "t"
   refine item_V (i := pre.length) (y := ((pre.length : Nat) : Int)) (hcuts.up lz) rfl (by rw [fromI_get (by exact Nat.lt_of_lt_of_le hpl (Nat.le_add_right _ _))]; simp) (by rw [fromI_len]; omega) fun u hu => ?_
   induction hu using vzI_use with | _ t10 hu => ?_
   walk_at "v"
   intro t11 t12
   refine item_V (i := pre.length + 1) (y := ((pre.length + 1 : Nat) : Int)) (hcuts.up lz) (by exact rfl) (by rw [fromI_get (by first | exact Nat.succ_lt_succ hpl | lia | omega)]; simp) (by rw [fromI_len]; omega) fun u hu => ?_
   induction hu using vzI_use with | _ t13 hu => ?_
   walk_at "v"
   refine slice_cut (a := pre.length) (b := pre.length + 1) (hgv.up lz) rfl rfl (by exact Nat.le_trans (Nat.le_trans hg1 hl) (Nat.le_of_ble_eq_true rfl)) fun z7 pv l8 hpv => ?_
   rw [hcutg] at hpv
   walk_at "v"
   walk_at "t"
   refine comp_V hC [] none [("len", .builtin "len")] ["some", "first", "behind"] (by subst eenv; rfl) (fun u_ => rfl) (fun u_ => rfl) (by decide +kernel) (by decide +kernel) ⟨⟨rfl, gl_len w⟩, trivial⟩ ?_
   walk_at "v"
   refine comp_data [] _ eG [(es, p, q)] (fun u_ => true) (fun g => (g.1.length : Int)) eI nilPerm (iterV_list hR.handled hpv) (by simp) ?_ ?_
   ·rintro C hC' g v zj m ov hm l9 hv hk
    refine oEEE (keys3 hk) fun v0 v1 v2 e0_ => ?_
    subst e0_
    obtain rfl := List.mem_singleton.mp hm
    induction hv using vzT_use with | _ T u1 u2 u3 hT1 hu1 hu2 hu3 hv => ?_
    walk_at "v"
    refine unp_mk (.inl hT1) rfl ?_
    walk_at "v"
    refine len_V hu1 (by show es.length ≤ _; omega) fun t14 => ?_
    exact fun u_ => ⟨rfl, ⟨none, rfl⟩, rfl, vzI_mk⟩
   intro vs1 z8 l9 _ hall1
   rw [filter_tt, List.map_cons, List.map_nil] at hall1
   refine .inr fun D1 hD1 => ?_
   walk_at "v"
   refine callE_b (sumL_W (k := k) (hR.less (by lia)) (.inl fset_self) (hall1.vmono (Le.fset hD1)) (by intro i hi; rw [List.mem_singleton.mp hi]; show 0 ≤ ((es.length : Nat) : Int) ∧ ((es.length : Nat) : Int) ≤ 1000; omega) (by simp) fun t15 => ?_)
   rw [show ([((es, p, q) : Gr).1.length] : List Int).sum = (es.length : Int) by simp]
   walk_at "v"
   have l10 := l9.trans (Le.fset (lo := .lst vs1) hD1)
   replace hpv := hpv.up l10
   clear hall1
   generalize fset z8 D1 (.lst vs1) = z9 at *
   walk_at "t"
   refine comp_V hC [] none [] ["some", "first", "behind"] (by subst eenv; rfl) (fun u_ => rfl) (fun u_ => rfl) (by decide +kernel) (by decide +kernel) trivial ?_
   walk_at "v"
   refine comp_data [] _ eG [(es, p, q)] (fun u_ => true) (fun g => g.2.1) eI nilPerm (iterV_list hR.handled hpv) (by simp) ?_ ?_
   ·rintro C hC' g v zj m ov hm l9 hv hk
    refine oEEE (keys3 hk) fun v0 v1 v2 e0_ => ?_
    subst e0_
    obtain rfl := List.mem_singleton.mp hm
    induction hv using vzT_use with | _ T u1 u2 u3 hT1 hu1 hu2 hu3 hv => ?_
    walk_at "v"
    refine unp_mk (.inl hT1) rfl ?_
    walk_at "v"
    exact fun u_ => ⟨rfl, ⟨none, rfl⟩, rfl, hu2⟩
   intro vs2 z10 l11 _ hall2
   rw [filter_tt, List.map_cons, List.map_nil] at hall2
   refine .inr fun D2 hD2 => ?_
   walk_at "v"
   refine callE_b (minL_W (k := k) (hR.less (by lia)) (.inl fset_self) (hall2.vmono (Le.fset hD2)) (by simp) fun mn t16 hmn u_ => ?_)
   have emn : mn = p := List.mem_singleton.mp hmn
   subst mn
   have l12 := l11.trans (Le.fset (lo := .lst vs2) hD2)
   replace hpv := hpv.up l12
   clear hall2
   generalize fset z10 D2 (.lst vs2) = z11 at *
   walk_at "v"
   refine comp_V hC [] none [] ["some", "first", "behind"] (by subst eenv; rfl) (fun u_ => rfl) (fun u_ => rfl) (by decide +kernel) (by decide +kernel) trivial ?_
   walk_at "v"
   refine comp_data [] _ eG [(es, p, q)] (fun u_ => true) (fun g => g.2.2) eI nilPerm (iterV_list hR.handled hpv) (by simp) ?_ ?_
   ·rintro C hC' g v zj m ov hm l9 hv hk
    refine oEEE (keys3 hk) fun v0 v1 v2 e0_ => ?_
    subst e0_
    obtain rfl := List.mem_singleton.mp hm
    induction hv using vzT_use with | _ T u1 u2 u3 hT1 hu1 hu2 hu3 hv => ?_
    walk_at "v"
    refine unp_mk (.inl hT1) rfl ?_
    walk_at "v"
    exact fun u_ => ⟨rfl, ⟨none, rfl⟩, rfl, hu3⟩
   intro vs3 z12 l13 _ hall3
   rw [filter_tt, List.map_cons, List.map_nil] at hall3
   refine .inr fun D3 hD3 => ?_
   walk_at "v"
   refine callE_b (maxL_W (k := k) (hR.less (by lia)) (.inl fset_self) (hall3.vmono (Le.fset hD3)) (by simp) fun mx t17 hmx u_ => ?_)
   have emx : mx = q := List.mem_singleton.mp hmx
   subst mx
   have l14 := l13.trans (Le.fset (lo := .lst vs3) hD3)
   clear hall3
   generalize fset z12 D3 (.lst vs3) = z13 at *
   walk_at "v"
   intro T4 hT4
   walk_at "v"
   walk_at "t"
   refine meth_lst (.inr (.head _)) PySem.F.slot_list_append PySem.F.type_list_append ?_
   walk_at "v"
   intro t18
   refine item_tat (i := 0) (.inl fset_self) rfl rfl (by simp) ?_
   walk_at "v"
   intro t19
   refine item_tat (i := 1) (.inl fset_self) rfl rfl (by simp) ?_
   walk_at "v"
   intro t20
   refine slice_cut (a := AA) (b := AA + es.length) (hwv.up (lz.trans (l8.trans (l10.trans (l12.trans (l14.trans (Le.fset hT4))))))) rfl (by exact rfl) (by rw [List.length_map]; omega) fun z14 sv l16 hsv => ?_
   rw [Nat.add_sub_cancel_left, ← List.map_drop, ← List.map_take, hfc] at hsv
   walk_at "v"
   refine callE_k (by k_is) ((s_search_levels w (k := k) (hR.down rfl) (by show es.length ≤ _; omega) hs hsv).apart fun lv z15 l17 hlv => ?_)
   walk_at "v"
   refine s_piece_make w (k := k) (hR.down rfl) hlv fun qv z16 l18 hqv => ?_
   walk_at "v"
   refine callE_b (append_W .head (by exact Nat.le_trans (Nat.le_trans (Nat.le_trans (Nat.le_trans (Nat.le_of_eq hwl) (Nat.min_le_right _ _)) hg1) hl) (Nat.le_of_ble_eq_true rfl)) ?_)
   walk_at "v"
   walk_at "t"
   intro t21
   walk_at "n"
   have eA : ((((gs.take (pre ++ [((pre.length : Nat) : Int)]).length).flatMap (·.1)).length : Nat) : Int) = (AA : Int) + (es.length : Int) := by
    rw [htk, List.flatMap_append, List.length_append, hAA, List.flatMap_cons, List.flatMap_nil, List.append_nil]
    show ((AA + es.length : Nat) : Int) = _
    exact rfl
   walk_at "e"
   refine hQB _ _ _ _ fun l19 GG9 k9 => ?_
   rw [← eA]
   refine k9 _ _ _ _ t21 _ ?_
   rw [htk, List.map_append]
   exact (j1.mono fun u_ u_ r => r.up (l7.trans l19)).snoc hqv
  ·rintro m' zi ni l6 hJ
   apply hJ
   intro nu pa ma pl t8 ws2 j1
   rw [fromI_len, List.take_length] at j1
   walk_at "v"
   refine exs_freeze fun hP => ?_
   walk_at "t"
   exact hQF _ _ _ _ fun u_ => ⟨[], List.nil_sublist _, rfl, P, ws2, rfl, fset_self, j1.mono fun u_ u_ r => r.up (Le.fset hP)⟩
theorem piece_attrs {w : World} {A : Around} {z : Fz} {n : Led} {p : Pc} {v : Value} (h : PieceIs z p v) :
  (∀ {Q : KV}, (∀ u, Vz z (eL (eL eI) p.2.2) u → Q u z n) → attrE PySem.Challenge.pw_nt0082_01 w (k0.heap_1 w.params) A v "levels" z n Q) ∧
  (∀ {Q : KV}, (∀ t, Q (.int p.1 t) z n) → attrE PySem.Challenge.pw_nt0082_01 w (k0.heap_1 w.params) A v "first" z n Q) ∧
  (∀ {Q : KV}, (∀ t, Q (.int p.2.1 t) z n) → attrE PySem.Challenge.pw_nt0082_01 w (k0.heap_1 w.params) A v "behind" z n Q) ∧
  (∀ {Q : Value → List Value → Fz → Led → Prop}, Q (.ref 157) [v] z n → methE PySem.Challenge.pw_nt0082_01 w (k0.heap_1 w.params) A v "is_idle" z n Q) := by
 refine oEE h fun x dx h_ => oEEEAAA h_ fun u t1 t2 e0_ h1 h2 h3 => ?_
 clear h
 subst e0_
 have I : Inst z n 160 x dx [("levels", u), ("behind", .int p.2.1 t2), ("first", .int p.1 t1)] := ⟨.inl h1, .inl h2⟩
 refine ⟨fun q => attr_W I (v := u) (by kernel_rfl) (by k_is) (by k_is) (by k_is) ?_ (q _ h3), fun q => attr_W I (v := .int p.1 t1) (by kernel_rfl) (by k_is) (by k_is) (by k_is) rfl (q _), fun q => attr_W I (v := .int p.2.1 t2) (by kernel_rfl) (by k_is) (by k_is) (by k_is) rfl (q _), fun q => meth_W I (by kernel_rfl) (by k_is) (by k_is) (by k_is) (by k_is) q⟩
 induction h3 using vzL_use with | _ a vs _ _ h3 => ?_
 rfl
theorem s_is_idle (w : World) {A : Around} {k : Nat} (hA : Room A (k + 1)) {z : Fz} {p : Pc} {v : Value} (h : PieceIs z p v) (hl : p.2.2.length ≤ 1000) :
  Wp w A (call (.ref 157) [v] []) z [] fun v z' n' => n' = [] ∧ v = .bool (idleL p.2.2) := by
 refine WCall.W ?_
 refine fn_CQ (binds := [("self", v)]) (own := none) (names := ["self"]) (locs := ["self"]) (g := []) hA (by k_is) (by k_is) (fun _ X => by first | exact BindsTo.of_eq rfl | exact binds_K X rfl (by k_is) rfl rfl rfl) rfl (fun _ => rfl) (by decide +kernel) trivial fun L env eenv hC hR QF hQF => ?_
 walk_at "t"
 refine comp_V hC [] none [] ["level"] (by subst eenv; rfl) (fun u_ => rfl) (fun u_ => rfl) (by decide +kernel) (by decide +kernel) trivial ?_
 walk_at "v"
 refine (piece_attrs h).1 fun u hu => ?_
 refine comp_data [] _ (eL eI) p.2.2 (fun l => !decide (l = [])) (fun l => l) (eL eI) nilPerm (iterV_list hR.handled hu) (by exact Nat.le_trans hl (Nat.le_of_ble_eq_true rfl)) ?_ ?_
 ·rintro C hC' l v zj m ov hm l7 hv hk
  obtain ⟨v0, rfl⟩ := keys1 hk
  induction hv using vzL_use with | _ la lvs hlz hla hv => ?_
  walk_at "v"
  refine .inr fun D hD => ?_
  walk_at "v"
  refine ne_W (x := l) (y := []) (hR.less (Nat.zero_le _)) Enc.int.list (by decide) (.inl (hv.up (Le.fset hD))) (.inl (vzL_mk (a := D) (vs := []) fset_self trivial)) ?_
  walk_at "v"
  refine brE_any (fun hb => ?_) (fun hb => ?_)
  ·exact fun l8 => ⟨rfl, ⟨none, rfl⟩, hb, hv.up (l8)⟩
  ·exact fun l8 => ⟨rfl, ⟨none, rfl⟩, hb⟩
 ·intro vs zN l7 hvl hall
  rw [List.map_id'] at hall
  refine .inr fun D hD => ?_
  walk_at "v"
  refine .inr fun D2 hD2 => ?_
  walk_at "v"
  refine eq_W (hR.less (Nat.zero_le _)) Enc.int.list.list (by decide) (x := nonE p.2.2) (y := []) (.inl (vzL_mk (a := D) (vs := vs) (Le.fset hD2 _ _ fset_self) (hall.vmono ((Le.fset hD).trans (Le.fset hD2))))) (.inl (vzL_mk (a := D2) (vs := []) fset_self trivial)) ?_
  walk_at "e"
  exact hQF _ _ _ _ fun u_ => ⟨[], List.nil_sublist _, rfl, rfl⟩
theorem s_search_stretch (w : World) {A : Around} {k : Nat} (hA : Room A (k + 2)) {z : Fz} {pv wv : Value} {ps : List Pc} {wd : List (List Int)} {i t : Nat} (hl : ps.length ≤ 1000) (hW : Wide3 wd.length ps) (hwl : wd.length ≤ 100) (hws : ∀ l ∈ wd, l.length ≤ 1000) (hi : i < ps.length) (hp : PiecesIs z ps pv) (hw : Vz z (eL (eL eI) wd) wv) :
  Wp w A (call (.ref 207) [pv, .int (i : Nat) t, wv] []) z [] fun v z' n' => n' = [] ∧ Vz z' (eO (eP eI eI) (strAt wd i (ps.drop i))) v := by
 have hpi : ps[i]? = some ps[i] := List.getElem?_eq_getElem hi
 have hd : ps.drop i = ps[i] :: ps.drop (i + 1) := List.drop_eq_getElem_cons hi
 obtain ⟨hW1, hW2⟩ := hW ps[i] (List.getElem_mem hi)
 have hS0 : strAt wd i (ps.drop i) = if idleL ps[i].2.2 = true then none else (strF wd i (List.replicate wd.length []) (ps.drop i)).map fun (b : Nat) => ((i : Int), (b : Int)) := by rw [hd]; rfl
 generalize strAt wd i (ps.drop i) = S0 at *
 induction hw using vzL_use with | _ wa wvs _ _ hw => ?_
 refine WCall.W ?_
 refine fn_CQ (binds := [("pieces", pv), ("start", .int (i : Nat) t), ("wanted", .ref wa)]) (own := (some "wanted")) (names := ["pieces", "start", "wanted"]) (locs := ["pieces", "start", "levels", "number", "at", "more"]) (g := [("range", .type "range"), ("len", .builtin "len"), ("enumerate", .type "enumerate"), ("all", .builtin "all")]) hA (by k_is) (by k_is) (fun _ X => by first | exact BindsTo.of_eq rfl | exact binds_K X rfl (by k_is) rfl rfl rfl) rfl (fun _ => rfl) (by decide +kernel) ⟨⟨rfl, gl_range w⟩, ⟨⟨rfl, gl_len w⟩, ⟨⟨rfl, gl_enumerate w⟩, ⟨⟨rfl, gl_all w⟩, trivial⟩⟩⟩⟩ fun L env eenv hC hR QF hQF => ?_
 walk_at "v"
 refine exs_freeze fun hc0 => ?_
 have lc := Le.fset (lo := .cell (some (.ref wa))) hc0
 replace hp := hp.up lc
 replace hw := hw.up lc
 have hcell : fset z (L + 1) (.cell (some (.ref wa))) (L + 1) = some (.cell (some (.ref wa))) := fset_self
 generalize fset z (L + 1) (.cell (some (.ref wa))) = z0 at *
 walk_at "t"
 refine item_P hp rfl hpi (by exact Nat.le_trans hl (Nat.le_of_ble_eq_true rfl)) fun u hu => ?_
 refine (piece_attrs hu).2.2.2 ?_
 walk_at "v"
 refine callE_k (by k_is) ((s_is_idle w (k := k) (hR.down rfl) hu (by exact Nat.le_trans (Nat.le_trans (Nat.le_of_eq hW1) hwl) (Nat.le_of_ble_eq_true rfl))).apart fun v z1 l1 h => ?_)
 subst h
 walk_at "v"
 refine brE_any (fun hb => ?_) (fun hb => ?_)
 ·walk_at "t"
  rw [if_pos hb] at hS0
  subst hS0
  walk_at "e"
  exact hQF _ _ _ _ fun u_ => ⟨[], List.nil_sublist _, rfl, rfl⟩
 rw [if_neg (by rw [hb]; exact Bool.false_ne_true)] at hS0
 clear hb
 replace hp := hp.up l1
 replace hw := hw.up l1
 replace hcell := l1 _ _ hcell
 walk_at "n"
 walk_at "t"
 refine comp_S hC [] none [] ["level"] (by subst eenv; rfl) (by subst eenv; rfl) (fun u_ => rfl) (fun u_ => rfl) (by decide +kernel) (by decide +kernel) trivial ?_
 walk_at "v"
 refine ⟨_, .inl hcell, ?_⟩
 refine comp_data [] _ (eL eI) wd (fun u_ => true) (fun u_ => []) (eL eI) nilPerm (iterV_list hR.handled hw) (by exact Nat.le_trans hwl (Nat.le_of_ble_eq_true rfl)) ?_ ?_
 ·rintro C hC' l v zj m ov hm l7 hv hk
  obtain ⟨v0, rfl⟩ := keys1 hk
  walk_at "v"
  refine .inr fun D hD => ?_
  exact fun l8 => ⟨rfl, ⟨none, rfl⟩, rfl, vzL_mk (a := D) (vs := []) fset_self trivial⟩
 intro vs2 z2 l2 hvl hall
 rw [filter_tt, List.map_const'] at hall
 refine .inl fun F => ?_
 walk_at "v"
 replace hp := hp.up l2
 replace hw := hw.up l2
 replace hcell := l2 _ _ hcell
 clear hpi hu l1 l2 hc0 lc
 let J : List Int → M → Fz → Led → Prop := fun pre m' z' n' => ∀ GG9 : M → Led → Prop, (∀ nu at1 mo ls ws, (ls.length = wd.length) → ((∀ l ∈ ls, l.length ≤ 2 * pre.length)) → (strF wd i (List.replicate wd.length []) (ps.drop i) = strF wd (i + pre.length) ls (ps.drop (i + pre.length))) → (All2 (fun x v => Vz z' (eL eI x) v) ls ws) → GG9 (([("pieces", some (pv)), ("start", some (.int (i : Nat) t)), ("levels", some (.ref F)), ("number", nu), ("at", at1), ("more", mo)] : M)) ([(F, .lst ws)])) → GG9 m' n'
 walk_at "e"
 refine @exs_semQ _ _ _ _ _ _ _ _ _ _ _ fun QS hQS => for_dataQ hC J ?_
 walk_at "v"
 refine len_P hp (by exact Nat.le_trans hl (Nat.le_of_ble_eq_true rfl)) fun t1 => ?_
 walk_at "v"
 refine callE_t (range2_W fun r t2 hr => ?_)
 refine LoopD.mk [] _ eI (fromI (i : Nat) (ps.length - i)) nilPerm (iterV_rng hR.handled fset_self (by exact Int.natCast_nonneg _) (by (first | lia | omega)) (by exact Int.natCast_nonneg _) (by (first | lia | omega)) (by first | exact Int.toNat_sub _ _ | lia | omega)) (fun u_ k9 => k9 none none none _ _ List.length_replicate ?_ rfl (hall.vmono (Le.fset hr))) ?_ ?_
 ·intro l hm
  rw [List.eq_of_mem_replicate hm]
  exact Nat.zero_le _
 ·intro pre x post v m' zi zi' ni hxs l6 l7 hv hJ QB hQB
  apply hJ
  intro nu at1 mo ls ws j1 j2 j3 j4
  induction hv using vzI_use with | _ t9 hv => ?_
  have hpl : pre.length < ps.length - i := by
   have := congrArg List.length hxs
   rw [fromI_len] at this
   simp at this; omega
  have hx' : x = ((i + pre.length : Nat) : Int) := by
   have h1 : (fromI (i : Nat) (ps.length - i))[pre.length]? = some x := by rw [hxs]; simp
   rw [fromI_get hpl] at h1
   have := Option.some.inj h1
   first | exact this.symm | lia | omega
  subst hx'
  clear hxs hv
  have lz := (Le.fset hr).trans (l6.trans l7)
  replace j4 := j4.vmono l7
  have hp2 := hp.up lz
  have hw2 := hw.up lz
  have hc2 := lz _ _ hcell
  clear lz l7 l6
  obtain ⟨p, hpp⟩ : ∃ p, ps[i + pre.length]? = some p := ⟨_, List.getElem?_eq_getElem (by exact Nat.add_lt_of_lt_sub' hpl)⟩
  obtain ⟨hq1, hq2⟩ := hW p (List.mem_of_getElem? hpp)
  have hdr := drop_of_get hpp
  rw [hdr, strF_c] at j3
  generalize hS : strF wd i (List.replicate wd.length []) (ps.drop i) = S at *
  subst hS0
  walk_at "v"
  let J2 : List (Int × List Int) → M → Fz → Led → Prop := fun pre2 m' z' n' => ∀ GG9 : M → Led → Prop, (∀ at1 mo ws, (All2 (fun x v => Vz z' (eL eI x) v) (joinT pre2.length ls p.2.2) ws) → GG9 (([("pieces", some (pv)), ("start", some (.int (i : Nat) t)), ("levels", some (.ref F)), ("number", some (.int ((i + pre.length : Nat) : Int) t9)), ("at", at1), ("more", mo)] : M)) ([(F, .lst ws)])) → GG9 m' n'
  walk_at "e"
  refine @exs_semQ _ _ _ _ _ _ _ _ _ _ _ fun QS hQS => for_dataQ hC J2 ?_
  walk_at "v"
  refine item_P hp2 rfl hpp (by exact Nat.le_trans hl (Nat.le_of_ble_eq_true rfl)) fun u hu => ?_
  refine (piece_attrs hu).1 fun u2 hu2 => ?_
  walk_at "v"
  refine callE_t (enum_V hu2 fun l vs en it ex hz hall2 => ?_)
  refine LoopD.mk _ [(F, .lst ws)] (eP eI (eL eI)) (enumI p.2.2) List.perm_append_comm (iterV_enum hR.handled hz hall2 trivial) (fun u_ k9 => k9 at1 mo ws ?_) ?_ ?_
  ·show All2 _ (joinT 0 ls p.2.2) ws
   unfold joinT joinL
   exact j4
  ·intro pre2 y post2 v m' zj zj' nj hxs2 m1 m2 hv hJ QB hQB
   apply hJ
   intro at1 mo ws2 k1
   obtain ⟨q, more⟩ := y
   induction hv using vzP_use with | _ T w1 w2 hT3 hw1 hw2' hv => ?_
   induction hw1 using vzI_use with | _ t8 hw1 => ?_
   refine oAA (enumI_cut hxs2) fun hpi2 hgi u_ => ?_
   subst hpi2
   have hp2l := lt_of_get hgi
   induction hw2' using vzL_use with | _ ma mvs hmz hma hw2' => ?_
   obtain ⟨ol, hol⟩ : ∃ ol, ls[pre2.length]? = some ol := ⟨_, List.getElem?_eq_getElem (by exact Nat.lt_of_lt_of_le (Nat.lt_of_lt_of_le hp2l (Nat.le_of_eq hq1)) (Nat.le_of_eq j1.symm))⟩
   have hol2 := j2 _ (List.mem_of_getElem? hol)
   have hgl := joinT_get j1 hq1 (show pre2.length < wd.length by exact Nat.lt_of_lt_of_le hp2l (Nat.le_of_eq hq1))
   have hmoL := hq2 _ (List.mem_of_getElem? hgi)
   have hset := joinT_set j1 hq1 hol hgi
   refine oEA (k1.get (hgl.trans hol)) fun ov hov hov2 => ?_
   induction hov2 using vzL_use with | _ oa ovs hoz hoa hov2 => ?_
   have hwl2 := k1.len
   rw [joinT_len j1 hq1 (by exact Nat.le_of_lt (Nat.lt_of_lt_of_le hp2l (Nat.le_of_eq hq1)))] at hwl2
   have h3 : mvs.length = more.length := hma.len
   have h4 := hoa.len
   clear j2 hq2 hv hxs2 hgl hol hgi hall hall2
   walk_at "v"
   refine unp_mk (.inl hT3) rfl ?_
   walk_at "v"
   walk_at "t"
   refine item_at (i := pre2.length) (.inr (.head _)) rfl hov (by exact Nat.le_trans (Nat.le_trans (Nat.le_of_eq hwl2) hwl) (Nat.le_of_ble_eq_true rfl)) ?_
   walk_at "v"
   refine cat_W (.inl (m2 _ _ hoz)) (.inl hmz) (by (first | lia | omega)) (.inr fun D hD => ?_)
   walk_at "v"
   refine setItem_lst .head rfl (by exact Nat.lt_of_lt_of_le (Nat.lt_of_lt_of_le hp2l (Nat.le_of_eq hq1)) (Nat.le_of_eq hwl2.symm)) (by exact Nat.le_trans (Nat.le_trans (Nat.le_of_eq hwl2) hwl) (Nat.le_of_ble_eq_true rfl)) ?_
   walk_at "n"
   refine hQB _ _ _ _ fun l4 => fun u_ k9 => k9 _ _ _ ?_
   rw [List.length_append, List.length_singleton, ← hset]
   exact (k1.vmono (m2.trans l4)).set (vzL_mk (a := D) fset_self ((hoa.vmono (m2.trans l4)).append (hma.vmono l4)))
  ·intro m' zj nj m1 hJ
   apply hJ
   intro at1 mo ws2 k1
   rw [enumI_len, hq1, joinT_all j1 hq1] at k1
   have hjl := joinL_len j1 hq1
   have hjs := joinL_short j2 hq2
   have hwl2 := k1.len
   generalize joinL ls p.2.2 = ls2 at *
   clear j4 hz hall2 hu2 hu hall j2 hq2
   walk_at "v"
   walk_at "t"
   refine ⟨_, .inl (m1 _ _ hc2), ?_⟩
   walk_at "v"
   refine eq_W (x := ls2) (y := wd) (hR.less (Nat.zero_le _)) Enc.int.list.list (by decide) (.inr ⟨F, ws2, _, rfl, rfl, .inr (.head _), vzAll_iff.mpr (All2.map.mpr k1)⟩) (.inl (hw2.up m1)) ?_
   walk_at "v"
   refine brE_dec (fun h1 => ?_) (fun h1 => ?_)
   ·walk_at "t"
    intro t10 t11 T1 hT1
    rw [if_pos h1] at j3
    walk_at "e"
    refine hQB _ _ _ _ fun u_ => Ends.ret (by assumption) (hQF _ _ _ _ fun u_ => ⟨[], List.nil_sublist _, rfl, ?_⟩)
    rw [j3]
    exact vzP_mk (a := T1) fset_self vzI_mk vzI_mk
   rw [if_neg h1] at j3
   walk_at "n"
   walk_at "t"
   refine VW.peek (fun v n' => ∃ D vs, v = .ref D ∧ n' = [(D, .lst vs)] ∧ All2 (fun b v => v = .bool b) ((enumI ls2).map fun p => decide ((wd.getD p.1.toNat []).take p.2.length = p.2)) vs) (fun o h => nomatch h) (fun hF => ?_) ?_
   ·refine comp_V hC [("wanted", L + 1)] none [("search_begins", Value.ref 202)] ["at", "level"] (by subst eenv; rfl) (fun u_ => rfl) (fun u_ => rfl) (by kernel_rfl) (by decide +kernel) ⟨⟨rfl, gl_search_begins w⟩, trivial⟩ ?_
    walk_at "v"
    have lF := Le.fset (lo := .lst ws2) hF
    have hFv : Vz (fset zj F (.lst ws2)) (eL (eL eI) ls2) (.ref F) := vzL_mk (a := F) (vs := ws2) fset_self (k1.vmono lF)
    replace hw2 := hw2.up (m1.trans lF)
    replace hc2 := (m1.trans lF) _ _ hc2
    generalize fset zj F (.lst ws2) = z5 at *
    refine callE_t (enum_V hFv fun l2 vs2 en2 it2 ex2 hz2 hall2 => ?_)
    refine comp_data _ [] (eP eI (eL eI)) (enumI ls2) (fun u_ => true) (fun p => decide ((wd.getD p.1.toNat []).take p.2.length = p.2)) eB List.perm_append_comm (iterV_enum hR.handled hz2 hall2 trivial) (by rw [enumI_len]; omega) ?_ ?_
    ·rintro C hC' ⟨q, lev⟩ v zk m ov hm l7 hv hk
     refine oEE (keys2 hk) fun v0 v1 e0_ => ?_
     subst e0_
     induction hv using vzP_use with | _ T w1 w2 hT3 hw1 hw2' hv => ?_
     induction hw1 using vzI_use with | _ t8 hw1 => ?_
     obtain ⟨j, hj⟩ := List.getElem?_of_mem hm
     rw [enumI_get] at hj
     refine oEA (Option.map_eq_some_iff.mp hj) fun y hy e => ?_
     obtain ⟨rfl, rfl⟩ := Prod.mk.inj e
     have hjl2 := lt_of_get hy
     have hys := hjs _ (List.mem_of_getElem? hy)
     walk_at "v"
     refine unp_mk (.inl hT3) rfl ?_
     walk_at "v"
     refine ⟨_, .inl (l7 _ _ hc2), ?_⟩
     refine item_V (i := j) (y := wd.getD j []) (hw2.up l7) rfl (by rw [List.getD_eq_getElem?_getD, List.getElem?_eq_getElem (by exact Nat.lt_of_lt_of_le hjl2 (Nat.le_of_eq hjl))]; rfl) (by exact Nat.le_trans hwl (Nat.le_of_ble_eq_true rfl)) fun u hu => ?_
     walk_at "v"
     refine callE_k (by k_is) ((s_search_begins w (k := k) (hR.down rfl) (show y.length ≤ _ by first | exact Nat.le_trans hys (Nat.le_trans (Nat.add_le_add_right (Nat.mul_le_mul_left 2 (Nat.le_trans (Nat.le_of_lt hpl) (Nat.le_trans (Nat.sub_le _ _) hl))) 2) (Nat.le_of_ble_eq_true rfl)) | lia | omega) ?_ hw2' hu).apart fun v z6 l8 h => ?_)
     ·have hjw : wd[j]? = some (wd.getD j []) := by rw [List.getD_eq_getElem?_getD, List.getElem?_eq_getElem (by exact Nat.lt_of_lt_of_le hjl2 (Nat.le_of_eq hjl))]; rfl
      have := hws _ (List.mem_of_getElem? hjw)
      exact Nat.le_trans this (Nat.le_of_ble_eq_true rfl)
     ·subst h
      exact fun l9 => ⟨rfl, ⟨none, rfl⟩, rfl, vzB.mpr rfl⟩
    ·intro vs3 zN l7 hvl hall
     rw [filter_tt] at hall
     exact .inl fun D => ⟨D, vs3, rfl, rfl, hall.mono fun u_ u_ h => vzB.mp h⟩
   rintro v z5 n5 l5 ⟨D, vs3, rfl, rfl, hall3⟩
   walk_at "v"
   refine callE_b (allL_W (hR.less (Nat.zero_le _)) (.inr (.tail _ (.head _))) hall3 ?_)
   walk_at "v"
   have hbs : ((enumI ls2).map fun p => decide ((wd.getD p.1.toNat []).take p.2.length = p.2)).all id = begs ls2 wd := rfl
   rw [hbs]
   refine brE_not (brE_any (fun h2 => ?_) fun h2 => ?_)
   ·rw [if_pos h2] at j3
    walk_at "n"
    refine exs_perm (List.Perm.swap ..) (exs_freeze fun hD => ?_)
    walk_at "n"
    refine hQB _ _ _ _ fun l9 => fun u_ k9 => k9 _ _ _ ls2 ws2 hjl (fun l hm => ?_) ?_ (k1.vmono (l5.trans (Le.fset hD)))
    ·have := hjs l hm
     rw [List.length_append, List.length_singleton]
     first | exact Nat.le_trans this (Nat.le_of_eq (Nat.mul_succ 2 pre.length).symm) | lia | omega
    ·rw [List.length_append, List.length_singleton]
     rw [← Nat.add_assoc]
     exact hS.trans j3
   ·rw [if_neg (by rw [h2]; exact Bool.false_ne_true)] at j3
    walk_at "t"
    refine hQB _ _ _ _ fun u_ => Ends.ret (by assumption) (hQF _ _ _ _ fun u_ => ⟨[], List.nil_sublist _, rfl, ?_⟩)
    rw [j3]
    rfl
 ·intro m' zi ni l6 hJ
  apply hJ
  intro nu at1 mo ls ws j1 j2 j3 j4
  rw [fromI_len, List.drop_eq_nil_of_le (as := ps) (i := i + (ps.length - i)) (by first | exact Nat.le_of_eq (Nat.add_sub_of_le (Nat.le_of_lt hi)).symm | lia | omega), strF] at j3
  walk_at "v"
  walk_at "t"
  rw [j3] at hS0
  subst hS0
  walk_at "e"
  exact hQF _ _ _ _ fun u_ => ⟨[], List.nil_sublist _, rfl, rfl⟩
theorem s_search_widest (w : World) {A : Around} {k : Nat} (hA : Room A (k + 2)) {z : Fz} {pv sv : Value} {ps : List Pc} {f b : Nat} (hl : ps.length ≤ 1000) (hW : ∀ p ∈ ps, p.2.2.length ≤ 1000) (hf : f ≤ ps.length) (hb : b ≤ ps.length) (hp : PiecesIs z ps pv) (hs : Vz z (eP eI eI ((f : Int), (b : Int))) sv) :
  Wp w A (call (.ref 214) [pv, sv] []) z [] fun v z' n' => n' = [] ∧ Vz z' (eP eI eI (((wideF ps (f, b)).1 : Int), ((wideF ps (f, b)).2 : Int))) v := by
 induction hs using vzP_use with | _ T u1 u2 hT hu1 hu2 hs => ?_
 induction hu1 using vzI_use with | _ t1 hu1 => ?_
 induction hu2 using vzI_use with | _ t2 hu2 => ?_
 refine WCall.W ?_
 refine fn_CQ (binds := [("pieces", pv), ("stretch", .ref T)]) (own := none) (names := ["pieces", "stretch"]) (locs := ["pieces", "stretch", "first", "behind"]) (g := [("len", .builtin "len")]) hA (by k_is) (by k_is) (fun _ X => by first | exact BindsTo.of_eq rfl | exact binds_K X rfl (by k_is) rfl rfl rfl) rfl (fun _ => rfl) (by decide +kernel) ⟨⟨rfl, gl_len w⟩, trivial⟩ fun L env eenv hC hR QF hQF => ?_
 walk_at "t"
 refine ⟨false, by subst eenv; rfl, ?_⟩
 walk_at "v"
 refine unp_mk (.inl hT) rfl ?_
 walk_at "v"
 let J : Nat → M → Fz → Led → Prop := fun k' m' z' n' => ∀ GG9 : M → Led → Prop, (∀ t, (downF ps f = downF ps k') → (k' ≤ ps.length) → GG9 (([("pieces", some (pv)), ("stretch", some (.ref T)), ("first", some (.int (k' : Nat) t)), ("behind", some (.int (b : Nat) t2))] : M)) ([])) → GG9 m' n'
 let P : M → Fz → Led → Prop := fun m' z' n' => ∀ GG9 : M → Led → Prop, (∀ t, GG9 (([("pieces", some (pv)), ("stretch", some (.ref T)), ("first", some (.int (downF ps f : Nat) t)), ("behind", some (.int (b : Nat) t2))] : M)) ([])) → GG9 m' n'
 walk_at "e"
 refine @exs_semQ _ _ _ _ _ _ _ _ _ _ _ fun QS hQS => while_mid hC J P f (fun u_ k9 => k9 t1 rfl hf) ?_ ?_
 ·intro k' m' zi ni l hJ
  apply hJ
  intro t j1 j2
  walk_at "v"
  intro t3
  refine brE_dec (fun h1 => ?_) (fun h1 => ?_)
  ·obtain ⟨j, rfl⟩ : ∃ j, k' = j + 1 := ⟨k' - 1, by first | exact (Nat.sub_add_cancel (castPos h1)).symm | lia | omega⟩
   rw [downF_c] at j1
   have hj := getD_at (ps := ps) (i := j) (by exact j2)
   generalize ps.getD j (0, 0, []) = p at *
   intro t4 t5
   refine item_P (hp.up l) (i := j) (by first | exact castPred | lia | omega) hj (by exact Nat.le_trans hl (Nat.le_of_ble_eq_true rfl)) fun u hu => ?_
   refine (piece_attrs hu).2.2.2 ?_
   walk_at "v"
   refine callE_k (by k_is) ((s_is_idle w (k := k) (hR.down rfl) hu (hW _ (List.mem_of_getElem? hj))).apart fun v z1 l1 h => ?_)
   subst h
   walk_at "v"
   refine brE_any (fun h2 => ?_) (fun h2 => ?_)
   ·rw [if_pos h2] at j1
    walk_at "t"
    intro t6 t7
    walk_at "n"
    exact fun l2 => ⟨j, Nat.lt_succ_self j, fun u_ k9 => by rw [show ((j + 1 : Nat) : Int) - 1 = ((j : Nat) : Int) by first | exact castPred | lia | omega]; exact k9 t7 j1 (by exact Nat.le_of_lt j2)⟩
   ·rw [if_neg (by rw [h2]; exact Bool.false_ne_true)] at j1
    exact fun u_ k9 => by have h9 := k9 t; rw [j1] at h9; exact h9
  ·obtain rfl : k' = 0 := by exact Nat.le_antisymm (Nat.le_trans (Nat.le_of_not_lt fun q9 => h1 (Int.ofNat_lt.mpr q9)) (Nat.le_of_ble_eq_true rfl)) (Nat.zero_le _)
   exact fun u_ k9 => by have h9 := k9 t; rw [j1] at h9; exact h9
 intro m' z1 n1 l hP
 apply hP
 intro t3
 walk_at "v"
 let J2 : Nat → M → Fz → Led → Prop := fun k' m' z' n' => ∀ GG9 : M → Led → Prop, (∀ t, (upF (ps.drop b) b = upF (ps.drop (ps.length - k')) (ps.length - k')) → (k' ≤ ps.length) → GG9 (([("pieces", some (pv)), ("stretch", some (.ref T)), ("first", some (.int (downF ps f : Nat) t3)), ("behind", some (.int ((ps.length - k' : Nat) : Int) t))] : M)) ([])) → GG9 m' n'
 let P2 : M → Fz → Led → Prop := fun m' z' n' => ∀ GG9 : M → Led → Prop, (∀ t, GG9 (([("pieces", some (pv)), ("stretch", some (.ref T)), ("first", some (.int (downF ps f : Nat) t3)), ("behind", some (.int (upF (ps.drop b) b : Nat) t))] : M)) ([])) → GG9 m' n'
 walk_at "e"
 refine @exs_semQ _ _ _ _ _ _ _ _ _ _ _ fun QS hQS => while_mid hC J2 P2 (ps.length - b) (fun GG9 k9 => by have h9 := k9 t2 (by rw [Nat.sub_sub_self hb]) (by exact Nat.sub_le _ _); rw [Nat.sub_sub_self hb] at h9; exact h9) ?_ ?_
 ·intro k' m' zi ni l2 hJ
  apply hJ
  intro t j1 j2
  have lz := l.trans l2
  clear l l2
  walk_at "v"
  refine len_P (hp.up lz) (by exact Nat.le_trans hl (Nat.le_of_ble_eq_true rfl)) fun t5 => ?_
  walk_at "v"
  refine brE_dec (fun h1 => ?_) (fun h1 => ?_)
  ·have hj := getD_at (ps := ps) (i := ps.length - k') (by exact (Int.ofNat_lt.mp h1))
   rw [drop_of_get hj, upF_c] at j1
   generalize ps.getD (ps.length - k') (0, 0, []) = p at *
   refine item_P (hp.up lz) (i := ps.length - k') rfl hj (by exact Nat.le_trans hl (Nat.le_of_ble_eq_true rfl)) fun u hu => ?_
   refine (piece_attrs hu).2.2.2 ?_
   walk_at "v"
   refine callE_k (by k_is) ((s_is_idle w (k := k) (hR.down rfl) hu (hW _ (List.mem_of_getElem? hj))).apart fun v z1 l1 h => ?_)
   subst h
   walk_at "v"
   refine brE_any (fun h2 => ?_) (fun h2 => ?_)
   ·rw [if_pos h2] at j1
    walk_at "t"
    intro t6 t7
    walk_at "n"
    refine fun l2 => ⟨k' - 1, by first | exact Nat.sub_lt (subPos h1) Nat.one_pos | lia | omega, fun u_ k9 => ?_⟩
    rw [show ((ps.length - k' : Nat) : Int) + 1 = ((ps.length - (k' - 1) : Nat) : Int) by first | exact (congrArg (Nat.cast (R := Int)) (subPred (subPos h1) j2)).symm | lia | omega]
    refine k9 t7 ?_ (by exact Nat.le_trans (Nat.sub_le _ _) j2)
    rw [show ps.length - (k' - 1) = ps.length - k' + 1 by first | exact subPred (subPos h1) j2 | lia | omega]
    exact j1
   ·rw [if_neg (by rw [h2]; exact Bool.false_ne_true)] at j1
    exact fun u_ k9 => by have h9 := k9 t; rw [j1] at h9; exact h9
  ·obtain rfl : k' = 0 := by first | exact subZero h1 j2 | lia | omega
   refine fun u_ k9 => ?_
   have h9 := k9 t
   rw [j1, Nat.sub_zero, List.drop_length] at h9
   exact h9
 intro m' z2 n2 l2 hP
 apply hP
 intro t4
 walk_at "v"
 walk_at "t"
 intro T2 hT2
 walk_at "e"
 exact hQF _ _ _ _ fun u_ => ⟨[], List.nil_sublist _, rfl, vzP_mk (a := T2) fset_self vzI_mk vzI_mk⟩
theorem s_search_chosen (w : World) {A : Around} {k : Nat} (hA : Room A (k + 3)) {z : Fz} {pv sv : Value} {ps : List Pc} {f b : Nat} {wide : Bool} (hl : ps.length ≤ 1000) (hW : ∀ p ∈ ps, p.2.2.length ≤ 1000) (hf : f ≤ ps.length) (hb : b ≤ ps.length) (hp : PiecesIs z ps pv) (hs : Vz z (eP eI eI ((f : Int), (b : Int))) sv) :
  Wp w A (call (.ref 235) [pv, sv, .none, .bool wide] []) z [] fun v z' n' => n' = [] ∧ Vz z' (eP eI eI (((chosenF ps wide (f, b)).1 : Int), ((chosenF ps wide (f, b)).2 : Int))) v := by
 refine WCall.W ?_
 refine fn_CQ (binds := [("pieces", pv), ("stretch", sv), ("ends", .none), ("is_wide", .bool wide)]) (own := none) (names := ["pieces", "stretch", "ends", "is_wide"]) (locs := ["pieces", "stretch", "ends", "is_wide"]) (g := [("search_widest", Value.ref 214)]) hA (by k_is) (by k_is) (fun _ X => by first | exact BindsTo.of_eq rfl | exact binds_K X rfl (by k_is) rfl rfl rfl) rfl (fun _ => rfl) (by decide +kernel) ⟨⟨rfl, gl_search_widest w⟩, trivial⟩ fun L env eenv hC hR QF hQF => ?_
 walk_at "t"
 refine brE_any (fun h1 => ?_) (fun h1 => ?_)
 ·subst h1
  walk_at "t"
  refine callE_k (by k_is) ((s_search_widest w (k := k) hR hl hW hf hb hp hs).apart fun v z1 l1 h => ?_)
  walk_at "v"
  walk_at "t"
  exact hQF _ _ _ _ fun u_ => ⟨[], List.nil_sublist _, rfl, h⟩
 ·subst h1
  walk_at "n"
  walk_at "t"
  exact hQF _ _ _ _ fun u_ => ⟨[], List.nil_sublist _, rfl, hs⟩
theorem s_search_all (w : World) {A : Around} {k : Nat} (hA : Room A (k + 4)) {z : Fz} {pv wv : Value} {ps : List Pc} {wd : List (List Int)} {wide : Bool} (hl : ps.length ≤ 1000) (hW : Wide3 wd.length ps) (hwl : wd.length ≤ 100) (hws : ∀ l ∈ wd, l.length ≤ 1000) (hp : PiecesIs z ps pv) (hw : Vz z (eL (eL eI) wd) wv) :
  Wp w A (call (.ref 240) [pv, wv, .none, .bool wide] []) z [] fun v z' n' => n' = [] ∧ Vz z' (eL (eP eI eI) (allF ps wd wide)) v := by
 have hW2 : ∀ p ∈ ps, p.2.2.length ≤ 1000 := fun p h => by have := (hW p h).1; omega
 induction hw using vzL_use with | _ wa wvs _ _ hw => ?_
 obtain ⟨S0, hS0⟩ : ∃ S0, S0 = allF ps wd wide := ⟨_, rfl⟩
 rw [← hS0]
 unfold allF at hS0
 refine WCall.W ?_
 refine fn_CQ (binds := [("pieces", pv), ("wanted", .ref wa), ("ends", .none), ("is_wide", .bool wide)]) (own := none) (names := ["pieces", "wanted", "ends", "is_wide"]) (locs := ["pieces", "wanted", "ends", "is_wide", "found", "start", "stretch", "places"]) (g := [("range", .type "range"), ("len", .builtin "len"), ("search_stretch", Value.ref 207), ("search_chosen", Value.ref 235)]) hA (by k_is) (by k_is) (fun _ X => by first | exact BindsTo.of_eq rfl | exact binds_K X rfl (by k_is) rfl rfl rfl) rfl (fun _ => rfl) (by decide +kernel) ⟨⟨rfl, gl_range w⟩, ⟨⟨rfl, gl_len w⟩, ⟨⟨rfl, gl_search_stretch w⟩, ⟨⟨rfl, gl_search_chosen w⟩, trivial⟩⟩⟩⟩ fun L env eenv hC hR QF hQF => ?_
 walk_at "t"
 refine .inl fun F => ?_
 walk_at "v"
 walk_at "t"
 refine comp_V hC [] none [] ["level"] (by subst eenv; rfl) (fun u_ => rfl) (fun u_ => rfl) (by decide +kernel) (by decide +kernel) trivial ?_
 walk_at "v"
 refine comp_data [] _ (eL eI) wd (fun l => !decide (l = [])) (fun l => l) (eL eI) nilPerm (iterV_list hR.handled hw) (by exact Nat.le_trans hwl (Nat.le_of_ble_eq_true rfl)) ?_ ?_
 ·rintro C hC' l v zj m ov hm l7 hv hk
  obtain ⟨v0, rfl⟩ := keys1 hk
  induction hv using vzL_use with | _ la lvs hlz hla hv => ?_
  walk_at "v"
  refine .inr fun D hD => ?_
  walk_at "v"
  refine ne_W (x := l) (y := []) (hR.less (Nat.zero_le _)) Enc.int.list (by decide) (.inl (hv.up (Le.fset hD))) (.inl (vzL_mk (a := D) (vs := []) fset_self trivial)) ?_
  walk_at "v"
  refine brE_any (fun hb => ?_) (fun hb => ?_)
  ·exact fun l8 => ⟨rfl, ⟨none, rfl⟩, hb, hv.up (l8)⟩
  ·exact fun l8 => ⟨rfl, ⟨none, rfl⟩, hb⟩
 intro vs zN l7 hvl hall
 rw [List.map_id'] at hall
 refine .inr fun D hD => ?_
 walk_at "v"
 refine .inr fun D2 hD2 => ?_
 walk_at "v"
 refine eq_W (hR.less (Nat.zero_le _)) Enc.int.list.list (by decide) (x := nonE wd) (y := []) (.inl (vzL_mk (a := D) (vs := vs) (Le.fset hD2 _ _ fset_self) (hall.vmono ((Le.fset hD).trans (Le.fset hD2))))) (.inl (vzL_mk (a := D2) (vs := []) fset_self trivial)) ?_
 rw [show decide (nonE wd = []) = idleL wd from rfl]
 have lz : Le z (fset (fset zN D (.lst vs)) D2 (.lst [])) := l7.trans ((Le.fset hD).trans (Le.fset hD2))
 replace hp := hp.up lz
 replace hw := hw.up lz
 clear hall lz
 generalize fset (fset zN D (.lst vs)) D2 (.lst []) = z1 at *
 walk_at "v"
 refine brE_any (fun hb => ?_) (fun hb => ?_)
 ·rw [if_pos hb] at hS0
  subst hS0
  walk_at "e"
  refine exs_freeze fun hF => ?_
  walk_at "t"
  exact hQF _ _ _ _ fun u_ => ⟨[], List.nil_sublist _, rfl, vzL_mk (a := F) (vs := []) fset_self trivial⟩
 rw [if_neg (by rw [hb]; exact Bool.false_ne_true)] at hS0
 clear hb l7 hvl hD hD2
 walk_at "n"
 let J : List Int → M → Fz → Led → Prop := fun pre m' z' n' => ∀ GG9 : M → Led → Prop, (∀ a b c acc ws, (acc = (List.range pre.length).foldl (stepF ps wd wide) []) → (acc.length ≤ pre.length) → (All2 (fun x v => Vz z' (eP eI eI x) v) acc ws) → GG9 (([("pieces", some (pv)), ("wanted", some (.ref wa)), ("ends", some (.none)), ("is_wide", some (.bool wide)), ("found", some (.ref F)), ("start", a), ("stretch", b), ("places", c)] : M)) ([(F, .lst ws)])) → GG9 m' n'
 walk_at "e"
 refine @exs_semQ _ _ _ _ _ _ _ _ _ _ _ fun QS hQS => for_dataQ hC J ?_
 walk_at "v"
 refine len_P hp (by exact Nat.le_trans hl (Nat.le_of_ble_eq_true rfl)) fun t1 => ?_
 walk_at "v"
 refine callE_t (range1_W fun r t2 t3 hr => ?_)
 refine LoopD.mk [] _ eI (fromI 0 ps.length) nilPerm (iterV_rng hR.handled fset_self (by exact Int.natCast_nonneg _) (by exact Int.natCast_nonneg _) (by exact Int.natCast_nonneg _) (by (first | lia | omega)) (by exact rfl)) (fun u_ k9 => k9 none none none [] [] rfl (Nat.le_refl _) trivial) ?_ ?_
 ·intro pre x post v m' zi zi' ni hxs l6 l7 hv hJ QB hQB
  apply hJ
  intro a b c acc ws j1 j2 j3
  induction hv using vzI_use with | _ t9 hv => ?_
  have hpl : pre.length < ps.length := by
   have := congrArg List.length hxs
   rw [fromI_len] at this
   simp at this; omega
  have hx' : x = ((pre.length : Nat) : Int) := by
   have h1 : (fromI 0 ps.length)[pre.length]? = some x := by rw [hxs]; simp
   rw [fromI_get hpl] at h1
   have := Option.some.inj h1
   first | exact this.symm.trans (Int.zero_add _) | lia | omega
  subst hx'
  clear hxs hv
  have lz := (Le.fset hr).trans (l6.trans l7)
  replace j3 := j3.vmono l7
  have hp2 := hp.up lz
  have hw2 := hw.up lz
  have hwsl := j3.len
  clear lz l7 l6
  have hnext : (List.range (pre ++ [((pre.length : Nat) : Int)]).length).foldl (stepF ps wd wide) [] = stepF ps wd wide acc pre.length := by
   rw [List.length_append, List.length_singleton, List.range_succ, List.foldl_append, ← j1]
   rfl
  have hnl : (pre ++ [((pre.length : Nat) : Int)]).length = pre.length + 1 := by rw [List.length_append, List.length_singleton]
  walk_at "v"
  walk_at "t"
  refine callE_k (by k_is) ((s_search_stretch w (k := k) (hR.down rfl) hl hW hwl hws hpl hp2 hw2).apart fun sv z2 l2 hsv => ?_)
  rw [strAt_eq] at hsv
  cases hst : strN wd pre.length (ps.drop pre.length) with
  | none =>
   rw [hst] at hsv
   rw [stepF_n hst] at hnext
   have : sv = .none := hsv
   subst sv
   walk_at "v"
   walk_at "t"
   walk_at "n"
   walk_at "t"
   walk_at "n"
   walk_at "n"
   exact hQB _ _ _ _ fun l9 => fun u_ k9 => k9 _ _ _ acc ws hnext.symm (by first | exact Nat.le_trans j2 (Nat.le_trans (Nat.le_succ _) (Nat.le_of_eq hnl.symm)) | lia | omega) (j3.vmono (l9))
  | some e =>
   rw [hst] at hsv
   rw [stepF_s hst] at hnext
   obtain ⟨hb1, hb2⟩ := strN_le hst
   clear hst
   replace hp2 := hp2.up l2
   replace j3 := j3.vmono l2
   induction (show Vz z2 (eP eI eI (((pre.length : Nat) : Int), (e : Int))) sv from hsv) using vzP_use with | _ T u1 u2 hT hu1 hu2 _ => ?_
   walk_at "v"
   walk_at "t"
   walk_at "t"
   refine callE_k (by k_is) ((s_search_chosen w (k := k) (wide := wide) (hR.down rfl) hl hW2 (by exact Nat.le_of_lt hpl) hb2 hp2 hsv).apart fun cv z3 l3 hcv => ?_)
   obtain ⟨hc1, hc2⟩ := chosenF_in (ps := ps) (wide := wide) hb1 hb2
   replace hp2 := hp2.up l3
   replace j3 := j3.vmono l3
   generalize chosenF ps wide (pre.length, e) = st at *
   obtain ⟨fi, be⟩ := st
   induction hcv using vzP_use with | _ T2 w1 w2 hT2 hw1 hw2' hcv => ?_
   induction hw1 using vzI_use with | _ t4 hw1 => ?_
   induction hw2' using vzI_use with | _ t5 hw2' => ?_
   have hc1 : fi < be := hc1
   have hc2 : be ≤ ps.length := hc2
   have hg1 := getD_at (ps := ps) (i := fi) (by exact Nat.lt_of_lt_of_le hc1 hc2)
   have hg2 := getD_at (ps := ps) (i := be - 1) (by exact Nat.lt_of_lt_of_le (Nat.sub_lt (Nat.zero_lt_of_lt hc1) (Nat.zero_lt_succ _)) hc2)
   clear hu1 hu2 hT hsv hcv hw1 hw2'
   walk_at "v"
   walk_at "n"
   walk_at "t"
   walk_at "t"
   intro t6
   refine item_tat (i := 0) (.inl hT2) rfl rfl (by simp) ?_
   walk_at "v"
   refine item_P hp2 (i := fi) rfl hg1 (by exact Nat.le_trans hl (Nat.le_of_ble_eq_true rfl)) fun q1 hq1 => ?_
   refine (piece_attrs hq1).2.1 fun t7 => ?_
   walk_at "v"
   intro t8
   refine item_tat (i := 1) (.inl hT2) rfl rfl (by simp) ?_
   walk_at "v"
   intro t10 t11
   refine item_P hp2 (i := be - 1) (by show ((be : Nat) : Int) - 1 = _; omega) hg2 (by exact Nat.le_trans hl (Nat.le_of_ble_eq_true rfl)) fun q2 hq2 => ?_
   refine (piece_attrs hq2).2.2.1 fun t12 => ?_
   walk_at "v"
   intro T3 hT3
   walk_at "v"
   have hnext2 : (List.range (pre ++ [((pre.length : Nat) : Int)]).length).foldl (stepF ps wd wide) [] = addF acc ((ps.getD fi (0, 0, [])).1, (ps.getD (be - 1) (0, 0, [])).2.1) := hnext
   clear hnext
   unfold addF at hnext2
   replace j3 := j3.vmono (Le.fset (lo := .tup [.int (ps.getD fi (0, 0, [])).1 t7, .int (ps.getD (be - 1) (0, 0, [])).2.1 t12]) hT3)
   have hT4 : ∀ {z'}, Le (fset z3 T3 (.tup [.int (ps.getD fi (0, 0, [])).1 t7, .int (ps.getD (be - 1) (0, 0, [])).2.1 t12])) z' → Vz z' (eP eI eI ((ps.getD fi (0, 0, [])).1, (ps.getD (be - 1) (0, 0, [])).2.1)) (.ref T3) := fun l => (vzP_mk (a := T3) (l _ _ fset_self) vzI_mk vzI_mk)
   clear hg1 hg2 hq1 hq2
   generalize ((ps.getD fi (0, 0, [])).1, (ps.getD (be - 1) (0, 0, [])).2.1) = pl at *
   generalize fset z3 T3 (.tup [.int (ps.getD fi (0, 0, [])).1 t7, .int (ps.getD (be - 1) (0, 0, [])).2.1 t12]) = z4 at *
   walk_at "t"
   refine .inr fun D3 hD3 => ?_
   walk_at "v"
   refine eq_W (x := acc) (y := []) (hR.less (Nat.zero_le _)) (Enc.pair Enc.int Enc.int).list (by decide) (.inr ⟨F, ws, _, rfl, rfl, .inr (.head _), vzAll_iff.mpr (All2.map.mpr (j3.vmono (Le.fset hD3)))⟩) (.inl (vzL_mk (a := D3) (vs := []) fset_self trivial)) ?_
   walk_at "v"
   refine brE_dec (fun h1 => ?_) (fun h1 => ?_)
   ·subst h1
    rw [if_neg (by simp)] at hnext2
    walk_at "t"
    refine meth_lst (.inr (.head _)) PySem.F.slot_list_append PySem.F.type_list_append ?_
    walk_at "v"
    refine callE_b (append_W .head (by exact Nat.le_of_lt (Nat.lt_of_lt_of_le (Nat.lt_of_lt_of_le (Nat.lt_of_le_of_lt (Nat.le_trans (Nat.le_of_eq hwsl) j2) hpl) hl) (Nat.le_of_ble_eq_true rfl))) ?_)
    walk_at "v"
    walk_at "n"
    walk_at "n"
    walk_at "n"
    exact hQB _ _ _ _ fun l9 => fun u_ k9 => k9 _ _ _ _ _ hnext2.symm (by rw [List.length_append, List.length_singleton]; omega) ((j3.vmono (Le.fset hD3)).snoc (hT4 (Le.fset hD3)))
   ·obtain ⟨ys, y, rfl⟩ : ∃ ys y, acc = ys ++ [y] := ⟨acc.dropLast, acc.getLast h1, (List.dropLast_concat_getLast h1).symm⟩
    rw [List.getLast?_concat] at hnext2
    simp only [List.length_append, List.length_singleton] at hwsl j2
    refine oEEAA j3.snoc_inv fun wsi u e0_ g1 g2 => ?_
    subst e0_
    intro t13 t14
    refine item_last (.inr (.head _)) rfl (by rw [List.length_append, List.length_singleton] at hwsl; omega) ?_
    induction g2 using vzP_use with | _ ua ux uy hua hux huy g2 => ?_
    walk_at "v"
    refine ne_W (x := y) (y := pl) (hR.less (Nat.zero_le _)) (Enc.pair Enc.int Enc.int) (by decide) (.inl (g2.up (Le.fset hD3))) (.inl (hT4 (Le.fset hD3))) ?_
    walk_at "v"
    refine brE_not (brE_dec (fun h2 => ?_) (fun h2 => ?_))
    ·rw [if_pos (by rw [h2])] at hnext2
     walk_at "n"
     walk_at "n"
     walk_at "n"
     exact hQB _ _ _ _ fun l9 => fun u_ k9 => k9 _ _ _ _ _ hnext2.symm (by rw [List.length_append, List.length_singleton]; omega) (j3.vmono (Le.fset hD3))
    ·rw [if_neg (fun e => h2 (Option.some.inj e))] at hnext2
     walk_at "t"
     refine meth_lst (.inr (.head _)) PySem.F.slot_list_append PySem.F.type_list_append ?_
     walk_at "v"
     refine callE_b (append_W .head (by exact Nat.le_trans (Nat.le_trans (Nat.le_of_eq hwsl) (Nat.add_le_add (Nat.le_of_lt (Nat.lt_of_lt_of_le (Nat.lt_trans j2 hpl) hl)) (Nat.le_refl _))) (Nat.le_of_ble_eq_true rfl)) ?_)
     walk_at "v"
     walk_at "n"
     walk_at "n"
     walk_at "n"
     exact hQB _ _ _ _ fun l9 => fun u_ k9 => k9 _ _ _ _ _ hnext2.symm (by rw [List.length_append, List.length_singleton, List.length_append, List.length_singleton]; omega) ((j3.vmono (Le.fset hD3)).snoc (hT4 (Le.fset hD3)))
 ·intro m' zi ni l6 hJ
  apply hJ
  intro a b c acc ws j1 j2 j3
  rw [fromI_len, ← hS0] at j1
  subst j1
  walk_at "v"
  refine exs_freeze fun hF => ?_
  walk_at "t"
  exact hQF _ _ _ _ fun u_ => ⟨[], List.nil_sublist _, rfl, vzL_mk (a := F) fset_self (j3.vmono (Le.fset hF))⟩
theorem searcher_init (w : World) {A : Around} {k : Nat} (hA : Room A (k + 12)) {z : Fz} {n : Led} {f : Str → Option Value} {rows : Rows} {lon : Int → Nat} {tab pat data : Value} {xs : List Int} {x dx : Addr} {t0 s t u : Nat} (hl : xs.length ≤ 1000) (hs : s ≤ 3) (hlt : ∀ i ∈ xs, i < 1000) (hG : Good rows lon) (hS : Short rows) (hone : ∀ c ∈ xs, (look rows [c]).isSome = true)
  (hT : TableIs z rows lon tab) (hx : Vz z (eL eI xs) pat) (hD : DataIs z f data) (hf : f "ccc" = some (.int 0 t0)) (hf2 : f "dm" = some .none) :
  WCall PySem.Challenge.pw_nt0082_01 w (k0.heap_1 w.params) A (.ref 262) [.ref x, pat, tab, data, .int (s : Nat) t, .str "non-ignorable" u, .bool false] z ((x, .raw (instObj 315 dx)) :: (dx, .att []) :: n)
  fun v z' n' => ∃ wv, v = .none ∧ Vz z' (eL (eL eI) (told s (elems rows xs))) wv ∧ n' = (x, .raw (instObj 315 dx)) :: (dx, .att [("wanted", wv), ("is_whole", .bool false), ("how", .str "non-ignorable" u), ("strength", .int (s : Nat) t), ("data", data), ("table", tab)]) :: n := by
 refine fn_CQ (binds := [("self", .ref x), ("pattern", pat), ("table", tab), ("data", data), ("strength", .int (s : Nat) t), ("how", .str "non-ignorable" u), ("is_whole", .bool false)]) (own := none) (names := ["self", "pattern", "table", "data", "strength", "how", "is_whole"]) (locs := ["self", "pattern", "table", "data", "strength", "how", "is_whole"]) (g := [("search_wanted", Value.ref 188)]) hA (by k_is) (by k_is) (fun _ X => by first | exact BindsTo.of_eq rfl | exact binds_K X rfl (by k_is) rfl rfl rfl) rfl (fun _ => rfl) (by decide +kernel) ⟨⟨rfl, gl_search_wanted w⟩, trivial⟩ fun L env eenv hC hR QF hQF => ?_
 walk_at "t"
 refine setattr_S (by kernel_rfl) rfl (by k_is) (by k_is) (by k_is) (by k_is) ?_
 walk_at "v"
 walk_at "t"
 refine setattr_S (by kernel_rfl) rfl (by k_is) (by k_is) (by k_is) (by k_is) ?_
 walk_at "v"
 walk_at "t"
 refine setattr_S (by kernel_rfl) rfl (by k_is) (by k_is) (by k_is) (by k_is) ?_
 walk_at "v"
 walk_at "t"
 refine setattr_S (by kernel_rfl) rfl (by k_is) (by k_is) (by k_is) (by k_is) ?_
 walk_at "v"
 walk_at "t"
 refine setattr_S (by kernel_rfl) rfl (by k_is) (by k_is) (by k_is) (by k_is) ?_
 walk_at "v"
 walk_at "t"
 refine callE_k (by k_is) ((s_search_wanted w (k := k) hR hl hs hlt hG hS hone hT hx hD hf hf2).apart fun wv z1 l1 hwv => ?_)
 refine setattr_W (.inr (.head _)) (.tail .head) (by kernel_rfl) (Nat.le_of_ble_eq_true rfl) (by k_is) (by k_is) (by k_is) (by k_is) ?_
 walk_at "v"
 walk_at "n"
 exact hQF _ _ _ _ fun u_ => ⟨_, List.Sublist.refl _, wv, rfl, hwv, rfl⟩
theorem s_searcher (w : World) {A : Around} {k : Nat} (hA : Room A (k + 13)) {z : Fz} {n : Led} {f : Str → Option Value} {rows : Rows} {lon : Int → Nat} {tab pat data : Value} {xs : List Int} {t0 s t u : Nat} (hl : xs.length ≤ 1000) (hs : s ≤ 3) (hlt : ∀ i ∈ xs, i < 1000) (hG : Good rows lon) (hS : Short rows) (hone : ∀ c ∈ xs, (look rows [c]).isSome = true)
  (hT : TableIs z rows lon tab) (hx : Vz z (eL eI xs) pat) (hD : DataIs z f data) (hf : f "ccc" = some (.int 0 t0)) (hf2 : f "dm" = some .none) {Q : KV} (q : ∀ v z', Le z z' → SearchIs z' rows lon f s (told s (elems rows xs)) v → Q v z' n) :
  callE PySem.Challenge.pw_nt0082_01 w (k0.heap_1 w.params) A (.ref 315) [pat, tab, data, .int (s : Nat) t, .str "non-ignorable" u, .bool false] z n Q := by
 refine callE_k (by k_is) (W.mono (Q := fun v z' n' => ∃ z0, Le z z0 ∧ Le z0 z' ∧ SearchIs z' rows lon f s (told s (elems rows xs)) v ∧ n' = n) (W.post_fz2 (WCall.W (make_W hA (by k_is) (by k_is) (by k_is) fun x dx A' hA' => ?_))) fun v z' n' l h => ?_)
 ·intro s1 hs1
  refine codeAny_mono (searcher_init w hA' (n := n) hl hs hlt hG hS hone hT hx hD hf hf2 s1 hs1) fun r s' h => ?_
  refine oEEEAA h fun v z' n' e st h_ => oEAA h_ fun wv e1 e2 e3 => ?_
  clear h
  subst e1 e3
  exact ⟨_, _, _, e, st, rfl, x, _, dx, _, n, rfl, fun z2 l h1 h2 => ⟨z', st.zle, l, ⟨x, dx, wv, tab, data, t, u, rfl, h1, h2, e2.up l, hT.mono (Le.trans st.zle l), hD.mono (Le.trans st.zle l)⟩, rfl⟩⟩
 ·refine oEAAA h ?_
  clear h
  intro z0 l1 l2 h e
  subst e
  exact q v z' l h
theorem searcher_attrs {w : World} {A : Around} {z : Fz} {n : Led} {rows : Rows} {lon : Int → Nat} {f : Str → Option Value} {s : Nat} {wd : List (List Int)} {v : Value} (h : SearchIs z rows lon f s wd v) :
  (∀ {Q : KV}, (∀ u, Vz z (eL (eL eI) wd) u → Q u z n) → attrE PySem.Challenge.pw_nt0082_01 w (k0.heap_1 w.params) A v "wanted" z n Q) ∧
  (∀ {Q : KV}, (∀ u, TableIs z rows lon u → Q u z n) → attrE PySem.Challenge.pw_nt0082_01 w (k0.heap_1 w.params) A v "table" z n Q) ∧
  (∀ {Q : KV}, (∀ u, DataIs z f u → Q u z n) → attrE PySem.Challenge.pw_nt0082_01 w (k0.heap_1 w.params) A v "data" z n Q) ∧
  (∀ {Q : KV}, (∀ t, Q (.int (s : Nat) t) z n) → attrE PySem.Challenge.pw_nt0082_01 w (k0.heap_1 w.params) A v "strength" z n Q) ∧
  (∀ {Q : KV}, (∀ t, Q (.str "non-ignorable" t) z n) → attrE PySem.Challenge.pw_nt0082_01 w (k0.heap_1 w.params) A v "how" z n Q) ∧
  (∀ {Q : KV}, Q (.bool false) z n → attrE PySem.Challenge.pw_nt0082_01 w (k0.heap_1 w.params) A v "is_whole" z n Q) := by
 refine oEE h.ex fun x dx h_ => oEE h_ fun wv tab h_ => oEEEAAAAA h_ fun data t u e0_ h1 h2 h3 h4 h5 => ?_
 subst e0_
 have I : Inst z n 315 x dx [("wanted", wv), ("is_whole", .bool false), ("how", .str "non-ignorable" u), ("strength", .int (s : Nat) t), ("data", data), ("table", tab)] := ⟨.inl h1, .inl h2⟩
 refine ⟨fun q => attr_W I (v := wv) (by kernel_rfl) (by k_is) (by k_is) (by k_is) ?_ (q _ h3), fun q => attr_W I (v := tab) (by kernel_rfl) (by k_is) (by k_is) (by k_is) ?_ (q _ h4), fun q => attr_W I (v := data) (by kernel_rfl) (by k_is) (by k_is) (by k_is) ?_ (q _ h5), fun q => attr_W I (v := .int (s : Nat) t) (by kernel_rfl) (by k_is) (by k_is) (by k_is) rfl (q _), fun q => attr_W I (v := .str "non-ignorable" u) (by kernel_rfl) (by k_is) (by k_is) (by k_is) rfl (q _), fun q => attr_W I (v := .bool false) (by kernel_rfl) (by k_is) (by k_is) (by k_is) rfl q⟩
 ·induction h3 using vzL_use with | _ a vs _ _ h3 => ?_
  rfl
 ·refine oEEE h4.ex fun x dx T h_ => oEEE h_ fun G xs u1 h_ => oEEEA h_ fun u2 mG f e0_ u_ => ?_
  subst e0_
  rfl
 ·refine oEEE h5.ex fun x dx D h_ => oEEE h_ fun M m u1 h_ => oEA h_ fun u2 e0_ u_ => ?_
  subst e0_
  rfl
theorem searcher_meth {w : World} {A : Around} {z : Fz} {n : Led} {rows : Rows} {lon : Int → Nat} {f : Str → Option Value} {s : Nat} {wd : List (List Int)} {v : Value} (h : SearchIs z rows lon f s wd v) {name : Str} {fa : Addr} {Q : Value → List Value → Fz → Led → Prop}
  (h1 : (name == "wanted" || name == "is_whole" || name == "how" || name == "strength" || name == "data" || name == "table") = false) (h2 : findIn (k0.heap_1 w.params) (.ref 315) name = some (some (.ref fa))) (h3 : typeIn (k0.heap_1 w.params) (.ref fa) = some (.type "function")) (q : Q (.ref fa) [v] z n) : methE PySem.Challenge.pw_nt0082_01 w (k0.heap_1 w.params) A v name z n Q := by
 refine oEE h.ex fun x dx h_ => oEE h_ fun wv tab h_ => oEEEAAA h_ fun data t u e0_ h4 h5 u_ => ?_
 subst e0_
 simp only [Bool.or_eq_false_iff, beq_eq_false_iff_ne] at h1
 refine meth_W (C := 315) (x := x) (dx := dx) ⟨.inl h4, .inl h5⟩ ?_ (by k_is) (by k_is) h2 h3 q
 simp only [lkv, h1, if_false]
theorem s_all_in (w : World) {A : Around} {k : Nat} (hA : Room A (k + 11)) {z : Fz} {f : Str → Option Value} {rows : Rows} {lon : Int → Nat} {sv text : Value} {xs : List Int} {wd : List (List Int)} {t0 s : Nat} {wide : Bool} {args : List Value} (hargs : args = [sv, text, .bool wide] ∨ (args = [sv, text] ∧ wide = false)) (hl : xs.length ≤ 400) (hs : s ≤ 3) (hlt : ∀ i ∈ xs, i < 1000) (hG : Good rows lon) (hS : Short rows) (hone : ∀ c ∈ xs, (look rows [c]).isSome = true)
  (hwl : wd.length = s) (hws : ∀ l ∈ wd, l.length ≤ 1000) (hI : SearchIs z rows lon f s wd sv) (hx : Vz z (eL eI xs) text) (hf : f "ccc" = some (.int 0 t0)) (hf2 : f "dm" = some .none) :
  Wp w A (call (.ref 270) args []) z [] fun v z' n' => n' = [] ∧ Vz z' (eL (eP eI eI) (allF (piecesF rows s xs) wd wide)) v := by
 have main : ∀ (L : Addr) (env : Env), True := fun u_ u_ => trivial
 have hpl := pieces_len hS s xs
 have hpw := pieces_wide hS s xs
 rcases hargs with rfl | ⟨rfl, rfl⟩
 ·refine WCall.W ?_
  refine fn_CQ (binds := [("self", sv), ("text", text), ("is_wide", .bool wide)]) (own := none) (names := ["self", "text", "is_wide"]) (locs := ["self", "text", "is_wide", "pieces", "ends"]) (g := [("search_pieces", Value.ref 181), ("search_all", Value.ref 240)]) hA (by k_is) (by k_is) (fun _ X => by first | exact BindsTo.of_eq rfl | exact binds_K X rfl (by k_is) rfl rfl rfl) rfl (fun _ => rfl) (by decide +kernel) ⟨⟨rfl, gl_search_pieces w⟩, ⟨⟨rfl, gl_search_all w⟩, trivial⟩⟩ fun L env eenv hC hR QF hQF => ?_
  walk_at "t"
  refine (searcher_attrs hI).2.1 fun tab hT => ?_
  walk_at "v"
  refine (searcher_attrs hI).2.2.1 fun data hD => ?_
  walk_at "v"
  refine (searcher_attrs hI).2.2.2.1 fun t1 => ?_
  walk_at "v"
  refine (searcher_attrs hI).2.2.2.2.1 fun t2 => ?_
  walk_at "v"
  refine callE_k (by k_is) ((s_search_pieces w (k := k) hR hl hs hlt hG hS hone hT hx hD hf hf2).apart fun pv z1 l1 hpv => ?_)
  walk_at "v"
  walk_at "t"
  refine (searcher_attrs (hI.mono l1)).2.2.2.2.2 ?_
  walk_at "v"
  walk_at "t"
  refine (searcher_attrs (hI.mono l1)).1 fun wv hwv => ?_
  walk_at "v"
  refine callE_k (by k_is) ((s_search_all w (k := k) (hR.down rfl) (by exact Nat.le_trans (Nat.le_trans hpl hl) (Nat.le_of_ble_eq_true rfl)) (hwl ▸ hpw) (by exact Nat.le_trans (Nat.le_trans (Nat.le_of_eq hwl) hs) (Nat.le_of_ble_eq_true rfl)) hws hpv hwv).apart fun v z2 l2 hv => ?_)
  walk_at "e"
  exact hQF _ _ _ _ fun u_ => ⟨[], List.nil_sublist _, rfl, hv⟩
 ·refine WCall.W ?_
  refine fn_CQ (binds := [("self", sv), ("text", text), ("is_wide", .bool false)]) (own := none) (names := ["self", "text", "is_wide"]) (locs := ["self", "text", "is_wide", "pieces", "ends"]) (g := [("search_pieces", Value.ref 181), ("search_all", Value.ref 240)]) hA (by k_is) (by k_is) (fun _ X => by first | exact BindsTo.of_eq rfl | exact binds_K X rfl (by k_is) rfl rfl rfl) rfl (fun _ => rfl) (by decide +kernel) ⟨⟨rfl, gl_search_pieces w⟩, ⟨⟨rfl, gl_search_all w⟩, trivial⟩⟩ fun L env eenv hC hR QF hQF => ?_
  walk_at "t"
  refine (searcher_attrs hI).2.1 fun tab hT => ?_
  walk_at "v"
  refine (searcher_attrs hI).2.2.1 fun data hD => ?_
  walk_at "v"
  refine (searcher_attrs hI).2.2.2.1 fun t1 => ?_
  walk_at "v"
  refine (searcher_attrs hI).2.2.2.2.1 fun t2 => ?_
  walk_at "v"
  refine callE_k (by k_is) ((s_search_pieces w (k := k) hR hl hs hlt hG hS hone hT hx hD hf hf2).apart fun pv z1 l1 hpv => ?_)
  walk_at "v"
  walk_at "t"
  refine (searcher_attrs (hI.mono l1)).2.2.2.2.2 ?_
  walk_at "v"
  walk_at "t"
  refine (searcher_attrs (hI.mono l1)).1 fun wv hwv => ?_
  walk_at "v"
  refine callE_k (by k_is) ((s_search_all w (k := k) (hR.down rfl) (by exact Nat.le_trans (Nat.le_trans hpl hl) (Nat.le_of_ble_eq_true rfl)) (hwl ▸ hpw) (by exact Nat.le_trans (Nat.le_trans (Nat.le_of_eq hwl) hs) (Nat.le_of_ble_eq_true rfl)) hws hpv hwv).apart fun v z2 l2 hv => ?_)
  walk_at "e"
  exact hQF _ _ _ _ fun u_ => ⟨[], List.nil_sublist _, rfl, hv⟩
theorem all_in (w : World) {A : Around} {k : Nat} (hA : Room A (k + 11)) {z : Fz} {f : Str → Option Value} {rows : Rows} {lon : Int → Nat} {sv text : Value} {xs : List Int} {wd : List (List Int)} {s : Nat} {wide : Bool} {args : List Value} (hargs : args = [sv, text, .bool wide] ∨ (args = [sv, text] ∧ wide = false))
  (h : RdyS rows lon f s wd) (hX : TextOk rows xs) (hI : SearchIs z rows lon f s wd sv) (hx : Vz z (eL eI xs) text) :
  Wp w A (call (.ref 270) args []) z [] fun v z' n' => n' = [] ∧ Vz z' (eL (eP eI eI) (foundF rows s wd xs wide)) v := by
 obtain ⟨t0, hf⟩ := h.hf
 exact s_all_in w hA hargs hX.1 h.hs (fun i hi => (hX.2 i hi).1) h.hG h.hS (fun i hi => (hX.2 i hi).2) h.hwl h.hws hI hx hf h.hf2
theorem s_next_from (w : World) {A : Around} {k : Nat} (hA : Room A (k + 12)) {z : Fz} {f : Str → Option Value} {rows : Rows} {lon : Int → Nat} {sv text : Value} {xs : List Int} {wd : List (List Int)} {s : Nat} {a : Int} {t : Nat}
  (h : RdyS rows lon f s wd) (hX : TextOk rows xs) (hI : SearchIs z rows lon f s wd sv) (hx : Vz z (eL eI xs) text) :
  Wp w A (call (.ref 277) [sv, text, .int a t] []) z [] fun v z' n' => n' = [] ∧ Vz z' (eO (eP eI eI) (firstF a (foundF rows s wd xs false))) v := by
 refine WCall.W ?_
 refine fn_CQ (binds := [("self", sv), ("text", text), ("at", .int a t)]) (own := none) (names := ["self", "text", "at"]) (locs := ["self", "text", "at", "first", "behind"]) (g := []) hA (by k_is) (by k_is) (fun _ X => by first | exact BindsTo.of_eq rfl | exact binds_K X rfl (by k_is) rfl rfl rfl) rfl (fun _ => rfl) (by decide +kernel) trivial fun L env eenv hC hR QF hQF => ?_
 walk_at "v"
 let J : List (Int × Int) → M → Fz → Led → Prop := fun pre m' z' n' => ∀ GG9 : M → Led → Prop, (∀ b c, ((∀ post, firstF a (pre ++ post) = firstF a post)) → GG9 (([("self", some (sv)), ("text", some (text)), ("at", some (.int a t)), ("first", b), ("behind", c)] : M)) ([])) → GG9 m' n'
 walk_at "e"
 refine @exs_semQ _ _ _ _ _ _ _ _ _ _ _ fun QS hQS => for_dataQ hC J ?_
 walk_at "v"
 refine searcher_meth hI (by decide +kernel) (by k_is) (by k_is) ?_
 walk_at "v"
 refine callE_k (by k_is) ((all_in w (k := k) (wide := false) hR (.inr ⟨rfl, rfl⟩) h hX hI hx).apart fun v z1 l1 hv => ?_)
 refine LoopL_mk hC (eP eI eI) (foundF rows s wd xs false) hv (fun u_ k9 => k9 none none (fun u_ => rfl)) ?_ ?_
 ·intro pre x post v m' zi zi' ni hxs l2 l3 hv hJ QB hQB
  apply hJ
  intro b c j1
  obtain ⟨p, q⟩ := x
  induction hv using vzP_use with | _ T u1 u2 hT hu1 hu2 hv => ?_
  induction hu1 using vzI_use with | _ t2 hu1 => ?_
  induction hu2 using vzI_use with | _ t3 hu2 => ?_
  walk_at "v"
  refine unp_mk (.inl hT) rfl ?_
  walk_at "v"
  walk_at "t"
  refine brE_dec (fun h1 => ?_) (fun h1 => ?_)
  ·walk_at "t"
   intro T2 hT2
   walk_at "e"
   refine hQB _ _ _ _ fun u_ => Ends.ret (by assumption) (hQF _ _ _ _ fun u_ => ⟨[], List.nil_sublist _, rfl, ?_⟩)
   rw [hxs, j1, firstF_c, if_pos h1]
   exact vzP_mk (a := T2) fset_self vzI_mk vzI_mk
  ·walk_at "n"
   walk_at "n"
   refine hQB _ _ _ _ fun l4 => fun u_ k9 => k9 _ _ (fun post => ?_)
   rw [List.append_assoc, j1]
   show (if a ≤ p then _ else firstF a post) = _
   rw [if_neg h1]
 ·intro m' zi ni l2 hJ
  apply hJ
  intro b c j1
  walk_at "v"
  walk_at "t"
  have j2 := j1 []
  rw [List.append_nil] at j2
  rw [j2] at hQF
  walk_at "e"
  exact hQF _ _ _ _ fun u_ => ⟨[], List.nil_sublist _, rfl, rfl⟩
theorem s_previous_from (w : World) {A : Around} {k : Nat} (hA : Room A (k + 12)) {z : Fz} {f : Str → Option Value} {rows : Rows} {lon : Int → Nat} {sv text : Value} {xs : List Int} {wd : List (List Int)} {s : Nat} {a : Int} {t : Nat}
  (h : RdyS rows lon f s wd) (hX : TextOk rows xs) (hI : SearchIs z rows lon f s wd sv) (hx : Vz z (eL eI xs) text) :
  Wp w A (call (.ref 284) [sv, text, .int a t] []) z [] fun v z' n' => n' = [] ∧ Vz z' (eO (eP eI eI) (lastF a (foundF rows s wd xs false).reverse)) v := by
 have hfl := foundF_len (wide := false) h hX
 refine WCall.W ?_
 refine fn_CQ (binds := [("self", sv), ("text", text), ("at", .int a t)]) (own := none) (names := ["self", "text", "at"]) (locs := ["self", "text", "at", "first", "behind"]) (g := []) hA (by k_is) (by k_is) (fun _ X => by first | exact BindsTo.of_eq rfl | exact binds_K X rfl (by k_is) rfl rfl rfl) rfl (fun _ => rfl) (by decide +kernel) trivial fun L env eenv hC hR QF hQF => ?_
 walk_at "v"
 let J : List (Int × Int) → M → Fz → Led → Prop := fun pre m' z' n' => ∀ GG9 : M → Led → Prop, (∀ b c, ((∀ post, lastF a (pre ++ post) = lastF a post)) → GG9 (([("self", some (sv)), ("text", some (text)), ("at", some (.int a t)), ("first", b), ("behind", c)] : M)) ([])) → GG9 m' n'
 walk_at "e"
 refine @exs_semQ _ _ _ _ _ _ _ _ _ _ _ fun QS hQS => for_dataQ hC J ?_
 walk_at "v"
 refine searcher_meth hI (by decide +kernel) (by k_is) (by k_is) ?_
 walk_at "v"
 refine callE_k (by k_is) ((all_in w (k := k) (wide := false) hR (.inr ⟨rfl, rfl⟩) h hX hI hx).apart fun v z1 l1 hv => ?_)
 walk_at "v"
 intro t4 t5
 refine slice_rev hv rfl (by exact Nat.le_trans hfl (Nat.le_of_ble_eq_true rfl)) fun z2 rv l2 hrv => ?_
 refine LoopL_mk hC (eP eI eI) _ hrv (fun u_ k9 => k9 none none (fun u_ => rfl)) ?_ ?_
 ·intro pre x post v m' zi zi' ni hxs l2 l3 hv hJ QB hQB
  apply hJ
  intro b c j1
  obtain ⟨p, q⟩ := x
  induction hv using vzP_use with | _ T u1 u2 hT hu1 hu2 hv => ?_
  induction hu1 using vzI_use with | _ t2 hu1 => ?_
  induction hu2 using vzI_use with | _ t3 hu2 => ?_
  walk_at "v"
  refine unp_mk (.inl hT) rfl ?_
  walk_at "v"
  walk_at "t"
  refine brE_dec (fun h1 => ?_) (fun h1 => ?_)
  ·walk_at "t"
   intro T2 hT2
   walk_at "e"
   refine hQB _ _ _ _ fun u_ => Ends.ret (by assumption) (hQF _ _ _ _ fun u_ => ⟨[], List.nil_sublist _, rfl, ?_⟩)
   rw [hxs, j1, lastF_c, if_pos h1]
   exact vzP_mk (a := T2) fset_self vzI_mk vzI_mk
  ·walk_at "n"
   walk_at "n"
   refine hQB _ _ _ _ fun l4 => fun u_ k9 => k9 _ _ (fun post => ?_)
   rw [List.append_assoc, j1]
   show (if q ≤ a then _ else lastF a post) = _
   rw [if_neg h1]
 ·intro m' zi ni l2 hJ
  apply hJ
  intro b c j1
  walk_at "v"
  walk_at "t"
  have j2 := j1 []
  rw [List.append_nil] at j2
  rw [j2] at hQF
  walk_at "e"
  exact hQF _ _ _ _ fun u_ => ⟨[], List.nil_sublist _, rfl, rfl⟩
theorem s_is_begun (w : World) {A : Around} {k : Nat} (hA : Room A (k + 12)) {z : Fz} {f : Str → Option Value} {rows : Rows} {lon : Int → Nat} {sv text : Value} {xs : List Int} {wd : List (List Int)} {s : Nat}
  (h : RdyS rows lon f s wd) (hX : TextOk rows xs) (hI : SearchIs z rows lon f s wd sv) (hx : Vz z (eL eI xs) text) :
  Wp w A (call (.ref 291) [sv, text] []) z [] fun v z' n' => n' = [] ∧ v = .bool (begunF (foundF rows s wd xs true)) := by
 have hfl := foundF_len (wide := true) h hX
 refine WCall.W ?_
 refine fn_CQ (binds := [("self", sv), ("text", text)]) (own := none) (names := ["self", "text"]) (locs := ["self", "text", "found"]) (g := []) hA (by k_is) (by k_is) (fun _ X => by first | exact BindsTo.of_eq rfl | exact binds_K X rfl (by k_is) rfl rfl rfl) rfl (fun _ => rfl) (by decide +kernel) trivial fun L env eenv hC hR QF hQF => ?_
 walk_at "t"
 refine searcher_meth hI (by decide +kernel) (by k_is) (by k_is) ?_
 walk_at "v"
 refine callE_k (by k_is) ((all_in w (k := k) (wide := true) hR (.inl rfl) h hX hI hx).apart fun v z1 l1 hv => ?_)
 generalize foundF rows s wd xs true = fs at *
 induction hv using vzL_use with | _ fa fvs hfz hfa hv => ?_
 walk_at "v"
 walk_at "t"
 refine .inr fun D hD => ?_
 walk_at "v"
 refine ne_W (x := fs) (y := []) (hR.less (Nat.zero_le _)) (Enc.pair Enc.int Enc.int).list (by decide) (.inl (hv.up (Le.fset hD))) (.inl (vzL_mk (a := D) (vs := []) fset_self trivial)) ?_
 walk_at "v"
 refine brE_not (brE_dec (fun h1 => ?_) (fun h1 => ?_))
 ·subst h1
  walk_at "e"
  exact hQF _ _ _ _ fun u_ => ⟨[], List.nil_sublist _, rfl, rfl⟩
 ·obtain ⟨⟨p, q⟩, r, rfl⟩ : ∃ p r, fs = p :: r := by cases fs with
   | nil => exact absurd rfl h1
   | cons p r => exact ⟨p, r, rfl⟩
  intro t1
  refine item_V (i := 0) (y := (p, q)) (hv.up (Le.fset hD)) rfl rfl (by exact Nat.le_trans hfl (Nat.le_of_ble_eq_true rfl)) fun u hu => ?_
  induction hu using vzP_use with | _ T u1 u2 hT hu1 hu2 hu => ?_
  induction hu1 using vzI_use with | _ t2 hu1 => ?_
  walk_at "v"
  intro t3
  refine item_tat (i := 0) (.inl hT) rfl rfl (by simp) ?_
  walk_at "v"
  intro t4
  walk_at "e"
  exact hQF _ _ _ _ fun u_ => ⟨[], List.nil_sublist _, rfl, rfl⟩
theorem s_is_all (w : World) {A : Around} {k : Nat} (hA : Room A (k + 12)) {z : Fz} {f : Str → Option Value} {rows : Rows} {lon : Int → Nat} {sv text : Value} {xs : List Int} {wd : List (List Int)} {s : Nat}
  (h : RdyS rows lon f s wd) (hX : TextOk rows xs) (hI : SearchIs z rows lon f s wd sv) (hx : Vz z (eL eI xs) text) :
  Wp w A (call (.ref 298) [sv, text] []) z [] fun v z' n' => n' = [] ∧ v = .bool (decide (((0 : Int), (xs.length : Int)) ∈ foundF rows s wd xs true)) := by
 have hxl := hX.1
 refine WCall.W ?_
 refine fn_CQ (binds := [("self", sv), ("text", text)]) (own := none) (names := ["self", "text"]) (locs := ["self", "text"]) (g := [("len", .builtin "len")]) hA (by k_is) (by k_is) (fun _ X => by first | exact BindsTo.of_eq rfl | exact binds_K X rfl (by k_is) rfl rfl rfl) rfl (fun _ => rfl) (by decide +kernel) ⟨⟨rfl, gl_len w⟩, trivial⟩ fun L env eenv hC hR QF hQF => ?_
 walk_at "t"
 intro t1
 refine len_V hx (by exact Nat.le_trans hxl (Nat.le_of_ble_eq_true rfl)) fun t2 => ?_
 walk_at "v"
 intro T hT
 have lT := Le.fset (lo := .tup [.int 0 t1, .int xs.length t2]) hT
 refine searcher_meth (hI.mono lT) (by decide +kernel) (by k_is) (by k_is) ?_
 walk_at "v"
 refine callE_k (by k_is) ((all_in w (k := k) (wide := true) hR (.inl rfl) h hX (hI.mono lT) (hx.up lT)).apart fun v z1 l1 hv => ?_)
 induction hv using vzL_use with | _ fa fvs hfz hfa hv => ?_
 walk_at "v"
 refine in_W (y := ((0 : Int), (xs.length : Int))) (hR.less (Nat.zero_le _)) (Enc.pair Enc.int Enc.int) (by decide) (.inl hv) (.inl (vzP_mk (a := T) (l1 _ _ fset_self) vzI_mk vzI_mk)) ?_
 walk_at "e"
 exact hQF _ _ _ _ fun u_ => ⟨[], List.nil_sublist _, rfl, congrArg Value.bool (decide_eq_decide.mpr Iff.rfl)⟩
theorem s_replaced (w : World) {A : Around} {k : Nat} (hA : Room A (k + 12)) {z : Fz} {f : Str → Option Value} {rows : Rows} {lon : Int → Nat} {sv text ov : Value} {xs ys : List Int} {wd : List (List Int)} {s : Nat}
  (h : RdyS rows lon f s wd) (hX : TextOk rows xs) (hyl : ys.length ≤ 400) (hI : SearchIs z rows lon f s wd sv) (hx : Vz z (eL eI xs) text) (hy : Vz z (eL eI ys) ov) :
  Wp w A (call (.ref 305) [sv, text, ov] []) z [] fun v z' n' => n' = [] ∧ Vz z' (eL eI (replF xs ys 0 (apartF 0 (foundF rows s wd xs false)))) v := by
 have hfl := foundF_len (wide := false) h hX
 have hxl := hX.1
 have hnat : Nats (foundF rows s wd xs false) := allF_nat
 induction hy using vzL_use with | _ ya yvs hyz hya hy => ?_
 have hyv := hya.len
 refine WCall.W ?_
 refine fn_CQ (binds := [("self", sv), ("text", text), ("other", .ref ya)]) (own := none) (names := ["self", "text", "other"]) (locs := ["self", "text", "other", "found", "at", "first", "behind"]) (g := [("search_apart", Value.ref 247)]) hA (by k_is) (by k_is) (fun _ X => by first | exact BindsTo.of_eq rfl | exact binds_K X rfl (by k_is) rfl rfl rfl) rfl (fun _ => rfl) (by decide +kernel) ⟨⟨rfl, gl_search_apart w⟩, trivial⟩ fun L env eenv hC hR QF hQF => ?_
 walk_at "t"
 refine ⟨true, by subst eenv; rfl, ?_⟩
 walk_at "v"
 refine .inl fun F => ?_
 walk_at "v"
 intro t1 T1 hT1
 walk_at "v"
 have lT1 := Le.fset (lo := .tup [.ref F, .int 0 t1]) hT1
 replace hI := hI.mono lT1
 replace hx := hx.up lT1
 replace hyz := lT1 _ _ hyz
 replace hya := hya.vmono lT1
 generalize fset z T1 (.tup [.ref F, .int 0 t1]) = z0 at *
 let J : List (Int × Int) → M → Fz → Led → Prop := fun pre m' z' n' => ∀ GG9 : M → Led → Prop, (∀ b c acc r t ws, (acc.length ≤ 800 * pre.length) → ((∀ post, replF xs ys 0 (pre ++ post) = acc ++ replF xs ys r post)) → (All2 (fun x v => Vz z' (eI x) v) acc ws) → GG9 (([("self", some (sv)), ("text", some (text)), ("other", some (.ref ya)), ("found", some (.ref F)), ("at", some (.int (r : Nat) t)), ("first", b), ("behind", c)] : M)) ([(F, .lst ws)])) → GG9 m' n'
 walk_at "e"
 refine @exs_semQ _ _ _ _ _ _ _ _ _ _ _ fun QS hQS => for_dataQ hC J ?_
 walk_at "v"
 refine searcher_meth hI (by decide +kernel) (by k_is) (by k_is) ?_
 walk_at "v"
 refine callE_k (by k_is) ((all_in w (k := k) (wide := false) hR (.inr ⟨rfl, rfl⟩) h hX hI hx).apart fun v z1 l1 hv => ?_)
 walk_at "v"
 refine callE_k (by k_is) ((s_search_apart w (k := k) (hR.down rfl) (by exact Nat.le_trans hfl (Nat.le_of_ble_eq_true rfl)) hv).apart fun av z2 l2 hav => ?_)
 have hal := apartF_len 0 (foundF rows s wd xs false)
 have han : Nats (apartF 0 (foundF rows s wd xs false)) := fun p hp => hnat p (apartF_mem hp)
 generalize apartF 0 (foundF rows s wd xs false) = fs at *
 replace hx := hx.up (l1.trans l2)
 replace hyz := (l1.trans l2) _ _ hyz
 replace hya := hya.vmono (l1.trans l2)
 clear hv hI hnat
 refine LoopL_mk hC (eP eI eI) fs hav (fun u_ k9 => k9 none none [] 0 t1 [] (Nat.le_refl _) (fun u_ => rfl) trivial) ?_ ?_
 ·intro pre x post v m' zi zi' ni hxs l3 l4 hv hJ QB hQB
  apply hJ
  intro b c acc r t ws j1 j2 j3
  obtain ⟨p, q⟩ := x
  induction hv using vzP_use with | _ T u1 u2 hT hu1 hu2 hv => ?_
  induction hu1 using vzI_use with | _ t2 hu1 => ?_
  induction hu2 using vzI_use with | _ t3 hu2 => ?_
  have hpl : pre.length < fs.length := by rw [hxs]; simp
  obtain ⟨hp0, hq0⟩ := han (p, q) (by rw [hxs]; simp)
  obtain ⟨p', rfl⟩ := Int.eq_ofNat_of_zero_le hp0
  obtain ⟨q', rfl⟩ := Int.eq_ofNat_of_zero_le hq0
  have hwl := j3.len
  replace j3 := j3.vmono l4
  have l5 := l3.trans l4
  clear hxs hp0 hq0 hu1 hu2 hv
  walk_at "v"
  refine unp_mk (.inl hT) rfl ?_
  walk_at "v"
  walk_at "t"
  refine meth_lst (.inr (.head _)) PySem.F.slot_list_extend PySem.F.type_list_extend ?_
  walk_at "v"
  refine slice_cut (a := r) (b := p') (hx.up l5) rfl rfl (by exact Nat.le_trans hxl (Nat.le_of_ble_eq_true rfl)) fun z3 u l6 hu => ?_
  induction hu using vzL_use with | _ ua uvs huz hua hu => ?_
  have hul := hua.len
  have hul2 : ((xs.drop r).take (p' - r)).length ≤ xs.length := by rw [List.length_take, List.length_drop]; omega
  walk_at "v"
  refine cat_W (.inl huz) (.inl ((l5.trans l6) _ _ hyz)) (by exact Nat.le_trans (Nat.add_le_add (Nat.le_trans (Nat.le_trans (Nat.le_of_eq hul) hul2) hxl) (Nat.le_trans (Nat.le_of_eq hyv) hyl)) (Nat.le_of_ble_eq_true rfl)) (.inr fun D hD => ?_)
  walk_at "v"
  refine callE_b (extend_W .head (.inl fset_self) (by rw [List.length_append]; omega) ?_)
  walk_at "v"
  walk_at "t"
  walk_at "n"
  refine hQB _ _ _ _ fun l7 => fun u_ k9 => k9 _ _ (acc ++ ((xs.drop r).take (p' - r) ++ ys)) q' t3 _ ?_ (fun post => ?_) ((j3.vmono l7).append ((hua.vmono (Le.fset hD)).append (hya.vmono (l5.trans l7))))
  ·rw [List.length_append, List.length_append, List.length_append, List.length_singleton]
   first | exact Nat.le_trans (Nat.add_le_add j1 (Nat.le_trans (Nat.add_le_add (Nat.le_trans hul2 hxl) hyl) (Nat.le_refl 800))) (Nat.le_of_eq (Nat.mul_succ 800 pre.length).symm) | lia | omega
  ·rw [List.append_assoc, j2]
   show acc ++ (((xs.drop r).take (((p' : Nat) : Int).toNat - r) ++ ys) ++ replF xs ys ((q' : Nat) : Int).toNat post) = _
   simp only [Int.toNat_natCast, List.append_assoc]
 ·intro m' zi ni l3 hJ
  apply hJ
  intro b c acc r t ws j1 j2 j3
  have j4 := j2 []
  rw [List.append_nil] at j4
  have hwl := j3.len
  rw [j4, replF] at hQF
  clear j2 j4
  walk_at "v"
  refine exs_freeze fun hF => ?_
  walk_at "t"
  refine slice_from (b := r) (hx.up (l3.trans (Le.fset hF))) rfl (by exact Nat.le_trans hxl (Nat.le_of_ble_eq_true rfl)) fun z3 u l6 hu => ?_
  induction hu using vzL_use with | _ ua uvs huz hua hu => ?_
  have hul := hua.len
  rw [List.length_drop] at hul
  walk_at "v"
  refine cat_W (.inl (l6 _ _ fset_self)) (.inl huz) (by first | exact Nat.le_trans (Nat.add_le_add (Nat.le_trans (Nat.le_of_eq hwl) (Nat.le_trans j1 (Nat.mul_le_mul_left 800 (Nat.le_trans hal hfl)))) (Nat.le_trans (Nat.le_of_eq hul) (Nat.le_trans (Nat.sub_le _ _) hxl))) (Nat.le_of_ble_eq_true rfl) | lia | omega) (.inr fun D hD => ?_)
  walk_at "e"
  exact hQF _ _ _ _ fun u_ => ⟨[], List.nil_sublist _, rfl, vzL_mk (a := D) fset_self ((j3.vmono ((Le.fset hF).trans (l6.trans (Le.fset hD)))).append (hua.vmono (Le.fset hD)))⟩
theorem s_parted (w : World) {A : Around} {k : Nat} (hA : Room A (k + 12)) {z : Fz} {f : Str → Option Value} {rows : Rows} {lon : Int → Nat} {sv text : Value} {xs : List Int} {wd : List (List Int)} {s : Nat}
  (h : RdyS rows lon f s wd) (hX : TextOk rows xs) (hI : SearchIs z rows lon f s wd sv) (hx : Vz z (eL eI xs) text) :
  Wp w A (call (.ref 312) [sv, text] []) z [] fun v z' n' => n' = [] ∧ Vz z' (eL (eL eI) (partF xs 0 (apartF 0 (foundF rows s wd xs false)))) v := by
 have hfl := foundF_len (wide := false) h hX
 have hxl := hX.1
 have hnat : Nats (foundF rows s wd xs false) := allF_nat
 refine WCall.W ?_
 refine fn_CQ (binds := [("self", sv), ("text", text)]) (own := none) (names := ["self", "text"]) (locs := ["self", "text", "found", "at", "first", "behind"]) (g := [("search_apart", Value.ref 247)]) hA (by k_is) (by k_is) (fun _ X => by first | exact BindsTo.of_eq rfl | exact binds_K X rfl (by k_is) rfl rfl rfl) rfl (fun _ => rfl) (by decide +kernel) ⟨⟨rfl, gl_search_apart w⟩, trivial⟩ fun L env eenv hC hR QF hQF => ?_
 walk_at "t"
 refine ⟨true, by subst eenv; rfl, ?_⟩
 walk_at "v"
 refine .inl fun F => ?_
 walk_at "v"
 intro t1 T1 hT1
 walk_at "v"
 have lT1 := Le.fset (lo := .tup [.ref F, .int 0 t1]) hT1
 replace hI := hI.mono lT1
 replace hx := hx.up lT1
 generalize fset z T1 (.tup [.ref F, .int 0 t1]) = z0 at *
 let J : List (Int × Int) → M → Fz → Led → Prop := fun pre m' z' n' => ∀ GG9 : M → Led → Prop, (∀ b c acc r t ws, (acc.length ≤ pre.length) → ((∀ post, partF xs 0 (pre ++ post) = acc ++ partF xs r post)) → (All2 (fun x v => Vz z' (eL eI x) v) acc ws) → GG9 (([("self", some (sv)), ("text", some (text)), ("found", some (.ref F)), ("at", some (.int (r : Nat) t)), ("first", b), ("behind", c)] : M)) ([(F, .lst ws)])) → GG9 m' n'
 walk_at "e"
 refine @exs_semQ _ _ _ _ _ _ _ _ _ _ _ fun QS hQS => for_dataQ hC J ?_
 walk_at "v"
 refine searcher_meth hI (by decide +kernel) (by k_is) (by k_is) ?_
 walk_at "v"
 refine callE_k (by k_is) ((all_in w (k := k) (wide := false) hR (.inr ⟨rfl, rfl⟩) h hX hI hx).apart fun v z1 l1 hv => ?_)
 walk_at "v"
 refine callE_k (by k_is) ((s_search_apart w (k := k) (hR.down rfl) (by exact Nat.le_trans hfl (Nat.le_of_ble_eq_true rfl)) hv).apart fun av z2 l2 hav => ?_)
 have hal := apartF_len 0 (foundF rows s wd xs false)
 have han : Nats (apartF 0 (foundF rows s wd xs false)) := fun p hp => hnat p (apartF_mem hp)
 generalize apartF 0 (foundF rows s wd xs false) = fs at *
 replace hx := hx.up (l1.trans l2)
 clear hv hI hnat
 refine LoopL_mk hC (eP eI eI) fs hav (fun u_ k9 => k9 none none [] 0 t1 [] (Nat.le_refl _) (fun u_ => rfl) trivial) ?_ ?_
 ·intro pre x post v m' zi zi' ni hxs l3 l4 hv hJ QB hQB
  apply hJ
  intro b c acc r t ws j1 j2 j3
  obtain ⟨p, q⟩ := x
  induction hv using vzP_use with | _ T u1 u2 hT hu1 hu2 hv => ?_
  induction hu1 using vzI_use with | _ t2 hu1 => ?_
  induction hu2 using vzI_use with | _ t3 hu2 => ?_
  have hpl : pre.length < fs.length := by rw [hxs]; simp
  obtain ⟨hp0, hq0⟩ := han (p, q) (by rw [hxs]; simp)
  obtain ⟨p', rfl⟩ := Int.eq_ofNat_of_zero_le hp0
  obtain ⟨q', rfl⟩ := Int.eq_ofNat_of_zero_le hq0
  have hwl := j3.len
  replace j3 := j3.vmono l4
  have l5 := l3.trans l4
  clear hxs hp0 hq0 hu1 hu2 hv
  walk_at "v"
  refine unp_mk (.inl hT) rfl ?_
  walk_at "v"
  walk_at "t"
  refine meth_lst (.inr (.head _)) PySem.F.slot_list_append PySem.F.type_list_append ?_
  walk_at "v"
  refine slice_cut (a := r) (b := p') (hx.up l5) rfl rfl (by exact Nat.le_trans hxl (Nat.le_of_ble_eq_true rfl)) fun z3 u l6 hu => ?_
  walk_at "v"
  refine callE_b (append_W .head (by exact Nat.le_of_lt (Nat.lt_of_lt_of_le (Nat.lt_of_lt_of_le (Nat.lt_of_lt_of_le (Nat.lt_of_le_of_lt (Nat.le_trans (Nat.le_of_eq hwl) j1) hpl) hal) hfl) (Nat.le_of_ble_eq_true rfl))) ?_)
  walk_at "v"
  walk_at "t"
  walk_at "n"
  refine hQB _ _ _ _ fun l7 => fun u_ k9 => k9 _ _ (acc ++ [(xs.drop r).take (p' - r)]) q' t3 _ ?_ (fun post => ?_) ((j3.vmono l7).snoc hu)
  ·simp only [List.length_append, List.length_singleton]
   exact Nat.lt_of_le_of_lt j1 (Nat.lt_add_of_pos_right (Nat.zero_lt_succ _))
  ·rw [List.append_assoc, j2]
   show acc ++ ((xs.drop r).take (((p' : Nat) : Int).toNat - r) :: partF xs ((q' : Nat) : Int).toNat post) = _
   rw [Int.toNat_natCast, Int.toNat_natCast, List.append_assoc]
   rfl
 ·intro m' zi ni l3 hJ
  apply hJ
  intro b c acc r t ws j1 j2 j3
  have j4 := j2 []
  rw [List.append_nil] at j4
  have hwl := j3.len
  rw [j4, partF] at hQF
  clear j2 j4
  walk_at "v"
  refine exs_freeze fun hF => ?_
  walk_at "t"
  refine slice_from (b := r) (hx.up (l3.trans (Le.fset hF))) rfl (by exact Nat.le_trans hxl (Nat.le_of_ble_eq_true rfl)) fun z3 u l6 hu => ?_
  walk_at "v"
  refine .inr fun B hB => ?_
  walk_at "v"
  refine cat_W (.inl (Le.fset hB _ _ (l6 _ _ fset_self))) (.inl fset_self) (by simp; omega) (.inr fun D hD => ?_)
  walk_at "e"
  exact hQF _ _ _ _ fun u_ => ⟨[], List.nil_sublist _, rfl, vzL_mk (a := D) fset_self ((j3.vmono ((Le.fset hF).trans (l6.trans ((Le.fset hB).trans (Le.fset hD))))).snoc (hu.up ((Le.fset hB).trans (Le.fset hD))))⟩
theorem collbase_init (w : World) {A : Around} {k : Nat} (hA : Room A (k + 1)) {z : Fz} {n : Led} {x dx : Addr} {a b c o : Value} {args : List Value} (hargs : args = [.ref x, a, b, c, o] ∨ (args = [.ref x, a, b, c] ∧ o = .none)) : WCall PySem.Challenge.pw_nt0082_01 w (k0.heap_1 w.params) A (.ref 487) args z ((x, .raw (instObj 497 dx)) :: (dx, .att []) :: n)
  fun v z' n' => v = .none ∧ z' = z ∧ n' = (x, .raw (instObj 497 dx)) :: (dx, .att [("origin", o), ("base", c), ("last", b), ("first", a)]) :: n := by
 rcases hargs with rfl | ⟨rfl, rfl⟩
 ·refine fn_CQ (binds := [("self", .ref x), ("first", a), ("last", b), ("base", c), ("origin", o)]) (own := none) (names := ["self", "first", "last", "base", "origin"]) (locs := ["self", "first", "last", "base", "origin"]) (g := []) hA (by k_is) (by k_is) (fun _ X => by first | exact BindsTo.of_eq rfl | exact binds_K X rfl (by k_is) rfl rfl rfl) rfl (fun _ => rfl) (by decide +kernel) trivial fun L env eenv hC hR QF hQF => ?_
  walk_at "t"
  refine setattr_S (by kernel_rfl) rfl (by k_is) (by k_is) (by k_is) (by k_is) ?_
  walk_at "v"
  walk_at "t"
  refine setattr_S (by kernel_rfl) rfl (by k_is) (by k_is) (by k_is) (by k_is) ?_
  walk_at "v"
  walk_at "t"
  refine setattr_S (by kernel_rfl) rfl (by k_is) (by k_is) (by k_is) (by k_is) ?_
  walk_at "v"
  walk_at "t"
  refine setattr_S (by kernel_rfl) rfl (by k_is) (by k_is) (by k_is) (by k_is) ?_
  walk_at "v"
  walk_at "n"
  exact hQF _ _ _ _ fun u_ => ⟨_, List.Sublist.refl _, rfl, rfl, rfl⟩
 ·refine fn_CQ (binds := [("self", .ref x), ("first", a), ("last", b), ("base", c), ("origin", .none)]) (own := none) (names := ["self", "first", "last", "base", "origin"]) (locs := ["self", "first", "last", "base", "origin"]) (g := []) hA (by k_is) (by k_is) (fun _ X => by first | exact BindsTo.of_eq rfl | exact binds_K X rfl (by k_is) rfl rfl rfl) rfl (fun _ => rfl) (by decide +kernel) trivial fun L env eenv hC hR QF hQF => ?_
  walk_at "t"
  refine setattr_S (by kernel_rfl) rfl (by k_is) (by k_is) (by k_is) (by k_is) ?_
  walk_at "v"
  walk_at "t"
  refine setattr_S (by kernel_rfl) rfl (by k_is) (by k_is) (by k_is) (by k_is) ?_
  walk_at "v"
  walk_at "t"
  refine setattr_S (by kernel_rfl) rfl (by k_is) (by k_is) (by k_is) (by k_is) ?_
  walk_at "v"
  walk_at "t"
  refine setattr_S (by kernel_rfl) rfl (by k_is) (by k_is) (by k_is) (by k_is) ?_
  walk_at "v"
  walk_at "n"
  exact hQF _ _ _ _ fun u_ => ⟨_, List.Sublist.refl _, rfl, rfl, rfl⟩
theorem s_collbase (w : World) {A : Around} {k : Nat} (hA : Room A (k + 2)) {z : Fz} {n : Led} {a b c o : Value} {args : List Value} (hargs : args = [a, b, c, o] ∨ (args = [a, b, c] ∧ o = .none)) {Q : KV} (q : ∀ x z', Le z z' → Q (.ref x) z' n) :
  callE PySem.Challenge.pw_nt0082_01 w (k0.heap_1 w.params) A (.ref 497) args z n Q := by
 refine callE_k (by k_is) (W.mono (Q := fun v z' n' => ∃ x, v = .ref x ∧ n' = n) (W.post_fz2 (WCall.W (make_W hA (by k_is) (by k_is) (by k_is) fun x dx A' hA' => ?_))) fun v z' n' l h => ?_)
 ·intro s hs
  refine codeAny_mono (collbase_init w hA' (n := n) (a := a) (b := b) (c := c) (o := o) (args := .ref x :: args) (by rcases hargs with rfl | ⟨rfl, rfl⟩ <;> simp) s hs) fun r s' h => ?_
  refine oEEEAAAA h fun v z' n' e st e1 e2 e3 => ?_
  clear h
  subst e1 e2 e3
  exact ⟨_, _, _, e, st, rfl, x, _, dx, _, n, rfl, fun z2 l h1 h2 => ⟨x, rfl, rfl⟩⟩
 ·refine oEA h fun x e1 e2 => ?_
  clear h
  subst e1 e2
  exact q x z' l
theorem s_put_implicit (w : World) {A : Around} {k : Nat} (hA : Room A (k + 3)) {z : Fz} {n : Led} {n2 : Value → Led} {x dx B : Addr} {m : List (Str × Value)} {ws : List Value} {a b c : Value} (I : Inst z n 629 x dx m) (hm : lkv m "bases" = some (.ref B)) (U : ∀ e, Up B (.lst ws) (.lst (ws ++ [e])) n (n2 e)) (hl : ws.length ≤ 1000) {Q : KV} (q : ∀ e z', Le z z' → Q .none z' (n2 e)) :
  Wp w A (call (.ref 590) [.ref x, a, b, c] []) z n Q := by
 refine WCall.W ?_
 refine fn_CQ (binds := [("self", .ref x), ("first", a), ("last", b), ("base", c), ("origin", .none)]) (own := none) (names := ["self", "first", "last", "base", "origin"]) (locs := ["self", "first", "last", "base", "origin"]) (g := [("CollBase", Value.ref 497)]) hA (by k_is) (by k_is) (fun _ X => by first | exact BindsTo.of_eq rfl | exact binds_K X rfl (by k_is) rfl rfl rfl) rfl (fun _ => rfl) (by decide +kernel) ⟨⟨rfl, gl_CollBase w⟩, trivial⟩ fun L env eenv hC hR QF hQF => ?_
 walk_at "t"
 refine attr_W I (v := .ref B) hm (by k_is) (by k_is) (by k_is) rfl ?_
 refine meth_lst (.inr (U .none).mem) PySem.F.slot_list_append PySem.F.type_list_append ?_
 walk_at "v"
 refine s_collbase w (k := k) (hR.down rfl) (.inl rfl) fun e z1 l1 => ?_
 walk_at "v"
 refine callE_b (append_W (U (.ref e)) (by exact Nat.le_trans hl (Nat.le_of_ble_eq_true rfl)) ?_)
 walk_at "v"
 walk_at "n"
 exact hQF _ _ _ _ fun l => ⟨_, List.Sublist.refl _, q _ _ l⟩
theorem s_coll_ideographs (w : World) {A : Around} {k : Nat} (hA : Room A (k + 1)) {z : Fz} : Wp w A (call (.ref 472) [] []) z [] fun v z' n' => n' = [] ∧ ∃ l : List (Int × Int × Int), l.length ≤ 100 ∧ Vz z' (eL (eT eI eI eI) l) v := by
 refine WCall.W ?_
 refine fn_CQ (binds := []) (own := none) (names := []) (locs := ["rows", "first", "last"]) (g := [("COLL_CORE", Value.int 64320 904), ("COLL_EXTENSIONS", Value.int 64384 906)]) hA (by k_is) (by k_is) (fun _ X => by first | exact BindsTo.of_eq rfl | exact binds_K X rfl (by k_is) rfl rfl rfl) rfl (fun _ => rfl) (by decide +kernel) ⟨⟨rfl, gl_COLL_CORE w⟩, ⟨⟨rfl, gl_COLL_EXTENSIONS w⟩, trivial⟩⟩ fun L env eenv hC hR QF hQF => ?_
 walk_at "t"
 intro ta1 tb1 T1 hT1
 walk_at "v"
 intro ta2 tb2 T2 hT2
 walk_at "v"
 intro ta3 tb3 T3 hT3
 walk_at "v"
 refine .inr fun B0 hB0 => ?_
 have hv0 : Vz (fset (fset (fset (fset z T1 (.tup [.int 19968 ta1, .int 40959 tb1, .int 64320 904])) T2 (.tup [.int 64014 ta2, .int 64015 tb2, .int 64320 904])) T3 (.tup [.int 64017 ta3, .int 64017 tb3, .int 64320 904])) B0 (.lst [.ref T1, .ref T2, .ref T3])) (eL (eT eI eI eI) [(19968, 40959, 64320), (64014, 64015, 64320), (64017, 64017, 64320)]) (.ref B0) := vzL_mk (a := B0) fset_self ⟨vzT_mk (a := T1) ((show Le (fset z T1 (.tup [.int 19968 ta1, .int 40959 tb1, .int 64320 904])) (fset (fset (fset (fset z T1 (.tup [.int 19968 ta1, .int 40959 tb1, .int 64320 904])) T2 (.tup [.int 64014 ta2, .int 64015 tb2, .int 64320 904])) T3 (.tup [.int 64017 ta3, .int 64017 tb3, .int 64320 904])) B0 (.lst [.ref T1, .ref T2, .ref T3])) from (Le.fset hT2).trans ((Le.fset hT3).trans (Le.fset hB0))) _ _ fset_self) vzI_mk vzI_mk vzI_mk, vzT_mk (a := T2) ((show Le (fset (fset z T1 (.tup [.int 19968 ta1, .int 40959 tb1, .int 64320 904])) T2 (.tup [.int 64014 ta2, .int 64015 tb2, .int 64320 904])) (fset (fset (fset (fset z T1 (.tup [.int 19968 ta1, .int 40959 tb1, .int 64320 904])) T2 (.tup [.int 64014 ta2, .int 64015 tb2, .int 64320 904])) T3 (.tup [.int 64017 ta3, .int 64017 tb3, .int 64320 904])) B0 (.lst [.ref T1, .ref T2, .ref T3])) from (Le.fset hT3).trans (Le.fset hB0)) _ _ fset_self) vzI_mk vzI_mk vzI_mk, vzT_mk (a := T3) ((show Le (fset (fset (fset z T1 (.tup [.int 19968 ta1, .int 40959 tb1, .int 64320 904])) T2 (.tup [.int 64014 ta2, .int 64015 tb2, .int 64320 904])) T3 (.tup [.int 64017 ta3, .int 64017 tb3, .int 64320 904])) (fset (fset (fset (fset z T1 (.tup [.int 19968 ta1, .int 40959 tb1, .int 64320 904])) T2 (.tup [.int 64014 ta2, .int 64015 tb2, .int 64320 904])) T3 (.tup [.int 64017 ta3, .int 64017 tb3, .int 64320 904])) B0 (.lst [.ref T1, .ref T2, .ref T3])) from Le.fset hB0) _ _ fset_self) vzI_mk vzI_mk vzI_mk, trivial⟩
 generalize (fset (fset (fset (fset z T1 (.tup [.int 19968 ta1, .int 40959 tb1, .int 64320 904])) T2 (.tup [.int 64014 ta2, .int 64015 tb2, .int 64320 904])) T3 (.tup [.int 64017 ta3, .int 64017 tb3, .int 64320 904])) B0 (.lst [.ref T1, .ref T2, .ref T3])) = z0 at *
 walk_at "v"
 have hp := hv0
 clear hv0
 refine oEEAA (vzL.mp hp) fun pa pvs epa hpz hpa => ?_
 cases epa
 walk_at "t"
 intro ta4 tb4 T4 hT4
 walk_at "v"
 intro ta5 tb5 T5 hT5
 walk_at "v"
 intro ta6 tb6 T6 hT6
 walk_at "v"
 refine .inr fun B1 hB1 => ?_
 have hv1 : Vz (fset (fset (fset (fset z0 T4 (.tup [.int 64019 ta4, .int 64020 tb4, .int 64320 904])) T5 (.tup [.int 64031 ta5, .int 64031 tb5, .int 64320 904])) T6 (.tup [.int 64033 ta6, .int 64033 tb6, .int 64320 904])) B1 (.lst [.ref T4, .ref T5, .ref T6])) (eL (eT eI eI eI) [(64019, 64020, 64320), (64031, 64031, 64320), (64033, 64033, 64320)]) (.ref B1) := vzL_mk (a := B1) fset_self ⟨vzT_mk (a := T4) ((show Le (fset z0 T4 (.tup [.int 64019 ta4, .int 64020 tb4, .int 64320 904])) (fset (fset (fset (fset z0 T4 (.tup [.int 64019 ta4, .int 64020 tb4, .int 64320 904])) T5 (.tup [.int 64031 ta5, .int 64031 tb5, .int 64320 904])) T6 (.tup [.int 64033 ta6, .int 64033 tb6, .int 64320 904])) B1 (.lst [.ref T4, .ref T5, .ref T6])) from (Le.fset hT5).trans ((Le.fset hT6).trans (Le.fset hB1))) _ _ fset_self) vzI_mk vzI_mk vzI_mk, vzT_mk (a := T5) ((show Le (fset (fset z0 T4 (.tup [.int 64019 ta4, .int 64020 tb4, .int 64320 904])) T5 (.tup [.int 64031 ta5, .int 64031 tb5, .int 64320 904])) (fset (fset (fset (fset z0 T4 (.tup [.int 64019 ta4, .int 64020 tb4, .int 64320 904])) T5 (.tup [.int 64031 ta5, .int 64031 tb5, .int 64320 904])) T6 (.tup [.int 64033 ta6, .int 64033 tb6, .int 64320 904])) B1 (.lst [.ref T4, .ref T5, .ref T6])) from (Le.fset hT6).trans (Le.fset hB1)) _ _ fset_self) vzI_mk vzI_mk vzI_mk, vzT_mk (a := T6) ((show Le (fset (fset (fset z0 T4 (.tup [.int 64019 ta4, .int 64020 tb4, .int 64320 904])) T5 (.tup [.int 64031 ta5, .int 64031 tb5, .int 64320 904])) T6 (.tup [.int 64033 ta6, .int 64033 tb6, .int 64320 904])) (fset (fset (fset (fset z0 T4 (.tup [.int 64019 ta4, .int 64020 tb4, .int 64320 904])) T5 (.tup [.int 64031 ta5, .int 64031 tb5, .int 64320 904])) T6 (.tup [.int 64033 ta6, .int 64033 tb6, .int 64320 904])) B1 (.lst [.ref T4, .ref T5, .ref T6])) from Le.fset hB1) _ _ fset_self) vzI_mk vzI_mk vzI_mk, trivial⟩
 replace hp := hp.up (show Le _ (fset (fset (fset (fset z0 T4 (.tup [.int 64019 ta4, .int 64020 tb4, .int 64320 904])) T5 (.tup [.int 64031 ta5, .int 64031 tb5, .int 64320 904])) T6 (.tup [.int 64033 ta6, .int 64033 tb6, .int 64320 904])) B1 (.lst [.ref T4, .ref T5, .ref T6])) from (Le.fset hT4).trans ((Le.fset hT5).trans ((Le.fset hT6).trans (Le.fset hB1))))
 generalize (fset (fset (fset (fset z0 T4 (.tup [.int 64019 ta4, .int 64020 tb4, .int 64320 904])) T5 (.tup [.int 64031 ta5, .int 64031 tb5, .int 64320 904])) T6 (.tup [.int 64033 ta6, .int 64033 tb6, .int 64320 904])) B1 (.lst [.ref T4, .ref T5, .ref T6])) = z1 at *
 walk_at "v"
 refine oEEAA (vzL.mp hv1) fun qa qvs eqa hqz hqa => ?_
 cases eqa
 have hpl := hpa.len
 have hql := hqa.len
 refine oEEAA (vzL.mp hp) fun pa1 pvs1 epa hpz hpa => ?_
 cases epa
 have hpl := hpa.len
 refine cat_W (.inl hpz) (.inl hqz) (by simp at hpl hql; omega) (.inr fun C1 hC1 => ?_)
 have hn : Vz (fset z1 C1 (.lst (pvs1 ++ qvs))) (eL (eT eI eI eI) _) (.ref C1) := vzL_mk (a := C1) fset_self ((hpa.append hqa).vmono (Le.fset hC1))
 replace hp := hn
 clear hn hpa hqa hpz hqz hpl hql hv1
 generalize fset z1 C1 (.lst (pvs1 ++ qvs)) = y1 at *
 walk_at "v"
 walk_at "t"
 intro ta7 tb7 T7 hT7
 walk_at "v"
 intro ta8 tb8 T8 hT8
 walk_at "v"
 refine .inr fun B2 hB2 => ?_
 have hv2 : Vz (fset (fset (fset y1 T7 (.tup [.int 64035 ta7, .int 64036 tb7, .int 64320 904])) T8 (.tup [.int 64039 ta8, .int 64041 tb8, .int 64320 904])) B2 (.lst [.ref T7, .ref T8])) (eL (eT eI eI eI) [(64035, 64036, 64320), (64039, 64041, 64320)]) (.ref B2) := vzL_mk (a := B2) fset_self ⟨vzT_mk (a := T7) ((show Le (fset y1 T7 (.tup [.int 64035 ta7, .int 64036 tb7, .int 64320 904])) (fset (fset (fset y1 T7 (.tup [.int 64035 ta7, .int 64036 tb7, .int 64320 904])) T8 (.tup [.int 64039 ta8, .int 64041 tb8, .int 64320 904])) B2 (.lst [.ref T7, .ref T8])) from (Le.fset hT8).trans (Le.fset hB2)) _ _ fset_self) vzI_mk vzI_mk vzI_mk, vzT_mk (a := T8) ((show Le (fset (fset y1 T7 (.tup [.int 64035 ta7, .int 64036 tb7, .int 64320 904])) T8 (.tup [.int 64039 ta8, .int 64041 tb8, .int 64320 904])) (fset (fset (fset y1 T7 (.tup [.int 64035 ta7, .int 64036 tb7, .int 64320 904])) T8 (.tup [.int 64039 ta8, .int 64041 tb8, .int 64320 904])) B2 (.lst [.ref T7, .ref T8])) from Le.fset hB2) _ _ fset_self) vzI_mk vzI_mk vzI_mk, trivial⟩
 replace hp := hp.up (show Le _ (fset (fset (fset y1 T7 (.tup [.int 64035 ta7, .int 64036 tb7, .int 64320 904])) T8 (.tup [.int 64039 ta8, .int 64041 tb8, .int 64320 904])) B2 (.lst [.ref T7, .ref T8])) from (Le.fset hT7).trans ((Le.fset hT8).trans (Le.fset hB2)))
 generalize (fset (fset (fset y1 T7 (.tup [.int 64035 ta7, .int 64036 tb7, .int 64320 904])) T8 (.tup [.int 64039 ta8, .int 64041 tb8, .int 64320 904])) B2 (.lst [.ref T7, .ref T8])) = z2 at *
 walk_at "v"
 refine oEEAA (vzL.mp hv2) fun qa qvs eqa hqz hqa => ?_
 cases eqa
 have hpl := hpa.len
 have hql := hqa.len
 refine oEEAA (vzL.mp hp) fun pa2 pvs2 epa hpz hpa => ?_
 cases epa
 have hpl := hpa.len
 refine cat_W (.inl hpz) (.inl hqz) (by simp at hpl hql; omega) (.inl fun F => ?_)
 have hn := hpa.append hqa
 clear hpa hqa hpz hqz hpl hql hv2 hp
 walk_at "v"
 have hnl := hn.len
 let J0 : List (Int × Int) → M → Fz → Led → Prop := fun pre m' z' n' => ∀ GG9 : M → Led → Prop, (∀ a b acc ws, (acc.length ≤ 8 + pre.length) → (All2 (fun x v => Vz z' (eT eI eI eI x) v) acc ws) → GG9 (([("rows", some (.ref F)), ("first", a), ("last", b)] : M)) ([(F, .lst ws)])) → GG9 m' n'
 walk_at "e"
 refine @exs_semQ _ _ _ _ _ _ _ _ _ _ _ fun QS hQS => ?_
 refine @for_dataQ _ _ _ _ _ _ _ _ _ hC _ _ _ _ _ J0 ?_ (fun u_ => rfl)
 walk_at "v"
 intro ta9 tb9 T9 hT9
 walk_at "v"
 intro ta10 tb10 T10 hT10
 walk_at "v"
 intro ta11 tb11 T11 hT11
 walk_at "v"
 intro ta12 tb12 T12 hT12
 walk_at "v"
 intro TT0 hTT0
 walk_at "v"
 have hV0 : Vz (fset (fset (fset (fset (fset z2 T9 (.tup [.int 13312 ta9, .int 19903 tb9])) T10 (.tup [.int 131072 ta10, .int 173791 tb10])) T11 (.tup [.int 173824 ta11, .int 177977 tb11])) T12 (.tup [.int 177984 ta12, .int 178205 tb12])) TT0 (.tup [.ref T9, .ref T10, .ref T11, .ref T12])) (.tuple (([(13312, 19903), (131072, 173791), (173824, 177977), (177984, 178205)] : List (Int × Int)).map (eP eI eI))) (.ref TT0) := by
  exact ⟨TT0, _, rfl, fset_self, vzAll_iff.mpr (All2.map.mpr ⟨vzP_mk (a := T9) ((show Le (fset z2 T9 (.tup [.int 13312 ta9, .int 19903 tb9])) (fset (fset (fset (fset (fset z2 T9 (.tup [.int 13312 ta9, .int 19903 tb9])) T10 (.tup [.int 131072 ta10, .int 173791 tb10])) T11 (.tup [.int 173824 ta11, .int 177977 tb11])) T12 (.tup [.int 177984 ta12, .int 178205 tb12])) TT0 (.tup [.ref T9, .ref T10, .ref T11, .ref T12])) from (Le.fset hT10).trans ((Le.fset hT11).trans ((Le.fset hT12).trans (Le.fset hTT0)))) _ _ fset_self) vzI_mk vzI_mk, vzP_mk (a := T10) ((show Le (fset (fset z2 T9 (.tup [.int 13312 ta9, .int 19903 tb9])) T10 (.tup [.int 131072 ta10, .int 173791 tb10])) (fset (fset (fset (fset (fset z2 T9 (.tup [.int 13312 ta9, .int 19903 tb9])) T10 (.tup [.int 131072 ta10, .int 173791 tb10])) T11 (.tup [.int 173824 ta11, .int 177977 tb11])) T12 (.tup [.int 177984 ta12, .int 178205 tb12])) TT0 (.tup [.ref T9, .ref T10, .ref T11, .ref T12])) from (Le.fset hT11).trans ((Le.fset hT12).trans (Le.fset hTT0))) _ _ fset_self) vzI_mk vzI_mk, vzP_mk (a := T11) ((show Le (fset (fset (fset z2 T9 (.tup [.int 13312 ta9, .int 19903 tb9])) T10 (.tup [.int 131072 ta10, .int 173791 tb10])) T11 (.tup [.int 173824 ta11, .int 177977 tb11])) (fset (fset (fset (fset (fset z2 T9 (.tup [.int 13312 ta9, .int 19903 tb9])) T10 (.tup [.int 131072 ta10, .int 173791 tb10])) T11 (.tup [.int 173824 ta11, .int 177977 tb11])) T12 (.tup [.int 177984 ta12, .int 178205 tb12])) TT0 (.tup [.ref T9, .ref T10, .ref T11, .ref T12])) from (Le.fset hT12).trans (Le.fset hTT0)) _ _ fset_self) vzI_mk vzI_mk, vzP_mk (a := T12) ((show Le (fset (fset (fset (fset z2 T9 (.tup [.int 13312 ta9, .int 19903 tb9])) T10 (.tup [.int 131072 ta10, .int 173791 tb10])) T11 (.tup [.int 173824 ta11, .int 177977 tb11])) T12 (.tup [.int 177984 ta12, .int 178205 tb12])) (fset (fset (fset (fset (fset z2 T9 (.tup [.int 13312 ta9, .int 19903 tb9])) T10 (.tup [.int 131072 ta10, .int 173791 tb10])) T11 (.tup [.int 173824 ta11, .int 177977 tb11])) T12 (.tup [.int 177984 ta12, .int 178205 tb12])) TT0 (.tup [.ref T9, .ref T10, .ref T11, .ref T12])) from Le.fset hTT0) _ _ fset_self) vzI_mk vzI_mk, trivial⟩)⟩
 have lV : Le z2 (fset (fset (fset (fset (fset z2 T9 (.tup [.int 13312 ta9, .int 19903 tb9])) T10 (.tup [.int 131072 ta10, .int 173791 tb10])) T11 (.tup [.int 173824 ta11, .int 177977 tb11])) T12 (.tup [.int 177984 ta12, .int 178205 tb12])) TT0 (.tup [.ref T9, .ref T10, .ref T11, .ref T12])) := (Le.fset hT9).trans ((Le.fset hT10).trans ((Le.fset hT11).trans ((Le.fset hT12).trans (Le.fset hTT0))))
 replace hn := hn.vmono lV
 generalize (fset (fset (fset (fset (fset z2 T9 (.tup [.int 13312 ta9, .int 19903 tb9])) T10 (.tup [.int 131072 ta10, .int 173791 tb10])) T11 (.tup [.int 173824 ta11, .int 177977 tb11])) T12 (.tup [.int 177984 ta12, .int 178205 tb12])) TT0 (.tup [.ref T9, .ref T10, .ref T11, .ref T12])) = u0 at *
 refine LoopD.mk [] _ (eP eI eI) [(13312, 19903), (131072, 173791), (173824, 177977), (177984, 178205)] nilPerm (iterV_tupE hR.handled hV0) (fun u_ k9 => k9 none none _ _ (by simp) hn) ?_ ?_
 ·intro pre x post v m' zi zi' ni hxs l3 l4 hv hJ QB hQB
  apply hJ
  intro b c acc ws j1 j3
  obtain ⟨p, q⟩ := x
  induction hv using vzP_use with | _ T u1 u2 hT hu1 hu2 hv => ?_
  induction hu1 using vzI_use with | _ t2 hu1 => ?_
  induction hu2 using vzI_use with | _ t3 hu2 => ?_
  have hpl := congrArg List.length hxs
  have hwl := j3.len
  replace j3 := j3.vmono l4
  clear hxs hu1 hu2 hv
  simp only [List.length_append, List.length_cons, List.length_nil] at hpl
  walk_at "v"
  refine unp_mk (.inl hT) rfl ?_
  walk_at "v"
  walk_at "t"
  refine meth_lst (.inr (.head _)) PySem.F.slot_list_append PySem.F.type_list_append ?_
  walk_at "v"
  intro T5 hT5
  walk_at "v"
  refine callE_b (append_W .head (by (first | lia | omega)) ?_)
  walk_at "v"
  walk_at "n"
  exact hQB _ _ _ _ fun l7 => fun u_ k9 => k9 _ _ (acc ++ [(p, q, 64384)]) _ (by simp only [List.length_append, List.length_singleton]; omega) ((j3.vmono l7).snoc (vzT_mk (a := T5) fset_self vzI_mk vzI_mk vzI_mk))
 intro m0 w1 n0 l0 hJ
 apply hJ
 intro b0 c0 acc0 ws0 j1 j3
 clear hn hnl lV hV0 l0
 have hn := j3
 have hnl : acc0.length ≤ 12 := by simpa using j1
 clear j1 j3
 walk_at "v"
 let J1 : List (Int × Int) → M → Fz → Led → Prop := fun pre m' z' n' => ∀ GG9 : M → Led → Prop, (∀ a b acc ws, (acc.length ≤ 12 + pre.length) → (All2 (fun x v => Vz z' (eT eI eI eI x) v) acc ws) → GG9 (([("rows", some (.ref F)), ("first", a), ("last", b)] : M)) ([(F, .lst ws)])) → GG9 m' n'
 walk_at "e"
 refine @exs_semQ _ _ _ _ _ _ _ _ _ _ _ fun QS hQS => ?_
 refine @for_dataQ _ _ _ _ _ _ _ _ _ hC _ _ _ _ _ J1 ?_ (fun u_ => rfl)
 walk_at "v"
 intro ta13 tb13 T13 hT13
 walk_at "v"
 intro ta14 tb14 T14 hT14
 walk_at "v"
 intro ta15 tb15 T15 hT15
 walk_at "v"
 intro TT1 hTT1
 walk_at "v"
 have hV1 : Vz (fset (fset (fset (fset w1 T13 (.tup [.int 178208 ta13, .int 183969 tb13])) T14 (.tup [.int 183984 ta14, .int 191456 tb14])) T15 (.tup [.int 191472 ta15, .int 192093 tb15])) TT1 (.tup [.ref T13, .ref T14, .ref T15])) (.tuple (([(178208, 183969), (183984, 191456), (191472, 192093)] : List (Int × Int)).map (eP eI eI))) (.ref TT1) := by
  exact ⟨TT1, _, rfl, fset_self, vzAll_iff.mpr (All2.map.mpr ⟨vzP_mk (a := T13) ((show Le (fset w1 T13 (.tup [.int 178208 ta13, .int 183969 tb13])) (fset (fset (fset (fset w1 T13 (.tup [.int 178208 ta13, .int 183969 tb13])) T14 (.tup [.int 183984 ta14, .int 191456 tb14])) T15 (.tup [.int 191472 ta15, .int 192093 tb15])) TT1 (.tup [.ref T13, .ref T14, .ref T15])) from (Le.fset hT14).trans ((Le.fset hT15).trans (Le.fset hTT1))) _ _ fset_self) vzI_mk vzI_mk, vzP_mk (a := T14) ((show Le (fset (fset w1 T13 (.tup [.int 178208 ta13, .int 183969 tb13])) T14 (.tup [.int 183984 ta14, .int 191456 tb14])) (fset (fset (fset (fset w1 T13 (.tup [.int 178208 ta13, .int 183969 tb13])) T14 (.tup [.int 183984 ta14, .int 191456 tb14])) T15 (.tup [.int 191472 ta15, .int 192093 tb15])) TT1 (.tup [.ref T13, .ref T14, .ref T15])) from (Le.fset hT15).trans (Le.fset hTT1)) _ _ fset_self) vzI_mk vzI_mk, vzP_mk (a := T15) ((show Le (fset (fset (fset w1 T13 (.tup [.int 178208 ta13, .int 183969 tb13])) T14 (.tup [.int 183984 ta14, .int 191456 tb14])) T15 (.tup [.int 191472 ta15, .int 192093 tb15])) (fset (fset (fset (fset w1 T13 (.tup [.int 178208 ta13, .int 183969 tb13])) T14 (.tup [.int 183984 ta14, .int 191456 tb14])) T15 (.tup [.int 191472 ta15, .int 192093 tb15])) TT1 (.tup [.ref T13, .ref T14, .ref T15])) from Le.fset hTT1) _ _ fset_self) vzI_mk vzI_mk, trivial⟩)⟩
 have lV : Le w1 (fset (fset (fset (fset w1 T13 (.tup [.int 178208 ta13, .int 183969 tb13])) T14 (.tup [.int 183984 ta14, .int 191456 tb14])) T15 (.tup [.int 191472 ta15, .int 192093 tb15])) TT1 (.tup [.ref T13, .ref T14, .ref T15])) := (Le.fset hT13).trans ((Le.fset hT14).trans ((Le.fset hT15).trans (Le.fset hTT1)))
 replace hn := hn.vmono lV
 generalize (fset (fset (fset (fset w1 T13 (.tup [.int 178208 ta13, .int 183969 tb13])) T14 (.tup [.int 183984 ta14, .int 191456 tb14])) T15 (.tup [.int 191472 ta15, .int 192093 tb15])) TT1 (.tup [.ref T13, .ref T14, .ref T15])) = u1 at *
 refine LoopD.mk [] _ (eP eI eI) [(178208, 183969), (183984, 191456), (191472, 192093)] nilPerm (iterV_tupE hR.handled hV1) (fun u_ k9 => k9 _ _ _ _ hnl hn) ?_ ?_
 ·intro pre x post v m' zi zi' ni hxs l3 l4 hv hJ QB hQB
  apply hJ
  intro b c acc ws j1 j3
  obtain ⟨p, q⟩ := x
  induction hv using vzP_use with | _ T u1 u2 hT hu1 hu2 hv => ?_
  induction hu1 using vzI_use with | _ t2 hu1 => ?_
  induction hu2 using vzI_use with | _ t3 hu2 => ?_
  have hpl := congrArg List.length hxs
  have hwl := j3.len
  replace j3 := j3.vmono l4
  clear hxs hu1 hu2 hv
  simp only [List.length_append, List.length_cons, List.length_nil] at hpl
  walk_at "v"
  refine unp_mk (.inl hT) rfl ?_
  walk_at "v"
  walk_at "t"
  refine meth_lst (.inr (.head _)) PySem.F.slot_list_append PySem.F.type_list_append ?_
  walk_at "v"
  intro T5 hT5
  walk_at "v"
  refine callE_b (append_W .head (by (first | lia | omega)) ?_)
  walk_at "v"
  walk_at "n"
  exact hQB _ _ _ _ fun l7 => fun u_ k9 => k9 _ _ (acc ++ [(p, q, 64384)]) _ (by simp only [List.length_append, List.length_singleton]; omega) ((j3.vmono l7).snoc (vzT_mk (a := T5) fset_self vzI_mk vzI_mk vzI_mk))
 intro m1 w2 n1 l1 hJ
 apply hJ
 intro b1 c1 acc1 ws1 j1 j3
 clear hn hnl lV hV1 l1
 have hn := j3
 have hnl : acc1.length ≤ 15 := by simpa using j1
 clear j1 j3
 walk_at "v"
 let J2 : List (Int × Int) → M → Fz → Led → Prop := fun pre m' z' n' => ∀ GG9 : M → Led → Prop, (∀ a b acc ws, (acc.length ≤ 15 + pre.length) → (All2 (fun x v => Vz z' (eT eI eI eI x) v) acc ws) → GG9 (([("rows", some (.ref F)), ("first", a), ("last", b)] : M)) ([(F, .lst ws)])) → GG9 m' n'
 walk_at "e"
 refine @exs_semQ _ _ _ _ _ _ _ _ _ _ _ fun QS hQS => ?_
 refine @for_dataQ _ _ _ _ _ _ _ _ _ hC _ _ _ _ _ J2 ?_ (fun u_ => rfl)
 walk_at "v"
 intro ta16 tb16 T16 hT16
 walk_at "v"
 intro ta17 tb17 T17 hT17
 walk_at "v"
 intro TT2 hTT2
 walk_at "v"
 have hV2 : Vz (fset (fset (fset w2 T16 (.tup [.int 196608 ta16, .int 201546 tb16])) T17 (.tup [.int 201552 ta17, .int 205743 tb17])) TT2 (.tup [.ref T16, .ref T17])) (.tuple (([(196608, 201546), (201552, 205743)] : List (Int × Int)).map (eP eI eI))) (.ref TT2) := by
  exact ⟨TT2, _, rfl, fset_self, vzAll_iff.mpr (All2.map.mpr ⟨vzP_mk (a := T16) ((show Le (fset w2 T16 (.tup [.int 196608 ta16, .int 201546 tb16])) (fset (fset (fset w2 T16 (.tup [.int 196608 ta16, .int 201546 tb16])) T17 (.tup [.int 201552 ta17, .int 205743 tb17])) TT2 (.tup [.ref T16, .ref T17])) from (Le.fset hT17).trans (Le.fset hTT2)) _ _ fset_self) vzI_mk vzI_mk, vzP_mk (a := T17) ((show Le (fset (fset w2 T16 (.tup [.int 196608 ta16, .int 201546 tb16])) T17 (.tup [.int 201552 ta17, .int 205743 tb17])) (fset (fset (fset w2 T16 (.tup [.int 196608 ta16, .int 201546 tb16])) T17 (.tup [.int 201552 ta17, .int 205743 tb17])) TT2 (.tup [.ref T16, .ref T17])) from Le.fset hTT2) _ _ fset_self) vzI_mk vzI_mk, trivial⟩)⟩
 have lV : Le w2 (fset (fset (fset w2 T16 (.tup [.int 196608 ta16, .int 201546 tb16])) T17 (.tup [.int 201552 ta17, .int 205743 tb17])) TT2 (.tup [.ref T16, .ref T17])) := (Le.fset hT16).trans ((Le.fset hT17).trans (Le.fset hTT2))
 replace hn := hn.vmono lV
 generalize (fset (fset (fset w2 T16 (.tup [.int 196608 ta16, .int 201546 tb16])) T17 (.tup [.int 201552 ta17, .int 205743 tb17])) TT2 (.tup [.ref T16, .ref T17])) = u2 at *
 refine LoopD.mk [] _ (eP eI eI) [(196608, 201546), (201552, 205743)] nilPerm (iterV_tupE hR.handled hV2) (fun u_ k9 => k9 _ _ _ _ hnl hn) ?_ ?_
 ·intro pre x post v m' zi zi' ni hxs l3 l4 hv hJ QB hQB
  apply hJ
  intro b c acc ws j1 j3
  obtain ⟨p, q⟩ := x
  induction hv using vzP_use with | _ T u1 u2 hT hu1 hu2 hv => ?_
  induction hu1 using vzI_use with | _ t2 hu1 => ?_
  induction hu2 using vzI_use with | _ t3 hu2 => ?_
  have hpl := congrArg List.length hxs
  have hwl := j3.len
  replace j3 := j3.vmono l4
  clear hxs hu1 hu2 hv
  simp only [List.length_append, List.length_cons, List.length_nil] at hpl
  walk_at "v"
  refine unp_mk (.inl hT) rfl ?_
  walk_at "v"
  walk_at "t"
  refine meth_lst (.inr (.head _)) PySem.F.slot_list_append PySem.F.type_list_append ?_
  walk_at "v"
  intro T5 hT5
  walk_at "v"
  refine callE_b (append_W .head (by (first | lia | omega)) ?_)
  walk_at "v"
  walk_at "n"
  exact hQB _ _ _ _ fun l7 => fun u_ k9 => k9 _ _ (acc ++ [(p, q, 64384)]) _ (by simp only [List.length_append, List.length_singleton]; omega) ((j3.vmono l7).snoc (vzT_mk (a := T5) fset_self vzI_mk vzI_mk vzI_mk))
 intro m2 w3 n2 l2 hJ
 apply hJ
 intro b2 c2 acc2 ws2 j1 j3
 clear hn hnl lV hV2 l2
 have hn := j3
 have hnl : acc2.length ≤ 17 := by simpa using j1
 clear j1 j3
 walk_at "v"
 refine exs_freeze fun hF => ?_
 walk_at "t"
 exact hQF _ _ _ _ fun u_ => ⟨[], List.nil_sublist _, rfl, _, by exact Nat.le_trans hnl (Nat.le_of_ble_eq_true rfl), vzL_mk (a := F) fset_self (hn.vmono (Le.fset hF))⟩
theorem elements_init (w : World) {A : Around} {k : Nat} (hA : Room A (k + 4)) {z : Fz} {n : Led} {x dx : Addr} : WCall PySem.Challenge.pw_nt0082_01 w (k0.heap_1 w.params) A (.ref 542) [.ref x] z ((x, .raw (instObj 629 dx)) :: (dx, .att []) :: n)
  fun v z' n' => ∃ T G B u2 ws, v = .none ∧ (T == sysModules) = false ∧ (G == sysModules) = false ∧ n' = (B, .lst ws) :: (G, .dI (fun u_ => none) 0) :: (T, .dT []) :: (x, .raw (instObj 629 dx)) :: (dx, .att [("bases", .ref B), ("factors", u2), ("longest", .ref G), ("table", .ref T)]) :: n := by
 refine fn_CQ (binds := [("self", .ref x), ("has_ideographs", .bool true)]) (own := none) (names := ["self", "has_ideographs"]) (locs := ["self", "has_ideographs", "first", "last", "base"]) (g := [("CollBase", Value.ref 497), ("MAX_CODE", Value.int 1114111 676), ("COLL_OTHERS", Value.int 64448 902), ("coll_ideographs", Value.ref 472)]) hA (by k_is) (by k_is) (fun _ X => by first | exact BindsTo.of_eq rfl | exact binds_K X rfl (by k_is) rfl rfl rfl) rfl (fun _ => rfl) (by decide +kernel) ⟨⟨rfl, gl_CollBase w⟩, ⟨⟨rfl, gl_MAX_CODE w⟩, ⟨⟨rfl, gl_COLL_OTHERS w⟩, ⟨⟨rfl, gl_coll_ideographs w⟩, trivial⟩⟩⟩⟩ fun L env eenv hC hR QF hQF => ?_
 walk_at "t"
 refine newD (.dT []) isT0 fun T hT => ?_
 walk_at "v"
 refine setattr_W (.inr (.tail _ (.head _))) (.tail (.tail .head)) (by kernel_rfl) (Nat.le_of_ble_eq_true rfl) (by k_is) (by k_is) (by k_is) (by k_is) ?_
 walk_at "v"
 walk_at "t"
 refine newD (.dI (fun u_ => none) 0) isI0 fun G hG => ?_
 walk_at "v"
 refine setattr_W (.inr (.tail _ (.tail _ (.head _)))) (.tail (.tail (.tail .head))) (by kernel_rfl) (Nat.le_of_ble_eq_true rfl) (by k_is) (by k_is) (by k_is) (by k_is) ?_
 walk_at "v"
 walk_at "t"
 intro t1 t2 t3 T3 hT3
 walk_at "v"
 refine setattr_W (.inr (.tail _ (.tail _ (.head _)))) (.tail (.tail (.tail .head))) (by kernel_rfl) (Nat.le_of_ble_eq_true rfl) (by k_is) (by k_is) (by k_is) (by k_is) ?_
 walk_at "v"
 generalize fset z T3 (.tup [.int 1 t1, .int 1 t2, .int 1 t3]) = z1 at *
 walk_at "t"
 intro t4
 refine s_collbase w (k := k) (hR.down rfl) (.inr ⟨rfl, rfl⟩) fun e z2 l2 => ?_
 walk_at "v"
 refine .inl fun B => ?_
 walk_at "v"
 refine setattr_W (.inr (.tail _ (.tail _ (.tail _ (.head _))))) (.tail (.tail (.tail (.tail .head)))) (by kernel_rfl) (Nat.le_of_ble_eq_true rfl) (by k_is) (by k_is) (by k_is) (by k_is) ?_
 walk_at "v"
 walk_at "t"
 walk_at "v"
 let J : List (Int × Int × Int) → M → Fz → Led → Prop := fun pre m' z' n' => ∀ GG9 : M → Led → Prop, (∀ a b c ws, (ws.length ≤ 1 + pre.length) → GG9 (([("self", some (.ref x)), ("has_ideographs", some (.bool true)), ("first", a), ("last", b), ("base", c)] : M)) ((B, .lst ws) :: (G, .dI (fun u_ => none) 0) :: (T, .dT []) :: (x, .raw (instObj 629 dx)) :: (dx, .att [("bases", .ref B), ("factors", .ref T3), ("longest", .ref G), ("table", .ref T)]) :: n)) → GG9 m' n'
 walk_at "e"
 refine @exs_semQ _ _ _ _ _ _ _ _ _ _ _ fun QS hQS => for_dataQ hC J ?_
 walk_at "v"
 refine callE_k (by k_is) ((s_coll_ideographs w (k := k) (hR.down rfl)).apart fun v z3 l3 h => ?_)
 refine oEA h fun l hl hv => ?_
 clear h
 refine LoopL_mk hC (eT eI eI eI) l hv (fun u_ k9 => k9 none none none [.ref e] (Nat.le_refl _)) ?_ ?_
 ·intro pre y post v m' zi zi' ni hxs l4 l5 hv hJ QB hQB
  apply hJ
  intro a b c ws j1
  induction hv using vzT_use with | _ T5 u1 u2 u3 hT5 hu1 hu2 hu3 hv => ?_
  have hpl := congrArg List.length hxs
  rw [List.length_append] at hpl
  clear hxs hu1 hu2 hu3 hv
  walk_at "v"
  refine unp_mk (.inl hT5) rfl ?_
  walk_at "v"
  walk_at "t"
  have I : Inst zi' ((B, .lst ws) :: (G, .dI (fun u_ => none) 0) :: (T, .dT []) :: (x, .raw (instObj 629 dx)) :: (dx, .att [("bases", .ref B), ("factors", .ref T3), ("longest", .ref G), ("table", .ref T)]) :: n) 629 x dx [("bases", .ref B), ("factors", .ref T3), ("longest", .ref G), ("table", .ref T)] := ⟨.inr (.tail _ (.tail _ (.tail _ (.head _)))), .inr (.tail _ (.tail _ (.tail _ (.tail _ (.head _)))))⟩
  refine meth_W I (by kernel_rfl) (by k_is) (by k_is) (by k_is) (by k_is) ?_
  walk_at "v"
  refine callE_k (by k_is) (s_put_implicit w (k := k) (hR.down rfl) I (by kernel_rfl) (fun e => Up.head) (by (first | lia | omega)) fun e z' l6 => ?_)
  walk_at "v"
  walk_at "n"
  exact hQB _ _ _ _ fun l7 => fun u_ k9 => k9 _ _ _ _ (by simp only [List.length_append, List.length_singleton]; omega)
 ·intro m' zi ni l4 hJ
  apply hJ
  intro a b c ws j1
  walk_at "v"
  walk_at "n"
  walk_at "n"
  exact hQF _ _ _ _ fun u_ => ⟨_, List.Sublist.refl _, T, G, B, _, ws, rfl, hT, hG, rfl⟩
theorem s_elements (w : World) {A : Around} {k : Nat} (hA : Room A (k + 5)) {z : Fz} {n : Led} {Q : KV} (q : ∀ x dx T G u1 u2 z', Le z z' → z' x = some (.raw (instObj 629 dx)) → z' dx = some (.att [("bases", u1), ("factors", u2), ("longest", .ref G), ("table", .ref T)]) → (T == sysModules) = false → (G == sysModules) = false → Q (.ref x) z' ((G, .dI (fun u_ => none) 0) :: (T, .dT []) :: n)) :
  callE PySem.Challenge.pw_nt0082_01 w (k0.heap_1 w.params) A (.ref 629) [] z n Q := by
 refine callE_k (by k_is) (W.mono (Q := fun v z' n' => ∃ x dx T G u1 u2, v = .ref x ∧ z' x = some (.raw (instObj 629 dx)) ∧ z' dx = some (.att [("bases", u1), ("factors", u2), ("longest", .ref G), ("table", .ref T)]) ∧ (T == sysModules) = false ∧ (G == sysModules) = false ∧ n' = (G, .dI (fun u_ => none) 0) :: (T, .dT []) :: n) (W.post_frz (W.post_frz (W.post_frz (WCall.W (make_W hA (by k_is) (by k_is) (by k_is) fun x dx A' hA' => ?_))))) fun v z' n' l h => ?_)
 ·intro s hs
  refine codeAny_mono (elements_init w hA' (n := n) s hs) fun r s' h => ?_
  refine oEEEAA h fun v z' n' e st h_ => oEE h_ fun T G h_ => oEEEAAA h_ fun B u2 ws e1 h1 h2 e2 => ?_
  clear h
  subst e1 e2
  refine ⟨_, _, _, e, st, rfl, B, _, _, List.Perm.refl _, fun hB => ?_⟩
  refine ⟨x, .raw (instObj 629 dx), (dx, .att [("bases", .ref B), ("factors", u2), ("longest", .ref G), ("table", .ref T)]) :: (G, .dI (fun u_ => none) 0) :: (T, .dT []) :: n, ?_, fun hx => ?_⟩
  ·exact ((List.perm_append_comm (l₁ := [(G, Lo.dI (fun u_ => none) 0), (T, Lo.dT [])]) (l₂ := [(x, Lo.raw (instObj 629 dx)), (dx, Lo.att [("bases", .ref B), ("factors", u2), ("longest", .ref G), ("table", .ref T)])])).append_right n)
  refine ⟨dx, _, _, List.Perm.refl _, fun hdx => ?_⟩
  exact ⟨x, dx, T, G, _, u2, rfl, Le.fset hdx _ _ fset_self, fset_self, h1, h2, rfl⟩
 ·refine oEEE h fun x dx T h_ => oEEEAAAAA h_ fun G u1 u2 e1 h1 h2 h3 h4 e2 => ?_
  clear h
  subst e1 e2
  exact q x dx T G u1 u2 z' l h1 h2 h3 h4
theorem s_put (w : World) {A : Around} {k : Nat} (hA : Room A (k + 1)) {z : Fz} {x dx T G a : Addr} {u1 u2 ev : Value} {f : Int → Option Value} {m : Nat} {lon : Int → Nat} {rows : Rows} {xs : List (List Int × Addr × Value)} {c : Int} {r : List Int} {es : List El}
  (hx : z x = some (.raw (instObj 629 dx))) (hdx : z dx = some (.att [("bases", u1), ("factors", u2), ("longest", .ref G), ("table", .ref T)])) (hT : (T == sysModules) = false) (hG : (G == sysModules) = false) (hr : RowsAt z rows xs) (hn : look rows (c :: r) = none) (hlon : LonIs f lon) (hm : m ≤ 100) (hrl : rows.length ≤ 100) (hkl : r.length ≤ 10)
  (ha : Vz z (.tuple ((c :: r).map .int)) (.ref a)) (hev : Vz z (eL eE es) ev) (hel : es.length ≤ 100) {Q : KV}
  (q : ∀ z' f' m' xs', Le z z' → m' ≤ m + 1 → LonIs f' (lonPut lon c (r.length + 1)) → RowsAt z' (rows ++ [(c :: r, es)]) xs' → Q .none z' [(G, .dI f' m'), (T, .dT xs')]) :
  Wp w A (call (.ref 549) [.ref x, .ref a, ev] []) z [(G, .dI f m), (T, .dT xs)] Q := by
 induction hev using vzL_use with | _ ea evs hez hea hev => ?_
 have hevl := hea.len
 obtain ⟨a', vs, e, hz, hvs⟩ : ∃ a' vs, (Value.ref a) = .ref a' ∧ z a' = some (.tup vs) ∧ All2 (fun i v => Vz z (eI i) v) (c :: r) vs := by
  refine oEEAA ha fun a' vs e hz h => ?_
  clear ha
  rw [vzAll_iff, All2.map] at h
  exact ⟨a', vs, e, hz, h⟩
 cases e
 obtain ⟨v0, vr, rfl⟩ : ∃ v0 vr, vs = v0 :: vr := by
  cases vs with
  | nil => exact hvs.elim
  | cons v0 vr => exact ⟨v0, vr, rfl⟩
 induction (hvs.1) using vzI_use with | _ t0 _ => ?_
 have hvl := hvs.len
 have hxl := hr.len
 refine WCall.W ?_
 refine fn_CQ (binds := [("self", .ref x), ("codes", .ref a), ("elements", .ref ea)]) (own := none) (names := ["self", "codes", "elements"]) (locs := ["self", "codes", "elements", "key"]) (g := [("tuple", .type "tuple"), ("list", .type "list"), ("len", .builtin "len")]) hA (by k_is) (by k_is) (fun _ X => by first | exact BindsTo.of_eq rfl | exact binds_K X rfl (by k_is) rfl rfl rfl) rfl (fun _ => rfl) (by decide +kernel) ⟨⟨rfl, gl_tuple w⟩, ⟨⟨rfl, gl_list w⟩, ⟨⟨rfl, gl_len w⟩, trivial⟩⟩⟩ fun L env eenv hC hR QF hQF => ?_
 walk_at "t"
 refine callE_t (tupleT_W (.inl hz) ?_)
 walk_at "v"
 walk_at "t"
 refine callE_t (list_W (.inl (.inl hez)) (by exact Nat.le_trans (Nat.le_trans (Nat.le_of_eq hevl) hel) (Nat.le_of_ble_eq_true rfl)) (.inr fun D hD => ?_))
 have I : ∀ {z' n}, Le z z' → Inst z' n 629 x dx [("bases", u1), ("factors", u2), ("longest", .ref G), ("table", .ref T)] := fun l => ⟨.inl (l _ _ hx), .inl (l _ _ hdx)⟩
 walk_at "v"
 have lD := Le.fset (lo := .lst evs) hD
 refine attr_W (I lD) (v := .ref T) (by kernel_rfl) (by k_is) (by k_is) (by k_is) rfl ?_
 walk_at "v"
 refine setT (v := .ref D) (ks := c :: r) (hR.less (by lia)) (.tail .head) (hr.mono lD).keys (ha.up lD) (by exact Nat.le_trans (Nat.le_trans (Nat.le_of_eq hxl) hrl) (Nat.le_of_ble_eq_true rfl)) ?_
 have hr2 : RowsAt (fset z D (.lst evs)) (rows ++ [(c :: r, es)]) (storedH xs (c :: r) a (.ref D)) := (hr.mono lD).put hn (ha.up lD) (vzL_mk (a := D) (vs := evs) fset_self (hea.vmono lD))
 generalize storedH xs (c :: r) a (.ref D) = xs2 at *
 replace hz := lD _ _ hz
 generalize fset z D (.lst evs) = z2 at *
 walk_at "v"
 walk_at "t"
 refine attr_W (I lD) (v := .ref G) (by kernel_rfl) (by k_is) (by k_is) (by k_is) rfl ?_
 refine methD (fun o h => (diIs (f := f) (m := m) o h).1) (.inr (.head _)) ?_
 walk_at "v"
 intro t1
 refine item_tat (i := 0) (.inl hz) rfl rfl (by rw [hvl, List.length_cons]; omega) ?_
 walk_at "v"
 intro t2
 have hlon2 : ∃ t4, (f c).getD (.int 0 t2) = .int (lon c) t4 := by
  rcases hlon c with ⟨e1, e2⟩ | ⟨t4, e⟩
  ·exact ⟨t2, by rw [e1, e2]; rfl⟩
  ·exact ⟨t4, by rw [e]; rfl⟩
 obtain ⟨t4, hlon2⟩ := hlon2
 refine callE_b (get2D (intKind _ _) diIs (.inr (.head _)) hG (intKey _ t0) ?_)
 rw [hlon2]
 walk_at "v"
 refine callE_b (lenT_W (.inl hz) (by rw [hvl, List.length_cons]; omega) fun t5 => ?_)
 rw [hvl, List.length_cons]
 walk_at "v"
 refine brE_dec (fun h1 => ?_) (fun h1 => ?_)
 ·walk_at "t"
  refine callE_b (lenT_W (.inl hz) (by rw [hvl, List.length_cons]; omega) fun t6 => ?_)
  rw [hvl, List.length_cons]
  walk_at "v"
  refine attr_W (I lD) (v := .ref G) (by kernel_rfl) (by k_is) (by k_is) (by k_is) rfl ?_
  walk_at "v"
  intro t7
  refine item_tat (i := 0) (.inl hz) rfl rfl (by rw [hvl, List.length_cons]; omega) ?_
  walk_at "v"
  refine setD (v := .int ((r.length + 1 : Nat) : Int) t6) (lo' := .dI (fun y => if y = c then some (.int ((r.length + 1 : Nat) : Int) t6) else f y) (m + 1)) (intKind _ _) diIs (fun o h => h) .head (by exact Nat.le_trans hm (Nat.le_of_ble_eq_true rfl)) (intKey c t0) ?_
  walk_at "v"
  walk_at "n"
  walk_at "n"
  exact hQF _ _ _ _ fun l => ⟨_, List.Sublist.refl _, q _ _ _ _ l (Nat.le_refl _) (hlon.put (by exact (Int.ofNat_lt.mp h1))) (hr2)⟩
 ·walk_at "n"
  walk_at "n"
  exact hQF _ _ _ _ fun l => ⟨_, List.Sublist.refl _, q _ _ _ _ l (Nat.le_succ _) (by rw [lonPut_same (by exact Nat.not_lt.mpr (Nat.le_of_not_lt fun q9 => h1 (Int.ofNat_lt.mpr q9)))]; exact hlon) (hr2)⟩
theorem s_data_defaults (w : World) {A : Around} {k : Nat} (hA : Room A (k + 1)) {z : Fz} {n : Led} {Q : KV} (q : ∀ d f m t z', Le z z' → (d == sysModules) = false → f (Str.ofString "ccc") = some (.int 0 t) → f (Str.ofString "dm") = some .none → Q (.ref d) z' ((d, .dS f m) :: n)) : Wp w A (call (.ref 713) [] []) z n Q := by
 refine WCall.W ?_
 refine fn_CQ (binds := []) (own := none) (names := []) (locs := ["found", "name"]) (g := []) hA (by k_is) (by k_is) (fun _ X => by first | exact BindsTo.of_eq rfl | exact binds_K X rfl (by k_is) rfl rfl rfl) rfl (fun _ => rfl) (by decide +kernel) trivial fun L env eenv hC hR QF hQF => ?_
 walk_at "t"
 refine @dictK_V _ _ _ _ _ _ _ _ hC _ _ _ rfl rfl (by subst eenv; rfl) _ fun D hD => ?_
 dsimp only [zipKV, List.filterMap, id, List.zip, List.zipWith, evp]
 walk_at "v"
 intro tk0 tv0 tk1 tv1 tk2 tv2 tk3 tv3 tk4 tv4 tk5 tv5 tk6 tv6 tk7 tv7
 refine ⟨[(Str.ofString "gc", .str "Cn" tv0), (Str.ofString "ccc", .int 0 tv1), (Str.ofString "bc", .str "L" tv2), (Str.ofString "lb", .str "XX" tv3), (Str.ofString "ea", .str "N" tv4), (Str.ofString "sc", .str "Zzzz" tv5), (Str.ofString "jt", .str "U" tv6), (Str.ofString "incb", .str "None" tv7)], n, ⟨strKey _ _, rfl, strKey _ _, rfl, strKey _ _, rfl, strKey _ _, rfl, strKey _ _, rfl, strKey _ _, rfl, strKey _ _, rfl, strKey _ _, rfl, trivial⟩, (Nat.le_of_ble_eq_true rfl), List.Perm.refl _, ?_⟩
 have hF1 : (fun y => valueAt (merged [] [(Str.ofString "gc", .str "Cn" tv0), (Str.ofString "ccc", .int 0 tv1), (Str.ofString "bc", .str "L" tv2), (Str.ofString "lb", .str "XX" tv3), (Str.ofString "ea", .str "N" tv4), (Str.ofString "sc", .str "Zzzz" tv5), (Str.ofString "jt", .str "U" tv6), (Str.ofString "incb", .str "None" tv7)]) y) (Str.ofString "ccc") = some (.int 0 tv1) := by kernel_rfl
 generalize (fun y => valueAt (merged [] [(Str.ofString "gc", .str "Cn" tv0), (Str.ofString "ccc", .int 0 tv1), (Str.ofString "bc", .str "L" tv2), (Str.ofString "lb", .str "XX" tv3), (Str.ofString "ea", .str "N" tv4), (Str.ofString "sc", .str "Zzzz" tv5), (Str.ofString "jt", .str "U" tv6), (Str.ofString "incb", .str "None" tv7)]) y) = F0 at *
 walk_at "v"
 let J0 : List Str → M → Fz → Led → Prop := fun pre m' z' n' => ∀ GG9 : M → Led → Prop, (∀ nm F m, (F (Str.ofString "ccc") = some (.int 0 tv1)) → (m ≤ 8 + pre.length) → GG9 (([("found", some (.ref D)), ("name", nm)] : M)) ((D, .dS F m) :: n)) → GG9 m' n'
 walk_at "e"
 refine @exs_semQ _ _ _ _ _ _ _ _ _ _ _ fun QS hQS => ?_
 refine @for_dataQ _ _ _ _ _ _ _ _ _ hC _ _ _ _ _ J0 ?_ (fun u_ => rfl)
 walk_at "v"
 intro a0_0 a0_1 a0_2 T0 hT0
 walk_at "v"
 have hV0 : Vz (fset z T0 (.tup [.str "gcb" a0_0, .str "wb" a0_1, .str "sb" a0_2])) (.tuple (([Str.ofString "gcb", Str.ofString "wb", Str.ofString "sb"] : List Str).map eS)) (.ref T0) := by
  exact ⟨T0, _, rfl, fset_self, vzAll_iff.mpr (All2.map.mpr ⟨vzS_mk, vzS_mk, vzS_mk, trivial⟩)⟩
 have lT0 := Le.fset (lo := .tup [.str "gcb" a0_0, .str "wb" a0_1, .str "sb" a0_2]) hT0
 generalize fset z T0 (.tup [.str "gcb" a0_0, .str "wb" a0_1, .str "sb" a0_2]) = u0 at *
 refine LoopD.mk [] _ eS [Str.ofString "gcb", Str.ofString "wb", Str.ofString "sb"] nilPerm (iterV_tupE hR.handled hV0) (fun u_ k9 => k9 none F0 8 hF1 (Nat.le_refl _)) ?_ ?_
 ·intro pre x post v m' zi zi' ni hxs l3 l4 hv hJ QB hQB
  apply hJ
  intro nm F m j1 j2
  induction hv using vzS_use with | _ tx hv => ?_
  have hpl := congrArg List.length hxs
  have hxc : Str.ofString "ccc" ≠ x := by
   have key : ∀ y ∈ ([Str.ofString "gcb", Str.ofString "wb", Str.ofString "sb"] : List Str), Str.ofString "ccc" ≠ y := by decide +kernel
   exact key x (by rw [hxs]; simp)
  clear hxs
  simp only [List.length_append, List.length_cons, List.length_nil] at hpl
  walk_at "v"
  walk_at "t"
  intro tv
  refine setD (v := .str "Other" tv) (lo' := .dS (fun y => if y = x then some (.str "Other" tv) else F y) (m + 1)) (strKind _ _) dsIs (fun o h => h) .head (by (first | lia | omega)) (strKey x tx) ?_
  walk_at "v"
  walk_at "n"
  refine hQB _ _ _ _ fun l7 => fun u_ k9 => k9 _ _ _ ?_ ?_
  ·rw [if_neg hxc]
   exact j1
  ·simp only [List.length_append, List.length_singleton]
   (first | lia | omega)
 intro m0 w1 n0 l0 hJ
 apply hJ
 intro nm0 F1 c0 hc hm
 clear hV0
 replace hm : c0 ≤ 11 := by simpa using hm
 walk_at "v"
 let J1 : List Str → M → Fz → Led → Prop := fun pre m' z' n' => ∀ GG9 : M → Led → Prop, (∀ nm F m, (F (Str.ofString "ccc") = some (.int 0 tv1)) → (m ≤ 11 + pre.length) → GG9 (([("found", some (.ref D)), ("name", nm)] : M)) ((D, .dS F m) :: n)) → GG9 m' n'
 walk_at "e"
 refine @exs_semQ _ _ _ _ _ _ _ _ _ _ _ fun QS hQS => ?_
 refine @for_dataQ _ _ _ _ _ _ _ _ _ hC _ _ _ _ _ J1 ?_ (fun u_ => rfl)
 walk_at "v"
 intro a1_0 a1_1 a1_2 a1_3 a1_4 a1_5 a1_6 a1_7 a1_8 a1_9 a1_10 a1_11 a1_12 T1 hT1
 walk_at "v"
 have hV1 : Vz (fset w1 T1 (.tup [.str "ex" a1_0, .str "sd" a1_1, .str "cased" a1_2, .str "ci" a1_3, .str "ep" a1_4, .str "di" a1_5, .str "ids" a1_6, .str "idc" a1_7, .str "xids" a1_8, .str "xidc" a1_9, .str "pat_syn" a1_10, .str "pat_ws" a1_11, .str "idst" a1_12])) (.tuple (([Str.ofString "ex", Str.ofString "sd", Str.ofString "cased", Str.ofString "ci", Str.ofString "ep", Str.ofString "di", Str.ofString "ids", Str.ofString "idc", Str.ofString "xids", Str.ofString "xidc", Str.ofString "pat_syn", Str.ofString "pat_ws", Str.ofString "idst"] : List Str).map eS)) (.ref T1) := by
  exact ⟨T1, _, rfl, fset_self, vzAll_iff.mpr (All2.map.mpr ⟨vzS_mk, vzS_mk, vzS_mk, vzS_mk, vzS_mk, vzS_mk, vzS_mk, vzS_mk, vzS_mk, vzS_mk, vzS_mk, vzS_mk, vzS_mk, trivial⟩)⟩
 have lT1 := Le.fset (lo := .tup [.str "ex" a1_0, .str "sd" a1_1, .str "cased" a1_2, .str "ci" a1_3, .str "ep" a1_4, .str "di" a1_5, .str "ids" a1_6, .str "idc" a1_7, .str "xids" a1_8, .str "xidc" a1_9, .str "pat_syn" a1_10, .str "pat_ws" a1_11, .str "idst" a1_12]) hT1
 generalize fset w1 T1 (.tup [.str "ex" a1_0, .str "sd" a1_1, .str "cased" a1_2, .str "ci" a1_3, .str "ep" a1_4, .str "di" a1_5, .str "ids" a1_6, .str "idc" a1_7, .str "xids" a1_8, .str "xidc" a1_9, .str "pat_syn" a1_10, .str "pat_ws" a1_11, .str "idst" a1_12]) = u1 at *
 refine LoopD.mk [] _ eS [Str.ofString "ex", Str.ofString "sd", Str.ofString "cased", Str.ofString "ci", Str.ofString "ep", Str.ofString "di", Str.ofString "ids", Str.ofString "idc", Str.ofString "xids", Str.ofString "xidc", Str.ofString "pat_syn", Str.ofString "pat_ws", Str.ofString "idst"] nilPerm (iterV_tupE hR.handled hV1) (fun u_ k9 => k9 _ _ _ hc hm) ?_ ?_
 ·intro pre x post v m' zi zi' ni hxs l3 l4 hv hJ QB hQB
  apply hJ
  intro nm F m j1 j2
  induction hv using vzS_use with | _ tx hv => ?_
  have hpl := congrArg List.length hxs
  have hxc : Str.ofString "ccc" ≠ x := by
   have key : ∀ y ∈ ([Str.ofString "ex", Str.ofString "sd", Str.ofString "cased", Str.ofString "ci", Str.ofString "ep", Str.ofString "di", Str.ofString "ids", Str.ofString "idc", Str.ofString "xids", Str.ofString "xidc", Str.ofString "pat_syn", Str.ofString "pat_ws", Str.ofString "idst"] : List Str), Str.ofString "ccc" ≠ y := by decide +kernel
   exact key x (by rw [hxs]; simp)
  clear hxs
  simp only [List.length_append, List.length_cons, List.length_nil] at hpl
  walk_at "v"
  walk_at "t"
  refine setD (v := .bool false) (lo' := .dS (fun y => if y = x then some (.bool false) else F y) (m + 1)) (strKind _ _) dsIs (fun o h => h) .head (by (first | lia | omega)) (strKey x tx) ?_
  walk_at "v"
  walk_at "n"
  refine hQB _ _ _ _ fun l7 => fun u_ k9 => k9 _ _ _ ?_ ?_
  ·rw [if_neg hxc]
   exact j1
  ·simp only [List.length_append, List.length_singleton]
   (first | lia | omega)
 intro m1 w2 n1 l1 hJ
 apply hJ
 intro nm1 F2 c1 hc hm
 clear hV1
 replace hm : c1 ≤ 24 := by simpa using hm
 walk_at "v"
 let J2 : List Str → M → Fz → Led → Prop := fun pre m' z' n' => ∀ GG9 : M → Led → Prop, (∀ nm F m, (F (Str.ofString "ccc") = some (.int 0 tv1)) → (m ≤ 24 + pre.length) → ((0 < pre.length → F (Str.ofString "dm") = some .none)) → GG9 (([("found", some (.ref D)), ("name", nm)] : M)) ((D, .dS F m) :: n)) → GG9 m' n'
 walk_at "e"
 refine @exs_semQ _ _ _ _ _ _ _ _ _ _ _ fun QS hQS => ?_
 refine @for_dataQ _ _ _ _ _ _ _ _ _ hC _ _ _ _ _ J2 ?_ (fun u_ => rfl)
 walk_at "v"
 intro a2_0 a2_1 a2_2 a2_3 a2_4 a2_5 a2_6 a2_7 a2_8 a2_9 a2_10 a2_11 a2_12 T2 hT2
 walk_at "v"
 have hV2 : Vz (fset w2 T2 (.tup [.str "dm" a2_0, .str "uc" a2_1, .str "lc" a2_2, .str "tc" a2_3, .str "cf" a2_4, .str "bm" a2_5, .str "bpb" a2_6, .str "scx" a2_7, .str "nt" a2_8, .str "nv" a2_9, .str "name" a2_10, .str "conf" a2_11, .str "nfkc_cf" a2_12])) (.tuple (([Str.ofString "dm", Str.ofString "uc", Str.ofString "lc", Str.ofString "tc", Str.ofString "cf", Str.ofString "bm", Str.ofString "bpb", Str.ofString "scx", Str.ofString "nt", Str.ofString "nv", Str.ofString "name", Str.ofString "conf", Str.ofString "nfkc_cf"] : List Str).map eS)) (.ref T2) := by
  exact ⟨T2, _, rfl, fset_self, vzAll_iff.mpr (All2.map.mpr ⟨vzS_mk, vzS_mk, vzS_mk, vzS_mk, vzS_mk, vzS_mk, vzS_mk, vzS_mk, vzS_mk, vzS_mk, vzS_mk, vzS_mk, vzS_mk, trivial⟩)⟩
 have lT2 := Le.fset (lo := .tup [.str "dm" a2_0, .str "uc" a2_1, .str "lc" a2_2, .str "tc" a2_3, .str "cf" a2_4, .str "bm" a2_5, .str "bpb" a2_6, .str "scx" a2_7, .str "nt" a2_8, .str "nv" a2_9, .str "name" a2_10, .str "conf" a2_11, .str "nfkc_cf" a2_12]) hT2
 generalize fset w2 T2 (.tup [.str "dm" a2_0, .str "uc" a2_1, .str "lc" a2_2, .str "tc" a2_3, .str "cf" a2_4, .str "bm" a2_5, .str "bpb" a2_6, .str "scx" a2_7, .str "nt" a2_8, .str "nv" a2_9, .str "name" a2_10, .str "conf" a2_11, .str "nfkc_cf" a2_12]) = u2 at *
 refine LoopD.mk [] _ eS [Str.ofString "dm", Str.ofString "uc", Str.ofString "lc", Str.ofString "tc", Str.ofString "cf", Str.ofString "bm", Str.ofString "bpb", Str.ofString "scx", Str.ofString "nt", Str.ofString "nv", Str.ofString "name", Str.ofString "conf", Str.ofString "nfkc_cf"] nilPerm (iterV_tupE hR.handled hV2) (fun u_ k9 => k9 _ _ _ hc hm (fun h => absurd h (Nat.lt_irrefl 0))) ?_ ?_
 ·intro pre x post v m' zi zi' ni hxs l3 l4 hv hJ QB hQB
  apply hJ
  intro nm F m j1 j2 j3
  induction hv using vzS_use with | _ tx hv => ?_
  have hpl := congrArg List.length hxs
  have hxc : Str.ofString "ccc" ≠ x := by
   have key : ∀ y ∈ ([Str.ofString "dm", Str.ofString "uc", Str.ofString "lc", Str.ofString "tc", Str.ofString "cf", Str.ofString "bm", Str.ofString "bpb", Str.ofString "scx", Str.ofString "nt", Str.ofString "nv", Str.ofString "name", Str.ofString "conf", Str.ofString "nfkc_cf"] : List Str), Str.ofString "ccc" ≠ y := by decide +kernel
   exact key x (by rw [hxs]; simp)
  have hx0 : pre = [] → x = Str.ofString "dm" := fun e => by
   subst e
   exact (List.cons.inj hxs).1.symm
  clear hxs
  simp only [List.length_append, List.length_cons, List.length_nil] at hpl
  walk_at "v"
  walk_at "t"
  refine setD (v := .none) (lo' := .dS (fun y => if y = x then some (.none) else F y) (m + 1)) (strKind _ _) dsIs (fun o h => h) .head (by (first | lia | omega)) (strKey x tx) ?_
  walk_at "v"
  walk_at "n"
  refine hQB _ _ _ _ fun l7 => fun u_ k9 => k9 _ _ _ ?_ ?_ (fun u_ => ?_)
  ·rw [if_neg hxc]
   exact j1
  ·simp only [List.length_append, List.length_singleton]
   (first | lia | omega)
  ·by_cases e : Str.ofString "dm" = x
   ·rw [if_pos e]
   ·rw [if_neg e]
    refine j3 (Nat.pos_of_ne_zero fun h => e ?_)
    exact (hx0 (List.eq_nil_of_length_eq_zero h)).symm
 intro m2 w3 n2 l2 hJ
 apply hJ
 intro nm2 F3 c2 hc hm hdm
 clear hV2
 replace hm : c2 ≤ 37 := by simpa using hm
 walk_at "v"
 replace hdm := hdm (by simp)
 let J3 : List Str → M → Fz → Led → Prop := fun pre m' z' n' => ∀ GG9 : M → Led → Prop, (∀ nm F m, (F (Str.ofString "ccc") = some (.int 0 tv1)) → (m ≤ 37 + pre.length) → (F (Str.ofString "dm") = some .none) → GG9 (([("found", some (.ref D)), ("name", nm)] : M)) ((D, .dS F m) :: n)) → GG9 m' n'
 walk_at "e"
 refine @exs_semQ _ _ _ _ _ _ _ _ _ _ _ fun QS hQS => ?_
 refine @for_dataQ _ _ _ _ _ _ _ _ _ hC _ _ _ _ _ J3 ?_ (fun u_ => rfl)
 walk_at "v"
 intro a3_0 a3_1 a3_2 a3_3 T3 hT3
 walk_at "v"
 have hV3 : Vz (fset w3 T3 (.tup [.str "suc" a3_0, .str "slc" a3_1, .str "stc" a3_2, .str "alias" a3_3])) (.tuple (([Str.ofString "suc", Str.ofString "slc", Str.ofString "stc", Str.ofString "alias"] : List Str).map eS)) (.ref T3) := by
  exact ⟨T3, _, rfl, fset_self, vzAll_iff.mpr (All2.map.mpr ⟨vzS_mk, vzS_mk, vzS_mk, vzS_mk, trivial⟩)⟩
 have lT3 := Le.fset (lo := .tup [.str "suc" a3_0, .str "slc" a3_1, .str "stc" a3_2, .str "alias" a3_3]) hT3
 generalize fset w3 T3 (.tup [.str "suc" a3_0, .str "slc" a3_1, .str "stc" a3_2, .str "alias" a3_3]) = u3 at *
 refine LoopD.mk [] _ eS [Str.ofString "suc", Str.ofString "slc", Str.ofString "stc", Str.ofString "alias"] nilPerm (iterV_tupE hR.handled hV3) (fun u_ k9 => k9 _ _ _ hc hm hdm) ?_ ?_
 ·intro pre x post v m' zi zi' ni hxs l3 l4 hv hJ QB hQB
  apply hJ
  intro nm F m j1 j2 j3
  induction hv using vzS_use with | _ tx hv => ?_
  have hpl := congrArg List.length hxs
  have hxc : Str.ofString "ccc" ≠ x := by
   have key : ∀ y ∈ ([Str.ofString "suc", Str.ofString "slc", Str.ofString "stc", Str.ofString "alias"] : List Str), Str.ofString "ccc" ≠ y := by decide +kernel
   exact key x (by rw [hxs]; simp)
  have hxd : Str.ofString "dm" ≠ x := by
   have key : ∀ y ∈ ([Str.ofString "suc", Str.ofString "slc", Str.ofString "stc", Str.ofString "alias"] : List Str), Str.ofString "dm" ≠ y := by decide +kernel
   exact key x (by rw [hxs]; simp)
  clear hxs
  simp only [List.length_append, List.length_cons, List.length_nil] at hpl
  walk_at "v"
  walk_at "t"
  intro TE hTE
  walk_at "v"
  refine setD (v := .ref TE) (lo' := .dS (fun y => if y = x then some (.ref TE) else F y) (m + 1)) (strKind _ _) dsIs (fun o h => h) .head (by (first | lia | omega)) (strKey x tx) ?_
  walk_at "v"
  walk_at "n"
  refine hQB _ _ _ _ fun l7 => fun u_ k9 => k9 _ _ _ ?_ ?_ ?_
  ·rw [if_neg hxc]
   exact j1
  ·simp only [List.length_append, List.length_singleton]
   (first | lia | omega)
  ·rw [if_neg hxd]
   exact j3
 intro m3 w4 n3 l3 hJ
 apply hJ
 intro nm3 F4 c3 hc hm hdm
 clear hV3
 replace hm : c3 ≤ 41 := by simpa using hm
 walk_at "v"
 walk_at "t"
 intro ts TE hTE
 walk_at "v"
 intro T9 hT9
 walk_at "v"
 intro tk
 refine setD (v := .ref T9) (lo' := .dS (fun y => if y = Str.ofString "idna" then some (.ref T9) else F4 y) (c3 + 1)) (strKind _ _) dsIs (fun o h => h) .head (by exact Nat.le_trans hm (Nat.le_of_ble_eq_true rfl)) (strKey _ tk) ?_
 walk_at "v"
 walk_at "t"
 refine hQF _ _ _ _ fun l => ⟨_, List.Sublist.refl _, q D _ _ tv1 _ l hD ?_ ?_⟩
 ·rw [if_neg (by decide +kernel)]
  exact hc
 ·rw [if_neg (by decide +kernel)]
  exact hdm
theorem data_init (w : World) {A : Around} {k : Nat} (hA : Room A (k + 2)) {z : Fz} {n : Led} {x dx : Addr} : WCall PySem.Challenge.pw_nt0082_01 w (k0.heap_1 w.params) A (.ref 727) [.ref x] z ((x, .raw (instObj 751 dx)) :: (dx, .att []) :: n)
  fun v z' n' => ∃ D M f m t U W, v = .none ∧ (D == sysModules) = false ∧ (M == sysModules) = false ∧ f (Str.ofString "ccc") = some (.int 0 t) ∧ f (Str.ofString "dm") = some .none ∧ n' = (W, .dS (fun u_ => none) 0) :: (U, .dS (fun u_ => none) 0) :: (M, .dS (fun u_ => none) 0) :: (D, .dS f m) :: (x, .raw (instObj 751 dx)) :: (dx, .att [("words", .ref W), ("properties", .ref U), ("maps", .ref M), ("defaults", .ref D)]) :: n := by
 refine fn_CQ (binds := [("self", .ref x)]) (own := none) (names := ["self"]) (locs := ["self"]) (g := [("data_defaults", Value.ref 713)]) hA (by k_is) (by k_is) (fun _ X => by first | exact BindsTo.of_eq rfl | exact binds_K X rfl (by k_is) rfl rfl rfl) rfl (fun _ => rfl) (by decide +kernel) ⟨⟨rfl, gl_data_defaults w⟩, trivial⟩ fun L env eenv hC hR QF hQF => ?_
 walk_at "t"
 refine callE_k (by k_is) (s_data_defaults w (k := k) hR fun D f m t z1 l1 hD h1 h2 => ?_)
 walk_at "v"
 refine setattr_W (.inr (.tail _ (.head _))) (.tail (.tail .head)) (by kernel_rfl) (Nat.le_of_ble_eq_true rfl) (by k_is) (by k_is) (by k_is) (by k_is) ?_
 walk_at "v"
 walk_at "t"
 refine newD (.dS (fun u_ => none) 0) isS0 fun M hM => ?_
 walk_at "v"
 refine setattr_W (.inr (.tail _ (.tail _ (.head _)))) (.tail (.tail (.tail .head))) (by kernel_rfl) (Nat.le_of_ble_eq_true rfl) (by k_is) (by k_is) (by k_is) (by k_is) ?_
 walk_at "v"
 walk_at "t"
 refine newD (.dS (fun u_ => none) 0) isS0 fun U hU => ?_
 walk_at "v"
 refine setattr_W (.inr (.tail _ (.tail _ (.tail _ (.head _))))) (.tail (.tail (.tail (.tail .head)))) (by kernel_rfl) (Nat.le_of_ble_eq_true rfl) (by k_is) (by k_is) (by k_is) (by k_is) ?_
 walk_at "v"
 walk_at "t"
 refine newD (.dS (fun u_ => none) 0) isS0 fun W hW => ?_
 walk_at "v"
 refine setattr_W (.inr (.tail _ (.tail _ (.tail _ (.tail _ (.head _)))))) (.tail (.tail (.tail (.tail (.tail .head))))) (by kernel_rfl) (Nat.le_of_ble_eq_true rfl) (by k_is) (by k_is) (by k_is) (by k_is) ?_
 walk_at "v"
 walk_at "n"
 exact hQF _ _ _ _ fun u_ => ⟨_, List.Sublist.refl _, D, M, f, m, t, U, W, rfl, hD, hM, h1, h2, rfl⟩
theorem s_data (w : World) {A : Around} {k : Nat} (hA : Room A (k + 3)) {z : Fz} {n : Led} {Q : KV} (q : ∀ v f t z', Le z z' → DataIs z' f v → f (Str.ofString "ccc") = some (.int 0 t) → f (Str.ofString "dm") = some .none → Q v z' n) :
  callE PySem.Challenge.pw_nt0082_01 w (k0.heap_1 w.params) A (.ref 751) [] z n Q := by
 refine callE_k (by k_is) (W.mono (Q := fun v z' n' => ∃ f t, DataIs z' f v ∧ f (Str.ofString "ccc") = some (.int 0 t) ∧ f (Str.ofString "dm") = some .none ∧ n' = n) (W.post_frz (W.post_frz (W.post_frz (W.post_frz (W.drop (WCall.W (make_W hA (by k_is) (by k_is) (by k_is) fun x dx A' hA' => ?_))))))) fun v z' n' l h => ?_)
 ·intro s hs
  refine codeAny_mono (data_init w hA' (n := n) s hs) fun r s' h => ?_
  obtain ⟨v, z', n', e, st, D, M, f, m, t, U, W, e1, h1, h2, h3, h4, e2⟩ := h
  subst e1 e2
  refine ⟨_, _, _, e, st, rfl, _, (List.Sublist.refl _).cons _ |>.cons _, M, _, _, List.Perm.refl _, fun hM => ?_⟩
  refine ⟨D, _, _, List.Perm.refl _, fun hD => ?_⟩
  refine ⟨x, _, _, List.Perm.refl _, fun hx => ?_⟩
  refine ⟨dx, _, _, List.Perm.refl _, fun hdx => ?_⟩
  exact ⟨f, t, ⟨x, dx, D, M, m, _, _, rfl, Le.fset hdx _ _ fset_self, fset_self, Le.fset hdx _ _ (Le.fset hx _ _ fset_self), Le.fset hdx _ _ (Le.fset hx _ _ (Le.fset hD _ _ fset_self)), h2, h1⟩, h3, h4, rfl⟩
 ·refine oEEAAA h fun f t h1 h2 h3 e => ?_
  clear h
  subst e
  exact q v f t z' l h1 h2 h3
theorem s_deck (w : World) {A : Around} {k : Nat} (hA : Room A (k + 1)) {z : Fz} {sa : Addr} {o : Obj} {vs0 : List Value} {mm : Nat} {is : List Int} (hl : is.length ≤ 1000) (hz : z sa = some (.raw o)) (hoc : o.cls = .type "list") (hod : o.data = .seq vs0.toArray mm) (hs : All2 (fun i v => ∀ z, Vz z (eI i) v) is vs0) {Q : KV} (q : ∀ d C cs mx t z', Le z z' → DeckOk d cs mx → Q (.ref d) z' (deckL d C cs mx t)) : Wp w A (call (.ref 761) [.ref sa] []) z [] Q := by
 refine WCall.W ?_
 refine fn_CQ (binds := [("script", .ref sa)]) (own := none) (names := ["script"]) (locs := ["script", "cells", "mixed", "cell"]) (g := []) hA (by k_is) (by k_is) (fun _ X => by first | exact BindsTo.of_eq rfl | exact binds_K X rfl (by k_is) rfl rfl rfl) rfl (fun _ => rfl) (by decide +kernel) trivial fun L env eenv hC hR QF hQF => ?_
 walk_at "t"
 refine ⟨true, by subst eenv; rfl, ?_⟩
 walk_at "v"
 refine comp_V hC [] none [("int", .type "int")] ["cell"] (by subst eenv; rfl) (fun u_ => rfl) (fun u_ => rfl) (by decide +kernel) (by decide +kernel) ⟨⟨rfl, gl_int w⟩, trivial⟩ ?_
 walk_at "v"
 intro t1
 refine slice_rawU (b := 40) hz hoc hod rfl (by rw [hs.len]; omega) fun z1 U0 l1 hU => ?_
 have hu : Vz z1 (eL eI (is.take 40)) (.ref U0) := vzL_mk (a := U0) hU ((hs.take 40).mono fun u_ u_ h => h z1)
 refine comp_data [] _ eI (is.take 40) (fun u_ => true) (fun x => x) eI nilPerm (iterV_list hR.handled hu) (by rw [List.length_take]; omega) ?_ ?_
 ·rintro C hC' p v zj m ov hm l7 hv hk
  obtain ⟨v0, rfl⟩ := keys1 hk
  induction hv using vzI_use with | _ t2 hv => ?_
  walk_at "v"
  refine callE_t (int_W ?_)
  exact fun l8 => ⟨rfl, ⟨none, rfl⟩, rfl, hv.up l8⟩
 intro vs z2 l2 hvl hall
 rw [filter_tt, List.map_id'] at hall
 refine .inr fun D hD => ?_
 walk_at "v"
 intro t3 T hT
 walk_at "v"
 have hcv : Vz (fset (fset z2 D (.lst vs)) T (.tup [.ref D, .int 11 t3])) (eL eI (is.take 40)) (.ref D) := vzL_mk (a := D) (vs := vs) (Le.fset hT _ _ fset_self) (hall.vmono ((Le.fset hD).trans (Le.fset hT)))
 clear hall
 generalize fset (fset z2 D (.lst vs)) T (.tup [.ref D, .int 11 t3]) = z3 at *
 let J : List Int → M → Fz → Led → Prop := fun pre m' z' n' => ∀ GG9 : M → Led → Prop, (∀ a mx t, (0 ≤ mx) → (mx < 2147483648) → GG9 (([("script", some (.ref sa)), ("cells", some (.ref D)), ("mixed", some (.int mx t)), ("cell", a)] : M)) ([])) → GG9 m' n'
 walk_at "e"
 refine @exs_semQ _ _ _ _ _ _ _ _ _ _ _ fun QS hQS => for_dataQ hC J ?_
 walk_at "v"
 refine LoopL_mk hC eI _ hcv (fun u_ k9 => k9 none 11 t3 (by exact Int.natCast_nonneg _) (by exact Int.natCast_nonneg _)) ?_ ?_
 ·intro pre x post v m' zi zi' ni hxs l3 l4 hv hJ QB hQB
  apply hJ
  intro a mx t j1 j2
  induction hv using vzI_use with | _ t4 hv => ?_
  clear hxs
  walk_at "v"
  walk_at "t"
  intro t5
  refine ⟨⟨by first | exact Int.lt_of_lt_of_le (by decide) j1 | lia | omega, by first | exact Int.lt_trans j2 (by decide) | lia | omega⟩, fun t6 t7 t8 => ?_⟩
  refine ⟨by first | exact by decide | lia | omega, fun t9 => ?_⟩
  walk_at "v"
  walk_at "n"
  obtain ⟨g1, g2⟩ := fmod_lt (i := mx * 31 + x) (j := 1000003) (by exact Int.natCast_nonneg _)
  walk_at "e"
  exact hQB _ _ _ _ fun l => fun u_ k9 => k9 _ _ _ g1 (by first | exact Int.lt_trans g2 (by decide) | lia | omega)
 intro m' z4 n4 l4 hJ
 apply hJ
 intro a mx t j1 j2
 walk_at "v"
 walk_at "t"
 refine @dictK_V _ _ _ _ _ _ _ _ hC _ _ _ rfl rfl (by subst eenv; rfl) _ fun d hd => ?_
 dsimp only [zipKV, List.filterMap, id, List.zip, List.zipWith, evp]
 walk_at "v"
 intro tk1 t5 t6
 refine oEEAA (vzL.mp (hcv.up l4)) fun ca cvs e hcz hca => ?_
 cases e
 refine slice_lst (.inl hcz) .none .none (.int _ _) (by decide) (by have := hca.len; rw [this, List.length_take]; omega) fun i hi' => .inl fun C => ?_
 rw [pick_rev]
 walk_at "v"
 intro tk2
 refine ⟨[(Str.ofString "cells", .ref C), (Str.ofString "mixed", .int mx t)], _, ⟨strKey _ _, rfl, strKey _ _, rfl, trivial⟩, Nat.le_of_ble_eq_true rfl, List.Perm.swap .., ?_⟩
 have e2 : (fun y => valueAt (merged [] [(Str.ofString "cells", .ref C), (Str.ofString "mixed", .int mx t)]) y) = deckF C mx t := by
  funext y
  unfold deckF
  show valueAt (stored (stored [] (Str.ofString "cells") (.ref C)) (Str.ofString "mixed") (.int mx t)) y = _
  rw [valueAt_stored, valueAt_stored]
  by_cases h1 : y = Str.ofString "mixed"
  ·have h2 : ¬ y = Str.ofString "cells" := fun e => by
    rw [h1] at e
    exact absurd (str_inj.mp e) (by decide)
   rw [if_pos h1, if_neg h2, if_pos h1]
  ·rw [if_neg h1, if_neg h1]
   rfl
 rw [e2]
 walk_at "e"
 refine hQF _ _ _ _ fun l => ⟨_, List.Sublist.refl _, q d C _ mx t _ l ⟨⟨(is.take 40).reverse, ?_⟩, ?_, j1, j2, hd⟩⟩
 ·exact (hca.mono fun i v h z => by
   induction h using vzI_use with | _ t h => ?_
   exact vzI_mk).reverse
 ·have := hca.len
  rw [List.length_reverse, this, List.length_take]
  exact Nat.le_trans (Nat.min_le_left _ _) (Nat.le_of_ble_eq_true rfl)
theorem s_draw (w : World) {A : Around} {k : Nat} (hA : Room A (k + 1)) {z : Fz} {d C : Addr} {cs : List Value} {mx many : Int} {t tm : Tok} (hD : DeckOk d cs mx) (hm : 0 < many) (hm2 : many < 1000000) :
  Wp w A (call (.ref 768) [.ref d, .int many tm] []) z (deckL d C cs mx t) fun v z' n' => ∃ i t' cs' mx' t2, v = .int i t' ∧ 0 ≤ i ∧ i < many ∧ DeckOk d cs' mx' ∧ n' = deckL d C cs' mx' t2 := by
 unfold deckL
 refine WCall.W ?_
 refine fn_CQ (binds := [("deck", .ref d), ("many", .int many tm)]) (own := none) (names := ["deck", "many"]) (locs := ["deck", "many"]) (g := []) hA (by k_is) (by k_is) (fun _ X => by first | exact BindsTo.of_eq rfl | exact binds_K X rfl (by k_is) rfl rfl rfl) rfl (fun _ => rfl) (by decide +kernel) trivial fun L env eenv hC hR QF hQF => ?_
 obtain ⟨is, his⟩ := hD.nums
 have hwl := his.len
 have hcl := hD.len
 walk_at "t"
 intro tk
 refine itemD (strKind _ _) dsIs (.inr (.head _)) (strKey _ tk) deckF_cells ?_
 walk_at "v"
 refine .inr fun D0 hD0 => ?_
 walk_at "v"
 refine ne_W (x := is) (y := []) (hR.less (Nat.zero_le _)) Enc.int.list (by decide) (.inr ⟨C, cs, _, rfl, rfl, .inr (.tail _ (.head _)), vzAll_iff.mpr (All2.map.mpr (his.mono fun u_ u_ h => h _))⟩) (.inl (vzL_mk (a := D0) (vs := []) fset_self trivial)) ?_
 walk_at "v"
 refine brE_not (brE_dec (fun h1 => ?_) (fun h1 => ?_))
 ·walk_at "n"
  walk_at "t"
  intro t1
  refine itemD (strKind _ _) dsIs (.inr (.head _)) (strKey _ t1) deckF_mixed ?_
  walk_at "v"
  have e1 := hD.lo
  have e2 := hD.hi
  intro t2
  refine ⟨⟨by first | exact Int.lt_of_lt_of_le (by decide) e1 | lia | omega, by first | exact Int.lt_trans e2 (by decide) | lia | omega⟩, fun t3 t4 t5 t6 => ?_⟩
  refine ⟨by first | exact by decide | lia | omega, fun t7 t8 => ?_⟩
  obtain ⟨g1, g2⟩ := fmod_lt (i := mx * 16807 + 29) (j := 2147483647) (by exact Int.natCast_nonneg _)
  refine setD (lo' := .dS (deckF C (Int.fmod (mx * 16807 + 29) 2147483647) t7) 2) (strKind _ _) dsIs deck_set .head (by exact (Nat.le_of_ble_eq_true rfl)) (strKey _ t8) ?_
  walk_at "v"
  walk_at "t"
  intro t9
  refine itemD (strKind _ _) dsIs (.inr (.head _)) (strKey _ t9) deckF_mixed ?_
  walk_at "v"
  intro t10
  refine ⟨⟨by first | exact by decide | lia | omega, by first | exact by decide | lia | omega⟩, fun t11 => ?_⟩
  refine ⟨by first | exact Int.ne_of_gt hm | lia | omega, fun t12 => ?_⟩
  obtain ⟨g3, g4⟩ := fmod_lt (i := Int.fdiv (Int.fmod (mx * 16807 + 29) 2147483647) 64) (j := many) hm
  walk_at "e"
  exact hQF _ _ _ _ fun u_ => ⟨_, List.Sublist.refl _, _, _, _, _, _, rfl, g3, g4, ⟨hD.nums, hcl, g1, by first | exact Int.lt_trans g2 (by decide) | lia | omega, hD.sys⟩, rfl⟩
 ·obtain ⟨ys, y, rfl⟩ : ∃ ys y, is = ys ++ [y] := ⟨is.dropLast, is.getLast h1, (List.dropLast_concat_getLast h1).symm⟩
  refine oEEAA his.snoc_inv fun wsi u e0_ g1 g2 => ?_
  subst e0_
  induction (g2 z) using vzI_use with | _ t0 _ => ?_
  walk_at "t"
  intro t1
  refine itemD (strKind _ _) dsIs (.inr (.head _)) (strKey _ t1) deckF_cells ?_
  refine meth_lst (.inr (.tail _ (.head _))) PySem.F.slot_list_pop PySem.F.type_list_pop ?_
  walk_at "v"
  rw [List.length_append, List.length_singleton] at hcl
  refine callE_b (pop_W (.tail .head) (by exact Nat.le_of_lt (Nat.lt_of_lt_of_le hcl (Nat.le_of_ble_eq_true rfl))) ?_)
  walk_at "v"
  refine ⟨by first | exact Int.ne_of_gt hm | lia | omega, fun t12 => ?_⟩
  obtain ⟨g3, g4⟩ := fmod_lt (i := y) (j := many) hm
  walk_at "e"
  exact hQF _ _ _ _ fun u_ => ⟨_, List.Sublist.refl _, _, _, _, _, _, rfl, g3, g4, ⟨⟨ys, g1⟩, by exact Nat.le_of_lt (Nat.lt_of_lt_of_le hcl (Nat.le_of_ble_eq_true rfl)), hD.lo, hD.hi, hD.sys⟩, rfl⟩
theorem draw_E (w : World) {A : Around} {k : Nat} (hA : Room A (k + 1)) {z : Fz} {d C : Addr} {cs : List Value} {mx many : Int} {t tm : Tok} (l : Led) (hD : DeckOk d cs mx) (hm : 0 < many) (hm2 : many < 1000000) {Q : KV}
  (q : ∀ i t' cs' mx' t2 z', Le z z' → 0 ≤ i → i < many → DeckOk d cs' mx' → Q (.int i t') z' (l ++ deckL d C cs' mx' t2)) : callE PySem.Challenge.pw_nt0082_01 w (k0.heap_1 w.params) A (.ref 768) [.ref d, .int many tm] z (l ++ deckL d C cs mx t) Q :=
 callE_k (by k_is) (W.ahead (r := l) (W.mono (s_draw w hA hD hm hm2) fun v z' n' l' h => by
  refine oEEEEEAAAA h fun i t' cs' mx' t2 e h1 h2 h3 e2 => ?_
  clear h
  subst e e2
  exact q _ _ _ _ _ _ l' h1 h2 h3))
theorem s_rows (w : World) {A : Around} {k : Nat} (hA : Room A (k + 2)) {z : Fz} {d C : Addr} {cs : List Value} {mx : Int} {t : Tok} (hD : DeckOk d cs mx) {Q : KV}
  (q : ∀ R xs rows cs' mx' t2 z', Le z z' → (R == sysModules) = false → RowsAt z' rows xs → (∃ e1 e2 : List (List Int), (e1 = [] ∨ e1 = [[97, 98]]) ∧ (e2 = [] ∨ e2 = [[98, 99]]) ∧ rows.map (·.1) = [[97], [98], [99], [100], [101], [120], [121]] ++ e1 ++ e2) → (∀ r ∈ rows, r.2.length ≤ 2) → DeckOk d cs' mx' → Q (.ref R) z' ((R, .dT xs) :: deckL d C cs' mx' t2)) :
  Wp w A (call (.ref 775) [.ref d] []) z (deckL d C cs mx t) Q := by
 refine WCall.W ?_
 refine fn_CQ (binds := [("deck", .ref d)]) (own := none) (names := ["deck"]) (locs := ["deck", "rows", "sign"]) (g := [("_law_draw", Value.ref 768)]) hA (by k_is) (by k_is) (fun _ X => by first | exact BindsTo.of_eq rfl | exact binds_K X rfl (by k_is) rfl rfl rfl) rfl (fun _ => rfl) (by decide +kernel) ⟨⟨rfl, gl_law_draw w⟩, trivial⟩ fun L env eenv hC hR QF hQF => ?_
 walk_at "t"
 refine newD (.dT []) isT0 fun R hR0 => ?_
 walk_at "v"
 let J : List Int → M → Fz → Led → Prop := fun pre m' z' n' => ∀ GG9 : M → Led → Prop, (∀ sg rows xs cs mx t, (RowsAt z' rows xs) → (rows.map (·.1) = pre.map (fun c => [c])) → ((∀ r ∈ rows, r.2.length ≤ 1)) → (DeckOk d cs mx) → GG9 (([("deck", some (.ref d)), ("rows", some (.ref R)), ("sign", sg)] : M)) ((R, .dT xs) :: deckL d C cs mx t)) → GG9 m' n'
 walk_at "e"
 refine @exs_semQ _ _ _ _ _ _ _ _ _ _ _ fun QS hQS => ?_
 refine @for_dataQ _ _ _ _ _ _ _ _ _ hC _ _ _ _ _ J ?_ (fun u_ => rfl)
 walk_at "v"
 intro a1 a2 a3 a4 TT hTT
 walk_at "v"
 have hV : Vz (fset z TT (.tup [.int 97 a1, .int 98 a2, .int 99 a3, .int 100 a4])) (.tuple (([97, 98, 99, 100] : List Int).map eI)) (.ref TT) := by
  exact ⟨TT, _, rfl, fset_self, vzAll_iff.mpr (All2.map.mpr ⟨vzI_mk, vzI_mk, vzI_mk, vzI_mk, trivial⟩)⟩
 have lT := Le.fset (lo := .tup [.int 97 a1, .int 98 a2, .int 99 a3, .int 100 a4]) hTT
 generalize fset z TT (.tup [.int 97 a1, .int 98 a2, .int 99 a3, .int 100 a4]) = z0 at *
 refine LoopD.mk [] _ eI [97, 98, 99, 100] nilPerm (iterV_tupE hR.handled hV) (fun u_ k9 => k9 none [] [] cs mx t trivial rfl (by intro r hr; cases hr) hD) ?_ ?_
 ·intro pre x post v m' zi zi' ni hxs l3 l4 hv hJ QB hQB
  apply hJ
  intro sg rows xs cs mx t j1 j2 j3 hD
  induction hv using vzI_use with | _ t4 hv => ?_
  have hxn : ([x] : List Int) ∉ rows.map (·.1) := by
   rw [j2]
   intro h
   refine oEA (List.mem_map.mp h) fun y hy e => ?_
   have : y = x := (List.cons.inj e).1
   subst this
   have nd : ([97, 98, 99, 100] : List Int).Nodup := by decide
   rw [hxs] at nd
   exact (List.nodup_append.mp nd).2.2 y hy y (.head _) rfl
  have hrl : rows.length ≤ 4 := by
   have h1 := congrArg List.length hxs
   have h2 := congrArg List.length j2
   simp at h1 h2
   (first | lia | omega)
  replace j1 := j1.mono l4
  clear hxs hv
  walk_at "v"
  walk_at "t"
  intro t5 t6 t7
  refine draw_E w (k := k) hR [(R, .dT xs)] hD (by decide) (by decide) fun i1 u1 cs1 mx1 s1 z1 k1 u_ u_ hD1 => ?_
  walk_at "v"
  refine ⟨⟨by exact Int.natCast_nonneg _, by exact Int.natCast_nonneg _⟩, fun t8 t9 t10 t11 => ?_⟩
  refine draw_E w (k := k) hR [(R, .dT xs)] hD1 (by decide) (by decide) fun i2 u2 cs2 mx2 s2 z2 k2 u_ u_ hD2 => ?_
  walk_at "v"
  intro t12 t13 t14
  refine draw_E w (k := k) hR [(R, .dT xs)] hD2 (by decide) (by decide) fun i3 u3 cs3 mx3 s3 z3 k3 u_ u_ hD3 => ?_
  walk_at "v"
  intro t15 T hT
  walk_at "v"
  refine .inr fun D hD0 => ?_
  walk_at "v"
  intro Kx hKx
  walk_at "v"
  have hE : Vz (fset z3 T (.tup [.int (16 + 16 * i1) t9, .int (32 + i2) t12, .int (2 + i3) t15, .bool false])) (eE (16 + 16 * i1, 32 + i2, 2 + i3)) (.ref T) := vzE_mk (a := T) fset_self
  have hL : Vz (fset (fset z3 T (.tup [.int (16 + 16 * i1) t9, .int (32 + i2) t12, .int (2 + i3) t15, .bool false])) D (.lst [.ref T])) (eL eE [(16 + 16 * i1, 32 + i2, 2 + i3)]) (.ref D) := vzL_mk (a := D) fset_self ⟨hE.up (Le.fset hD0), trivial⟩
  refine row_set (ks := [x]) (hR.less (Nat.zero_le _)) (j1.mono (k1.trans (k2.trans (k3.trans ((Le.fset hT).trans ((Le.fset hD0).trans (Le.fset hKx))))))) hxn (by exact Nat.le_trans hrl (Nat.le_of_ble_eq_true rfl)) (one_tup fset_self) (hL.up (Le.fset hKx)) fun xs2 hx2 => ?_
  walk_at "v"
  walk_at "n"
  refine hQB _ _ _ _ fun l9 => fun u_ k9 => k9 _ _ xs2 cs3 mx3 s3 hx2 ?_ (fun r hr => ?_) hD3
  ·rw [List.map_append, List.map_append, j2]
   rfl
  ·rcases List.mem_append.mp hr with hr | hr
   ·exact j3 r hr
   ·rw [List.mem_singleton.mp hr]
    exact Nat.le_refl 1
 intro m' z1 n1 l1 hJ
 apply hJ
 intro sg rows xs cs mx t j1 j2 j3 hD
 clear hV lT hTT
 replace j2 : rows.map (·.1) = [[97], [98], [99], [100]] := j2
 have hrl : rows.length = 4 := by
  have h2 := congrArg List.length j2
  simpa using h2
 walk_at "v"
 let P1 : M → Fz → Led → Prop := fun m' z' n' => ∀ GG9 : M → Led → Prop, (∀ rows xs cs mx t, (RowsAt z' rows xs) → (rows.map (·.1) = [[97], [98], [99], [100], [101]]) → ((∀ r ∈ rows, r.2.length ≤ 2)) → (DeckOk d cs mx) → GG9 (([("deck", some (.ref d)), ("rows", some (.ref R)), ("sign", sg)] : M)) ((R, .dT xs) :: deckL d C cs mx t)) → GG9 m' n'
 walk_at "e"
 refine exs_mid hC P1 ?_ ?_
 ·walk_at "v"
  intro b1
  refine draw_E w (k := k) hR [(R, .dT xs)] hD (by decide) (by decide) fun i1 u1 cs1 mx1 s1 z2 k1 u_ u_ hD1 => ?_
  walk_at "v"
  intro b2
  replace j1 := j1.mono k1
  have fin : ∀ {z3 : Fz} {v : Value} {es : List El} {K5 : Addr} {b : Tok}, Le z2 z3 → Vz z3 (eL eE es) v → es.length ≤ 2 → z3 K5 = none → setItemE PySem.Challenge.pw_nt0082_01 w (k0.heap_1 w.params) (A.deeper env) (.ref R) (.ref K5) v (fset z3 K5 (.tup [.int 101 b])) ((R, .dT xs) :: deckL d C cs1 mx1 s1) fun z' n' => P1 ([("deck", some (.ref d)), ("rows", some (.ref R)), ("sign", sg)] : M) z' n' := fun {z3 v es K5 b} l hv hl hK => by
   refine row_set (ks := [101]) (hR.less (Nat.zero_le _)) (j1.mono (l.trans (Le.fset hK))) (by rw [j2]; decide) (by exact Nat.le_trans (Nat.le_of_eq hrl) (Nat.le_of_ble_eq_true rfl)) (one_tup fset_self) (hv.up (Le.fset hK)) fun xs2 hx2 => ?_
   refine fun u_ k9 => k9 _ xs2 cs1 mx1 s1 hx2 (by rw [List.map_append, j2]; rfl) (fun r hr => ?_) hD1
   rcases List.mem_append.mp hr with hr | hr
   ·exact Nat.le_succ_of_le (j3 r hr)
   ·rw [List.mem_singleton.mp hr]
    exact hl
  refine brE_dec (fun h1 => ?_) (fun h1 => ?_)
  ·refine oEA (look_some (rows := rows) (ks := [97]) (by rw [j2]; decide)) fun es1 hl1 hm1 => ?_
   refine oEA (look_some (rows := rows) (ks := [98]) (by rw [j2]; decide)) fun es2 hl2 hm2 => ?_
   have hs1 : es1.length ≤ 1 := j3 _ hm1
   have hs2 : es2.length ≤ 1 := j3 _ hm2
   intro b3 K1 hK1
   walk_at "v"
   refine Td_item (hR.less (Nat.zero_le _)) (.inl (.inr (.head _))) (j1.mono (Le.fset hK1)) (one_tup fset_self) hl1 fun v1 hv1 => ?_
   walk_at "v"
   intro b4 K2 hK2
   walk_at "v"
   refine Td_item (hR.less (Nat.zero_le _)) (.inl (.inr (.head _))) (j1.mono ((Le.fset hK1).trans (Le.fset hK2))) (one_tup fset_self) hl2 fun v2 hv2 => ?_
   induction hv1 using vzL_use with | _ a1 vs1 hz1 ha1 hv1 => ?_
   induction hv2 using vzL_use with | _ a2 vs2 hz2 ha2 hv2 => ?_
   have g1 := ha1.len
   have g2 := ha2.len
   walk_at "v"
   refine cat_W (.inl (Le.fset hK2 _ _ hz1)) (.inl hz2) (by exact Nat.le_trans (Nat.add_le_add (Nat.le_trans (Nat.le_of_eq g1) hs1) (Nat.le_trans (Nat.le_of_eq g2) hs2)) (Nat.le_of_ble_eq_true rfl)) (.inr fun D hD0 => ?_)
   walk_at "v"
   intro b5 K5 hK5
   walk_at "v"
   refine W.mono (fin (es := es1 ++ es2) ((Le.fset hK1).trans ((Le.fset hK2).trans (Le.fset hD0))) (vzL_mk (a := D) fset_self ((ha1.vmono ((Le.fset hK2).trans (Le.fset hD0))).append (ha2.vmono (Le.fset hD0)))) (by rw [List.length_append]; omega) hK5) fun u_ z' n' u_ h u_ => h
  ·intro b3 b4 b5 T hT
   walk_at "v"
   refine .inr fun D hD0 => ?_
   walk_at "v"
   intro b6 K5 hK5
   walk_at "v"
   refine W.mono (fin (es := [(64, 32, 2)]) ((Le.fset hT).trans (Le.fset hD0)) (vzL_mk (a := D) fset_self ⟨vzE_mk (a := T) (Le.fset hD0 _ _ fset_self), trivial⟩) (by decide) hK5) fun u_ z' n' u_ h u_ => h
 intro m' z2 n2 l2 hP
 apply hP
 intro rows xs cs mx t j1 j2 j3 hD
 have hrl : rows.length = 5 := by
  have h2 := congrArg List.length j2
  simpa using h2
 walk_at "e"
 refine @exs_semQ _ _ _ _ _ _ _ _ _ _ _ fun QS hQS => ?_
 refine @pairSub_W _ _ _ _ _ _ _ _ hC _ _ _ _ _ _ _ _ _ _ _ (by decide +kernel) (by subst eenv; rfl) ?_
 walk_at "v"
 intro c1 c2 c3 T1 hT1
 walk_at "v"
 refine .inr fun D1 hD1 => ?_
 walk_at "v"
 intro c4 c5 c6 T2 hT2
 walk_at "v"
 refine .inr fun D2 hD2 => ?_
 walk_at "v"
 intro TP hTP
 refine ⟨TP, _, _, rfl, .inl fset_self, ?_⟩
 have hv1 : Vz (fset (fset z2 T1 (.tup [.int 0 c1, .int 0 c2, .int 0 c3, .bool false])) D1 (.lst [.ref T1])) (eL eE [(0, 0, 0)]) (.ref D1) := vzL_mk (a := D1) fset_self ⟨vzE_mk (a := T1) (Le.fset hD1 _ _ fset_self), trivial⟩
 have lv1 : Le z2 (fset (fset z2 T1 (.tup [.int 0 c1, .int 0 c2, .int 0 c3, .bool false])) D1 (.lst [.ref T1])) := (Le.fset hT1).trans (Le.fset hD1)
 generalize fset (fset z2 T1 (.tup [.int 0 c1, .int 0 c2, .int 0 c3, .bool false])) D1 (.lst [.ref T1]) = y1 at *
 have hv2 : Vz (fset (fset y1 T2 (.tup [.int 0 c4, .int 40 c5, .int 2 c6, .bool false])) D2 (.lst [.ref T2])) (eL eE [(0, 40, 2)]) (.ref D2) := vzL_mk (a := D2) fset_self ⟨vzE_mk (a := T2) (Le.fset hD2 _ _ fset_self), trivial⟩
 have lv2 : Le y1 (fset (fset y1 T2 (.tup [.int 0 c4, .int 40 c5, .int 2 c6, .bool false])) D2 (.lst [.ref T2])) := (Le.fset hT2).trans (Le.fset hD2)
 generalize fset (fset y1 T2 (.tup [.int 0 c4, .int 40 c5, .int 2 c6, .bool false])) D2 (.lst [.ref T2]) = y2 at *
 have lv3 := Le.fset (lo := .tup [.ref D1, .ref D2]) hTP
 generalize fset y2 TP (.tup [.ref D1, .ref D2]) = y3 at *
 walk_at "v"
 intro c7 K1 hK1
 walk_at "v"
 refine row_set (ks := [120]) (hR.less (Nat.zero_le _)) (j1.mono (lv1.trans (lv2.trans (lv3.trans (Le.fset hK1))))) (by rw [j2]; decide) (by exact Nat.le_trans (Nat.le_of_eq hrl) (Nat.le_of_ble_eq_true rfl)) (one_tup fset_self) (hv1.up (lv2.trans (lv3.trans (Le.fset hK1)))) fun xs2 hx2 => ?_
 walk_at "v"
 intro c8 K2 hK2
 walk_at "v"
 refine row_set (ks := [121]) (hR.less (Nat.zero_le _)) (hx2.mono (Le.fset hK2)) (by rw [List.map_append, j2]; decide) (by rw [List.length_append, List.length_singleton]; omega) (one_tup fset_self) (hv2.up (lv3.trans ((Le.fset hK1).trans (Le.fset hK2)))) fun xs3 hx3 => ?_
 have j4 : (rows ++ [([120], [(0, 0, 0)])] ++ [([121], [(0, 40, 2)])] : Rows).map (·.1) = [[97], [98], [99], [100], [101], [120], [121]] := by
  rw [List.map_append, List.map_append, j2]; rfl
 have j5 : ∀ r ∈ (rows ++ [([120], [(0, 0, 0)])] ++ [([121], [(0, 40, 2)])] : Rows), r.2.length ≤ 2 := fun r hr => by
  rcases List.mem_append.mp hr with hr | hr
  ·rcases List.mem_append.mp hr with hr | hr
   ·exact j3 r hr
   ·rw [List.mem_singleton.mp hr]; decide
  ·rw [List.mem_singleton.mp hr]; decide
 clear hx2 j1 j2 j3 hrl hv1 hv2
 generalize (rows ++ [([120], [(0, 0, 0)])] ++ [([121], [(0, 40, 2)])] : Rows) = rows2 at *
 have ly : Le z2 (fset (fset y3 K1 (.tup [.int 120 c7])) K2 (.tup [.int 121 c8])) := lv1.trans (lv2.trans (lv3.trans ((Le.fset hK1).trans (Le.fset hK2))))
 clear lv1 lv2 lv3
 generalize fset (fset y3 K1 (.tup [.int 120 c7])) K2 (.tup [.int 121 c8]) = y4 at *
 have hrl : rows2.length = 7 := by
  have h2 := congrArg List.length j4
  simpa using h2
 walk_at "v"
 let P2 : M → Fz → Led → Prop := fun m' z' n' => ∀ GG9 : M → Led → Prop, (∀ e1 rows xs cs mx t, (RowsAt z' rows xs) → ((e1 = [] ∨ e1 = [[97, 98]])) → (rows.map (·.1) = [[97], [98], [99], [100], [101], [120], [121]] ++ e1) → ((∀ r ∈ rows, r.2.length ≤ 2)) → (DeckOk d cs mx) → GG9 (([("deck", some (.ref d)), ("rows", some (.ref R)), ("sign", sg)] : M)) ((R, .dT xs) :: deckL d C cs mx t)) → GG9 m' n'
 walk_at "e"
 refine exs_mid hC P2 ?_ ?_
 ·walk_at "v"
  intro b1
  refine draw_E w (k := k) hR [(R, .dT xs3)] hD (by decide) (by decide) fun i1 u1 cs1 mx1 s1 z5 k1 u_ u_ hD1 => ?_
  walk_at "v"
  intro b2
  refine brE_dec (fun h1 => ?_) (fun h1 => ?_)
  ·walk_at "t"
   intro b3 b4 b5 T hT
   walk_at "v"
   refine .inr fun D hD0 => ?_
   walk_at "v"
   intro b6 b7 K5 hK5
   walk_at "v"
   have hv : Vz (fset (fset z5 T (.tup [.int 80 b3, .int 32 b4, .int 2 b5, .bool false])) D (.lst [.ref T])) (eL eE [(80, 32, 2)]) (.ref D) := vzL_mk (a := D) fset_self ⟨vzE_mk (a := T) (Le.fset hD0 _ _ fset_self), trivial⟩
   refine row_set (ks := [97, 98]) (hR.less (Nat.zero_le _)) (hx3.mono (k1.trans ((Le.fset hT).trans ((Le.fset hD0).trans (Le.fset hK5))))) (by rw [j4]; decide) (by exact Nat.le_trans (Nat.le_of_eq hrl) (Nat.le_of_ble_eq_true rfl)) (two_tup fset_self) (hv.up (Le.fset hK5)) fun xs4 hx4 => ?_
   walk_at "v"
   walk_at "n"
   refine fun l => fun u_ k9 => k9 ([[97, 98]]) _ xs4 cs1 mx1 s1 hx4 (.inr rfl) (by rw [List.map_append, j4]; rfl) (fun r hr => ?_) hD1
   rcases List.mem_append.mp hr with hr | hr
   ·exact j5 r hr
   ·rw [List.mem_singleton.mp hr]; decide
  ·walk_at "n"
   exact fun l => fun u_ k9 => k9 ([]) _ xs3 cs1 mx1 s1 (hx3.mono k1) (.inl rfl) (by rw [j4]; rfl) j5 hD1
 intro m' z5 n5 l5 hP
 clear hx3 j4 j5 hrl
 apply hP
 intro e1 rows xs cs mx t j1 he1 j2 j3 hD
 have hrl : rows.length ≤ 8 := by
  have h2 := congrArg List.length j2
  rcases he1 with rfl | rfl <;> simp at h2 <;> omega
 walk_at "t"
 intro b1
 refine draw_E w (k := k) hR [(R, .dT xs)] hD (by decide) (by decide) fun i1 u1 cs1 mx1 s1 z6 k1 u_ u_ hD1 => ?_
 walk_at "v"
 intro b2
 refine brE_dec (fun h1 => ?_) (fun h1 => ?_)
 ·walk_at "t"
  intro b3 b4 b5 T hT
  walk_at "v"
  intro b8 b9 b10 T' hT'
  walk_at "v"
  refine .inr fun D hD0 => ?_
  walk_at "v"
  intro b6 b7 K5 hK5
  walk_at "v"
  have hv : Vz (fset (fset (fset z6 T (.tup [.int 16 b3, .int 32 b4, .int 2 b5, .bool false])) T' (.tup [.int 0 b8, .int 41 b9, .int 2 b10, .bool false])) D (.lst [.ref T, .ref T'])) (eL eE [(16, 32, 2), (0, 41, 2)]) (.ref D) := vzL_mk (a := D) fset_self ⟨vzE_mk (a := T) (Le.fset hD0 _ _ (Le.fset hT' _ _ fset_self)), vzE_mk (a := T') (Le.fset hD0 _ _ fset_self), trivial⟩
  refine row_set (ks := [98, 99]) (hR.less (Nat.zero_le _)) (j1.mono (k1.trans ((Le.fset hT).trans ((Le.fset hT').trans ((Le.fset hD0).trans (Le.fset hK5)))))) (by rw [j2]; rcases he1 with rfl | rfl <;> decide) (by exact Nat.le_trans hrl (Nat.le_of_ble_eq_true rfl)) (two_tup fset_self) (hv.up (Le.fset hK5)) fun xs4 hx4 => ?_
  walk_at "v"
  walk_at "n"
  walk_at "t"
  refine hQF _ _ _ _ fun l => ⟨_, List.Sublist.refl _, q R xs4 _ cs1 mx1 s1 _ l hR0 hx4 ⟨e1, [[98, 99]], he1, .inr rfl, by rw [List.map_append, j2]; rfl⟩ (fun r hr => ?_) hD1⟩
  rcases List.mem_append.mp hr with hr | hr
  ·exact j3 r hr
  ·rw [List.mem_singleton.mp hr]; decide
 ·walk_at "n"
  walk_at "t"
  exact hQF _ _ _ _ fun l => ⟨_, List.Sublist.refl _, q R xs _ cs1 mx1 s1 _ l hR0 (j1.mono k1) ⟨e1, [], he1, .inl rfl, by rw [j2, List.append_nil]⟩ j3 hD1⟩
theorem s_law_told (w : World) {A : Around} {k : Nat} (hA : Room A (k + 1)) {z : Fz} {ev : Value} {es : List El} {s t : Nat} (hl : es.length ≤ 10000) (hs : s ≤ 3) (he : Vz z (eL eE es) ev) :
  Wp w A (call (.ref 787) [ev, .int (s : Nat) t] []) z [] fun v z' n' => n' = [] ∧ Vz z' (eL (eL eI) (told s es)) v := by
 refine WCall.W ?_
 refine fn_CQ (binds := [("elements", ev), ("strength", .int (s : Nat) t)]) (own := (some "elements")) (names := ["elements", "strength"]) (locs := ["strength"]) (g := [("range", .type "range")]) hA (by k_is) (by k_is) (fun _ X => by first | exact BindsTo.of_eq rfl | exact binds_K X rfl (by k_is) rfl rfl rfl) rfl (fun _ => rfl) (by decide +kernel) ⟨⟨rfl, gl_range w⟩, trivial⟩ fun L env eenv hC hR QF hQF => ?_
 walk_at "v"
 refine exs_freeze fun hc0 => ?_
 have lc := Le.fset (lo := .cell (some ev)) hc0
 replace he := he.up lc
 have hcell : fset z (L + 1) (.cell (some ev)) (L + 1) = some (.cell (some ev)) := fset_self
 generalize fset z (L + 1) (.cell (some ev)) = z0 at *
 walk_at "t"
 refine comp_V hC [("elements", L + 1)] (some "level") [] [] (by subst eenv; rfl) (fun u_ => rfl) (fun u_ => rfl) (by kernel_rfl) (by decide +kernel) trivial ?_
 walk_at "v"
 refine callE_t (range1_W fun r t2 t3 hr => ?_)
 refine comp_data [] _ eI (fromI 0 s) (fun u_ => true) (fun i => (es.map (lv i.toNat)).filter fun v => !decide (v = 0)) (eL eI) nilPerm (iterV_rng hR.handled fset_self (by exact Int.natCast_nonneg _) (by exact Int.natCast_nonneg _) (by exact Int.natCast_nonneg _) (by (first | lia | omega)) (by exact rfl)) (by rw [fromI_len]; omega) ?_ ?_
 ·intro C hC' i v zj m ov hm l7 hv hk
  obtain rfl := List.eq_nil_of_map_eq_nil hk
  induction hv using vzI_use with | _ t4 hv => ?_
  refine oEA (fromI_mem hm) fun j hj e0_ => ?_
  subst e0_
  have hjn : ((0 : Int) + (j : Int)).toNat = j := by exact Nat.zero_add _
  walk_at "v"
  refine ⟨by kernel_rfl, ov, _, .head, ?_⟩
  walk_at "v"
  refine comp_V hC' [("level", C + 1)] none [] ["one"] (by subst eenv; rfl) (fun u_ => rfl) (fun u_ => rfl) (by kernel_rfl) (by decide +kernel) trivial ?_
  walk_at "v"
  have lz := (Le.fset hr).trans l7
  refine ⟨_, .inl (lz _ _ hcell), ?_⟩
  refine comp_data [] _ eE es (fun x => !decide (lv j x = 0)) (lv j) eI nilPerm (iterV_list hR.handled (he.up lz)) (by exact Nat.le_trans hl (Nat.le_of_ble_eq_true rfl)) ?_ ?_
  ·intro C2 hC2 x v zk m ov2 hm l8 hv hk
   obtain ⟨v0, rfl⟩ := keys1 hk
   refine oEEEAAAA (vzE_at hv (i := j) (by exact Nat.lt_of_lt_of_le (Nat.lt_of_lt_of_le hj hs) (Nat.le_of_ble_eq_true rfl))) fun T us u e0_ hT hul hui hu => ?_
   subst e0_
   induction hu using vzI_use with | _ t5 hu => ?_
   walk_at "v"
   refine ⟨_, .inr (.head _), ?_⟩
   refine item_tat (i := j) (.inl hT) (by exact Int.zero_add _) hui (by exact Nat.le_trans (Nat.le_of_eq hul) (Nat.le_of_ble_eq_true rfl)) ?_
   walk_at "v"
   intro t6
   refine brE_any (fun hb => ?_) (fun hb => ?_)
   ·refine ⟨_, .inr (.head _), ?_⟩
    refine item_tat (i := j) (.inl hT) (by exact Int.zero_add _) hui (by exact Nat.le_trans (Nat.le_of_eq hul) (Nat.le_of_ble_eq_true rfl)) ?_
    exact fun l8 => ⟨rfl, ⟨none, rfl⟩, hb, vzI_mk⟩
   ·exact fun l8 => ⟨rfl, ⟨none, rfl⟩, hb⟩
  ·intro vs zN l8 hvl hall
   refine .inr fun D hD => ?_
   refine fun l9 => ⟨rfl, ⟨_, rfl⟩, rfl, vzL_mk (a := D) (vs := vs) fset_self ?_⟩
   rw [hjn, List.filter_map]
   exact hall.vmono (Le.fset hD)
 ·intro vs zN l8 hvl hall
  rw [filter_tt] at hall
  refine .inr fun D hD => ?_
  walk_at "e"
  refine hQF _ _ _ _ fun u_ => ⟨[], List.nil_sublist _, rfl, vzL_mk (a := D) (vs := vs) fset_self ?_⟩
  have e5 : (fromI 0 s).map (fun i => (es.map (lv i.toNat)).filter fun v => !decide (v = 0)) = told s es := by
   unfold fromI told
   rw [List.map_map]
   refine List.map_congr_left fun i u_ => ?_
   show (es.map (lv ((0 : Int) + (i : Int)).toNat)).filter _ = _
   rw [show ((0 : Int) + (i : Int)).toNat = i by exact Nat.zero_add _]
  rw [← e5]
  exact hall.vmono (Le.fset hD)
theorem s_law_joined (w : World) {A : Around} {k : Nat} (hA : Room A (k + 1)) {z : Fz} {av bv : Value} {a b : List (List Int)} (hl : a.length ≤ 1000) (hal : ∀ l ∈ a, l.length ≤ 100000) (hbl : ∀ l ∈ b, l.length ≤ 100000) (ha : Vz z (eL (eL eI) a) av) (hb : Vz z (eL (eL eI) b) bv) :
  Wp w A (call (.ref 792) [av, bv] []) z [] fun v z' n' => n' = [] ∧ Vz z' (eL (eL eI) (joinL a b)) v := by
 induction ha using vzL_use with | _ aa avs haz haa ha => ?_
 induction hb using vzL_use with | _ ba bvs hbz hba hb => ?_
 refine WCall.W ?_
 refine fn_CQ (binds := [("near", .ref aa), ("far", .ref ba)]) (own := none) (names := ["near", "far"]) (locs := ["near", "far"]) (g := [("zip", .type "zip")]) hA (by k_is) (by k_is) (fun _ X => by first | exact BindsTo.of_eq rfl | exact binds_K X rfl (by k_is) rfl rfl rfl) rfl (fun _ => rfl) (by decide +kernel) ⟨⟨rfl, gl_zip w⟩, trivial⟩ fun L env eenv hC hR QF hQF => ?_
 walk_at "t"
 refine comp_V hC [] none [] ["one", "two"] (by subst eenv; rfl) (fun u_ => rfl) (fun u_ => rfl) (by decide +kernel) (by decide +kernel) trivial ?_
 walk_at "v"
 refine callE_t (zip_W haz hbz fun Z TI TO i1 i2 => ?_)
 refine comp_data _ [] (eP (eL eI) (eL eI)) (a.zip b) (fun u_ => true) (fun p => p.1 ++ p.2) (eL eI) List.perm_append_comm (iterV_zip hR.handled haz hbz haa hba trivial) (by rw [List.length_zip]; omega) ?_ ?_
 ·intro C hC' x v zj m ov hm l7 hv hk
  refine oEE (keys2 hk) fun v0 v1 e0_ => ?_
  subst e0_
  obtain ⟨x1, x2⟩ := x
  induction hv using vzP_use with | _ T u1 u2 hT hu1 hu2 hv => ?_
  induction hu1 using vzL_use with | _ xa xvs hxz hxa hu1 => ?_
  induction hu2 using vzL_use with | _ ya yvs hyz hya hu2 => ?_
  have h1 : xvs.length = x1.length := hxa.len
  have h2 : yvs.length = x2.length := hya.len
  have h3 := hal _ (List.of_mem_zip hm).1
  have h4 := hbl _ (List.of_mem_zip hm).2
  walk_at "v"
  refine unp_mk (.inl hT) rfl ?_
  walk_at "v"
  refine cat_W (.inl hxz) (.inl hyz) (by exact Nat.le_trans (Nat.add_le_add (Nat.le_trans (Nat.le_of_eq h1) h3) (Nat.le_trans (Nat.le_of_eq h2) h4)) (Nat.le_of_ble_eq_true rfl)) (.inr fun D hD => ?_)
  exact fun l8 => ⟨rfl, ⟨none, rfl⟩, rfl, vzL_mk (a := D) fset_self ((hxa.vmono (Le.fset hD)).append (hya.vmono (Le.fset hD)))⟩
 ·intro vs zN l8 hvl hall
  rw [filter_tt] at hall
  refine .inr fun D hD => ?_
  walk_at "e"
  refine hQF _ _ _ _ fun u_ => ⟨[], List.nil_sublist _, rfl, vzL_mk (a := D) (vs := vs) fset_self ?_⟩
  have e : joinL a b = (a.zip b).map fun p => p.1 ++ p.2 := by
   unfold joinL
   rw [List.zip_eq_zipWith, List.map_zipWith]
  rw [e]
  exact hall.vmono (Le.fset hD)
theorem s_law_is_idle (w : World) {A : Around} {k : Nat} (hA : Room A (k + 1)) {z : Fz} {p : Pc} {v : Value} (h : Vz z (ePc p) v) (hl : p.2.2.length ≤ 1000) :
  Wp w A (call (.ref 797) [v] []) z [] fun v z' n' => n' = [] ∧ v = .bool (idleL p.2.2) := by
 induction h using vzT_use with | _ T u1 u2 u3 hT hu1 hu2 hu3 h => ?_
 refine WCall.W ?_
 refine fn_CQ (binds := [("piece", .ref T)]) (own := none) (names := ["piece"]) (locs := ["piece"]) (g := []) hA (by k_is) (by k_is) (fun _ X => by first | exact BindsTo.of_eq rfl | exact binds_K X rfl (by k_is) rfl rfl rfl) rfl (fun _ => rfl) (by decide +kernel) trivial fun L env eenv hC hR QF hQF => ?_
 walk_at "t"
 refine comp_V hC [] none [] ["level"] (by subst eenv; rfl) (fun u_ => rfl) (fun u_ => rfl) (by decide +kernel) (by decide +kernel) trivial ?_
 walk_at "v"
 intro t1
 refine item_tat (i := 2) (.inl hT) rfl rfl (by simp) ?_
 refine comp_data [] _ (eL eI) p.2.2 (fun l => !decide (l = [])) (fun l => l) (eL eI) nilPerm (iterV_list hR.handled hu3) (by exact Nat.le_trans hl (Nat.le_of_ble_eq_true rfl)) ?_ ?_
 ·intro C hC' l v zj m ov hm l7 hv hk
  obtain ⟨v0, rfl⟩ := keys1 hk
  induction hv using vzL_use with | _ la lvs hlz hla hv => ?_
  walk_at "v"
  refine .inr fun D hD => ?_
  walk_at "v"
  refine ne_W (x := l) (y := []) (hR.less (Nat.zero_le _)) Enc.int.list (by decide) (.inl (hv.up (Le.fset hD))) (.inl (vzL_mk (a := D) (vs := []) fset_self trivial)) ?_
  walk_at "v"
  refine brE_any (fun hb => ?_) (fun hb => ?_)
  ·exact fun l8 => ⟨rfl, ⟨none, rfl⟩, hb, hv.up (l8)⟩
  ·exact fun l8 => ⟨rfl, ⟨none, rfl⟩, hb⟩
 ·intro vs zN l7 hvl hall
  rw [List.map_id'] at hall
  refine .inr fun D hD => ?_
  walk_at "v"
  refine .inr fun D2 hD2 => ?_
  walk_at "v"
  refine eq_W (hR.less (Nat.zero_le _)) Enc.int.list.list (by decide) (x := nonE p.2.2) (y := []) (.inl (vzL_mk (a := D) (vs := vs) (Le.fset hD2 _ _ fset_self) (hall.vmono ((Le.fset hD).trans (Le.fset hD2))))) (.inl (vzL_mk (a := D2) (vs := []) fset_self trivial)) ?_
  walk_at "e"
  exact hQF _ _ _ _ fun u_ => ⟨[], List.nil_sublist _, rfl, rfl⟩
theorem s_law_elements (w : World) {A : Around} {k : Nat} (hA : Room A (k + 2)) {z : Fz} {rv tv : Value} {rows : Rows} {xs : List Int} (hl : xs.length ≤ 400) (hS : Short rows) (h1 : ∀ c ∈ xs, (look rows [c]).isSome = true) (hr : RowsIs PySem.Challenge.pw_nt0082_01 w (k0.heap_1 w.params) z rows rv) (hx : Vz z (eL eI xs) tv) :
  Wp w A (call (.ref 782) [rv, tv] []) z [] fun v z' n' => n' = [] ∧ Vz z' (eL eE (elems rows xs)) v := by
 refine oEEEAAAA (id hr) fun R xsr o e0_ u_ u_ u_ u_ => ?_
 subst e0_
 refine WCall.W ?_
 refine fn_CQ (binds := [("rows", .ref R), ("text", tv)]) (own := none) (names := ["rows", "text"]) (locs := ["rows", "text", "found", "at", "many"]) (g := [("len", .builtin "len"), ("tuple", .type "tuple")]) hA (by k_is) (by k_is) (fun _ X => by first | exact BindsTo.of_eq rfl | exact binds_K X rfl (by k_is) rfl rfl rfl) rfl (fun _ => rfl) (by decide +kernel) ⟨⟨rfl, gl_len w⟩, ⟨⟨rfl, gl_tuple w⟩, trivial⟩⟩ fun L env eenv hC hR QF hQF => ?_
 walk_at "t"
 refine ⟨true, by subst eenv; rfl, ?_⟩
 walk_at "v"
 refine .inr fun F hF => ?_
 walk_at "v"
 intro t1 T1 hT1
 walk_at "v"
 have lz := (Le.fset (lo := .lst []) hF).trans (Le.fset (lo := .tup [.ref F, .int 0 t1]) hT1)
 have hF0 : Vz (fset (fset z F (.lst [])) T1 (.tup [.ref F, .int 0 t1])) (eL eE []) (.ref F) := vzL_mk (a := F) (vs := []) (Le.fset hT1 _ _ fset_self) trivial
 replace hr := hr.mono lz
 replace hx := hx.up lz
 generalize fset (fset z F (.lst [])) T1 (.tup [.ref F, .int 0 t1]) = z0 at *
 let J : Nat → M → Fz → Led → Prop := fun k' m' z' n' => ∀ GG9 : M → Led → Prop, (∀ a t pre acc mv, (k' = xs.length - a) → (a ≤ xs.length) → (groups rows 0 xs = pre ++ groups rows a (xs.drop a)) → (pre.length ≤ a) → (Vz z' (eL eE (pre.flatMap (·.1))) acc) → ((∀ g ∈ pre, g.1.length ≤ 2)) → GG9 (([("rows", some (.ref R)), ("text", some (tv)), ("found", some (acc)), ("at", some (.int (a : Nat) t)), ("many", mv)] : M)) ([])) → GG9 m' n'
 walk_at "e"
 refine @exs_semQ _ _ _ _ _ _ _ _ _ _ _ fun QS hQS => while_ok hC J xs.length (fun u_ k9 => k9 0 t1 [] (.ref F) none rfl (Nat.zero_le _) rfl (Nat.le_refl _) hF0 (by intro g hg; cases hg)) ?_
 intro k' m' zi ni l hJ
 apply hJ
 intro a t pre acc mv h9 j1 j2 j3 j4 j5
 subst h9
 have hg2 := (groups_short hS 0 xs).2
 replace hr := hr.mono l
 replace hx := hx.up l
 walk_at "v"
 refine len_V hx (by exact Nat.le_trans hl (Nat.le_of_ble_eq_true rfl)) fun t2 => ?_
 walk_at "v"
 refine brE_dec (fun h2 => ?_) (fun h2 => ?_)
 ·have ha : a < xs.length := by exact (Int.ofNat_lt.mp h2)
  let P : M → Fz → Led → Prop := fun m' z' n' => ∀ GG9 : M → Led → Prop, (∀ t4, GG9 (([("rows", some (.ref R)), ("text", some (tv)), ("found", some (acc)), ("at", some (.int (a : Nat) t)), ("many", some (.int (many rows (xs.drop a) : Nat) t4))] : M)) ([])) → GG9 m' n'
  have hma := many_law h1 ha
  walk_at "e"
  refine exs_mid hC P ?_ ?_
  ·walk_at "v"
   intro t5 t6
   refine slice_cut (a := a) (b := a + 2) hx rfl (by exact rfl) (by exact Nat.le_trans hl (Nat.le_of_ble_eq_true rfl)) fun z3 u l6 hu => ?_
   rw [Nat.add_sub_cancel_left] at hu
   induction hu using vzL_use with | _ ua uvs huz hua hu => ?_
   walk_at "v"
   refine callE_t (tupleL_W (.inl huz) (by have := hua.len; rw [this, List.length_take]; omega) fun Tk hTk => ?_)
   walk_at "v"
   refine R_in (ks := (xs.drop a).take 2) (hR.less (Nat.zero_le _)) (hr.mono (l6.trans (Le.fset hTk))) (vz_tup fset_self (hua.vmono (Le.fset hTk))) ?_
   walk_at "v"
   refine brE_any (fun h3 => ?_) (fun h3 => ?_)
   ·intro t7 t8
    refine len_V (hx.up (l6.trans (Le.fset hTk))) (by exact Nat.le_trans hl (Nat.le_of_ble_eq_true rfl)) fun t9 => ?_
    walk_at "v"
    refine brE_dec (fun h4 => ?_) (fun h4 => ?_)
    ·intro t10
     refine fun l7 u_ k9 => ?_
     have h9 := k9 t10
     rw [hma, if_pos ⟨h3, by first | exact castLt1 h4 | lia | omega⟩] at h9
     exact h9
    ·intro t10
     refine fun l7 u_ k9 => ?_
     have h9 := k9 t10
     rw [hma, if_neg (fun x => h4 (by exact Int.ofNat_lt.mpr x.2))] at h9
     exact h9
   ·intro t10
    refine fun l7 u_ k9 => ?_
    have h9 := k9 t10
    rw [hma, if_neg (fun x => by rw [h3] at x; exact Bool.false_ne_true x.1)] at h9
    exact h9
  intro m' z3 n3 l3 hP
  apply hP
  intro t4
  obtain ⟨es, hes⟩ := take_key h1 ha
  have hgr := groups_at ha hes
  have hml := many_le rows (xs.drop a) (fun e => by have := congrArg List.length e; rw [List.length_drop] at this; simp at this; omega)
  rw [List.length_drop] at hml
  have hes2 := hS _ _ hes
  have hpl := flat_len j5
  generalize many rows (xs.drop a) = mm at *
  walk_at "t"
  replace hr := hr.mono l3
  replace hx := hx.up l3
  replace j4 := j4.up l3
  clear hma
  intro t11
  refine slice_cut (a := a) (b := a + mm) hx rfl (by exact rfl) (by exact Nat.le_trans hl (Nat.le_of_ble_eq_true rfl)) fun z4 u l6 hu => ?_
  rw [Nat.add_sub_cancel_left] at hu
  induction hu using vzL_use with | _ ua uvs huz hua hu => ?_
  walk_at "v"
  refine callE_t (tupleL_W (.inl huz) (by have := hua.len; rw [this, List.length_take]; omega) fun Tk hTk => ?_)
  walk_at "v"
  refine R_item (ks := (xs.drop a).take mm) (hR.less (Nat.zero_le _)) (hr.mono (l6.trans (Le.fset hTk))) (vz_tup fset_self (hua.vmono (Le.fset hTk))) hes fun ev hev => ?_
  induction hev using vzL_use with | _ ea evs hez hea hev => ?_
  have j6 := j4.up (l6.trans (Le.fset (lo := .tup uvs) hTk))
  induction j6 using vzL_use with | _ fa fvs hfz hfa _ => ?_
  have g1 := hea.len
  have g2 := hfa.len
  walk_at "v"
  refine cat_W (.inl hfz) (.inl hez) (by first | exact Nat.le_trans (Nat.add_le_add (Nat.le_trans (Nat.le_of_eq g2) (Nat.le_trans hpl (Nat.mul_le_mul_left 2 (Nat.le_trans j3 (Nat.le_trans j1 hl))))) (Nat.le_trans (Nat.le_of_eq g1) hes2)) (Nat.le_of_ble_eq_true rfl) | lia | omega) (.inr fun D hD => ?_)
  walk_at "v"
  walk_at "t"
  intro t12
  walk_at "n"
  refine fun l7 => ⟨xs.length - (a + mm), by first | exact subAdd rfl ha hml.1 | lia | omega, fun u_ k9 => k9 (a + mm) t12 (pre ++ [(es, (a : Int), ((a + mm : Nat) : Int))]) (.ref D) _ rfl (by exact Nat.add_le_of_le_sub' j1 hml.2.2) ?_ ?_ (vzL_mk (a := D) fset_self ?_) (fun g hg => ?_)⟩
  ·rw [List.append_assoc, j2, hgr]
   rfl
  ·rw [List.length_append, List.length_singleton]; omega
  ·rw [List.flatMap_append, List.flatMap_cons, List.flatMap_nil, List.append_nil]
   exact (hfa.vmono (Le.fset hD)).append (hea.vmono (Le.fset hD))
  ·rcases List.mem_append.mp hg with hg | hg
   ·exact j5 g hg
   ·rw [List.mem_singleton.mp hg]; exact hes2
 ·obtain rfl : a = xs.length := by exact Nat.le_antisymm j1 (Nat.le_of_not_lt fun q9 => h2 (Int.ofNat_lt.mpr q9))
  rw [List.drop_length] at j2
  have j6 : groups rows xs.length [] = [] := rfl
  rw [j6, List.append_nil] at j2
  walk_at "t"
  refine hQF _ _ _ _ fun u_ => ⟨[], List.nil_sublist _, rfl, ?_⟩
  unfold elems
  rw [j2]
  exact j4
theorem s_law_pieces (w : World) {A : Around} {k : Nat} (hA : Room A (k + 2)) {z : Fz} {rv tv : Value} {rows : Rows} {xs : List Int} {s ts : Nat} (hl : xs.length ≤ 400) (hs : s ≤ 3) (hS : Short rows) (h1 : ∀ c ∈ xs, (look rows [c]).isSome = true) (hr : RowsIs PySem.Challenge.pw_nt0082_01 w (k0.heap_1 w.params) z rows rv) (hx : Vz z (eL eI xs) tv) :
  Wp w A (call (.ref 804) [rv, tv, .int (s : Nat) ts] []) z [] fun v z' n' => n' = [] ∧ Vz z' (eL ePc (piecesF rows s xs)) v := by
 refine oEEEAAAA (id hr) fun R xsr o e0_ u_ u_ u_ u_ => ?_
 subst e0_
 refine WCall.W ?_
 refine fn_CQ (binds := [("rows", .ref R), ("text", tv), ("strength", .int (s : Nat) ts)]) (own := none) (names := ["rows", "text", "strength"]) (locs := ["rows", "text", "strength", "found", "at", "many"]) (g := [("len", .builtin "len"), ("tuple", .type "tuple"), ("_law_told", Value.ref 787)]) hA (by k_is) (by k_is) (fun _ X => by first | exact BindsTo.of_eq rfl | exact binds_K X rfl (by k_is) rfl rfl rfl) rfl (fun _ => rfl) (by decide +kernel) ⟨⟨rfl, gl_len w⟩, ⟨⟨rfl, gl_tuple w⟩, ⟨⟨rfl, gl_law_told w⟩, trivial⟩⟩⟩ fun L env eenv hC hR QF hQF => ?_
 walk_at "t"
 refine ⟨true, by subst eenv; rfl, ?_⟩
 walk_at "v"
 refine .inl fun F => ?_
 walk_at "v"
 intro t1 T1 hT1
 walk_at "v"
 have lz := Le.fset (lo := .tup [.ref F, .int 0 t1]) hT1
 replace hr := hr.mono lz
 replace hx := hx.up lz
 generalize fset z T1 (.tup [.ref F, .int 0 t1]) = z0 at *
 let J : Nat → M → Fz → Led → Prop := fun k' m' z' n' => ∀ GG9 : M → Led → Prop, (∀ a t pre ws mv, (k' = xs.length - a) → (a ≤ xs.length) → (groups rows 0 xs = pre ++ groups rows a (xs.drop a)) → (pre.length ≤ a) → (All2 (fun p v => Vz z' (ePc p) v) (pre.map (pcOf s)) ws) → GG9 (([("rows", some (.ref R)), ("text", some (tv)), ("strength", some (.int (s : Nat) ts)), ("found", some (.ref F)), ("at", some (.int (a : Nat) t)), ("many", mv)] : M)) ([(F, .lst ws)])) → GG9 m' n'
 walk_at "e"
 refine @exs_semQ _ _ _ _ _ _ _ _ _ _ _ fun QS hQS => while_ok hC J xs.length (fun u_ k9 => k9 0 t1 [] [] none rfl (Nat.zero_le _) rfl (Nat.le_refl _) trivial) ?_
 intro k' m' zi ni l hJ
 apply hJ
 intro a t pre ws mv h9 j1 j2 j3 j4
 subst h9
 replace hr := hr.mono l
 replace hx := hx.up l
 have hwl := j4.len
 rw [List.length_map] at hwl
 walk_at "v"
 refine len_V hx (by exact Nat.le_trans hl (Nat.le_of_ble_eq_true rfl)) fun t2 => ?_
 walk_at "v"
 refine brE_dec (fun h2 => ?_) (fun h2 => ?_)
 ·have ha : a < xs.length := by exact (Int.ofNat_lt.mp h2)
  let P : M → Fz → Led → Prop := fun m' z' n' => ∀ GG9 : M → Led → Prop, (∀ t4, GG9 (([("rows", some (.ref R)), ("text", some (tv)), ("strength", some (.int (s : Nat) ts)), ("found", some (.ref F)), ("at", some (.int (a : Nat) t)), ("many", some (.int (many rows (xs.drop a) : Nat) t4))] : M)) ([(F, .lst ws)])) → GG9 m' n'
  have hma := many_law h1 ha
  walk_at "e"
  refine exs_mid hC P ?_ ?_
  ·walk_at "v"
   intro t5 t6
   refine slice_cut (a := a) (b := a + 2) hx rfl (by exact rfl) (by exact Nat.le_trans hl (Nat.le_of_ble_eq_true rfl)) fun z3 u l6 hu => ?_
   rw [Nat.add_sub_cancel_left] at hu
   induction hu using vzL_use with | _ ua uvs huz hua hu => ?_
   walk_at "v"
   refine callE_t (tupleL_W (.inl huz) (by have := hua.len; rw [this, List.length_take]; omega) fun Tk hTk => ?_)
   walk_at "v"
   refine R_in (ks := (xs.drop a).take 2) (hR.less (Nat.zero_le _)) (hr.mono (l6.trans (Le.fset hTk))) (vz_tup fset_self (hua.vmono (Le.fset hTk))) ?_
   walk_at "v"
   refine brE_any (fun h3 => ?_) (fun h3 => ?_)
   ·intro t7 t8
    refine len_V (hx.up (l6.trans (Le.fset hTk))) (by exact Nat.le_trans hl (Nat.le_of_ble_eq_true rfl)) fun t9 => ?_
    walk_at "v"
    refine brE_dec (fun h4 => ?_) (fun h4 => ?_)
    ·intro t10
     refine fun l7 u_ k9 => ?_
     have h9 := k9 t10
     rw [hma, if_pos ⟨h3, by first | exact castLt1 h4 | lia | omega⟩] at h9
     exact h9
    ·intro t10
     refine fun l7 u_ k9 => ?_
     have h9 := k9 t10
     rw [hma, if_neg (fun x => h4 (by exact Int.ofNat_lt.mpr x.2))] at h9
     exact h9
   ·intro t10
    refine fun l7 u_ k9 => ?_
    have h9 := k9 t10
    rw [hma, if_neg (fun x => by rw [h3] at x; exact Bool.false_ne_true x.1)] at h9
    exact h9
  intro m' z3 n3 l3 hP
  apply hP
  intro t4
  obtain ⟨es, hes⟩ := take_key h1 ha
  have hgr := groups_at ha hes
  have hml := many_le rows (xs.drop a) (fun e => by have := congrArg List.length e; rw [List.length_drop] at this; simp at this; omega)
  rw [List.length_drop] at hml
  have hes2 := hS _ _ hes
  clear hma
  generalize many rows (xs.drop a) = mm at *
  walk_at "t"
  replace hr := hr.mono l3
  replace hx := hx.up l3
  replace j4 := j4.vmono l3
  refine meth_lst (.inr (.head _)) PySem.F.slot_list_append PySem.F.type_list_append ?_
  walk_at "v"
  intro t10 t11
  refine slice_cut (a := a) (b := a + mm) hx rfl (by exact rfl) (by exact Nat.le_trans hl (Nat.le_of_ble_eq_true rfl)) fun z4 u l6 hu => ?_
  rw [Nat.add_sub_cancel_left] at hu
  induction hu using vzL_use with | _ ua uvs huz hua hu => ?_
  walk_at "v"
  refine callE_t (tupleL_W (.inl huz) (by have := hua.len; rw [this, List.length_take]; omega) fun Tk hTk => ?_)
  walk_at "v"
  refine R_item (ks := (xs.drop a).take mm) (hR.less (Nat.zero_le _)) (hr.mono (l6.trans (Le.fset hTk))) (vz_tup fset_self (hua.vmono (Le.fset hTk))) hes fun ev hev => ?_
  walk_at "v"
  refine callE_k (by k_is) ((s_law_told w (k := k) (hR.down rfl) (by exact Nat.le_trans hes2 (Nat.le_of_ble_eq_true rfl)) hs hev).apart fun lv z5 l7 hlv => ?_)
  walk_at "v"
  intro T5 hT5
  walk_at "v"
  refine callE_b (append_W .head (by exact Nat.le_of_lt (Nat.lt_of_lt_of_le (Nat.lt_of_lt_of_le (Nat.lt_of_le_of_lt (Nat.le_trans (Nat.le_of_eq hwl) j3) ha) hl) (Nat.le_of_ble_eq_true rfl))) ?_)
  walk_at "v"
  walk_at "t"
  intro t12
  walk_at "n"
  refine fun l8 => ⟨xs.length - (a + mm), by first | exact subAdd rfl ha hml.1 | lia | omega, fun u_ k9 => k9 (a + mm) t12 (pre ++ [(es, (a : Int), ((a + mm : Nat) : Int))]) _ _ rfl (by exact Nat.add_le_of_le_sub' j1 hml.2.2) ?_ ?_ ?_⟩
  ·rw [List.append_assoc, j2, hgr]
   rfl
  ·rw [List.length_append, List.length_singleton]; omega
  ·rw [List.map_append]
   exact (j4.mono fun u_ u_ h => Vz.mono (l6.trans ((Le.fset hTk).trans (l7.trans (Le.fset hT5)))) _ _ h).snoc (vzT_mk (a := T5) fset_self vzI_mk vzI_mk (hlv.up (Le.fset hT5)))
 ·obtain rfl : a = xs.length := by exact Nat.le_antisymm j1 (Nat.le_of_not_lt fun q9 => h2 (Int.ofNat_lt.mpr q9))
  rw [List.drop_length] at j2
  have j6 : groups rows xs.length [] = [] := rfl
  rw [j6, List.append_nil] at j2
  walk_at "v"
  refine exs_freeze fun hF => ?_
  walk_at "t"
  refine hQF _ _ _ _ fun u_ => ⟨[], List.nil_sublist _, rfl, vzL_mk (a := F) (vs := ws) fset_self ?_⟩
  unfold piecesF
  rw [j2]
  exact j4.mono fun u_ u_ h => Vz.mono (Le.fset hF) _ _ h
theorem lvls_E {w : World} {A : Around} {z : Fz} {n : Led} {pv : Value} {ps : List Pc} {i : Nat} {k : Int} {t : Tok} {Q : KV} (hp : Vz z (eL ePc ps) pv) (hk : k = (i : Nat)) (hi : i < ps.length) (hl : ps.length ≤ 400)
  (q : ∀ T u1 u2 u, z T = some (.tup [u1, u2, u]) → Vz z (eL (eL eI) (lvls ps i)) u → Q (.ref T) z n) : itemE PySem.Challenge.pw_nt0082_01 w (k0.heap_1 w.params) A pv (.int k t) z n Q := by
 refine item_V hp hk (getD_at hi) (by exact Nat.le_trans hl (Nat.le_of_ble_eq_true rfl)) fun u hu => ?_
 induction hu using vzT_use with | _ T u1 u2 u3 hT hu1 hu2 hu3 hu => ?_
 exact q T u1 u2 u3 hT hu3
theorem s_law_stretches (w : World) {A : Around} {k : Nat} (hA : Room A (k + 2)) {z : Fz} {pv wv : Value} {ps : List Pc} {wd : List (List Int)} (hl : ps.length ≤ 400) (hW : Wide3 wd.length ps) (hwl : wd.length ≤ 100) (hp : Vz z (eL ePc ps) pv) (hw : Vz z (eL (eL eI) wd) wv) :
  Wp w A (call (.ref 811) [pv, wv] []) z [] fun v z' n' => n' = [] ∧ Vz z' (eL (eP eI eI) (lawStr ps wd ps.length)) v := by
 induction hw using vzL_use with | _ wa wvs _ _ hw => ?_
 refine WCall.W ?_
 refine fn_CQ (binds := [("pieces", pv), ("wish", .ref wa)]) (own := none) (names := ["pieces", "wish"]) (locs := ["pieces", "wish", "found", "low", "told", "high"]) (g := [("range", .type "range"), ("len", .builtin "len"), ("_law_joined", Value.ref 792), ("_law_is_idle", Value.ref 797)]) hA (by k_is) (by k_is) (fun _ X => by first | exact BindsTo.of_eq rfl | exact binds_K X rfl (by k_is) rfl rfl rfl) rfl (fun _ => rfl) (by decide +kernel) ⟨⟨rfl, gl_range w⟩, ⟨⟨rfl, gl_len w⟩, ⟨⟨rfl, gl_law_joined w⟩, ⟨⟨rfl, gl_law_is_idle w⟩, trivial⟩⟩⟩⟩ fun L env eenv hC hR QF hQF => ?_
 walk_at "t"
 refine .inl fun F => ?_
 walk_at "v"
 let J : List Int → M → Fz → Led → Prop := fun pre m' z' n' => ∀ GG9 : M → Led → Prop, (∀ a b c ws, ((lawStr ps wd pre.length).length ≤ pre.length * 400) → (All2 (fun x v => Vz z' (eP eI eI x) v) (lawStr ps wd pre.length) ws) → GG9 (([("pieces", some (pv)), ("wish", some (.ref wa)), ("found", some (.ref F)), ("low", a), ("told", b), ("high", c)] : M)) ([(F, .lst ws)])) → GG9 m' n'
 walk_at "e"
 refine @exs_semQ _ _ _ _ _ _ _ _ _ _ _ fun QS hQS => for_dataQ hC J ?_
 walk_at "v"
 refine len_V hp (by exact Nat.le_trans hl (Nat.le_of_ble_eq_true rfl)) fun t1 => ?_
 walk_at "v"
 refine callE_t (range1_W fun r t2 t3 hr => ?_)
 refine LoopD.mk [] _ eI (fromI 0 ps.length) nilPerm (iterV_rng hR.handled fset_self (by exact Int.natCast_nonneg _) (by exact Int.natCast_nonneg _) (by exact Int.natCast_nonneg _) (by (first | lia | omega)) (by exact rfl)) (fun u_ k9 => k9 none none none [] (Nat.zero_le _) trivial) ?_ ?_
 ·intro pre x post v m' zi zi' ni hxs l6 l7 hv hJ QB hQB
  apply hJ
  intro a b c ws j1 j2
  induction hv using vzI_use with | _ t9 hv => ?_
  have hpl : pre.length < ps.length := by
   have := congrArg List.length hxs
   rw [fromI_len] at this
   simp at this; omega
  have hx' : x = ((pre.length : Nat) : Int) := by
   have h1 : (fromI 0 ps.length)[pre.length]? = some x := by rw [hxs]; simp
   rw [fromI_get hpl] at h1
   have := Option.some.inj h1
   first | exact this.symm.trans (Int.zero_add _) | lia | omega
  subst hx'
  clear hxs hv
  have hnl : (pre ++ [((pre.length : Nat) : Int)]).length = pre.length + 1 := by rw [List.length_append, List.length_singleton]
  have lz := (Le.fset hr).trans (l6.trans l7)
  replace j2 := j2.vmono l7
  have hp2 := hp.up lz
  have hw2 := hw.up lz
  clear lz l7 l6
  walk_at "v"
  walk_at "t"
  refine lvls_E (i := pre.length) hp2 rfl hpl hl fun T u1 u2 tv hT htv => ?_
  walk_at "v"
  intro t4
  refine item_tat (i := 2) (.inl hT) rfl rfl (by simp) ?_
  walk_at "v"
  let J2 : List Int → M → Fz → Led → Prop := fun pre2 m' z' n' => ∀ GG9 : M → Led → Prop, (∀ c tv ws, ((lawStr ps wd pre.length ++ innerF ps wd pre.length pre2.length).length ≤ pre.length * 400 + pre2.length) → (Vz z' (eL (eL eI) (accT ps pre.length (pre2.length - 1))) tv) → (All2 (fun x v => Vz z' (eP eI eI x) v) (lawStr ps wd pre.length ++ innerF ps wd pre.length pre2.length) ws) → GG9 (([("pieces", some (pv)), ("wish", some (.ref wa)), ("found", some (.ref F)), ("low", some (.int ((pre.length : Nat) : Int) t9)), ("told", some (tv)), ("high", c)] : M)) ([(F, .lst ws)])) → GG9 m' n'
  walk_at "e"
  refine @exs_semQ _ _ _ _ _ _ _ _ _ _ _ fun QS hQS => for_dataQ hC J2 ?_
  walk_at "v"
  refine len_V hp2 (by exact Nat.le_trans hl (Nat.le_of_ble_eq_true rfl)) fun t5 => ?_
  walk_at "v"
  refine callE_t (range2_W fun r2 t6 hr2 => ?_)
  refine LoopD.mk [] _ eI (fromI (pre.length : Nat) (ps.length - pre.length)) nilPerm (iterV_rng hR.handled fset_self (by exact Int.natCast_nonneg _) (by (first | lia | omega)) (by exact Int.natCast_nonneg _) (by (first | lia | omega)) (by first | exact Int.toNat_sub _ _ | lia | omega)) (fun u_ k9 => k9 c tv ws ?_ (htv.up (Le.fset hr2)) ?_) ?_ ?_
  ·rw [show innerF ps wd pre.length ([] : List Int).length = [] from rfl, List.append_nil]; exact j1
  ·rw [show innerF ps wd pre.length ([] : List Int).length = [] from rfl, List.append_nil]; exact j2.vmono (Le.fset hr2)
  ·intro pre2 y post2 v m' zj zj' nj hxs2 l8 l9 hv hJ QB hQB
   apply hJ
   intro c tv2 ws2 g1 g2 g3
   induction hv using vzI_use with | _ t7 hv => ?_
   have hpl2 : pre2.length < ps.length - pre.length := by
    have := congrArg List.length hxs2
    rw [fromI_len] at this
    simp at this; omega
   have hy' : y = ((pre.length + pre2.length : Nat) : Int) := by
    have h1 : (fromI (pre.length : Nat) (ps.length - pre.length))[pre2.length]? = some y := by rw [hxs2]; simp
    rw [fromI_get hpl2] at h1
    have := Option.some.inj h1
    first | exact this.symm | lia | omega
   subst hy'
   clear hxs2 hv
   have hnl2 : (pre2 ++ [((pre.length + pre2.length : Nat) : Int)]).length = pre2.length + 1 := by rw [List.length_append, List.length_singleton]
   have lz := (Le.fset hr2).trans (l8.trans l9)
   replace g2 := g2.up l9
   replace g3 := g3.vmono l9
   have hp3 := hp2.up lz
   have hw3 := hw2.up lz
   clear lz l8 l9 htv hT j1 j2
   obtain ⟨ha1, ha2⟩ := accT_len hW (low := pre.length) (j := pre2.length - 1) (by exact Nat.add_lt_of_lt_sub' (Nat.lt_of_le_of_lt (Nat.sub_le _ _) hpl2))
   obtain ⟨hb1, hb2⟩ := hW _ (List.mem_of_getElem? (getD_at (ps := ps) (i := pre.length + pre2.length) (by exact Nat.add_lt_of_lt_sub' hpl2)))
   have hgl := g3.len
   walk_at "v"
   let P : M → Fz → Led → Prop := fun m' z' n' => ∀ GG9 : M → Led → Prop, (∀ ta, (Vz z' (eL (eL eI) (accT ps pre.length pre2.length)) (.ref ta)) → GG9 (([("pieces", some (pv)), ("wish", some (.ref wa)), ("found", some (.ref F)), ("low", some (.int ((pre.length : Nat) : Int) t9)), ("told", some (.ref ta)), ("high", some (.int ((pre.length + pre2.length : Nat) : Int) t7))] : M)) ([(F, .lst ws2)])) → GG9 m' n'
   walk_at "e"
   refine exs_mid hC P ?_ ?_
   ·walk_at "v"
    refine brE_dec (fun h1 => ?_) (fun h1 => ?_)
    ·refine lvls_E (i := pre.length + pre2.length) hp3 rfl (by exact Nat.add_lt_of_lt_sub' hpl2) hl fun T u1 u2 uv hT huv => ?_
     walk_at "v"
     intro t8
     refine item_tat (i := 2) (.inl hT) rfl rfl (by simp) ?_
     walk_at "v"
     refine callE_k (by k_is) ((s_law_joined w (k := k) (hR.down rfl) (by exact Nat.le_trans (Nat.le_trans (Nat.le_of_eq ha1) hwl) (Nat.le_of_ble_eq_true rfl)) (fun l hm => by have := ha2 l hm; omega) (fun l hm => by have := hb2 l hm; omega) g2 huv).apart fun jv z5 l10 hjv => ?_)
     induction hjv using vzL_use with | _ ja jvs _ _ hjv => ?_
     refine fun l11 => fun u_ k9 => k9 ja ?_
     obtain ⟨q, hq⟩ : ∃ q, pre2.length = q + 1 := ⟨pre2.length - 1, by (first | lia | omega)⟩
     rw [hq]
     rw [hq, Nat.add_sub_cancel] at hjv
     exact hjv
    ·have h0 : pre2.length = 0 := by (first | lia | omega)
     induction g2 using vzL_use with | _ ja jvs _ _ g2 => ?_
     refine fun l11 => fun u_ k9 => k9 ja ?_
     rw [h0] at g2 ⊢
     exact g2
   intro m' z5 n5 l10 hP
   apply hP
   intro ta hta
   replace g3 := g3.vmono l10
   replace hp3 := hp3.up l10
   replace hw3 := hw3.up l10
   clear g2 hb2 ha2 ha1
   have hpi1 := getD_at (ps := ps) (i := pre.length) (by exact hpl)
   have hpi2 := getD_at (ps := ps) (i := pre.length + pre2.length) (by exact Nat.add_lt_of_lt_sub' hpl2)
   have hw1 := (hW _ (List.mem_of_getElem? hpi1)).1
   have fin0 : hitF ps wd pre.length pre2.length = false → ∀ {z'}, Le z5 z' → turnD J2 (pre2 ++ [((pre.length + pre2.length : Nat) : Int)]) z5 (fun fl m z n => True) .next ([("pieces", some (pv)), ("wish", some (.ref wa)), ("found", some (.ref F)), ("low", some (.int ((pre.length : Nat) : Int) t9)), ("told", some (.ref ta)), ("high", some (.int ((pre.length + pre2.length : Nat) : Int) t7))] : M) z' [(F, .lst ws2)] := fun h z' l => fun u_ => by
    refine fun u_ k9 => k9 _ _ ws2 ?_ ?_ ?_
    ·rw [hnl2, innerF_f h]; omega
    ·rw [hnl2, Nat.add_sub_cancel]; exact hta.up l
    ·rw [hnl2, innerF_f h]; exact g3.vmono l
   walk_at "t"
   refine eq_W (x := accT ps pre.length pre2.length) (y := wd) (hR.less (Nat.zero_le _)) Enc.int.list.list (by decide) (.inl hta) (.inl hw3) ?_
   walk_at "v"
   refine brE_dec (fun h1 => ?_) (fun h1 => ?_)
   ·refine item_V (i := pre.length) hp3 rfl hpi1 (by exact Nat.le_trans hl (Nat.le_of_ble_eq_true rfl)) fun q1 hq1 => ?_
    walk_at "v"
    refine callE_k (by k_is) ((s_law_is_idle w (k := k) (hR.down rfl) hq1 (by exact Nat.le_trans (Nat.le_trans (Nat.le_of_eq hw1) hwl) (Nat.le_of_ble_eq_true rfl))).apart fun v z6 l11 h => ?_)
    subst h
    walk_at "v"
    refine brE_not (brE_any (fun h2 => ?_) (fun h2 => ?_))
    ·walk_at "n"
     walk_at "n"
     have hh : hitF ps wd pre.length pre2.length = false := by unfold hitF lvls; rw [h2]; simp
     walk_at "e"
     exact hQB _ _ _ _ fun l => fin0 hh (l11) (l11)
    ·refine item_V (i := pre.length + pre2.length) (hp3.up l11) rfl hpi2 (by exact Nat.le_trans hl (Nat.le_of_ble_eq_true rfl)) fun q2 hq2 => ?_
     walk_at "v"
     refine callE_k (by k_is) ((s_law_is_idle w (k := k) (hR.down rfl) hq2 (by exact Nat.le_trans (Nat.le_trans (Nat.le_of_eq hb1) hwl) (Nat.le_of_ble_eq_true rfl))).apart fun v z7 l12 h => ?_)
     subst h
     walk_at "v"
     refine brE_not (brE_any (fun h3 => ?_) (fun h3 => ?_))
     ·walk_at "n"
      walk_at "n"
      have hh : hitF ps wd pre.length pre2.length = false := by unfold hitF lvls; rw [h3]; simp
      walk_at "e"
      exact hQB _ _ _ _ fun l => fin0 hh (l11.trans l12) (l11.trans l12)
     ·have hh : hitF ps wd pre.length pre2.length = true := by unfold hitF lvls; rw [h2, h3, decide_eq_true h1]; rfl
      walk_at "t"
      refine meth_lst (.inr (.head _)) PySem.F.slot_list_append PySem.F.type_list_append ?_
      walk_at "v"
      intro t10 t11 T5 hT5
      walk_at "v"
      refine callE_b (append_W .head (by (first | lia | omega)) ?_)
      walk_at "v"
      walk_at "n"
      walk_at "n"
      refine hQB _ _ _ _ fun l => fun u_ k9 => k9 _ _ _ ?_ ?_ ?_
      ·rw [hnl2, innerF_t hh, ← List.append_assoc, List.length_append, List.length_singleton]; omega
      ·rw [hnl2, Nat.add_sub_cancel]; exact hta.up (l11.trans (l12.trans (Le.fset hT5)))
      ·rw [hnl2, innerF_t hh, ← List.append_assoc]
       exact (g3.vmono (l11.trans (l12.trans (Le.fset hT5)))).snoc (vzP_mk (a := T5) fset_self vzI_mk vzI_mk)
   ·walk_at "n"
    walk_at "n"
    have hh : hitF ps wd pre.length pre2.length = false := by unfold hitF; rw [decide_eq_false h1]; rfl
    walk_at "e"
    exact hQB _ _ _ _ fun l => fin0 hh (Le.refl _) (Le.refl _)
  ·intro m' zj nj l8 hJ
   apply hJ
   intro c tv2 ws2 g1 g2 g3
   rw [fromI_len, ← lawStr_succ] at g1 g3
   walk_at "v"
   walk_at "n"
   refine hQB _ _ _ _ fun l9 => fun u_ k9 => k9 _ _ _ _ ?_ ?_
   ·rw [hnl]; omega
   ·rw [hnl]; exact g3
 ·intro m' zi ni l6 hJ
  apply hJ
  intro a b c ws j1 j2
  rw [fromI_len] at j2
  walk_at "v"
  refine exs_freeze fun hF => ?_
  walk_at "t"
  exact hQF _ _ _ _ fun u_ => ⟨[], List.nil_sublist _, rfl, vzL_mk (a := F) fset_self (j2.vmono (Le.fset hF))⟩
theorem s_law_wide (w : World) {A : Around} {k : Nat} (hA : Room A (k + 2)) {z : Fz} {pv : Value} {t1 t2 : Nat} {ps : List Pc} {f b : Nat} (hl : ps.length ≤ 400) (hW : ∀ p ∈ ps, p.2.2.length ≤ 1000) (hf : f ≤ ps.length) (hb : b ≤ ps.length) (hp : Vz z (eL ePc ps) pv) :
  Wp w A (call (.ref 818) [pv, .int (f : Nat) t1, .int (b : Nat) t2] []) z [] fun v z' n' => n' = [] ∧ Vz z' (eP eI eI (((wideF ps (f, b)).1 : Int), ((wideF ps (f, b)).2 : Int))) v := by
 refine WCall.W ?_
 refine fn_CQ (binds := [("pieces", pv), ("low", .int (f : Nat) t1), ("high", .int (b : Nat) t2)]) (own := none) (names := ["pieces", "low", "high"]) (locs := ["pieces", "low", "high"]) (g := [("_law_is_idle", Value.ref 797), ("len", .builtin "len")]) hA (by k_is) (by k_is) (fun _ X => by first | exact BindsTo.of_eq rfl | exact binds_K X rfl (by k_is) rfl rfl rfl) rfl (fun _ => rfl) (by decide +kernel) ⟨⟨rfl, gl_law_is_idle w⟩, ⟨⟨rfl, gl_len w⟩, trivial⟩⟩ fun L env eenv hC hR QF hQF => ?_
 let J : Nat → M → Fz → Led → Prop := fun k' m' z' n' => ∀ GG9 : M → Led → Prop, (∀ t, (downF ps f = downF ps k') → (k' ≤ ps.length) → GG9 (([("pieces", some (pv)), ("low", some (.int (k' : Nat) t)), ("high", some (.int (b : Nat) t2))] : M)) ([])) → GG9 m' n'
 let P : M → Fz → Led → Prop := fun m' z' n' => ∀ GG9 : M → Led → Prop, (∀ t, GG9 (([("pieces", some (pv)), ("low", some (.int (downF ps f : Nat) t)), ("high", some (.int (b : Nat) t2))] : M)) ([])) → GG9 m' n'
 walk_at "v"
 refine @exs_semQ _ _ _ _ _ _ _ _ _ _ _ fun QS hQS => while_mid hC J P f (fun u_ k9 => k9 t1 rfl hf) ?_ ?_
 ·intro k' m' zi ni l hJ
  apply hJ
  intro t j1 j2
  walk_at "v"
  intro t3
  refine brE_dec (fun h1 => ?_) (fun h1 => ?_)
  ·obtain ⟨j, rfl⟩ : ∃ j, k' = j + 1 := ⟨k' - 1, by first | exact (Nat.sub_add_cancel (castPos h1)).symm | lia | omega⟩
   rw [downF_c] at j1
   have hj := getD_at (ps := ps) (i := j) (by exact j2)
   generalize ps.getD j (0, 0, []) = p at *
   intro t4 t5
   refine item_V (hp.up l) (i := j) (by first | exact castPred | lia | omega) hj (by exact Nat.le_trans hl (Nat.le_of_ble_eq_true rfl)) fun u hu => ?_
   walk_at "v"
   refine callE_k (by k_is) ((s_law_is_idle w (k := k) (hR.down rfl) hu (hW _ (List.mem_of_getElem? hj))).apart fun v z1 l1 h => ?_)
   subst h
   walk_at "v"
   refine brE_any (fun h2 => ?_) (fun h2 => ?_)
   ·rw [if_pos h2] at j1
    walk_at "t"
    intro t6 t7
    walk_at "n"
    exact fun l2 => ⟨j, Nat.lt_succ_self j, fun u_ k9 => by rw [show ((j + 1 : Nat) : Int) - 1 = ((j : Nat) : Int) by first | exact castPred | lia | omega]; exact k9 t7 j1 (by exact Nat.le_of_lt j2)⟩
   ·rw [if_neg (by rw [h2]; exact Bool.false_ne_true)] at j1
    exact fun u_ k9 => by have h9 := k9 t; rw [j1] at h9; exact h9
  ·obtain rfl : k' = 0 := by exact Nat.le_antisymm (Nat.le_trans (Nat.le_of_not_lt fun q9 => h1 (Int.ofNat_lt.mpr q9)) (Nat.le_of_ble_eq_true rfl)) (Nat.zero_le _)
   exact fun u_ k9 => by have h9 := k9 t; rw [j1] at h9; exact h9
 intro m' z1 n1 l hP
 apply hP
 intro t3
 walk_at "v"
 let J2 : Nat → M → Fz → Led → Prop := fun k' m' z' n' => ∀ GG9 : M → Led → Prop, (∀ t, (upF (ps.drop b) b = upF (ps.drop (ps.length - k')) (ps.length - k')) → (k' ≤ ps.length) → GG9 (([("pieces", some (pv)), ("low", some (.int (downF ps f : Nat) t3)), ("high", some (.int ((ps.length - k' : Nat) : Int) t))] : M)) ([])) → GG9 m' n'
 let P2 : M → Fz → Led → Prop := fun m' z' n' => ∀ GG9 : M → Led → Prop, (∀ t, GG9 (([("pieces", some (pv)), ("low", some (.int (downF ps f : Nat) t3)), ("high", some (.int (upF (ps.drop b) b : Nat) t))] : M)) ([])) → GG9 m' n'
 walk_at "e"
 refine @exs_semQ _ _ _ _ _ _ _ _ _ _ _ fun QS hQS => while_mid hC J2 P2 (ps.length - b) (fun GG9 k9 => by have h9 := k9 t2 (by rw [Nat.sub_sub_self hb]) (by exact Nat.sub_le _ _); rw [Nat.sub_sub_self hb] at h9; exact h9) ?_ ?_
 ·intro k' m' zi ni l2 hJ
  apply hJ
  intro t j1 j2
  have lz := l.trans l2
  clear l l2
  walk_at "v"
  refine len_V (hp.up lz) (by exact Nat.le_trans hl (Nat.le_of_ble_eq_true rfl)) fun t5 => ?_
  walk_at "v"
  refine brE_dec (fun h1 => ?_) (fun h1 => ?_)
  ·have hj := getD_at (ps := ps) (i := ps.length - k') (by exact (Int.ofNat_lt.mp h1))
   rw [drop_of_get hj, upF_c] at j1
   generalize ps.getD (ps.length - k') (0, 0, []) = p at *
   refine item_V (hp.up lz) (i := ps.length - k') rfl hj (by exact Nat.le_trans hl (Nat.le_of_ble_eq_true rfl)) fun u hu => ?_
   walk_at "v"
   refine callE_k (by k_is) ((s_law_is_idle w (k := k) (hR.down rfl) hu (hW _ (List.mem_of_getElem? hj))).apart fun v z1 l1 h => ?_)
   subst h
   walk_at "v"
   refine brE_any (fun h2 => ?_) (fun h2 => ?_)
   ·rw [if_pos h2] at j1
    walk_at "t"
    intro t6 t7
    walk_at "n"
    refine fun l2 => ⟨k' - 1, by first | exact Nat.sub_lt (subPos h1) Nat.one_pos | lia | omega, fun u_ k9 => ?_⟩
    rw [show ((ps.length - k' : Nat) : Int) + 1 = ((ps.length - (k' - 1) : Nat) : Int) by first | exact (congrArg (Nat.cast (R := Int)) (subPred (subPos h1) j2)).symm | lia | omega]
    refine k9 t7 ?_ (by exact Nat.le_trans (Nat.sub_le _ _) j2)
    rw [show ps.length - (k' - 1) = ps.length - k' + 1 by first | exact subPred (subPos h1) j2 | lia | omega]
    exact j1
   ·rw [if_neg (by rw [h2]; exact Bool.false_ne_true)] at j1
    exact fun u_ k9 => by have h9 := k9 t; rw [j1] at h9; exact h9
  ·obtain rfl : k' = 0 := by first | exact subZero h1 j2 | lia | omega
   refine fun u_ k9 => ?_
   have h9 := k9 t
   rw [j1, Nat.sub_zero, List.drop_length] at h9
   exact h9
 intro m' z2 n2 l2 hP
 apply hP
 intro t4
 walk_at "v"
 walk_at "t"
 intro T2 hT2
 walk_at "e"
 exact hQF _ _ _ _ fun u_ => ⟨[], List.nil_sublist _, rfl, vzP_mk (a := T2) fset_self vzI_mk vzI_mk⟩
theorem s_law_apart (w : World) {A : Around} {k : Nat} (hA : Room A (k + 1)) {z : Fz} {fv : Value} {fs : List (Int × Int)} (hl : fs.length ≤ 1000) (hn : Nats fs) (hfv : Vz z (eL (eP eI eI) fs) fv) :
  Wp w A (call (.ref 825) [fv] []) z [] fun v z' n' => n' = [] ∧ Vz z' (eL (eP eI eI) (apartF 0 fs)) v := by
 refine WCall.W ?_
 refine fn_CQ (binds := [("some", fv)]) (own := none) (names := ["some"]) (locs := ["some", "found", "low", "high"]) (g := []) hA (by k_is) (by k_is) (fun _ X => by first | exact BindsTo.of_eq rfl | exact binds_K X rfl (by k_is) rfl rfl rfl) rfl (fun _ => rfl) (by decide +kernel) trivial fun L env eenv hC hR QF hQF => ?_
 walk_at "t"
 refine .inl fun F => ?_
 walk_at "v"
 let J : List (Int × Int) → M → Fz → Led → Prop := fun pre m' z' n' => ∀ GG9 : M → Led → Prop, (∀ a b acc ws, (acc.length ≤ pre.length) → ((∀ post, apartF 0 (pre ++ post) = acc ++ apartF (lastE acc) post)) → (All2 (fun x v => Vz z' (eP eI eI x) v) acc ws) → GG9 (([("some", some (fv)), ("found", some (.ref F)), ("low", a), ("high", b)] : M)) ([(F, .lst ws)])) → GG9 m' n'
 walk_at "e"
 refine @exs_semQ _ _ _ _ _ _ _ _ _ _ _ fun QS hQS => for_dataQ hC J ?_
 walk_at "v"
 refine LoopL_mk hC (eP eI eI) fs hfv (fun u_ k9 => k9 none none [] [] (Nat.le_refl _) (fun u_ => rfl) trivial) ?_ ?_
 ·intro pre x post v m' zi zi' ni hxs l2 l3 hv hJ QB hQB
  apply hJ
  intro a b acc ws j1 j2 j3
  obtain ⟨p, q⟩ := x
  induction hv using vzP_use with | _ T u1 u2 hT hu1 hu2 hv => ?_
  induction hu1 using vzI_use with | _ t2 hu1 => ?_
  induction hu2 using vzI_use with | _ t3 hu2 => ?_
  have hp0 : 0 ≤ p := (hn (p, q) (by rw [hxs]; simp)).1
  have hpl : pre.length < fs.length := by rw [hxs]; simp
  have hwl := j3.len
  replace j3 := j3.vmono l3
  clear hxs
  have app : ∀ {z' T2 w1 w2}, lastE acc ≤ p → Le zi' z' → z' T2 = some (.tup [.int p w1, .int q w2]) → turnD J (pre ++ [(p, q)]) zi' (fun fl m z n => True) .next ([("some", some (fv)), ("found", some (.ref F)), ("low", some (.int p t2)), ("high", some (.int q t3))] : M) z' [(F, .lst (ws ++ [.ref T2]))] := fun {z' T2 w1 w2} h l hT2 u_ => by
   refine fun u_ k9 => k9 _ _ (acc ++ [(p, q)]) _ (by simp only [List.length_append, List.length_singleton]; omega) (fun post => ?_) ((j3.vmono l).snoc (vzP_mk (a := T2) hT2 vzI_mk vzI_mk))
   rw [List.append_assoc, j2, lastE_concat]
   show acc ++ (if lastE acc ≤ p then (p, q) :: apartF q post else _) = _
   rw [if_pos h, List.append_assoc]
   rfl
  walk_at "v"
  refine unp_mk (.inl hT) rfl ?_
  walk_at "v"
  walk_at "t"
  refine .inr fun D hD => ?_
  walk_at "v"
  refine eq_W (x := acc) (y := []) (hR.less (Nat.zero_le _)) (Enc.pair Enc.int Enc.int).list (by decide) (.inr ⟨F, ws, _, rfl, rfl, .inr (.head _), vzAll_iff.mpr (All2.map.mpr (j3.vmono (Le.fset hD)))⟩) (.inl (vzL_mk (a := D) (vs := []) fset_self trivial)) ?_
  walk_at "v"
  refine brE_dec (fun h1 => ?_) (fun h1 => ?_)
  ·walk_at "t"
   refine meth_lst (.inr (.head _)) PySem.F.slot_list_append PySem.F.type_list_append ?_
   walk_at "v"
   intro T2 hT2
   refine callE_b (append_W .head (by exact Nat.le_of_lt (Nat.lt_of_lt_of_le (Nat.lt_of_lt_of_le (Nat.lt_of_le_of_lt (Nat.le_trans (Nat.le_of_eq hwl) j1) hpl) hl) (Nat.le_of_ble_eq_true rfl))) ?_)
   walk_at "v"
   walk_at "n"
   walk_at "n"
   exact hQB _ _ _ _ fun l => app (by rw [h1, lastE_nil]; exact hp0) l fset_self l
  ·obtain ⟨ys, y, rfl⟩ : ∃ ys y, acc = ys ++ [y] := ⟨acc.dropLast, acc.getLast h1, (List.dropLast_concat_getLast h1).symm⟩
   refine oEEAA j3.snoc_inv fun wsi u e0_ g1 g2 => ?_
   subst e0_
   simp only [List.length_append, List.length_singleton] at hwl j1
   induction g2 using vzP_use with | _ ua ux uy hua hux huy g2 => ?_
   induction huy using vzI_use with | _ t4 huy => ?_
   rw [lastE_concat] at app j2
   intro t5 t6
   refine item_last (.inr (.head _)) rfl (by first | exact Nat.le_trans (Nat.le_of_lt (Nat.le_trans (Nat.le_of_eq hwl) (Nat.le_trans j1 (Nat.le_trans (Nat.le_of_lt hpl) hl)))) (Nat.le_of_ble_eq_true rfl) | lia | omega) ?_
   walk_at "v"
   intro t7
   refine item_tat (i := 1) (.inl (Le.fset hD _ _ hua)) rfl rfl (by simp) ?_
   walk_at "v"
   refine brE_dec (fun h2 => ?_) (fun h2 => ?_)
   ·walk_at "t"
    refine meth_lst (.inr (.head _)) PySem.F.slot_list_append PySem.F.type_list_append ?_
    walk_at "v"
    intro T2 hT2
    refine callE_b (append_W .head (by rw [List.length_append, List.length_singleton]; omega) ?_)
    walk_at "v"
    walk_at "n"
    walk_at "n"
    exact hQB _ _ _ _ fun l => app h2 l fset_self l
   ·walk_at "n"
    walk_at "n"
    refine hQB _ _ _ _ fun l => fun u_ k9 => k9 _ _ (ys ++ [y]) _ (by simp only [List.length_append, List.length_singleton]; omega) (fun post => ?_) (j3.vmono l)
    rw [List.append_assoc, j2, lastE_concat]
    show _ ++ (if y.2 ≤ p then _ else apartF y.2 post) = _
    rw [if_neg h2]
 ·intro m' zi ni l2 hJ
  apply hJ
  intro a b acc ws j1 j2 j3
  have e5 := j2 []
  rw [List.append_nil, apartF, List.append_nil] at e5
  walk_at "v"
  refine exs_freeze fun hF => ?_
  walk_at "t"
  exact hQF _ _ _ _ fun u_ => ⟨[], List.nil_sublist _, rfl, vzL_mk (a := F) fset_self (e5 ▸ j3.vmono (Le.fset hF))⟩
theorem s_law_found (w : World) {A : Around} {k : Nat} (hA : Room A (k + 3)) {z : Fz} {pv wv : Value} {ps : List Pc} {wd : List (List Int)} {wide : Bool} (hl : ps.length ≤ 400) (hW : Wide3 wd.length ps) (hwl : wd.length ≤ 100) (hp : Vz z (eL ePc ps) pv) (hw : Vz z (eL (eL eI) wd) wv) :
  Wp w A (call (.ref 830) [pv, wv, .bool wide] []) z [] fun v z' n' => n' = [] ∧ Vz z' (eL (eP eI eI) (lawFound ps wd wide)) v := by
 have hW2 : ∀ p ∈ ps, p.2.2.length ≤ 1000 := fun p h => by have := (hW p h).1; omega
 have hsl := lawStr_len (wd := wd) hl ps.length
 refine WCall.W ?_
 refine fn_CQ (binds := [("pieces", pv), ("wish", wv), ("is_wide", .bool wide)]) (own := none) (names := ["pieces", "wish", "is_wide"]) (locs := ["pieces", "wish", "is_wide", "found", "some", "low", "high"]) (g := [("_law_stretches", Value.ref 811), ("_law_wide", Value.ref 818)]) hA (by k_is) (by k_is) (fun _ X => by first | exact BindsTo.of_eq rfl | exact binds_K X rfl (by k_is) rfl rfl rfl) rfl (fun _ => rfl) (by decide +kernel) ⟨⟨rfl, gl_law_stretches w⟩, ⟨⟨rfl, gl_law_wide w⟩, trivial⟩⟩ fun L env eenv hC hR QF hQF => ?_
 walk_at "t"
 refine .inl fun F => ?_
 walk_at "v"
 let P : M → Fz → Led → Prop := fun m' z' n' => ∀ GG9 : M → Led → Prop, (∀ sv, (Vz z' (eL (eP eI eI) (if idleL wd = true then [] else lawStr ps wd ps.length)) sv) → GG9 (([("pieces", some (pv)), ("wish", some (wv)), ("is_wide", some (.bool wide)), ("found", some (.ref F)), ("some", some (sv)), ("low", none), ("high", none)] : M)) ([(F, .lst [])])) → GG9 m' n'
 walk_at "e"
 refine exs_mid hC P ?_ ?_
 ·walk_at "v"
  refine comp_V hC [] none [] ["level"] (by subst eenv; rfl) (fun u_ => rfl) (fun u_ => rfl) (by decide +kernel) (by decide +kernel) trivial ?_
  walk_at "v"
  refine comp_data [] _ (eL eI) wd (fun l => !decide (l = [])) (fun l => l) (eL eI) nilPerm (iterV_list hR.handled hw) (by exact Nat.le_trans hwl (Nat.le_of_ble_eq_true rfl)) ?_ ?_
  ·intro C hC' l v zj m ov hm l7 hv hk
   obtain ⟨v0, rfl⟩ := keys1 hk
   induction hv using vzL_use with | _ la lvs hlz hla hv => ?_
   walk_at "v"
   refine .inr fun D hD => ?_
   walk_at "v"
   refine ne_W (x := l) (y := []) (hR.less (Nat.zero_le _)) Enc.int.list (by decide) (.inl (hv.up (Le.fset hD))) (.inl (vzL_mk (a := D) (vs := []) fset_self trivial)) ?_
   walk_at "v"
   refine brE_any (fun hb => ?_) (fun hb => ?_)
   ·exact fun l8 => ⟨rfl, ⟨none, rfl⟩, hb, hv.up (l8)⟩
   ·exact fun l8 => ⟨rfl, ⟨none, rfl⟩, hb⟩
  intro vs zN l7 hvl hall
  rw [List.map_id'] at hall
  refine .inr fun D hD => ?_
  walk_at "v"
  refine .inr fun D2 hD2 => ?_
  walk_at "v"
  refine ne_W (hR.less (Nat.zero_le _)) Enc.int.list.list (by decide) (x := nonE wd) (y := []) (.inl (vzL_mk (a := D) (vs := vs) (Le.fset hD2 _ _ fset_self) (hall.vmono ((Le.fset hD).trans (Le.fset hD2))))) (.inl (vzL_mk (a := D2) (vs := []) fset_self trivial)) ?_
  rw [show decide (nonE wd = []) = idleL wd from rfl]
  have lz : Le z (fset (fset zN D (.lst vs)) D2 (.lst [])) := l7.trans ((Le.fset hD).trans (Le.fset hD2))
  clear hall
  generalize fset (fset zN D (.lst vs)) D2 (.lst []) = z1 at *
  walk_at "v"
  refine brE_not (brE_any (fun hb => ?_) (fun hb => ?_))
  ·refine .inr fun D3 hD3 => ?_
   refine fun l => fun u_ k9 => k9 (.ref D3) ?_
   rw [if_pos hb]
   exact vzL_mk (a := D3) (vs := []) fset_self trivial
  ·refine callE_k (by k_is) ((s_law_stretches w (k := k) hR hl hW hwl (hp.up lz) (hw.up lz)).apart fun sv z2 l2 hsv => ?_)
   refine fun l => fun u_ k9 => k9 sv ?_
   rw [if_neg (by rw [hb]; exact Bool.false_ne_true)]
   exact hsv
 intro m' z1 n1 l1 hP
 apply hP
 intro sv hsv
 replace hp := hp.up l1
 obtain ⟨S, hS⟩ : ∃ S, S = (if idleL wd = true then [] else lawStr ps wd ps.length) := ⟨_, rfl⟩
 have hfin : lawFound ps wd wide = S.map fun p => placesF ps (chosenF ps wide (p.1.toNat, p.2.toNat)) := by rw [hS]; rfl
 have hSm : ∀ p ∈ S, ∃ low high : Nat, low < high ∧ high ≤ ps.length ∧ p = ((low : Int), (high : Int)) := fun p h => by
  rw [hS] at h
  split at h
  ·cases h
  ·exact lawStr_mem h
 have hSl : S.length ≤ 160000 := by
  rw [hS]
  split
  ·exact Nat.zero_le _
  ·omega
 rw [← hS] at hsv
 rw [hfin] at hQF
 clear hS hfin
 let J : List (Int × Int) → M → Fz → Led → Prop := fun pre m' z' n' => ∀ GG9 : M → Led → Prop, (∀ a b ws, (All2 (fun x v => Vz z' (eP eI eI x) v) (pre.map fun p => placesF ps (chosenF ps wide (p.1.toNat, p.2.toNat))) ws) → GG9 (([("pieces", some (pv)), ("wish", some (wv)), ("is_wide", some (.bool wide)), ("found", some (.ref F)), ("some", some (sv)), ("low", a), ("high", b)] : M)) ([(F, .lst ws)])) → GG9 m' n'
 walk_at "e"
 refine @exs_semQ _ _ _ _ _ _ _ _ _ _ _ fun QS hQS => for_dataQ hC J ?_
 walk_at "v"
 refine LoopL_mk hC (eP eI eI) S hsv (fun u_ k9 => k9 none none [] trivial) ?_ ?_
 ·intro pre x post v m' zi zi' ni hxs l2 l3 hv hJ QB hQB
  apply hJ
  intro a b ws j1
  refine oEEAA (hSm x (by rw [hxs]; simp)) fun low high h1 h2 e0_ => ?_
  subst e0_
  induction hv using vzP_use with | _ T u1 u2 hT hu1 hu2 hv => ?_
  induction hu1 using vzI_use with | _ t2 hu1 => ?_
  induction hu2 using vzI_use with | _ t3 hu2 => ?_
  have hpl : pre.length < S.length := by rw [hxs]; simp
  have hwl2 := j1.len
  rw [List.length_map] at hwl2
  replace j1 := j1.vmono l3
  have hp2 := hp.up (l2.trans l3)
  clear hxs
  have hnx : (pre ++ [((low : Int), (high : Int))]).map (fun p => placesF ps (chosenF ps wide (p.1.toNat, p.2.toNat))) = pre.map (fun p => placesF ps (chosenF ps wide (p.1.toNat, p.2.toNat))) ++ [placesF ps (chosenF ps wide (low, high))] := by
   rw [List.map_append]; rfl
  obtain ⟨hc1, hc2⟩ := chosenF_in (ps := ps) (wide := wide) h1 h2
  walk_at "v"
  refine unp_mk (.inl hT) rfl ?_
  walk_at "v"
  let P2 : M → Fz → Led → Prop := fun m' z' n' => ∀ GG9 : M → Led → Prop, (∀ t4 t5, GG9 (([("pieces", some (pv)), ("wish", some (wv)), ("is_wide", some (.bool wide)), ("found", some (.ref F)), ("some", some (sv)), ("low", some (.int ((chosenF ps wide (low, high)).1 : Nat) t4)), ("high", some (.int ((chosenF ps wide (low, high)).2 : Nat) t5))] : M)) ([(F, .lst ws)])) → GG9 m' n'
  walk_at "e"
  refine exs_mid hC P2 ?_ ?_
  ·walk_at "v"
   refine ⟨false, by subst eenv; rfl, ?_⟩
   walk_at "v"
   refine brE_any (fun hb => ?_) (fun hb => ?_)
   ·subst hb
    refine callE_k (by k_is) ((s_law_wide w (k := k) (t1 := t2) (t2 := t3) hR hl hW2 (by exact Nat.le_of_lt (Nat.lt_of_lt_of_le h1 h2)) h2 hp2).apart fun wv' z3 l4 hwv => ?_)
    induction hwv using vzP_use with | _ T4 w1 w2 hT4 hw1 hw2 hwv => ?_
    induction hw1 using vzI_use with | _ t4 hw1 => ?_
    induction hw2 using vzI_use with | _ t5 hw2 => ?_
    walk_at "v"
    refine unp_mk (.inl hT4) rfl ?_
    walk_at "v"
    exact fun l => fun u_ k9 => k9 t4 t5
   ·subst hb
    intro T4 hT4
    refine unp_mk (.inl fset_self) rfl ?_
    walk_at "v"
    exact fun l => fun u_ k9 => k9 t2 t3
  intro m' z3 n3 l4 hP
  apply hP
  intro t4 t5
  generalize chosenF ps wide (low, high) = st at *
  obtain ⟨fi, be⟩ := st
  have hc1 : fi < be := hc1
  have hc2 : be ≤ ps.length := hc2
  have hg1 := getD_at (ps := ps) (i := fi) (by exact Nat.lt_of_lt_of_le hc1 hc2)
  have hg2 := getD_at (ps := ps) (i := be - 1) (by exact Nat.lt_of_lt_of_le (Nat.sub_lt (Nat.zero_lt_of_lt hc1) (Nat.zero_lt_succ _)) hc2)
  replace hp2 := hp2.up l4
  replace j1 := j1.vmono l4
  walk_at "t"
  refine meth_lst (.inr (.head _)) PySem.F.slot_list_append PySem.F.type_list_append ?_
  walk_at "v"
  refine item_V (i := fi) hp2 rfl hg1 (by exact Nat.le_trans hl (Nat.le_of_ble_eq_true rfl)) fun q1 hq1 => ?_
  induction hq1 using vzT_use with | _ T5 w1 w2 w3 hT5 hw1 hw2 hw3 hq1 => ?_
  induction hw1 using vzI_use with | _ t6 hw1 => ?_
  walk_at "v"
  intro t7
  refine item_tat (i := 0) (.inl hT5) rfl rfl (by simp) ?_
  walk_at "v"
  intro t8 t9
  refine item_V (i := be - 1) hp2 (by show ((be : Nat) : Int) - 1 = _; omega) hg2 (by exact Nat.le_trans hl (Nat.le_of_ble_eq_true rfl)) fun q2 hq2 => ?_
  induction hq2 using vzT_use with | _ T6 w4 w5 w6 hT6 hw4 hw5 hw6 hq2 => ?_
  induction hw5 using vzI_use with | _ t10 hw5 => ?_
  walk_at "v"
  intro t11
  refine item_tat (i := 1) (.inl hT6) rfl rfl (by simp) ?_
  walk_at "v"
  intro T7 hT7
  walk_at "v"
  refine callE_b (append_W .head (by exact Nat.le_of_lt (Nat.lt_of_lt_of_le (Nat.lt_of_lt_of_le (Nat.lt_of_le_of_lt (Nat.le_of_eq hwl2) hpl) hSl) (Nat.le_of_ble_eq_true rfl))) ?_)
  walk_at "v"
  walk_at "n"
  refine hQB _ _ _ _ fun l => fun u_ k9 => k9 _ _ _ ?_
  rw [hnx]
  exact (j1.vmono (Le.fset hT7)).snoc (vzP_mk (a := T7) fset_self vzI_mk vzI_mk)
 ·intro m' zi ni l2 hJ
  apply hJ
  intro a b ws j1
  walk_at "v"
  refine exs_freeze fun hF => ?_
  walk_at "t"
  exact hQF _ _ _ _ fun u_ => ⟨[], List.nil_sublist _, rfl, vzL_mk (a := F) fset_self (j1.vmono (Le.fset hF))⟩
theorem s_places_right (w : World) {A : Around} {k : Nat} (hA : Room A (k + 13)) {z : Fz} {f : Str → Option Value} {rows : Rows} {lon : Int → Nat} {sv text fv : Value} {xs : List Int} {wd : List (List Int)} {s : Nat} {a : Int} {t : Nat}
  (h : RdyS rows lon f s wd) (hX : TextOk rows xs) (hI : SearchIs z rows lon f s wd sv) (hx : Vz z (eL eI xs) text) (hf : Vz z (eL (eP eI eI) (foundF rows s wd xs false)) fv) :
  Wp w A (call (.ref 835) [sv, text, fv, .int a t] []) z [] fun v z' n' => n' = [] ∧ v = .bool true := by
 have hfl := foundF_len (wide := false) h hX
 refine WCall.W ?_
 refine fn_CQ (binds := [("searcher", sv), ("text", text), ("found", fv), ("at", .int a t)]) (own := (some "at")) (names := ["searcher", "text", "found", "at"]) (locs := ["searcher", "text", "found", "behind", "ahead", "due", "told"]) (g := []) hA (by k_is) (by k_is) (fun _ X => by first | exact BindsTo.of_eq rfl | exact binds_K X rfl (by k_is) rfl rfl rfl) rfl (fun _ => rfl) (by decide +kernel) trivial fun L env eenv hC hR QF hQF => ?_
 walk_at "v"
 refine exs_freeze fun hc0 => ?_
 have lc := Le.fset (lo := .cell (some (.int a t))) hc0
 replace hI := hI.mono lc
 replace hx := hx.up lc
 replace hf := hf.up lc
 have hcell : fset z (L + 1) (.cell (some (.int a t))) (L + 1) = some (.cell (some (.int a t))) := fset_self
 generalize fset z (L + 1) (.cell (some (.int a t))) = z0 at *
 generalize hFS : foundF rows s wd xs false = fs at *
 walk_at "t"
 refine ⟨true, by subst eenv; rfl, ?_⟩
 walk_at "v"
 refine comp_V hC [("at", L + 1)] none [] ["one"] (by subst eenv; rfl) (fun u_ => rfl) (fun u_ => rfl) (by kernel_rfl) (by decide +kernel) trivial ?_
 walk_at "v"
 refine comp_data [] _ (eP eI eI) fs (fun p => decide (a ≤ p.1)) (fun p => p) (eP eI eI) nilPerm (iterV_list hR.handled hf) (by exact Nat.le_trans hfl (Nat.le_of_ble_eq_true rfl)) ?_ ?_
 ·intro C hC' p v zj m ov hm l7 hv hk
  obtain ⟨v0, rfl⟩ := keys1 hk
  induction hv using vzP_use with | _ T u1 u2 hT hu1 hu2 hv => ?_
  induction hu1 using vzI_use with | _ t1 hu1 => ?_
  walk_at "v"
  intro t2
  refine item_tat (i := 0) (.inl hT) rfl rfl (by simp) ?_
  walk_at "v"
  refine ⟨_, .inl (l7 _ _ hcell), ?_⟩
  walk_at "v"
  refine brE_any (fun hb => ?_) (fun hb => ?_)
  ·exact fun l8 => ⟨rfl, ⟨none, rfl⟩, hb, hv.up l8⟩
  ·exact fun l8 => ⟨rfl, ⟨none, rfl⟩, hb⟩
 intro bvs z1 l1 hbl hball
 rw [List.map_id'] at hball
 refine .inr fun B hB => ?_
 walk_at "v"
 have lB := l1.trans (Le.fset (lo := .lst bvs) hB)
 refine comp_V hC [("at", L + 1)] none [] ["one"] (by subst eenv; rfl) (fun u_ => rfl) (fun u_ => rfl) (by kernel_rfl) (by decide +kernel) trivial ?_
 walk_at "v"
 have hbv : Vz (fset z1 B (.lst bvs)) (eL (eP eI eI) (fs.filter fun p => decide (a ≤ p.1))) (.ref B) := vzL_mk (a := B) (vs := bvs) fset_self (hball.vmono (Le.fset hB))
 clear hball
 replace hI := hI.mono lB
 replace hx := hx.up lB
 replace hf := hf.up lB
 replace hcell := lB _ _ hcell
 generalize fset z1 B (.lst bvs) = z2 at *
 refine comp_data [] _ (eP eI eI) fs (fun p => decide (p.2 ≤ a)) (fun p => p) (eP eI eI) nilPerm (iterV_list hR.handled hf) (by exact Nat.le_trans hfl (Nat.le_of_ble_eq_true rfl)) ?_ ?_
 ·intro C hC' p v zj m ov hm l7 hv hk
  obtain ⟨v0, rfl⟩ := keys1 hk
  induction hv using vzP_use with | _ T u1 u2 hT hu1 hu2 hv => ?_
  induction hu2 using vzI_use with | _ t1 hu2 => ?_
  walk_at "v"
  intro t2
  refine item_tat (i := 1) (.inl hT) rfl rfl (by simp) ?_
  walk_at "v"
  refine ⟨_, .inl (l7 _ _ hcell), ?_⟩
  walk_at "v"
  refine brE_any (fun hb => ?_) (fun hb => ?_)
  ·exact fun l8 => ⟨rfl, ⟨none, rfl⟩, hb, hv.up l8⟩
  ·exact fun l8 => ⟨rfl, ⟨none, rfl⟩, hb⟩
 intro avs z3 l3 hal haall
 rw [List.map_id'] at haall
 refine .inr fun D hD => ?_
 walk_at "v"
 intro T1 hT1
 walk_at "v"
 have lD := l3.trans ((Le.fset (lo := .lst avs) hD).trans (Le.fset (lo := .tup [.ref B, .ref D]) hT1))
 have hav : Vz (fset (fset z3 D (.lst avs)) T1 (.tup [.ref B, .ref D])) (eL (eP eI eI) (fs.filter fun p => decide (p.2 ≤ a))) (.ref D) := vzL_mk (a := D) (vs := avs) (Le.fset hT1 _ _ fset_self) (haall.vmono ((Le.fset hD).trans (Le.fset hT1)))
 clear haall
 replace hI := hI.mono lD
 replace hx := hx.up lD
 replace hbv := hbv.up lD
 replace hcell := lD _ _ hcell
 clear hf lD lB l1 l3
 generalize fset (fset z3 D (.lst avs)) T1 (.tup [.ref B, .ref D]) = z4 at *
 have h1 := firstF_eq a fs
 have h2 := lastF_eq a fs
 have hb1 := List.length_filter_le (fun p : Int × Int => decide (a ≤ p.1)) fs
 have hb2 := List.length_filter_le (fun p : Int × Int => decide (p.2 ≤ a)) fs
 generalize (fs.filter fun p => decide (a ≤ p.1)) = bs at *
 generalize (fs.filter fun p => decide (p.2 ≤ a)) = as at *
 let P : M → Fz → Led → Prop := fun m' z' n' => ∀ GG9 : M → Led → Prop, (∀ dv, (Vz z' (eL (eO (eP eI eI)) [bs.head?, as.getLast?]) dv) → GG9 (([("searcher", some (sv)), ("text", some (text)), ("found", some (fv)), ("behind", some (.ref B)), ("ahead", some (.ref D)), ("due", some (dv)), ("told", none)] : M)) ([])) → GG9 m' n'
 walk_at "e"
 refine exs_mid hC P ?_ ?_
 ·walk_at "v"
  refine .inr fun D3 hD3 => ?_
  walk_at "v"
  refine ne_W (x := bs) (y := []) (hR.less (Nat.zero_le _)) (Enc.pair Enc.int Enc.int).list (by decide) (.inl (hbv.up (Le.fset hD3))) (.inl (vzL_mk (a := D3) (vs := []) fset_self trivial)) ?_
  walk_at "v"
  refine brE_not (brE_dec (fun e1 => ?_) (fun e1 => ?_))
  ·subst e1
   refine .inr fun D4 hD4 => ?_
   walk_at "v"
   refine ne_W (x := as) (y := []) (hR.less (Nat.zero_le _)) (Enc.pair Enc.int Enc.int).list (by decide) (.inl (hav.up ((Le.fset hD3).trans (Le.fset hD4)))) (.inl (vzL_mk (a := D4) (vs := []) fset_self trivial)) ?_
   walk_at "v"
   refine brE_not (brE_dec (fun e2 => ?_) (fun e2 => ?_))
   ·refine .inr fun D5 hD5 => ?_
    refine fun l => fun u_ k9 => k9 (.ref D5) (vzL_mk (a := D5) fset_self ⟨rfl, ?_, trivial⟩)
    rw [e2]
    rfl
   ·obtain ⟨ys, y, rfl⟩ : ∃ ys y, as = ys ++ [y] := ⟨as.dropLast, as.getLast e2, (List.dropLast_concat_getLast e2).symm⟩
    intro t5 t6
    refine item_Vlast (hav.up ((Le.fset hD3).trans (Le.fset hD4))) (List.getLast?_concat) rfl (by exact Nat.le_trans (Nat.le_trans hb2 hfl) (Nat.le_of_ble_eq_true rfl)) fun u2 hu2 => ?_
    walk_at "v"
    refine .inr fun D5 hD5 => ?_
    refine fun l => fun u_ k9 => k9 (.ref D5) (vzL_mk (a := D5) fset_self ⟨rfl, ?_, trivial⟩)
    rw [List.getLast?_concat]
    exact hu2.up (Le.fset hD5)
  ·obtain ⟨y1, r1, rfl⟩ : ∃ p r, bs = p :: r := by
    cases bs with
    | nil => exact absurd rfl e1
    | cons p r => exact ⟨p, r, rfl⟩
   intro t4
   refine item_V (i := 0) (y := y1) (hbv.up (Le.fset hD3)) rfl rfl (by exact Nat.le_trans (Nat.le_trans hb1 hfl) (Nat.le_of_ble_eq_true rfl)) fun u1 hu1 => ?_
   walk_at "v"
   refine .inr fun D4 hD4 => ?_
   walk_at "v"
   refine ne_W (x := as) (y := []) (hR.less (Nat.zero_le _)) (Enc.pair Enc.int Enc.int).list (by decide) (.inl (hav.up ((Le.fset hD3).trans (Le.fset hD4)))) (.inl (vzL_mk (a := D4) (vs := []) fset_self trivial)) ?_
   walk_at "v"
   refine brE_not (brE_dec (fun e2 => ?_) (fun e2 => ?_))
   ·refine .inr fun D5 hD5 => ?_
    refine fun l => fun u_ k9 => k9 (.ref D5) (vzL_mk (a := D5) fset_self ⟨(show Vz _ (eP eI eI y1) u1 from hu1.up ((Le.fset hD4).trans (Le.fset hD5))), ?_, trivial⟩)
    rw [e2]
    rfl
   ·obtain ⟨ys, y, rfl⟩ : ∃ ys y, as = ys ++ [y] := ⟨as.dropLast, as.getLast e2, (List.dropLast_concat_getLast e2).symm⟩
    intro t5 t6
    refine item_Vlast (hav.up ((Le.fset hD3).trans (Le.fset hD4))) (List.getLast?_concat) rfl (by exact Nat.le_trans (Nat.le_trans hb2 hfl) (Nat.le_of_ble_eq_true rfl)) fun u2 hu2 => ?_
    walk_at "v"
    refine .inr fun D5 hD5 => ?_
    refine fun l => fun u_ k9 => k9 (.ref D5) (vzL_mk (a := D5) fset_self ⟨(show Vz _ (eP eI eI y1) u1 from hu1.up ((Le.fset hD4).trans (Le.fset hD5))), ?_, trivial⟩)
    rw [List.getLast?_concat]
    exact hu2.up (Le.fset hD5)
 intro m' z5 n5 l5 hP
 apply hP
 intro dv hdv
 replace hI := hI.mono l5
 replace hx := hx.up l5
 replace hcell := l5 _ _ hcell
 clear hbv hav l5
 walk_at "t"
 refine searcher_meth hI (by decide +kernel) (by k_is) (by k_is) ?_
 walk_at "v"
 refine ⟨_, .inl hcell, ?_⟩
 walk_at "v"
 refine callE_k (by k_is) ((s_next_from w (k := k) hR h hX hI hx).apart fun v1 z6 l6 hv1 => ?_)
 rw [hFS, h1] at hv1
 walk_at "v"
 refine searcher_meth (hI.mono l6) (by decide +kernel) (by k_is) (by k_is) ?_
 walk_at "v"
 refine ⟨_, .inl (l6 _ _ hcell), ?_⟩
 walk_at "v"
 refine callE_k (by k_is) ((s_previous_from w (k := k) hR h hX (hI.mono l6) (hx.up l6)).apart fun v2 z7 l7 hv2 => ?_)
 rw [hFS, h2] at hv2
 walk_at "v"
 refine .inr fun D5 hD5 => ?_
 have htv : Vz (fset z7 D5 (.lst [v1, v2])) (eL (eO (eP eI eI)) [bs.head?, as.getLast?]) (.ref D5) := vzL_mk (a := D5) fset_self ⟨hv1.up (l7.trans (Le.fset hD5)), hv2.up (Le.fset hD5), trivial⟩
 replace hdv := hdv.up (show Le z5 (fset z7 D5 (.lst [v1, v2])) from l6.trans (l7.trans (Le.fset hD5)))
 clear hv1 hv2
 generalize fset z7 D5 (.lst [v1, v2]) = z8 at *
 walk_at "v"
 walk_at "t"
 refine comp_V hC [] none [("tuple", .type "tuple")] ["one"] (by subst eenv; rfl) (fun u_ => rfl) (fun u_ => rfl) (by decide +kernel) (by decide +kernel) ⟨⟨rfl, gl_tuple w⟩, trivial⟩ ?_
 walk_at "v"
 refine comp_data [] _ (eO (eP eI eI)) [bs.head?, as.getLast?] (fun u_ => true) (fun o => o) (eO (eP eI eI)) nilPerm (iterV_list hR.handled htv) (by simp) ?_ ?_
 ·intro C hC' o v zj m ov hm l8 hv hk
  obtain ⟨v0, rfl⟩ := keys1 hk
  cases o with
  | none =>
   have : v = .none := hv
   subst v
   walk_at "v"
   exact fun l9 => ⟨rfl, ⟨none, rfl⟩, rfl, rfl⟩
  | some p =>
   induction (show Vz zj (eP eI eI p) v from hv) using vzP_use with | _ T u1 u2 hT hu1 hu2 _ => ?_
   walk_at "v"
   refine callE_t (tupleT_W (.inl hT) ?_)
   exact fun l9 => ⟨rfl, ⟨none, rfl⟩, rfl, hv.up l9⟩
 intro vs z9 l9 hvl hall
 rw [filter_tt, List.map_id'] at hall
 induction hdv using vzL_use with | _ da dvs _ _ hdv => ?_
 refine .inr fun D6 hD6 => ?_
 walk_at "v"
 refine eq_W (x := [bs.head?, as.getLast?]) (y := [bs.head?, as.getLast?]) (hR.less (Nat.zero_le _)) (Enc.optP Enc.int Enc.int).list (by decide) (.inl (vzL_mk (a := D6) (vs := vs) fset_self (hall.vmono (Le.fset hD6)))) (.inl (hdv.up (l9.trans (Le.fset hD6)))) ?_
 walk_at "e"
 exact hQF _ _ _ _ fun u_ => ⟨[], List.nil_sublist _, rfl, by rw [decide_eq_true rfl] <;> rfl⟩
theorem s_cut_right (w : World) {A : Around} {k : Nat} (hA : Room A (k + 13)) {z : Fz} {f : Str → Option Value} {rows : Rows} {lon : Int → Nat} {sv text fv ov : Value} {xs ys : List Int} {wd : List (List Int)} {s : Nat}
  (h : RdyS rows lon f s wd) (hX : TextOk rows xs) (hyl : ys.length ≤ 400) (hI : SearchIs z rows lon f s wd sv) (hx : Vz z (eL eI xs) text) (hy : Vz z (eL eI ys) ov) (hf : Vz z (eL (eP eI eI) (foundF rows s wd xs false)) fv) :
  Wp w A (call (.ref 842) [sv, text, fv, ov] []) z [] fun v z' n' => n' = [] ∧ v = .bool true := by
 have hfl := foundF_len (wide := false) h hX
 have hxl := hX.1
 have hnat : Nats (foundF rows s wd xs false) := allF_nat
 induction hy using vzL_use with | _ ya yvs hyz hya hy => ?_
 have hyv := hya.len
 refine WCall.W ?_
 refine fn_CQ (binds := [("searcher", sv), ("text", text), ("found", fv), ("other", .ref ya)]) (own := none) (names := ["searcher", "text", "found", "other"]) (locs := ["searcher", "text", "found", "other", "some", "rest", "at", "whole", "low", "high"]) (g := [("_law_apart", Value.ref 825)]) hA (by k_is) (by k_is) (fun _ X => by first | exact BindsTo.of_eq rfl | exact binds_K X rfl (by k_is) rfl rfl rfl) rfl (fun _ => rfl) (by decide +kernel) ⟨⟨rfl, gl_law_apart w⟩, trivial⟩ fun L env eenv hC hR QF hQF => ?_
 walk_at "t"
 refine ⟨false, by subst eenv; rfl, ?_⟩
 walk_at "v"
 refine callE_k (by k_is) ((s_law_apart w (k := k) (hR.down rfl) (by exact Nat.le_trans hfl (Nat.le_of_ble_eq_true rfl)) hnat hf).apart fun av z1 l1 hav => ?_)
 walk_at "v"
 refine .inl fun R => ?_
 walk_at "v"
 intro t1
 refine .inr fun W hW => ?_
 walk_at "v"
 intro T1 hT1
 walk_at "v"
 have hal := apartF_len 0 (foundF rows s wd xs false)
 have han : Nats (apartF 0 (foundF rows s wd xs false)) := fun p hp => hnat p (apartF_mem hp)
 generalize hAF : apartF 0 (foundF rows s wd xs false) = fs at *
 have lT := l1.trans ((Le.fset (lo := .lst []) hW).trans (Le.fset (lo := .tup [av, .ref R, .int 0 t1, .ref W]) hT1))
 have hw0 : Vz (fset (fset z1 W (.lst [])) T1 (.tup [av, .ref R, .int 0 t1, .ref W])) (eL eI []) (.ref W) := vzL_mk (a := W) (vs := []) (Le.fset hT1 _ _ fset_self) trivial
 replace hav := hav.up (show Le z1 (fset (fset z1 W (.lst [])) T1 (.tup [av, .ref R, .int 0 t1, .ref W])) from (Le.fset hW).trans (Le.fset hT1))
 replace hI := hI.mono lT
 replace hx := hx.up lT
 replace hy := hy.up lT
 replace hyz := lT _ _ hyz
 replace hya := hya.vmono lT
 clear lT hf
 generalize fset (fset z1 W (.lst [])) T1 (.tup [av, .ref R, .int 0 t1, .ref W]) = z2 at *
 let J : List (Int × Int) → M → Fz → Led → Prop := fun pre m' z' n' => ∀ GG9 : M → Led → Prop, (∀ b c accP accR r t ws wv, (accP.length ≤ pre.length) → (accR.length ≤ 800 * pre.length) → ((∀ post, partF xs 0 (pre ++ post) = accP ++ partF xs r post)) → ((∀ post, replF xs ys 0 (pre ++ post) = accR ++ replF xs ys r post)) → (All2 (fun x v => Vz z' (eL eI x) v) accP ws) → (Vz z' (eL eI accR) wv) → GG9 (([("searcher", some (sv)), ("text", some (text)), ("found", some (fv)), ("other", some (.ref ya)), ("some", some (av)), ("rest", some (.ref R)), ("at", some (.int (r : Nat) t)), ("whole", some (wv)), ("low", b), ("high", c)] : M)) ([(R, .lst ws)])) → GG9 m' n'
 walk_at "e"
 refine @exs_semQ _ _ _ _ _ _ _ _ _ _ _ fun QS hQS => for_dataQ hC J ?_
 walk_at "v"
 refine LoopL_mk hC (eP eI eI) fs hav (fun u_ k9 => k9 none none [] [] 0 t1 [] (.ref W) (Nat.le_refl _) (Nat.le_refl _) (fun u_ => rfl) (fun u_ => rfl) trivial hw0) ?_ ?_
 ·intro pre x post v m' zi zi' ni hxs l3 l4 hv hJ QB hQB
  apply hJ
  intro b c accP accR r t ws wv j1 j2 j3 j4 j5 j6
  obtain ⟨p, q⟩ := x
  induction hv using vzP_use with | _ T u1 u2 hT hu1 hu2 hv => ?_
  induction hu1 using vzI_use with | _ t2 hu1 => ?_
  induction hu2 using vzI_use with | _ t3 hu2 => ?_
  have hpl : pre.length < fs.length := by rw [hxs]; simp
  obtain ⟨hp0, hq0⟩ := han (p, q) (by rw [hxs]; simp)
  obtain ⟨p', rfl⟩ := Int.eq_ofNat_of_zero_le hp0
  obtain ⟨q', rfl⟩ := Int.eq_ofNat_of_zero_le hq0
  have hwl := j5.len
  replace j5 := j5.vmono l4
  induction (j6.up l4) using vzL_use with | _ wa wvs hwz hwa _ => ?_
  have hwal := hwa.len
  have l5 := l3.trans l4
  clear hxs hp0 hq0 hu1 hu2 hv j6
  walk_at "v"
  refine unp_mk (.inl hT) rfl ?_
  walk_at "v"
  walk_at "t"
  refine meth_lst (.inr (.head _)) PySem.F.slot_list_append PySem.F.type_list_append ?_
  walk_at "v"
  refine slice_cut (a := r) (b := p') (hx.up l5) rfl rfl (by exact Nat.le_trans hxl (Nat.le_of_ble_eq_true rfl)) fun z3 u l6 hu => ?_
  walk_at "v"
  refine callE_b (append_W .head (by exact Nat.le_of_lt (Nat.lt_of_lt_of_le (Nat.lt_of_lt_of_le (Nat.lt_of_lt_of_le (Nat.lt_of_le_of_lt (Nat.le_trans (Nat.le_of_eq hwl) j1) hpl) hal) hfl) (Nat.le_of_ble_eq_true rfl))) ?_)
  walk_at "v"
  walk_at "t"
  refine ⟨true, by subst eenv; rfl, ?_⟩
  walk_at "v"
  refine slice_cut (a := r) (b := p') (hx.up (l5.trans l6)) rfl rfl (by exact Nat.le_trans hxl (Nat.le_of_ble_eq_true rfl)) fun z4 u2 l7 hu2 => ?_
  induction hu2 using vzL_use with | _ ua uvs huz hua hu2 => ?_
  have hul := hua.len
  have hul2 : ((xs.drop r).take (p' - r)).length ≤ xs.length := by rw [List.length_take, List.length_drop]; omega
  walk_at "v"
  refine cat_W (.inl ((l6.trans l7) _ _ hwz)) (.inl huz) (by first | exact Nat.le_trans (Nat.add_le_add (Nat.le_trans (Nat.le_of_eq hwal) (Nat.le_trans j2 (Nat.mul_le_mul_left 800 (Nat.le_trans (Nat.le_of_lt hpl) (Nat.le_trans hal hfl))))) (Nat.le_trans (Nat.le_of_eq hul) (Nat.le_trans hul2 hxl))) (Nat.le_of_ble_eq_true rfl) | lia | omega) (.inr fun D hD => ?_)
  walk_at "v"
  refine cat_W (.inl fset_self) (.inl (((l5.trans l6).trans (l7.trans (Le.fset hD))) _ _ hyz)) (by rw [List.length_append]; omega) (.inr fun D2 hD2 => ?_)
  walk_at "v"
  intro T2 hT2
  walk_at "v"
  walk_at "n"
  have lz4 : Le z4 (fset (fset (fset z4 D (.lst (wvs ++ uvs))) D2 (.lst (wvs ++ uvs ++ yvs))) T2 (.tup [.ref D2, .int (q' : Nat) t3])) := (Le.fset hD).trans ((Le.fset hD2).trans (Le.fset hT2))
  walk_at "e"
  refine hQB _ _ _ _ fun l8 => fun u_ k9 => k9 _ _ (accP ++ [(xs.drop r).take (p' - r)]) (accR ++ ((xs.drop r).take (p' - r) ++ ys)) q' t3 _ (.ref D2) ?_ ?_ (fun post => ?_) (fun post => ?_) ((j5.vmono l8).snoc (hu.up (l7.trans lz4))) (vzL_mk (a := D2) (Le.fset hT2 _ _ fset_self) ?_)
  ·simp only [List.length_append, List.length_singleton]; omega
  ·simp only [List.length_append, List.length_singleton]; omega
  ·rw [List.append_assoc, j3]
   show accP ++ ((xs.drop r).take (((p' : Nat) : Int).toNat - r) :: partF xs ((q' : Nat) : Int).toNat post) = _
   simp only [Int.toNat_natCast, List.append_assoc]
   rfl
  ·rw [List.append_assoc, j4]
   show accR ++ (((xs.drop r).take (((p' : Nat) : Int).toNat - r) ++ ys) ++ replF xs ys ((q' : Nat) : Int).toNat post) = _
   simp only [Int.toNat_natCast, List.append_assoc]
  ·rw [← List.append_assoc]
   exact ((hwa.vmono l8).append (hua.vmono lz4)).append (hya.vmono (l5.trans l8))
 intro m' zi ni l3 hJ
 apply hJ
 intro b c accP accR r t ws wv j1 j2 j3 j4 j5 j6
 have k3 := j3 []
 have k4 := j4 []
 rw [List.append_nil, partF] at k3
 rw [List.append_nil, replF] at k4
 have hwl := j5.len
 clear j3 j4
 replace hI := hI.mono l3
 replace hx := hx.up l3
 replace hy := hy.up l3
 walk_at "v"
 walk_at "t"
 refine meth_lst (.inr (.head _)) PySem.F.slot_list_append PySem.F.type_list_append ?_
 walk_at "v"
 refine slice_from (b := r) hx rfl (by exact Nat.le_trans hxl (Nat.le_of_ble_eq_true rfl)) fun z3 u l6 hu => ?_
 walk_at "v"
 refine callE_b (append_W .head (by exact Nat.le_trans (Nat.le_trans (Nat.le_trans (Nat.le_trans (Nat.le_of_eq hwl) j1) hal) hfl) (Nat.le_of_ble_eq_true rfl)) ?_)
 walk_at "v"
 refine exs_freeze fun hR0 => ?_
 have hrv : Vz (fset z3 R (.lst (ws ++ [u]))) (eL (eL eI) (partF xs 0 fs)) (.ref R) := vzL_mk (a := R) fset_self (by rw [k3]; exact (j5.vmono (l6.trans (Le.fset hR0))).snoc (hu.up (Le.fset hR0)))
 have l7 : Le zi (fset z3 R (.lst (ws ++ [u]))) := l6.trans (Le.fset hR0)
 replace hI := hI.mono l7
 replace hx := hx.up l7
 replace hy := hy.up l7
 replace j6 := j6.up l7
 clear j5 hu k3 l7
 generalize fset z3 R (.lst (ws ++ [u])) = z4 at *
 walk_at "t"
 refine searcher_meth hI (by decide +kernel) (by k_is) (by k_is) ?_
 walk_at "v"
 refine callE_k (by k_is) ((s_parted w (k := k) hR h hX hI hx).apart fun v1 z5 l8 hv1 => ?_)
 rw [hAF] at hv1
 induction hv1 using vzL_use with | _ va vvs _ _ hv1 => ?_
 walk_at "v"
 refine eq_W (x := partF xs 0 fs) (y := partF xs 0 fs) (hR.less (Nat.zero_le _)) Enc.int.list.list (by decide) (.inl hv1) (.inl (hrv.up l8)) ?_
 rw [decide_eq_true rfl]
 walk_at "v"
 refine searcher_meth (hI.mono l8) (by decide +kernel) (by k_is) (by k_is) ?_
 walk_at "v"
 refine callE_k (by k_is) ((s_replaced w (k := k) hR h hX hyl (hI.mono l8) (hx.up l8) (hy.up l8)).apart fun v2 z6 l9 hv2 => ?_)
 rw [hAF, k4] at hv2
 induction hv2 using vzL_use with | _ va2 vvs2 _ _ hv2 => ?_
 walk_at "v"
 induction (j6.up (l8.trans l9)) using vzL_use with | _ wa wvs hwz hwa _ => ?_
 have hwal := hwa.len
 refine slice_from (b := r) (hx.up (l8.trans l9)) rfl (by exact Nat.le_trans hxl (Nat.le_of_ble_eq_true rfl)) fun z7 u2 l10 hu2 => ?_
 induction hu2 using vzL_use with | _ ua uvs huz hua hu2 => ?_
 have hul := hua.len
 rw [List.length_drop] at hul
 walk_at "v"
 refine cat_W (.inl (l10 _ _ hwz)) (.inl huz) (by first | exact Nat.le_trans (Nat.add_le_add (Nat.le_trans (Nat.le_of_eq hwal) (Nat.le_trans j2 (Nat.mul_le_mul_left 800 (Nat.le_trans hal hfl)))) (Nat.le_trans (Nat.le_of_eq hul) (Nat.le_trans (Nat.sub_le _ _) hxl))) (Nat.le_of_ble_eq_true rfl) | lia | omega) (.inr fun D hD => ?_)
 walk_at "v"
 refine eq_W (x := accR ++ xs.drop r) (y := accR ++ xs.drop r) (hR.less (Nat.zero_le _)) Enc.int.list (by decide) (.inl (hv2.up (l10.trans (Le.fset hD)))) (.inl (vzL_mk (a := D) fset_self ((hwa.vmono (l10.trans (Le.fset hD))).append (hua.vmono (Le.fset hD))))) ?_
 walk_at "e"
 exact hQF _ _ _ _ fun u_ => ⟨[], List.nil_sublist _, rfl, by rw [decide_eq_true rfl] <;> rfl⟩
theorem signs_E {w : World} {A : Around} {z : Fz} {n : Led} {i : Int} {t : Tok} (h0 : 0 ≤ i) (hi : i < 7) {Q : KV} (q : ∀ c t, c ∈ signs → Q (.int c t) z n) : itemE PySem.Challenge.pw_nt0082_01 w (k0.heap_1 w.params) A (.ref 756) (.int i t) z n Q := by
 obtain ⟨j, rfl⟩ := Int.eq_ofNat_of_zero_le h0
 have hj : j < 7 := by exact Nat.lt_of_lt_of_le (Int.ofNat_lt.mp hi) (Nat.le_of_ble_eq_true rfl)
 match j, hj with
 | 0, _ => exact item_K (i := 0) (by k_is) rfl rfl rfl (by decide) (q _ _ (by decide))
 | 1, _ => exact item_K (i := 1) (by k_is) rfl rfl rfl (by decide) (q _ _ (by decide))
 | 2, _ => exact item_K (i := 2) (by k_is) rfl rfl rfl (by decide) (q _ _ (by decide))
 | 3, _ => exact item_K (i := 3) (by k_is) rfl rfl rfl (by decide) (q _ _ (by decide))
 | 4, _ => exact item_K (i := 4) (by k_is) rfl rfl rfl (by decide) (q _ _ (by decide))
 | 5, _ => exact item_K (i := 5) (by k_is) rfl rfl rfl (by decide) (q _ _ (by decide))
 | 6, _ => exact item_K (i := 6) (by k_is) rfl rfl rfl (by decide) (q _ _ (by decide))
theorem s_law (w : World) {A : Around} {k : Nat} (hA : Room A (k + 14)) {z : Fz} {sa : Addr} {o : Obj} {vs0 : List Value} {mm : Nat} {is : List Int} (hl : is.length ≤ 1000) (hz : z sa = some (.raw o)) (hoc : o.cls = .type "list") (hod : o.data = .seq vs0.toArray mm) (hs : All2 (fun i v => ∀ z, Vz z (eI i) v) is vs0) :
  WCall PySem.Challenge.pw_nt0082_01 w (k0.heap_1 w.params) A (.ref 847) [.ref sa] z [] fun v z' n' => v = .bool true := by
 refine fn_CQ (binds := [("script", .ref sa)]) (own := (some "deck")) (names := ["script"]) (locs := ["script", "rows", "table", "data", "signs", "strength", "pattern", "handed", "searcher", "wish", "turn", "text", "pieces", "was", "found", "wide", "told"]) (g := [("_law_deck", Value.ref 761), ("_law_rows", Value.ref 775), ("Elements", Value.ref 629), ("Data", Value.ref 751), ("_law_draw", Value.ref 768), ("range", .type "range"), ("list", .type "list"), ("Searcher", Value.ref 315), ("_law_told", Value.ref 787), ("_law_elements", Value.ref 782), ("_law_pieces", Value.ref 804), ("_law_found", Value.ref 830), ("_law_places_right", Value.ref 835), ("len", .builtin "len"), ("repr", .builtin "repr"), ("_law_cut_right", Value.ref 842)]) hA (by k_is) (by k_is) (fun _ X => by first | exact BindsTo.of_eq rfl | exact binds_K X rfl (by k_is) rfl rfl rfl) rfl (fun _ => rfl) (by decide +kernel) ⟨⟨rfl, gl_law_deck w⟩, ⟨⟨rfl, gl_law_rows w⟩, ⟨⟨rfl, gl_Elements w⟩, ⟨⟨rfl, gl_Data w⟩, ⟨⟨rfl, gl_law_draw w⟩, ⟨⟨rfl, gl_range w⟩, ⟨⟨rfl, gl_list w⟩, ⟨⟨rfl, gl_Searcher w⟩, ⟨⟨rfl, gl_law_told w⟩, ⟨⟨rfl, gl_law_elements w⟩, ⟨⟨rfl, gl_law_pieces w⟩, ⟨⟨rfl, gl_law_found w⟩, ⟨⟨rfl, gl_law_places_right w⟩, ⟨⟨rfl, gl_len w⟩, ⟨⟨rfl, gl_repr w⟩, ⟨⟨rfl, gl_law_cut_right w⟩, trivial⟩⟩⟩⟩⟩⟩⟩⟩⟩⟩⟩⟩⟩⟩⟩⟩ fun L env eenv hC hR QF hQF => ?_
 walk_at "t"
 refine callE_k (by k_is) (W.ahead (r := [_]) (s_deck w (k := k) (hR.down rfl) hl hz hoc hod hs fun d C cs mx t z1 l1 hD => ?_))
 walk_at "v"
 refine ⟨by kernel_rfl, none, _, .head, ?_⟩
 walk_at "v"
 refine exs_freeze fun hc0 => ?_
 have hcell : fset z1 (L + 1) (.cell (some (.ref d))) (L + 1) = some (.cell (some (.ref d))) := fset_self
 clear hs
 generalize fset z1 (L + 1) (.cell (some (.ref d))) = z2 at *
 walk_at "t"
 refine ⟨true, by subst eenv; rfl, ?_⟩
 walk_at "v"
 refine ⟨_, .inl hcell, ?_⟩
 refine callE_k (by k_is) (s_rows w (k := k) (hR.down rfl) hD fun R xs rows cs1 mx1 t1 z3 l3 hR0 hr hkeys hshort hD1 => ?_)
 walk_at "v"
 refine s_elements w (k := k) (hR.down rfl) fun x dx T G u1 u2 z4 l4 hx hdx hT hG => ?_
 walk_at "v"
 refine s_data w (k := k) (hR.down rfl) fun dv f t0 z5 l5 hData hf1 hf2 => ?_
 walk_at "v"
 intro T3 hT3
 walk_at "v"
 have lz := l3.trans (l4.trans (l5.trans (Le.fset (lo := .tup [.ref R, .ref x, dv]) hT3)))
 have lz4 := l5.trans (Le.fset (lo := .tup [.ref R, .ref x, dv]) hT3)
 replace hcell := lz _ _ hcell
 replace hr := hr.mono (l4.trans lz4)
 replace hx := lz4 _ _ hx
 replace hdx := lz4 _ _ hdx
 replace hData := hData.mono (Le.fset (lo := .tup [.ref R, .ref x, dv]) hT3)
 clear lz lz4 l1 l3 l4 l5
 generalize fset z5 T3 (.tup [.ref R, .ref x, dv]) = z6 at *
 walk_at "e"
 refine exs_perm (List.perm_middle (l₁ := [(G, Lo.dI (fun u_ => none) 0), (T, Lo.dT [])]) (a := (R, Lo.dT xs)) (l₂ := deckL d C cs1 mx1 t1)) (exs_freezeRaw fun oR hR1 hRo => ?_)
 have hrows : RowsIs PySem.Challenge.pw_nt0082_01 w (k0.heap_1 w.params) (fset z6 R (.raw oR)) rows (.ref R) := ⟨R, xs, oR, rfl, fset_self, hRo, hR0, hr.mono (Le.fset hR1)⟩
 have lR := Le.fset (lo := .raw oR) hR1
 replace hcell := lR _ _ hcell
 replace hx := lR _ _ hx
 replace hdx := lR _ _ hdx
 replace hData := hData.mono lR
 clear lR hr hRo
 generalize fset z6 R (.raw oR) = z7 at *
 refine oAAA (KeysOk.facts hkeys) fun hkn hk2 hkl hks => ?_
 have hKO : KeysOk rows := hkeys
 clear hkeys
 let J : List (List Int) → M → Fz → Led → Prop := fun pre m' z' n' => ∀ GG9 : M → Led → Prop, (∀ sg f m xs', (RowsAt z' (rows.take pre.length) xs') → (LonIs f (lonK (fun u_ => 0) (pre))) → (m ≤ pre.length) → GG9 (([("script", some (.ref sa)), ("rows", some (.ref R)), ("table", some (.ref x)), ("data", some (dv)), ("signs", sg), ("strength", none), ("pattern", none), ("handed", none), ("searcher", none), ("wish", none), ("turn", none), ("text", none), ("pieces", none), ("was", none), ("found", none), ("wide", none), ("told", none)] : M)) ((G, .dI f m) :: (T, .dT xs') :: deckL d C cs1 mx1 t1)) → GG9 m' n'
 walk_at "e"
 refine @exs_semQ _ _ _ _ _ _ _ _ _ _ _ fun QS hQS => ?_
 refine @for_dataQ _ _ _ _ _ _ _ _ _ hC _ _ _ _ _ J ?_ (fun u_ => rfl)
 walk_at "v"
 refine LoopD.mk [] _ eK (rows.map (·.1)) nilPerm (iterV_keys hR.handled hrows) (fun u_ k9 => k9 none (fun u_ => none) 0 [] trivial (fun i => .inl ⟨rfl, rfl⟩) (Nat.le_refl _)) ?_ ?_
 ·intro pre ks post v m' zi zi' ni hxs l3 l4 hv hJ QB hQB
  apply hJ
  intro sg fG mG xs' j1 j2 j3
  obtain ⟨r, hri, hr1⟩ : ∃ r, rows[pre.length]? = some r ∧ r.1 = ks := by
   have h1 : (rows.map (·.1))[pre.length]? = some ks := by rw [hxs]; simp
   rw [List.getElem?_map] at h1
   refine oEA (Option.map_eq_some_iff.mp h1) fun r h2 h3 => ?_
   exact ⟨r, h2, h3⟩
  obtain ⟨hk0, hkl2⟩ := hk2 ks (by rw [hxs]; simp)
  have hlook := look_at hkn hri
  rw [hr1] at hlook
  have htk : rows.take (pre ++ [ks]).length = rows.take pre.length ++ [(ks, r.2)] := by
   rw [List.length_append, List.length_singleton, List.take_add_one, hri, ← hr1]; rfl
  have hpre : (rows.take pre.length).map (·.1) = pre := by rw [List.map_take, hxs, List.take_left]
  have hpl : pre.length < rows.length := lt_of_get hri
  have hnot : look (rows.take pre.length) ks = none := look_none (by
   rw [hpre]
   intro h
   rw [hxs] at hkn
   exact (List.nodup_append.mp hkn).2.2 ks h ks (.head _) rfl)
  have hsh := hshort r (List.mem_of_getElem? hri)
  obtain ⟨c, tl, rfl⟩ : ∃ c tl, ks = c :: tl := by
   cases ks with
   | nil => exact absurd rfl hk0
   | cons c tl => exact ⟨c, tl, rfl⟩
  obtain ⟨ka, kvs, e, -⟩ : ∃ a vs, v = .ref a ∧ zi' a = some (.tup vs) := by
   refine oEEAA hv fun a vs e h u_ => ?_
   clear hv
   exact ⟨a, vs, e, h⟩
  subst e
  have l5 := l3.trans l4
  replace j1 := j1.mono l4
  clear hxs
  walk_at "v"
  walk_at "t"
  have I : Inst zi' ((G, .dI fG mG) :: (T, .dT xs') :: deckL d C cs1 mx1 t1) 629 x dx [("bases", u1), ("factors", u2), ("longest", .ref G), ("table", .ref T)] := ⟨.inl (l5 _ _ hx), .inl (l5 _ _ hdx)⟩
  refine meth_W I (by kernel_rfl) (by k_is) (by k_is) (by k_is) (by k_is) ?_
  walk_at "v"
  refine R_item (hR.less (Nat.zero_le _)) (hrows.mono l5) hv hlook fun ev hev => ?_
  walk_at "v"
  refine callE_k (by k_is) (W.under (n := [(G, .dI fG mG), (T, .dT xs')]) (r := deckL d C cs1 mx1 t1) (s_put w (k := k) (hR.down rfl) (l5 _ _ hx) (l5 _ _ hdx) hT hG j1 hnot j2 (by exact Nat.le_of_lt (Nat.lt_of_lt_of_le (Nat.lt_of_lt_of_le (Nat.lt_of_le_of_lt j3 hpl) hkl) (Nat.le_of_ble_eq_true rfl))) (by rw [List.length_take]; omega) (by simp at hkl2; omega) hv hev (by exact Nat.le_trans hsh (Nat.le_of_ble_eq_true rfl)) fun z8 f' m'' xs'' l6 g1 g2 g3 => ?_))
  walk_at "v"
  walk_at "n"
  refine hQB _ _ _ _ fun l7 => fun u_ k9 => k9 _ f' m'' xs'' ?_ ?_ (by rw [List.length_append, List.length_singleton]; omega)
  ·rw [htk]; exact g3
  ·rw [lonK_snoc]; exact g2
 intro m' z8 n8 l8 hJ
 apply hJ
 intro sg fG mG xs' j1 j2 j3
 rw [List.length_map, List.take_length] at j1
 walk_at "v"
 refine exs_freeze fun hG1 => exs_freeze fun hT1 => ?_
 have lz := l8.trans ((Le.fset (lo := .dI fG mG) hG1).trans (Le.fset (lo := .dT xs') hT1))
 have hTab : TableIs (fset (fset z8 G (.dI fG mG)) T (.dT xs')) rows (lonK (fun u_ => 0) (rows.map (·.1))) (.ref x) := ⟨x, dx, T, G, xs', u1, u2, mG, fG, rfl, lz _ _ hx, lz _ _ hdx, fset_self, hT, j1.mono ((Le.fset hG1).trans (Le.fset hT1)), Le.fset hT1 _ _ fset_self, hG, j2⟩
 have hGood : Good rows (lonK (fun u_ => 0) (rows.map (·.1))) := good_rows fun r hr => (hk2 r.1 (List.mem_map_of_mem (f := (·.1)) hr)).2
 have hShort : Short rows := short_rows hshort
 replace hrows := hrows.mono lz
 replace hcell := lz _ _ hcell
 replace hData := hData.mono lz
 clear lz j1 j2 j3 hx hdx hkn hk2 hkl hks hshort
 generalize fset (fset z8 G (.dI fG mG)) T (.dT xs') = z9 at *
 generalize lonK (fun u_ => 0) (rows.map (·.1)) = lon at *
 walk_at "t"
 intro a1
 refine ⟨_, .inl hcell, ?_⟩
 walk_at "v"
 intro a2
 refine draw_E w (k := k) (hR.down rfl) [] hD1 (by decide) (by decide) fun i1 b1 cs2 mx2 t2 z10 l10 hi1 hi2 hD2 => ?_
 walk_at "v"
 intro a3
 obtain ⟨i', rfl⟩ := Int.eq_ofNat_of_zero_le hi1
 obtain ⟨s, hsv⟩ : ∃ s : Nat, (1 : Int) + (i' : Int) = (s : Int) := ⟨1 + i', by exact rfl⟩
 have hs3 : s ≤ 3 := by first | exact oneAdd hi2 hsv | lia | omega
 rw [hsv]
 clear hsv hi1 hi2
 replace hcell := l10 _ _ hcell
 replace hrows := hrows.mono l10
 replace hTab := hTab.mono l10
 replace hData := hData.mono l10
 clear l10
 walk_at "t"
 refine comp_S hC [("deck", L + 1)] none [("_law_signs", Value.ref 756), ("_law_draw", Value.ref 768)] ["k"] (by subst eenv; rfl) (by subst eenv; rfl) (fun u_ => rfl) (fun u_ => rfl) (by kernel_rfl) (by decide +kernel) ⟨⟨rfl, gl_law_signs w⟩, ⟨⟨rfl, gl_law_draw w⟩, trivial⟩⟩ ?_
 walk_at "v"
 refine ⟨_, .inl hcell, ?_⟩
 walk_at "v"
 intro q1
 refine draw_E w (k := k) (hR.down rfl) [] hD2 (by decide) (by decide) fun i2 q2 cs3 mx3 t3 z11 la hi1 hi2 hD3 => ?_
 walk_at "v"
 refine callE_t (range1_W fun r q3 q4 hr => ?_)
 refine comp_any [] _ eI (fromI 0 i2.toNat) (fun n0 => ∃ cs mx t, DeckOk d cs mx ∧ n0 = deckL d C cs mx t) (fun c => c ∈ signs) eI nilPerm (iterV_rng hR.handled fset_self (by exact Int.natCast_nonneg _) (by exact Int.natCast_nonneg _) (by first | exact Int.lt_of_lt_of_le (by decide) hi1 | lia | omega) (by first | exact Int.lt_trans hi2 (by decide) | lia | omega) (by first | exact congrArg Int.toNat (Int.sub_zero _) | lia | omega)) (by rw [fromI_len]; omega) ⟨_, _, _, hD3, rfl⟩ ?_ ?_
 ·intro C' hC' y v zi m ov n0 hm hI le hv hk
  obtain ⟨v0, rfl⟩ := keys1 hk
  refine oEEEA hI fun cs4 mx4 t4 hD4 e0_ => ?_
  clear hI
  subst e0_
  walk_at "v"
  refine ⟨_, .inl (((la.trans (Le.fset hr)).trans le) _ _ hcell), ?_⟩
  walk_at "v"
  intro q5
  refine draw_E w (k := k) (hR.down rfl) [] hD4 (by decide) (by decide) fun i5 q6 cs5 mx5 t5 z15 l15 hj1 hj2 hD5 => ?_
  walk_at "v"
  refine signs_E hj1 hj2 fun c q7 hc => ?_
  exact fun l16 => ⟨rfl, ⟨none, _, rfl, _, _, _, hD5, rfl⟩, c, hc, vzI_mk⟩
 intro pat pvs z12 n0 lb hxl hpsg hI hall
 refine oEEEA hI fun csA mxA tA hDA e0_ => ?_
 clear hI
 subst e0_
 rw [fromI_len] at hxl
 refine .inr fun P0 hP => ?_
 walk_at "v"
 have hpv : Vz (fset z12 P0 (.lst pvs)) (eL eI pat) (.ref P0) := vzL_mk (a := P0) (vs := pvs) fset_self (hall.vmono (Le.fset hP))
 have lp : Le z10 (fset z12 P0 (.lst pvs)) := (la.trans (Le.fset hr)).trans (lb.trans (Le.fset hP))
 have hpl : pat.length < 3 := by first | exact toNat3 hxl hi2 | lia | omega
 clear hall la lb hr hD3
 generalize fset z12 P0 (.lst pvs) = z13 at *
 replace hcell := lp _ _ hcell
 replace hrows := hrows.mono lp
 replace hTab := hTab.mono lp
 replace hData := hData.mono lp
 clear lp
 have hPT : TextOk rows pat := hKO.text hpsg (by exact Nat.le_of_lt (Nat.lt_of_lt_of_le hpl (Nat.le_of_ble_eq_true rfl)))
 walk_at "t"
 refine oEEAA (vzL.mp hpv) fun P0' pvs' e hPz hPa => ?_
 cases e
 have hpvl := hPa.len
 refine callE_t (list_W (.inl (.inl hPz)) (by exact Nat.le_of_lt (Nat.lt_of_lt_of_le (Nat.lt_of_le_of_lt (Nat.le_of_eq hpvl) hpl) (Nat.le_of_ble_eq_true rfl))) (.inr fun H hH => ?_))
 walk_at "v"
 have lH := Le.fset (lo := .lst pvs') hH
 have hhv : Vz (fset z13 H (.lst pvs')) (eL eI pat) (.ref H) := vzL_mk (a := H) (vs := pvs') fset_self (hPa.vmono lH)
 replace hcell := lH _ _ hcell
 replace hrows := hrows.mono lH
 replace hTab := hTab.mono lH
 replace hData := hData.mono lH
 replace hpv := hpv.up lH
 clear lH hPz hPa
 generalize fset z13 H (.lst pvs') = z14 at *
 walk_at "t"
 intro c1
 refine s_searcher w (k := k) (hR.down rfl) (by exact Nat.le_of_lt (Nat.lt_of_lt_of_le hpl (Nat.le_of_ble_eq_true rfl))) hs3 (fun i hi => (hPT.2 i hi).1) hGood hShort (fun i hi => (hPT.2 i hi).2) hTab hhv hData hf1 hf2 fun sv2 z15 l15 hSe => ?_
 walk_at "v"
 replace hcell := l15 _ _ hcell
 replace hrows := hrows.mono l15
 replace hpv := hpv.up l15
 replace hhv := hhv.up l15
 clear l15 hTab hData
 have hel := elems_len hShort pat
 walk_at "t"
 refine callE_k (by k_is) ((s_law_elements w (k := k) (hR.down rfl) hPT.1 hShort (fun c hc => (hPT.2 c hc).2) hrows hpv).apart fun ev z16 l16 hev => ?_)
 walk_at "v"
 refine callE_k (by k_is) ((s_law_told w (k := k) (hR.down rfl) (by first | exact Nat.le_trans hel (Nat.le_trans (Nat.mul_le_mul_left 2 (Nat.le_of_lt hpl)) (Nat.le_of_ble_eq_true rfl)) | lia | omega) hs3 hev).apart fun wv z17 l17 hwv => ?_)
 walk_at "v"
 have lw := l16.trans l17
 replace hcell := lw _ _ hcell
 replace hrows := hrows.mono lw
 replace hpv := hpv.up lw
 replace hhv := hhv.up lw
 replace hSe := hSe.mono lw
 have hwl : (told s (elems rows pat)).length = s := told_len _ _
 have hws : ∀ l ∈ told s (elems rows pat), l.length ≤ 1000 := fun l h => by have := told_short l h; omega
 clear lw l16 l17 hel hev
 generalize told s (elems rows pat) = wd at *
 have hRdy : RdyS rows lon f s wd := ⟨hs3, hGood, hShort, hwl, hws, ⟨t0, hf1⟩, hf2⟩
 let J : List Int → M → Fz → Led → Prop := fun pre m' z' n' => ∀ GG9 : M → Led → Prop, (∀ o1 o2 o3 o4 o5 o6 o7 cs mx t, (DeckOk d cs mx) → GG9 (([("script", some (.ref sa)), ("rows", some (.ref R)), ("table", some (.ref x)), ("data", some (dv)), ("signs", sg), ("strength", some (.int (s : Nat) a3)), ("pattern", some (.ref P0)), ("handed", some (.ref H)), ("searcher", some (sv2)), ("wish", some (wv)), ("turn", o1), ("text", o2), ("pieces", o3), ("was", o4), ("found", o5), ("wide", o6), ("told", o7)] : M)) (deckL d C cs mx t)) → GG9 m' n'
 walk_at "e"
 refine @exs_semQ _ _ _ _ _ _ _ _ _ _ _ fun QS hQS => for_dataQ hC J ?_
 walk_at "v"
 intro e1
 refine callE_t (range1_W fun r e2 e3 hr => ?_)
 refine LoopD.mk [] _ eI (fromI 0 2) nilPerm (iterV_rng hR.handled fset_self (by exact Int.natCast_nonneg _) (by exact Int.natCast_nonneg _) (by exact Int.natCast_nonneg _) (by exact Int.natCast_nonneg _) (by exact rfl)) (fun u_ k9 => k9 none none none none none none none _ _ _ hDA) ?_ ?_
 ·intro pre y post v m' zi zi' ni hxs l3 l4 hv hJ QB hQB
  apply hJ
  intro o1 o2 o3 o4 o5 o6 o7 csB mxB tB hDB
  induction hv using vzI_use with | _ e6 hv => ?_
  have lz := (Le.fset hr).trans (l3.trans l4)
  replace hcell := lz _ _ hcell
  replace hrows := hrows.mono lz
  replace hpv := hpv.up lz
  replace hwv := hwv.up lz
  replace hSe := hSe.mono lz
  clear lz l3 l4 hxs hv hDA hr
  walk_at "v"
  walk_at "t"
  refine comp_S hC [("deck", L + 1)] none [("_law_signs", Value.ref 756), ("_law_draw", Value.ref 768)] ["k"] (by subst eenv; rfl) (by subst eenv; rfl) (fun u_ => rfl) (fun u_ => rfl) (by kernel_rfl) (by decide +kernel) ⟨⟨rfl, gl_law_signs w⟩, ⟨⟨rfl, gl_law_draw w⟩, trivial⟩⟩ ?_
  walk_at "v"
  refine ⟨_, .inl hcell, ?_⟩
  walk_at "v"
  intro q1
  refine draw_E w (k := k) (hR.down rfl) [] hDB (by decide) (by decide) fun i2 q2 cs3 mx3 t3 y11 la hi1 hi2 hD3 => ?_
  walk_at "v"
  refine callE_t (range1_W fun r q3 q4 hr => ?_)
  refine comp_any [] _ eI (fromI 0 i2.toNat) (fun n0 => ∃ cs mx t, DeckOk d cs mx ∧ n0 = deckL d C cs mx t) (fun c => c ∈ signs) eI nilPerm (iterV_rng hR.handled fset_self (by exact Int.natCast_nonneg _) (by exact Int.natCast_nonneg _) (by first | exact Int.lt_of_lt_of_le (by decide) hi1 | lia | omega) (by first | exact Int.lt_trans hi2 (by decide) | lia | omega) (by first | exact congrArg Int.toNat (Int.sub_zero _) | lia | omega)) (by rw [fromI_len]; omega) ⟨_, _, _, hD3, rfl⟩ ?_ ?_
  ·intro C' hC' y v zi m ov n0 hm hI le hv hk
   obtain ⟨v0, rfl⟩ := keys1 hk
   refine oEEEA hI fun cs4 mx4 t4 hD4 e0_ => ?_
   clear hI
   subst e0_
   walk_at "v"
   refine ⟨_, .inl (((la.trans (Le.fset hr)).trans le) _ _ hcell), ?_⟩
   walk_at "v"
   intro q5
   refine draw_E w (k := k) (hR.down rfl) [] hD4 (by decide) (by decide) fun i5 q6 cs5 mx5 t5 z15 l15 hj1 hj2 hD5 => ?_
   walk_at "v"
   refine signs_E hj1 hj2 fun c q7 hc => ?_
   exact fun l16 => ⟨rfl, ⟨none, _, rfl, _, _, _, hD5, rfl⟩, c, hc, vzI_mk⟩
  intro tx tvs y12 n0 lb hxl htsg hI hall
  refine oEEEA hI fun csC mxC tC hDC e0_ => ?_
  clear hI
  subst e0_
  rw [fromI_len] at hxl
  refine .inr fun X0 hP => ?_
  walk_at "v"
  have htv0 : Vz (fset y12 X0 (.lst tvs)) (eL eI tx) (.ref X0) := vzL_mk (a := X0) (vs := tvs) fset_self (hall.vmono (Le.fset hP))
  have lt : Le zi' (fset y12 X0 (.lst tvs)) := (la.trans (Le.fset hr)).trans (lb.trans (Le.fset hP))
  have htl : tx.length < 6 := by first | exact toNat6 hxl hi2 | lia | omega
  clear hall la lb hr hD3
  generalize fset y12 X0 (.lst tvs) = y13 at *
  replace hcell := lt _ _ hcell
  replace hrows := hrows.mono lt
  replace hpv := hpv.up lt
  replace hwv := hwv.up lt
  replace hSe := hSe.mono lt
  clear lt
  let P1 : M → Fz → Led → Prop := fun m' z' n' => ∀ GG9 : M → Led → Prop, (∀ tv xs cs mx t, (Vz z' (eL eI xs) tv) → (xs.length ≤ 6) → ((∀ c ∈ xs, c ∈ signs)) → (DeckOk d cs mx) → GG9 (([("script", some (.ref sa)), ("rows", some (.ref R)), ("table", some (.ref x)), ("data", some (dv)), ("signs", sg), ("strength", some (.int (s : Nat) a3)), ("pattern", some (.ref P0)), ("handed", some (.ref H)), ("searcher", some (sv2)), ("wish", some (wv)), ("turn", some (.int y e6)), ("text", some (tv)), ("pieces", o3), ("was", o4), ("found", o5), ("wide", o6), ("told", o7)] : M)) (deckL d C cs mx t)) → GG9 m' n'
  walk_at "e"
  refine exs_mid hC P1 ?_ ?_
  ·walk_at "v"
   refine ⟨_, .inl hcell, ?_⟩
   walk_at "v"
   intro e7
   refine draw_E w (k := k) (hR.down rfl) [] hDC (by decide) (by decide) fun i5 q6 cs5 mx5 t5 y15 l15 hj1 hj2 hD5 => ?_
   walk_at "v"
   intro e8
   refine brE_dec (fun h1 => ?_) (fun h1 => ?_)
   ·walk_at "t"
    intro e9
    refine slice_upto (b := 4) (htv0.up l15) rfl (by exact Nat.le_of_lt (Nat.lt_of_lt_of_le htl (Nat.le_of_ble_eq_true rfl))) fun y16 u l16 hu => ?_
    induction hu using vzL_use with | _ ua uvs huz hua hu => ?_
    refine oEEAA (vzL.mp (hpv.up (l15.trans l16))) fun P0' pvs' e hPz hPa => ?_
    cases e
    have g1 := hua.len
    have g2 := hPa.len
    rw [List.length_take] at g1
    walk_at "v"
    refine cat_W (.inl hPz) (.inl huz) (by exact Nat.le_trans (Nat.add_le_add (Nat.le_of_lt (Nat.lt_of_le_of_lt (Nat.le_of_eq g2) hpl)) (Nat.le_trans (Nat.le_of_eq g1) (Nat.min_le_left _ _))) (Nat.le_of_ble_eq_true rfl)) (.inr fun D hD => ?_)
    walk_at "v"
    walk_at "n"
    refine fun l => fun u_ k9 => k9 (.ref D) (pat ++ tx.take 4) cs5 mx5 t5 (vzL_mk (a := D) fset_self ((hPa.vmono (Le.fset hD)).append (hua.vmono (Le.fset hD)))) (by rw [List.length_append, List.length_take]; omega) (fun c hc => ?_) hD5
    rcases List.mem_append.mp hc with hc | hc
    ·exact hpsg c hc
    ·exact htsg c (List.mem_of_mem_take hc)
   ·walk_at "n"
    exact fun l => fun u_ k9 => k9 (.ref X0) tx cs5 mx5 t5 (htv0.up l15) (by exact Nat.le_of_lt (Nat.lt_of_lt_of_le htl (Nat.le_of_ble_eq_true rfl))) htsg hD5
  intro m' y16 n16 l16 hP
  apply hP
  intro tv xs csD mxD tD htv hxl6 hxsg hDD
  replace hcell := l16 _ _ hcell
  replace hrows := hrows.mono l16
  replace hwv := hwv.up l16
  replace hSe := hSe.mono l16
  have hXT : TextOk rows xs := hKO.text hxsg (by exact Nat.le_trans hxl6 (Nat.le_of_ble_eq_true rfl))
  clear l16 htv0 hDC hDB
  induction htv using vzL_use with | _ ta tvs htz hta htv => ?_
  have htvl := hta.len
  walk_at "t"
  refine ⟨true, by subst eenv; rfl, ?_⟩
  walk_at "v"
  refine callE_k (by k_is) ((s_law_pieces w (k := k) (hR.down rfl) hXT.1 hs3 hShort (fun c hc => (hXT.2 c hc).2) hrows htv).apart fun pv y17 l17 hpv2 => ?_)
  walk_at "v"
  refine callE_t (list_W (.inl (.inl (l17 _ _ htz))) (by exact Nat.le_trans (Nat.le_trans (Nat.le_of_eq htvl) hxl6) (Nat.le_of_ble_eq_true rfl)) (.inr fun W0 hW0 => ?_))
  walk_at "v"
  intro T9 hT9
  walk_at "v"
  have l18 : Le y16 (fset (fset y17 W0 (.lst tvs)) T9 (.tup [pv, .ref W0])) := l17.trans ((Le.fset hW0).trans (Le.fset hT9))
  have hwas : Vz (fset (fset y17 W0 (.lst tvs)) T9 (.tup [pv, .ref W0])) (eL eI xs) (.ref W0) := vzL_mk (a := W0) (vs := tvs) (Le.fset hT9 _ _ fset_self) (hta.vmono l18)
  replace hpv2 := hpv2.up (show Le y17 (fset (fset y17 W0 (.lst tvs)) T9 (.tup [pv, .ref W0])) from (Le.fset hW0).trans (Le.fset hT9))
  replace hcell := l18 _ _ hcell
  replace hrows := hrows.mono l18
  replace hwv := hwv.up l18
  replace hSe := hSe.mono l18
  replace htv := htv.up l18
  clear l17 l18 htz hta
  generalize fset (fset y17 W0 (.lst tvs)) T9 (.tup [pv, .ref W0]) = y18 at *
  have hpcl := pieces_len hShort s xs
  have hpcw := pieces_wide hShort s xs
  walk_at "t"
  refine ⟨true, by subst eenv; rfl, ?_⟩
  walk_at "v"
  refine callE_k (by k_is) ((s_law_found w (k := k) (wide := false) (hR.down rfl) (by exact Nat.le_trans (Nat.le_trans hpcl hxl6) (Nat.le_of_ble_eq_true rfl)) (hwl ▸ hpcw) (by exact Nat.le_trans (Nat.le_trans (Nat.le_of_eq hwl) hs3) (Nat.le_of_ble_eq_true rfl)) hpv2 hwv).apart fun fv y19 l19 hfv => ?_)
  walk_at "v"
  refine callE_k (by k_is) ((s_law_found w (k := k) (wide := true) (hR.down rfl) (by exact Nat.le_trans (Nat.le_trans hpcl hxl6) (Nat.le_of_ble_eq_true rfl)) (hwl ▸ hpcw) (by exact Nat.le_trans (Nat.le_trans (Nat.le_of_eq hwl) hs3) (Nat.le_of_ble_eq_true rfl)) (hpv2.up l19) (hwv.up l19)).apart fun wdv y20 l20 hwdv => ?_)
  walk_at "v"
  intro T10 hT10
  walk_at "v"
  rw [← found_law hShort hwl] at hfv hwdv
  have lT := Le.fset (lo := .tup [fv, wdv]) hT10
  have l21 := l19.trans (l20.trans lT)
  replace hfv := hfv.up (l20.trans lT)
  replace hwdv := hwdv.up lT
  replace hcell := l21 _ _ hcell
  replace hrows := hrows.mono l21
  replace hwv := hwv.up l21
  replace hSe := hSe.mono l21
  replace htv := htv.up l21
  replace hwas := hwas.up l21
  clear l19 l20 l21 lT hpv2
  generalize fset y20 T10 (.tup [fv, wdv]) = y21 at *
  induction hfv using vzL_use with | _ fa fvs _ _ hfv => ?_
  induction hwdv using vzL_use with | _ wda wdvs _ _ hwdv => ?_
  have hffl := foundF_len (wide := false) hRdy hXT
  have hfwl := foundF_len (wide := true) hRdy hXT
  walk_at "t"
  refine comp_V hC [] none [("tuple", .type "tuple")] ["one"] (by subst eenv; rfl) (fun u_ => rfl) (fun u_ => rfl) (by decide +kernel) (by decide +kernel) ⟨⟨rfl, gl_tuple w⟩, trivial⟩ ?_
  walk_at "v"
  refine searcher_meth hSe (by decide +kernel) (by k_is) (by k_is) ?_
  walk_at "v"
  refine callE_k (by k_is) ((all_in w (k := k) (wide := false) (hR.down rfl) (.inr ⟨rfl, rfl⟩) hRdy hXT hSe htv).apart fun av z22 l22 hav => ?_)
  refine comp_data [] _ (eP eI eI) (foundF rows s wd xs false) (fun u_ => true) (fun p => p) (eP eI eI) nilPerm (iterV_list hR.handled hav) (by exact Nat.le_trans hffl (Nat.le_of_ble_eq_true rfl)) ?_ ?_
  ·intro C' hC' o v zj m ov hm l8 hv hk
   obtain ⟨v0, rfl⟩ := keys1 hk
   induction hv using vzP_use with | _ T u1 u2 hT hu1 hu2 hv => ?_
   walk_at "v"
   refine callE_t (tupleT_W (.inl hT) ?_)
   exact fun l9 => ⟨rfl, ⟨none, rfl⟩, rfl, hv.up l9⟩
  intro vs z23 l23 hvl hall
  rw [filter_tt, List.map_id'] at hall
  refine .inr fun D hD => ?_
  walk_at "v"
  have l24 := l22.trans (l23.trans (Le.fset (lo := .lst vs) hD))
  refine ne_W (x := foundF rows s wd xs false) (y := foundF rows s wd xs false) (hR.less (Nat.zero_le _)) (Enc.pair Enc.int Enc.int).list (by decide) (.inl (vzL_mk (a := D) (vs := vs) fset_self (hall.vmono (Le.fset hD)))) (.inl (hfv.up l24)) ?_
  rw [decide_eq_true rfl]
  walk_at "v"
  walk_at "n"
  replace hfv := hfv.up l24
  replace hwdv := hwdv.up l24
  replace hcell := l24 _ _ hcell
  replace hrows := hrows.mono l24
  replace hwv := hwv.up l24
  replace hSe := hSe.mono l24
  replace htv := htv.up l24
  replace hwas := hwas.up l24
  clear l22 l23 l24 hall
  generalize fset z23 D (.lst vs) = x1 at *
  walk_at "t"
  refine comp_V hC [] none [("tuple", .type "tuple")] ["one"] (by subst eenv; rfl) (fun u_ => rfl) (fun u_ => rfl) (by decide +kernel) (by decide +kernel) ⟨⟨rfl, gl_tuple w⟩, trivial⟩ ?_
  walk_at "v"
  refine searcher_meth hSe (by decide +kernel) (by k_is) (by k_is) ?_
  walk_at "v"
  refine callE_k (by k_is) ((all_in w (k := k) (wide := true) (hR.down rfl) (.inl rfl) hRdy hXT hSe htv).apart fun av z22 l22 hav => ?_)
  refine comp_data [] _ (eP eI eI) (foundF rows s wd xs true) (fun u_ => true) (fun p => p) (eP eI eI) nilPerm (iterV_list hR.handled hav) (by exact Nat.le_trans hfwl (Nat.le_of_ble_eq_true rfl)) ?_ ?_
  ·intro C' hC' o v zj m ov hm l8 hv hk
   obtain ⟨v0, rfl⟩ := keys1 hk
   induction hv using vzP_use with | _ T u1 u2 hT hu1 hu2 hv => ?_
   walk_at "v"
   refine callE_t (tupleT_W (.inl hT) ?_)
   exact fun l9 => ⟨rfl, ⟨none, rfl⟩, rfl, hv.up l9⟩
  intro vs z23 l23 hvl hall
  rw [filter_tt, List.map_id'] at hall
  refine .inr fun D hD => ?_
  walk_at "v"
  have l24 := l22.trans (l23.trans (Le.fset (lo := .lst vs) hD))
  refine ne_W (x := foundF rows s wd xs true) (y := foundF rows s wd xs true) (hR.less (Nat.zero_le _)) (Enc.pair Enc.int Enc.int).list (by decide) (.inl (vzL_mk (a := D) (vs := vs) fset_self (hall.vmono (Le.fset hD)))) (.inl (hwdv.up l24)) ?_
  rw [decide_eq_true rfl]
  walk_at "v"
  walk_at "n"
  replace hfv := hfv.up l24
  replace hwdv := hwdv.up l24
  replace hcell := l24 _ _ hcell
  replace hrows := hrows.mono l24
  replace hwv := hwv.up l24
  replace hSe := hSe.mono l24
  replace htv := htv.up l24
  replace hwas := hwas.up l24
  clear l22 l23 l24 hall
  generalize fset z23 D (.lst vs) = x2 at *
  walk_at "t"
  refine ⟨_, .inl hcell, ?_⟩
  walk_at "v"
  refine len_V htv (by exact Nat.le_trans hxl6 (Nat.le_of_ble_eq_true rfl)) fun g1 => ?_
  walk_at "v"
  intro g2 g3
  refine draw_E w (k := k) (hR.down rfl) [] hDD (by exact Int.ofNat_lt.mpr (Nat.zero_lt_succ _)) (by (first | lia | omega)) fun i5 q6 cs5 mx5 t5 x3 l25 hj1 hj2 hD5 => ?_
  walk_at "v"
  refine callE_k (by k_is) ((s_places_right w (k := k) hR hRdy hXT (hSe.mono l25) (htv.up l25) (hfv.up l25)).apart fun bv x4 l26 hbv => ?_)
  subst hbv
  walk_at "v"
  walk_at "n"
  have l27 := l25.trans l26
  replace hfv := hfv.up l27
  replace hwdv := hwdv.up l27
  replace hcell := l27 _ _ hcell
  replace hrows := hrows.mono l27
  replace hwv := hwv.up l27
  replace hSe := hSe.mono l27
  replace htv := htv.up l27
  replace hwas := hwas.up l27
  clear l25 l26 l27
  walk_at "t"
  refine searcher_meth hSe (by decide +kernel) (by k_is) (by k_is) ?_
  walk_at "v"
  refine callE_k (by k_is) ((s_is_begun w (k := k) (hR.down rfl) hRdy hXT hSe htv).apart fun b1 x5 l28 hb1 => ?_)
  subst hb1
  walk_at "v"
  refine searcher_meth (hSe.mono l28) (by decide +kernel) (by k_is) (by k_is) ?_
  walk_at "v"
  refine callE_k (by k_is) ((s_is_all w (k := k) (hR.down rfl) hRdy hXT (hSe.mono l28) (htv.up l28)).apart fun b2 x6 l29 hb2 => ?_)
  subst hb2
  walk_at "v"
  refine .inr fun D hD => ?_
  walk_at "v"
  have l30 := l28.trans (l29.trans (Le.fset (lo := .lst [.bool (begunF (foundF rows s wd xs true)), .bool (decide (((0 : Int), (xs.length : Int)) ∈ foundF rows s wd xs true))]) hD))
  have htold : Vz (fset x6 D (.lst [.bool (begunF (foundF rows s wd xs true)), .bool (decide (((0 : Int), (xs.length : Int)) ∈ foundF rows s wd xs true))])) (eL eB [begunF (foundF rows s wd xs true), decide (((0 : Int), (xs.length : Int)) ∈ foundF rows s wd xs true)]) (.ref D) := vzL_mk (a := D) fset_self ⟨vzB.mpr rfl, vzB.mpr rfl, trivial⟩
  replace hfv := hfv.up l30
  replace hwdv := hwdv.up l30
  replace hcell := l30 _ _ hcell
  replace hrows := hrows.mono l30
  replace hwv := hwv.up l30
  replace hSe := hSe.mono l30
  replace htv := htv.up l30
  replace hwas := hwas.up l30
  clear l28 l29 l30
  generalize fset x6 D (.lst [.bool (begunF (foundF rows s wd xs true)), .bool (decide (((0 : Int), (xs.length : Int)) ∈ foundF rows s wd xs true))]) = x7 at *
  have hsh : ∀ b1 b2 : Bool, ∃ S : Str, (eL eB [b1, b2]).shown = S ∧ S.length ≤ 1000 ∧ PyData.strOk S = true := fun b1 b2 => by
   cases b1 <;> cases b2 <;> exact ⟨_, rfl, by decide +kernel, by decide +kernel⟩
  have hsh2 : ∀ b1 b2 : Bool, (eL eB [b1, b2]).showable = true ∧ (eL eB [b1, b2]).hasDict = false ∧ (eL eB [b1, b2]).depth < 100 := fun b1 b2 => by
   cases b1 <;> cases b2 <;> exact ⟨by decide +kernel, by decide +kernel, by decide +kernel⟩
  let P2 : M → Fz → Led → Prop := fun m' z' n' => n' = deckL d C cs5 mx5 t5 ∧ m' = ([("script", some (.ref sa)), ("rows", some (.ref R)), ("table", some (.ref x)), ("data", some (dv)), ("signs", sg), ("strength", some (.int (s : Nat) a3)), ("pattern", some (.ref P0)), ("handed", some (.ref H)), ("searcher", some (sv2)), ("wish", some (wv)), ("turn", some (.int y e6)), ("text", some (.ref ta)), ("pieces", some (pv)), ("was", some (.ref W0)), ("found", some (.ref fa)), ("wide", some (.ref wda)), ("told", some (.ref D))] : M)
  have unP2 : ∀ {z' : Fz} {GG9 : M → Led → Prop}, (GG9 (([("script", some (.ref sa)), ("rows", some (.ref R)), ("table", some (.ref x)), ("data", some (dv)), ("signs", sg), ("strength", some (.int (s : Nat) a3)), ("pattern", some (.ref P0)), ("handed", some (.ref H)), ("searcher", some (sv2)), ("wish", some (wv)), ("turn", some (.int y e6)), ("text", some (.ref ta)), ("pieces", some (pv)), ("was", some (.ref W0)), ("found", some (.ref fa)), ("wide", some (.ref wda)), ("told", some (.ref D))] : M)) (deckL d C cs5 mx5 t5)) → ∀ (m' : M) (n' : Led), P2 m' z' n' → GG9 m' n' := by
   intro z' GG9 k9 m' n' h9
   obtain ⟨en, em⟩ := h9
   subst em en
   exact k9
  have mkP2 : ∀ {z' : Fz}, P2 (([("script", some (.ref sa)), ("rows", some (.ref R)), ("table", some (.ref x)), ("data", some (dv)), ("signs", sg), ("strength", some (.int (s : Nat) a3)), ("pattern", some (.ref P0)), ("handed", some (.ref H)), ("searcher", some (sv2)), ("wish", some (wv)), ("turn", some (.int y e6)), ("text", some (.ref ta)), ("pieces", some (pv)), ("was", some (.ref W0)), ("found", some (.ref fa)), ("wide", some (.ref wda)), ("told", some (.ref D))] : M)) z' (deckL d C cs5 mx5 t5) := by
   intro z'
   exact ⟨rfl, rfl⟩
  walk_at "e"
  refine exs_mid hC P2 ?_ ?_
  ·generalize foundF rows s wd xs true = fw at *
   walk_at "v"
   refine oEAA (hsh (begunF fw) (decide (((0 : Int), (xs.length : Int)) ∈ fw))) fun S hS1 hS2 hS3 => ?_
   refine oAA (hsh2 (begunF fw) (decide (((0 : Int), (xs.length : Int)) ∈ fw))) fun k1 k2 k3 => ?_
   refine callE_b (repr_W (hR.less (Nat.zero_le _)) htold k1 k2 k3 hS1 hS2 fun g4 => ?_)
   walk_at "v"
   refine .inr fun D3 hD3 => ?_
   walk_at "v"
   have fin : ∀ {z8 : Fz}, Le x7 z8 → True := fun u_ => trivial
   refine ne_W (x := fw) (y := []) (hR.less (Nat.zero_le _)) (Enc.pair Enc.int Enc.int).list (by decide) (.inl (hwdv.up (Le.fset hD3))) (.inl (vzL_mk (a := D3) (vs := []) fset_self trivial)) ?_
   walk_at "v"
   refine brE_not (brE_dec (fun h1 => ?_) (fun h1 => ?_))
   ·subst h1
    intro n1
    refine len_V (htv.up (Le.fset hD3)) (by exact Nat.le_trans hxl6 (Nat.le_of_ble_eq_true rfl)) fun n2 => ?_
    walk_at "v"
    intro T6 hT6
    refine in_W (y := ((0 : Int), (xs.length : Int))) (xs := []) (hR.less (Nat.zero_le _)) (Enc.pair Enc.int Enc.int) (by decide) (.inl (hwdv.up ((Le.fset hD3).trans (Le.fset hT6)))) (.inl (vzP_mk (a := T6) fset_self vzI_mk vzI_mk)) ?_
    walk_at "v"
    refine .inr fun D7 hD7 => ?_
    walk_at "v"
    refine callE_b (repr_W (d := eL eB [begunF ([]), decide (((0 : Int), (xs.length : Int)) ∈ ([] : List (Int × Int)))]) (hR.less (Nat.zero_le _)) (vzL_mk (a := D7) (vs := [_, _]) fset_self ⟨vzB.mpr rfl, vzB.mpr (congrArg Value.bool (decide_eq_decide.mpr Iff.rfl)), trivial⟩) k1 k2 k3 hS1 hS2 fun g5 => ?_)
    walk_at "v"
    refine neStr_W (hR.less (Nat.zero_le _)) hS3 hS3 ?_
    rw [beq_self_eq_true]
    walk_at "v"
    walk_at "n"
    exact fun l => mkP2 (z' := fun u_ => none)
   ·obtain ⟨⟨p, q⟩, r, rfl⟩ : ∃ p r, fw = p :: r := by
     cases fw with
     | nil => exact absurd rfl h1
     | cons p r => exact ⟨p, r, rfl⟩
    intro n5
    refine item_V (i := 0) (y := (p, q)) (hwdv.up (Le.fset hD3)) rfl rfl (by exact Nat.le_trans hfwl (Nat.le_of_ble_eq_true rfl)) fun u hu => ?_
    induction hu using vzP_use with | _ T u1 u2 hT hu1 hu2 hu => ?_
    induction hu1 using vzI_use with | _ n6 hu1 => ?_
    walk_at "v"
    intro n7
    refine item_tat (i := 0) (.inl hT) rfl rfl (by simp) ?_
    walk_at "v"
    intro n8
    intro n1
    refine len_V (htv.up (Le.fset hD3)) (by exact Nat.le_trans hxl6 (Nat.le_of_ble_eq_true rfl)) fun n2 => ?_
    walk_at "v"
    intro T6 hT6
    refine in_W (y := ((0 : Int), (xs.length : Int))) (xs := (p, q) :: r) (hR.less (Nat.zero_le _)) (Enc.pair Enc.int Enc.int) (by decide) (.inl (hwdv.up ((Le.fset hD3).trans (Le.fset hT6)))) (.inl (vzP_mk (a := T6) fset_self vzI_mk vzI_mk)) ?_
    walk_at "v"
    refine .inr fun D7 hD7 => ?_
    walk_at "v"
    refine callE_b (repr_W (d := eL eB [begunF ((p, q) :: r), decide (((0 : Int), (xs.length : Int)) ∈ ((p, q) :: r : List (Int × Int)))]) (hR.less (Nat.zero_le _)) (vzL_mk (a := D7) (vs := [_, _]) fset_self ⟨vzB.mpr rfl, vzB.mpr (congrArg Value.bool (decide_eq_decide.mpr Iff.rfl)), trivial⟩) k1 k2 k3 hS1 hS2 fun g5 => ?_)
    walk_at "v"
    refine neStr_W (hR.less (Nat.zero_le _)) hS3 hS3 ?_
    rw [beq_self_eq_true]
    walk_at "v"
    walk_at "n"
    exact fun l => mkP2 (z' := fun u_ => none)
  intro m' x8 n8 l31 hP
  revert m' n8 hP
  refine unP2 (z' := fun u_ => none) ?_
  replace hfv := hfv.up l31
  replace hcell := l31 _ _ hcell
  replace hSe := hSe.mono l31
  replace htv := htv.up l31
  replace hwas := hwas.up l31
  clear l31 htold
  walk_at "t"
  intro n1 n2
  refine .inr fun D8 hD8 => ?_
  have l32 := Le.fset (lo := .lst [.int 90 n1, .int 91 n2]) hD8
  have hov : Vz (fset x8 D8 (.lst [.int 90 n1, .int 91 n2])) (eL eI [90, 91]) (.ref D8) := vzL_mk (a := D8) fset_self ⟨vzI_mk, vzI_mk, trivial⟩
  walk_at "v"
  refine ⟨_, .inl (l32 _ _ hcell), ?_⟩
  walk_at "v"
  intro n3
  refine draw_E w (k := k) (hR.down rfl) [] hD5 (by decide) (by decide) fun i6 q7 cs6 mx6 t6 x9 l33 hj3 hj4 hD6 => ?_
  walk_at "v"
  obtain ⟨i7, rfl⟩ := Int.eq_ofNat_of_zero_le hj3
  refine slice_upto (b := i7) (hov.up l33) rfl (by simp) fun x10 ov l34 hov2 => ?_
  have l35 := l32.trans (l33.trans l34)
  walk_at "v"
  refine callE_k (by k_is) ((s_cut_right w (k := k) hR hRdy hXT (by rw [List.length_take]; simp; omega) (hSe.mono l35) (htv.up l35) hov2 (hfv.up l35)).apart fun bv x11 l36 hbv => ?_)
  subst hbv
  walk_at "v"
  refine ne_W (x := xs) (y := xs) (hR.less (Nat.zero_le _)) Enc.int.list (by decide) (.inl (htv.up (l35.trans l36))) (.inl (hwas.up (l35.trans l36))) ?_
  rw [decide_eq_true rfl]
  walk_at "v"
  walk_at "n"
  walk_at "n"
  exact hQB _ _ _ _ fun l => fun u_ k9 => k9 _ _ _ _ _ _ _ cs6 mx6 t6 hD6
 intro m' x12 n12 l37 hJ
 apply hJ
 intro o1 o2 o3 o4 o5 o6 o7 csB mxB tB hDB
 have l38 := (Le.fset hr).trans l37
 walk_at "v"
 walk_at "t"
 refine eq_W (x := pat) (y := pat) (hR.less (Nat.zero_le _)) Enc.int.list (by decide) (.inl (hhv.up l38)) (.inl (hpv.up l38)) ?_
 walk_at "e"
 exact hQF _ _ _ _ fun u_ => ⟨_, List.Sublist.refl _, by rw [decide_eq_true rfl] <;> rfl⟩
namespace t0
theorem tw3481150197010685897:True:=trivial
theorem tw13110376422925616296:True:=trivial
theorem tw2413544765949588704:True:=trivial
theorem tw5136644701055220741:True:=trivial
theorem tw15379693906920842233:True:=trivial
theorem tw11750715652350081108:True:=trivial
theorem tw1024015090073860959:True:=trivial
theorem tw17734217953843441704:True:=trivial
theorem tw5942423271965910677:True:=trivial
theorem tw538335569553426600:True:=trivial
theorem tw4155514766414855694:True:=trivial
theorem tw17362971249743257532:True:=trivial
theorem tw15828312481993006945:True:=trivial
theorem tw5123649943201353179:True:=trivial
theorem tw15588779971096717765:True:=trivial
theorem tw16316683649336449520:True:=trivial
theorem tw7860423479359410820:True:=trivial
theorem tw14819262408916091582:True:=trivial
theorem tw10056081031292827495:True:=trivial
theorem tw5705135074183150354:True:=trivial
theorem tw10350854901539457833:True:=trivial
theorem tw4198069885554348900:True:=trivial
theorem tw16463308480727136324:True:=trivial
theorem tw14006410854705428806:True:=trivial
theorem tw9955799701374188752:True:=trivial
theorem tw3847927691511479059:True:=trivial
theorem tw13835768646091993378:True:=trivial
theorem tw14567908534548055076:True:=trivial
theorem tw4190606327252463971:True:=trivial
theorem tw2631190522621734544:True:=trivial
theorem tw14651842876297384145:True:=trivial
theorem tw5748174852887193603:True:=trivial
theorem tw12001927986375791339:True:=trivial
theorem tw4731053265671510846:True:=trivial
theorem tw11776361176476035525:True:=trivial
theorem tw4947566137948248285:True:=trivial
theorem tw12956977397980605922:True:=trivial
theorem tw3731965184325020611:True:=trivial
theorem tw4079105324993432840:True:=trivial
theorem tw10307866270842296162:True:=trivial
theorem tw1346809257768439777:True:=trivial
theorem tw9266509837953891627:True:=trivial
theorem tw15868848475060770803:True:=trivial
theorem tw6700593458647730779:True:=trivial
theorem tw7365043396957227498:True:=trivial
theorem tw4117349842091649322:True:=trivial
theorem tw13917002953644464031:True:=trivial
theorem tw2728348568276785650:True:=trivial
theorem tw5352919237843714195:True:=trivial
theorem tw3774018441203377954:True:=trivial
theorem tw14278501687670386431:True:=trivial
theorem tw8819454611365256508:True:=trivial
theorem tw13546184047264802581:True:=trivial
theorem tw13491215577704470482:True:=trivial
theorem tw4524071282458790104:True:=trivial
theorem tw17724056463492545222:True:=trivial
theorem tw12310170204710734283:True:=trivial
theorem tw17132152126927457130:True:=trivial
theorem tw8338514102165706513:True:=trivial
theorem tw18295561980837947083:True:=trivial
theorem tw18107443570703686315:True:=trivial
theorem tw17389876068890674734:True:=trivial
theorem tw29426603514955948:True:=trivial
theorem tw15859915240133406377:True:=trivial
theorem tw16718771129961083805:True:=trivial
theorem tw5619039047363138215:True:=trivial
theorem tw15002073606933451451:True:=trivial
theorem tw5381196896767323005:True:=trivial
theorem tw15537886328709674470:True:=trivial
theorem tw13900539918408316935:True:=trivial
theorem tw12523456964328298555:True:=trivial
theorem tw12423651622999899322:True:=trivial
theorem tw5240556493788013544:True:=trivial
theorem tw2963177060744060105:True:=trivial
theorem tw16093902238493539550:True:=trivial
theorem tw3902129763493918025:True:=trivial
theorem tw2280153347946870850:True:=trivial
theorem tw1372212523338334512:True:=trivial
theorem tw10472420122283081890:True:=trivial
theorem tw17206061370892848076:True:=trivial
theorem tw55736243155954813:True:=trivial
theorem tw1632751359250122161:True:=trivial
theorem tw16836090211421319927:True:=trivial
theorem tw3616037327755765341:True:=trivial
theorem tw693064183734358923:True:=trivial
theorem tw8531646678917137554:True:=trivial
theorem tw7054604401914959814:True:=trivial
theorem tw10236624269809229395:True:=trivial
theorem tw4839712674022499857:True:=trivial
theorem tw18056027766167123812:True:=trivial
theorem tw11995519307071024686:True:=trivial
theorem tw4948286958036024975:True:=trivial
theorem tw8229362614718106707:True:=trivial
theorem tw343365565548594903:True:=trivial
theorem tw9604577284468785515:True:=trivial
theorem tw4919231777912412558:True:=trivial
theorem tw10830339907107475106:True:=trivial
theorem tw15075167867585619736:True:=trivial
theorem tw175991047708519545:True:=trivial
theorem tw6321690378315022396:True:=trivial
theorem tw10623105410402167894:True:=trivial
theorem tw2320076464678843138:True:=trivial
theorem tw17175092595945847480:True:=trivial
theorem tw7472612252640148725:True:=trivial
theorem tw10702124675799039567:True:=trivial
theorem tw15674258325993322774:True:=trivial
theorem tw636678677310345009:True:=trivial
theorem tw9346835063183931330:True:=trivial
theorem tw5518111491295907008:True:=trivial
theorem tw6155666596931115172:True:=trivial
theorem tw13108323832797429781:True:=trivial
theorem tw2426492071929450522:True:=trivial
theorem tw1763929918753667528:True:=trivial
theorem tw11198088837003004157:True:=trivial
theorem tw8553972003683288917:True:=trivial
theorem tw14137945459575894383:True:=trivial
theorem tw5052477331343278368:True:=trivial
theorem tw9842814114528352709:True:=trivial
theorem tw12089625849730913481:True:=trivial
theorem tw4519109055415514558:True:=trivial
theorem tw17045063120388001400:True:=trivial
theorem tw5257129771634814540:True:=trivial
theorem tw8705441943496546812:True:=trivial
theorem tw16561953825075250860:True:=trivial
theorem tw8947686909694721440:True:=trivial
theorem tw16718989897844982171:True:=trivial
theorem tw5778854210374526989:True:=trivial
theorem tw3827407151510276277:True:=trivial
theorem tw10837411993561531618:True:=trivial
theorem tw7467637775906803565:True:=trivial
theorem tw2293133415905937308:True:=trivial
theorem tw13612948828499226674:True:=trivial
theorem tw9095139725199982362:True:=trivial
theorem tw17760399583651318007:True:=trivial
theorem tw4848905429721551935:True:=trivial
theorem tw13254810857121451933:True:=trivial
theorem tw15622075720701781668:True:=trivial
theorem tw6950906278469785260:True:=trivial
theorem tw15824520675712611701:True:=trivial
theorem tw4856171005477230728:True:=trivial
theorem tw14353383180826769194:True:=trivial
theorem tw6818165263755100608:True:=trivial
theorem tw16245723961200093371:True:=trivial
theorem tw4420407352159953108:True:=trivial
theorem tw12961318271704338447:True:=trivial
theorem tw3903563586402281913:True:=trivial
theorem tw18323713283029675811:True:=trivial
theorem tw8090833561325124757:True:=trivial
theorem tw1791313743542842401:True:=trivial
theorem tw11187122502894878756:True:=trivial
theorem tw13527186119646749347:True:=trivial
theorem tw8817037442964349043:True:=trivial
theorem tw12503254805092408424:True:=trivial
theorem tw14365167993456665741:True:=trivial
theorem tw17464818286913919308:True:=trivial
theorem tw14144512924106471498:True:=trivial
theorem tw9739721280943829308:True:=trivial
theorem tw16287661441603085720:True:=trivial
theorem tw5047218453341504523:True:=trivial
theorem tw14426532974858692279:True:=trivial
theorem tw17204974579382727960:True:=trivial
theorem tw13026831824678956946:True:=trivial
theorem tw17514195105495255418:True:=trivial
theorem tw7159736615451598738:True:=trivial
theorem tw3986434502733037691:True:=trivial
theorem tw2441181183617750905:True:=trivial
theorem tw13988404832256244670:True:=trivial
theorem tw4653989571077516269:True:=trivial
theorem tw14283286210379728010:True:=trivial
theorem tw14676495112660574840:True:=trivial
theorem tw4956367420829971714:True:=trivial
theorem tw8369287271142080897:True:=trivial
theorem tw1934136308203850054:True:=trivial
theorem tw14017775107651681245:True:=trivial
theorem tw2752092924492496278:True:=trivial
theorem tw532788173415119266:True:=trivial
theorem tw13200571895240943199:True:=trivial
theorem tw12408572512133013303:True:=trivial
theorem tw4417124136047891751:True:=trivial
theorem tw6379605367156265434:True:=trivial
theorem tw17559221159814610612:True:=trivial
theorem tw4958366491103718247:True:=trivial
theorem tw3506262223202135249:True:=trivial
theorem tw8733966262079547277:True:=trivial
theorem tw7538725331792673396:True:=trivial
theorem tw1832058787187495395:True:=trivial
theorem tw9665790020804637279:True:=trivial
theorem tw11076791974336066809:True:=trivial
theorem tw401102822972424237:True:=trivial
theorem tw2451579292166621696:True:=trivial
theorem tw3240407711755055003:True:=trivial
theorem tw3252232125335709012:True:=trivial
theorem tw13007126114431168881:True:=trivial
theorem tw10258897473918138600:True:=trivial
theorem tw16249295803000975737:True:=trivial
theorem tw6156153187407590262:True:=trivial
theorem tw10239682480779553180:True:=trivial
theorem tw8347255411574065439:True:=trivial
theorem tw7624132498016596228:True:=trivial
theorem tw15798084405678930162:True:=trivial
theorem tw1883905837331560683:True:=trivial
theorem tw6651275771140003231:True:=trivial
theorem tw16110277531660446185:True:=trivial
theorem tw8336196388433492845:True:=trivial
theorem tw5692046808765034392:True:=trivial
theorem tw13852045971091505375:True:=trivial
theorem tw15470744117206349387:True:=trivial
theorem tw7318141332829352644:True:=trivial
theorem tw14255869185049838795:True:=trivial
theorem tw12411994215049219607:True:=trivial
theorem tw8176693853651136909:True:=trivial
theorem tw114158919878824038:True:=trivial
theorem tw8384210572711775209:True:=trivial
theorem tw15938260663930664753:True:=trivial
theorem tw16838065201960608514:True:=trivial
theorem tw4744105453311257858:True:=trivial
theorem tw3228045079091184599:True:=trivial
theorem tw7882201019882035274:True:=trivial
theorem tw15338848161078198382:True:=trivial
theorem tw11636396921561184070:True:=trivial
theorem tw728748890621220288:True:=trivial
theorem tw17069113545067039684:True:=trivial
theorem tw4067293623070842972:True:=trivial
theorem tw15012522235340857343:True:=trivial
theorem tw1224533802227691520:True:=trivial
theorem tw12849020135219945858:True:=trivial
theorem tw6463917159816318164:True:=trivial
theorem tw6838822350906967522:True:=trivial
theorem tw14919741204089783810:True:=trivial
theorem tw8799543345338621305:True:=trivial
theorem tw16532096047892220413:True:=trivial
theorem tw2034677088875797242:True:=trivial
theorem tw12652766461673361111:True:=trivial
theorem tw11192777678291269205:True:=trivial
theorem tw16715796919761005170:True:=trivial
theorem tw317495849189113628:True:=trivial
theorem tw1059845298990561143:True:=trivial
theorem tw4429610650985818380:True:=trivial
theorem tw14393643102275555368:True:=trivial
theorem tw4868565743081297038:True:=trivial
theorem tw3143240777007321032:True:=trivial
theorem tw8734874240446229457:True:=trivial
theorem tw13452025176498798389:True:=trivial
theorem tw2623127407287851532:True:=trivial
theorem tw10090841527169273956:True:=trivial
theorem tw8476082265199395691:True:=trivial
theorem tw11550151157705041106:True:=trivial
theorem tw10028443875931857446:True:=trivial
theorem tw6442727037627410822:True:=trivial
theorem tw5510645151742252210:True:=trivial
theorem tw14665143712448435934:True:=trivial
theorem tw9498337024966801997:True:=trivial
theorem tw7789913054846500936:True:=trivial
theorem tw11584418436506679092:True:=trivial
theorem tw15272138699253586120:True:=trivial
theorem tw13768428639064819284:True:=trivial
theorem tw14142305236917872698:True:=trivial
theorem tw13776638438620445487:True:=trivial
theorem tw2247938191593652401:True:=trivial
theorem tw7107489793397568558:True:=trivial
theorem tw11057881972199850372:True:=trivial
theorem tw7945034956119948705:True:=trivial
theorem tw4485942504701911547:True:=trivial
theorem tw5165902338148430152:True:=trivial
theorem tw1613368006272160693:True:=trivial
theorem tw11674239806552020364:True:=trivial
theorem tw16078067064836672738:True:=trivial
theorem tw17077587853397745718:True:=trivial
theorem tw3580807284741611534:True:=trivial
theorem tw350472105735123514:True:=trivial
theorem tw13181914993199012687:True:=trivial
theorem tw8946857532624457614:True:=trivial
theorem tw12962446839655435092:True:=trivial
theorem tw17910788067413856506:True:=trivial
theorem tw14497701094408935322:True:=trivial
theorem tw5010557414817908996:True:=trivial
theorem tw8081357773156156044:True:=trivial
theorem tw13916600081688757351:True:=trivial
theorem tw2969051024753910257:True:=trivial
theorem tw7131625518744755343:True:=trivial
theorem tw16774801137036573486:True:=trivial
theorem tw14482006497065731416:True:=trivial
theorem tw415131256113739254:True:=trivial
theorem tw2421191684073755433:True:=trivial
theorem tw4547432803126672556:True:=trivial
theorem tw5359723635522602441:True:=trivial
theorem tw17951380663226302711:True:=trivial
theorem tw3912899060692256773:True:=trivial
theorem tw13505955503124374607:True:=trivial
theorem tw1025272479205703823:True:=trivial
theorem tw3324447335454741743:True:=trivial
theorem tw8075417257556867355:True:=trivial
theorem tw268092522703414832:True:=trivial
theorem tw12510840847677607973:True:=trivial
theorem tw13619984055300788907:True:=trivial
theorem tw12426043614950548179:True:=trivial
theorem tw16270583353651805700:True:=trivial
theorem tw12641355421715155950:True:=trivial
theorem tw12079648250253731870:True:=trivial
theorem tw881119763390219684:True:=trivial
theorem tw15500123780698146476:True:=trivial
theorem tw3270699067768509208:True:=trivial
theorem tw726773657345787658:True:=trivial
theorem tw11513837572240518067:True:=trivial
theorem tw17323872692954124731:True:=trivial
theorem tw15245650843444625401:True:=trivial
theorem tw10087641117478000029:True:=trivial
theorem tw2422728802127372186:True:=trivial
theorem tw15487821524760506726:True:=trivial
theorem tw17101404295672706349:True:=trivial
theorem tw13856184584131584846:True:=trivial
theorem tw5408298414178378048:True:=trivial
theorem tw11131930636914188562:True:=trivial
theorem tw2968080931475572216:True:=trivial
theorem tw5568048532788802527:True:=trivial
theorem tw17127201851367437075:True:=trivial
theorem tw5885654334836561332:True:=trivial
theorem tw8527229467247604911:True:=trivial
theorem tw18145415910927471558:True:=trivial
theorem tw14557667948117060886:True:=trivial
theorem tw10520863659502533964:True:=trivial
theorem tw6074138905693810765:True:=trivial
theorem tw6078594165167638948:True:=trivial
theorem tw726847918648698926:True:=trivial
theorem tw13725929117011075080:True:=trivial
theorem tw17407227231563891351:True:=trivial
theorem tw1471050044390208488:True:=trivial
theorem tw2514761642387737617:True:=trivial
theorem tw3154127818441457456:True:=trivial
theorem tw4608270238517185877:True:=trivial
theorem tw16328622115248875752:True:=trivial
theorem tw4815002008075448853:True:=trivial
theorem tw11456445786299482440:True:=trivial
theorem tw15722689403135867692:True:=trivial
theorem tw9676159844207072197:True:=trivial
theorem tw10177635547807089354:True:=trivial
theorem tw13559848312926800027:True:=trivial
theorem tw8664872794023952709:True:=trivial
theorem tw2001764262292062232:True:=trivial
theorem tw12854279638502779538:True:=trivial
theorem tw15697770180440170682:True:=trivial
theorem tw16897861804442544583:True:=trivial
theorem tw5482147961486618006:True:=trivial
theorem tw11324987764143786256:True:=trivial
theorem tw6619878386821486801:True:=trivial
theorem tw7425994224883924381:True:=trivial
theorem tw16658016274145463815:True:=trivial
theorem tw11655301169287772781:True:=trivial
theorem tw9334843457339628050:True:=trivial
theorem tw8986299777491092220:True:=trivial
theorem tw5975235931352836639:True:=trivial
theorem tw4162703401733446527:True:=trivial
theorem tw4988023632049305299:True:=trivial
theorem tw9580339477161507433:True:=trivial
theorem tw5373930887787302347:True:=trivial
theorem tw10083999503468026191:True:=trivial
theorem tw9433304878334655804:True:=trivial
theorem tw9627898941615364985:True:=trivial
theorem tw4056858964449017120:True:=trivial
theorem tw4995125876872773169:True:=trivial
theorem tw11431262738210994510:True:=trivial
theorem tw5682212877363059524:True:=trivial
theorem tw3083555145014652803:True:=trivial
theorem tw11081336120294946693:True:=trivial
theorem tw13222100510943698102:True:=trivial
theorem tw3842145670949621253:True:=trivial
theorem tw15199133699326050991:True:=trivial
theorem tw16735765061186982126:True:=trivial
theorem tw9423624440737874632:True:=trivial
theorem tw5273185968680941930:True:=trivial
theorem tw1779912457264914253:True:=trivial
theorem tw2972011851964008430:True:=trivial
theorem tw17121983953537121971:True:=trivial
theorem tw16402837064993239449:True:=trivial
theorem tw10430246660885038778:True:=trivial
theorem tw15759054054493268263:True:=trivial
theorem tw2016754752494675333:True:=trivial
theorem tw2714460826045712452:True:=trivial
theorem tw8814007853677131061:True:=trivial
theorem tw17409086096934654947:True:=trivial
theorem tw7695309248724548747:True:=trivial
theorem tw4117937744252045134:True:=trivial
theorem tw8080029274453513671:True:=trivial
theorem tw9140361129584244022:True:=trivial
theorem tw8657959325686853727:True:=trivial
theorem tw15018865582717945463:True:=trivial
theorem tw5541000238185932798:True:=trivial
theorem tw6821922515738228153:True:=trivial
theorem tw9510619848252513836:True:=trivial
theorem tw576380330320218977:True:=trivial
theorem tw12621188866304493565:True:=trivial
theorem tw18299438446458846426:True:=trivial
theorem tw18375002192735637972:True:=trivial
theorem tw2900917368170482485:True:=trivial
theorem tw12851012487481409296:True:=trivial
theorem tw3479132406706756293:True:=trivial
theorem tw139401377580790688:True:=trivial
theorem tw3486321503491875145:True:=trivial
theorem tw2577055940338127846:True:=trivial
theorem tw15507832834688310345:True:=trivial
theorem tw10338253277369314460:True:=trivial
theorem tw13850414126723442854:True:=trivial
theorem tw7345700029634157611:True:=trivial
theorem tw8596821193166085560:True:=trivial
theorem tw2314236537317521802:True:=trivial
theorem tw11608335225269333778:True:=trivial
theorem tw9988096550144630176:True:=trivial
theorem tw15989855446431137956:True:=trivial
theorem tw3330778667738357153:True:=trivial
theorem tw3279581294769861415:True:=trivial
theorem tw1716520095917370518:True:=trivial
theorem tw8456309546957345670:True:=trivial
theorem tw11315906845257899251:True:=trivial
theorem tw16047575554187271905:True:=trivial
theorem tw14953789047775705376:True:=trivial
theorem tw5134402575906418164:True:=trivial
theorem tw15623738284038102173:True:=trivial
theorem tw13251578410276955106:True:=trivial
theorem tw16900999792796813490:True:=trivial
theorem tw7717703594863560599:True:=trivial
theorem tw11158717061009955104:True:=trivial
theorem tw14228821506528379258:True:=trivial
theorem tw7846476284739810840:True:=trivial
theorem tw12280888839528788361:True:=trivial
theorem tw8425446447164104829:True:=trivial
theorem tw9665651077270944340:True:=trivial
theorem tw2501779726998473956:True:=trivial
theorem tw3914355063128661309:True:=trivial
theorem tw721151106951946180:True:=trivial
theorem tw6058420711424981653:True:=trivial
theorem tw11322696239616455743:True:=trivial
theorem tw10322646601464330853:True:=trivial
theorem tw12249206993211729980:True:=trivial
theorem tw16121100585179200239:True:=trivial
theorem tw853429626827986932:True:=trivial
theorem tw7060746258571081789:True:=trivial
theorem tw6863541801312330529:True:=trivial
theorem tw11973067999002118612:True:=trivial
theorem tw14674277962752696816:True:=trivial
theorem tw16264023461874429674:True:=trivial
theorem tw13294704099041957165:True:=trivial
theorem tw6467739897783397829:True:=trivial
theorem tw12497980822965356005:True:=trivial
theorem tw5687241220217798422:True:=trivial
theorem tw9512667456691929282:True:=trivial
theorem tw17136766638777589771:True:=trivial
theorem tw5649122247210272882:True:=trivial
theorem tw4381584713867773651:True:=trivial
theorem tw14111477843259850207:True:=trivial
theorem tw17429063412754727004:True:=trivial
theorem tw7691329200129824627:True:=trivial
theorem tw5539879738448985954:True:=trivial
theorem tw968854335863276037:True:=trivial
theorem tw3808781802108663165:True:=trivial
theorem tw2215728679045215287:True:=trivial
theorem tw15002712711453966336:True:=trivial
theorem tw15292054924321233296:True:=trivial
theorem tw3123240291618545411:True:=trivial
theorem tw5342654283022357955:True:=trivial
theorem tw5767117228254694448:True:=trivial
theorem tw10399276731051508166:True:=trivial
theorem tw1312955918196776875:True:=trivial
theorem tw3624982304621521980:True:=trivial
theorem tw7764710149197187498:True:=trivial
theorem tw12900041094721674681:True:=trivial
theorem tw38445139610113867:True:=trivial
theorem tw1857154306808857180:True:=trivial
theorem tw17240199059734200834:True:=trivial
theorem tw4201487219954720251:True:=trivial
theorem tw2545799548485514793:True:=trivial
theorem tw8983733612782576776:True:=trivial
theorem tw3558534497010578850:True:=trivial
theorem tw9000004885657198823:True:=trivial
theorem tw9440486126726414272:True:=trivial
theorem tw4349151981221315978:True:=trivial
theorem tw7584393693223837363:True:=trivial
theorem tw13701941458610625197:True:=trivial
theorem tw10054642543877996174:True:=trivial
theorem tw17898919277506266032:True:=trivial
theorem tw46373625145844062:True:=trivial
theorem tw11093577672919108567:True:=trivial
theorem tw16442758140473087850:True:=trivial
theorem tw8899529928071014313:True:=trivial
theorem tw8805627431258137585:True:=trivial
theorem tw7957963089156922567:True:=trivial
theorem tw4046409000723455606:True:=trivial
theorem tw69057143744137685:True:=trivial
theorem tw9096637557537655745:True:=trivial
theorem tw9681643173113220960:True:=trivial
theorem tw4185100644901082756:True:=trivial
theorem tw1060274669809403686:True:=trivial
theorem tw7117197849576832615:True:=trivial
theorem tw4469883627785468313:True:=trivial
theorem tw1250756261010114054:True:=trivial
theorem tw5182214553004788059:True:=trivial
theorem tw3025328719577830424:True:=trivial
theorem tw16896276861646282473:True:=trivial
theorem tw7564463041232816860:True:=trivial
theorem tw10635854825840479065:True:=trivial
theorem tw16977225881930271908:True:=trivial
theorem tw14757020378890341863:True:=trivial
theorem tw6760024463687914787:True:=trivial
theorem tw10325820396638646335:True:=trivial
theorem tw1500747362767040065:True:=trivial
theorem tw12859643604211093261:True:=trivial
theorem tw4327838958509375788:True:=trivial
theorem tw11917916596582175399:True:=trivial
theorem tw579939860630662643:True:=trivial
theorem tw11158434276024087600:True:=trivial
theorem tw10056395450922244572:True:=trivial
theorem tw5810065765019614990:True:=trivial
theorem tw6686637051624348248:True:=trivial
theorem tw17298897690572267543:True:=trivial
theorem tw12874539300130479462:True:=trivial
theorem tw241227026836815432:True:=trivial
theorem tw14590945672924636760:True:=trivial
theorem tw11232118461143147711:True:=trivial
theorem tw1820975460984318225:True:=trivial
theorem tw6917932047940524203:True:=trivial
theorem tw89940559704471363:True:=trivial
theorem tw16479718502004853942:True:=trivial
theorem tw13786795962595064783:True:=trivial
theorem tw5833887983883556022:True:=trivial
theorem tw11176643945735488474:True:=trivial
theorem tw14089005566571716634:True:=trivial
theorem tw7604190257201771830:True:=trivial
theorem tw4944432952027423522:True:=trivial
theorem tw83575913694501598:True:=trivial
theorem tw8940334683834841473:True:=trivial
theorem tw17232756675822502637:True:=trivial
theorem tw12835459090508697885:True:=trivial
theorem tw15975759889768264213:True:=trivial
theorem tw2350349669835120304:True:=trivial
theorem tw16068563556923566585:True:=trivial
theorem tw3131227622897145251:True:=trivial
theorem tw14045413335761415515:True:=trivial
theorem tw8011112485385191168:True:=trivial
theorem tw3143790899617282807:True:=trivial
theorem tw5981920905950310744:True:=trivial
theorem tw5978380835090829454:True:=trivial
theorem tw5411937750258900785:True:=trivial
theorem tw2160726834495781426:True:=trivial
theorem tw8766767211008372876:True:=trivial
theorem tw9954077686684681493:True:=trivial
theorem tw1993575534544783049:True:=trivial
theorem tw14686788887415150719:True:=trivial
theorem tw3687882282173158559:True:=trivial
theorem tw3715778388756298008:True:=trivial
theorem tw3743657690014076326:True:=trivial
theorem tw14427578597881086301:True:=trivial
theorem tw18230021821740042197:True:=trivial
theorem tw5349300936924803558:True:=trivial
theorem tw9963894661068195880:True:=trivial
theorem tw14637061062905591814:True:=trivial
theorem tw1575194003888988447:True:=trivial
theorem tw3563383259347410969:True:=trivial
theorem tw2093813609568201781:True:=trivial
theorem tw14714448902707064830:True:=trivial
theorem tw17170000623054559925:True:=trivial
theorem tw11318854500328907331:True:=trivial
theorem tw2511711687406465288:True:=trivial
theorem tw14319342630325685876:True:=trivial
theorem tw3048582732896605088:True:=trivial
theorem tw8063066663716923264:True:=trivial
theorem tw4704361198194875428:True:=trivial
theorem tw14132006325485886069:True:=trivial
theorem tw292799430190447079:True:=trivial
theorem tw10027189053798926750:True:=trivial
theorem tw8224825537876531715:True:=trivial
theorem tw13294062554226494007:True:=trivial
theorem tw17876474779018964072:True:=trivial
theorem tw8719812038023006047:True:=trivial
theorem tw8272986797158118297:True:=trivial
theorem tw3764415441520662058:True:=trivial
theorem tw8736301142235534190:True:=trivial
theorem tw2439460043809022349:True:=trivial
theorem tw12529939285024756987:True:=trivial
theorem tw14838638573869291040:True:=trivial
theorem tw8783829373045163643:True:=trivial
theorem tw17208943094745419860:True:=trivial
theorem tw3945838093942927157:True:=trivial
theorem tw4051102461838474227:True:=trivial
theorem tw644660398338039607:True:=trivial
theorem tw18103961882255270796:True:=trivial
theorem tw4731192905806598107:True:=trivial
theorem tw4821200750164042373:True:=trivial
theorem tw8007836980359075181:True:=trivial
theorem tw7911977377384912014:True:=trivial
theorem tw8953141712303180343:True:=trivial
theorem tw16443888670445664840:True:=trivial
theorem tw4516054043254920979:True:=trivial
theorem tw2308788573166618566:True:=trivial
theorem tw4816608966437513787:True:=trivial
theorem tw7202287749905700959:True:=trivial
theorem tw11933977528088366207:True:=trivial
theorem tw5241236663600115045:True:=trivial
theorem tw3915080681095757369:True:=trivial
theorem tw10512621890229008352:True:=trivial
theorem tw14456814656092999439:True:=trivial
theorem tw2668027622620385853:True:=trivial
theorem tw8883217208156036298:True:=trivial
theorem tw17987774274668753852:True:=trivial
theorem tw11662400923005715757:True:=trivial
theorem tw6426213467722588515:True:=trivial
theorem tw10846133281766920611:True:=trivial
theorem tw12308429269775043514:True:=trivial
theorem tw2095265476535289441:True:=trivial
theorem tw16498562638573788622:True:=trivial
theorem tw5430263369495130714:True:=trivial
theorem tw15931642516549595171:True:=trivial
theorem tw4409271673544078365:True:=trivial
theorem tw17507884238356459269:True:=trivial
theorem tw14291672737337260201:True:=trivial
theorem tw16008868475742292908:True:=trivial
theorem tw4476881548516420645:True:=trivial
theorem tw1085844793539258187:True:=trivial
theorem tw8372643431522472155:True:=trivial
theorem tw7629783972342772777:True:=trivial
theorem tw11201919400966670626:True:=trivial
theorem tw14321558665994930027:True:=trivial
theorem tw16971193232619346221:True:=trivial
theorem tw9125472964247987891:True:=trivial
theorem tw9655757080401159567:True:=trivial
theorem tw13240108381322382199:True:=trivial
theorem tw8328459947673119242:True:=trivial
theorem tw6906252281545158868:True:=trivial
theorem tw12186066917824896014:True:=trivial
theorem tw7745268162547884936:True:=trivial
theorem tw4061534964017531870:True:=trivial
theorem tw11799509595967682124:True:=trivial
theorem tw12310510734671538505:True:=trivial
theorem tw18271168819770660519:True:=trivial
theorem tw9139108618874443990:True:=trivial
theorem tw793476505141213834:True:=trivial
theorem tw5001605229663977763:True:=trivial
theorem tw13547296576963151345:True:=trivial
theorem tw1195555074121596936:True:=trivial
theorem tw4776145688850378733:True:=trivial
theorem tw1271701747422489104:True:=trivial
theorem tw7246249980989847197:True:=trivial
theorem tw1461268311942706827:True:=trivial
theorem tw9717600284578250132:True:=trivial
theorem tw17342239118530445807:True:=trivial
theorem tw6954949062258661737:True:=trivial
theorem tw15589773855786637614:True:=trivial
theorem tw8777978079232291878:True:=trivial
theorem tw11270546564934587344:True:=trivial
theorem tw8950435802247211971:True:=trivial
theorem tw13109551072017010674:True:=trivial
theorem tw9132999994104956416:True:=trivial
theorem tw2496271468320239077:True:=trivial
theorem tw16990948047559751668:True:=trivial
theorem tw11043186215158248875:True:=trivial
theorem tw9157084256435977966:True:=trivial
theorem tw1958667756842255064:True:=trivial
theorem tw16811304991177018458:True:=trivial
theorem tw16062991986670358291:True:=trivial
theorem tw13111794951655268159:True:=trivial
theorem tw12807973782038826011:True:=trivial
theorem tw6024613862818797763:True:=trivial
theorem tw3681412033579425:True:=trivial
theorem tw12183056629583603227:True:=trivial
theorem tw15924735828132006295:True:=trivial
theorem tw8139032444769691267:True:=trivial
theorem tw17174462488776704483:True:=trivial
theorem tw11178266354982078136:True:=trivial
theorem tw11825691072085316040:True:=trivial
theorem tw6702641894134796090:True:=trivial
theorem tw8388411191096775610:True:=trivial
theorem tw3257404517812304310:True:=trivial
theorem tw9212009848697495786:True:=trivial
theorem tw2196650752002313215:True:=trivial
theorem tw10626580897562521525:True:=trivial
theorem tw16385539374529949540:True:=trivial
theorem tw17944909356028458896:True:=trivial
theorem tw7622747330555190505:True:=trivial
theorem tw18198859441899744865:True:=trivial
theorem tw17819029379367014782:True:=trivial
theorem tw14388260580290506039:True:=trivial
theorem tw14685418497063792520:True:=trivial
theorem tw8198754792552885828:True:=trivial
theorem tw10388428061747388724:True:=trivial
theorem tw2401768664990379251:True:=trivial
theorem tw10100132505103374943:True:=trivial
theorem tw9665329056253120375:True:=trivial
theorem tw14812398022321607283:True:=trivial
theorem tw655315679598075167:True:=trivial
theorem tw14654702203524147578:True:=trivial
theorem tw4520484466613971949:True:=trivial
theorem tw15906963874458866368:True:=trivial
theorem tw6656960376621937737:True:=trivial
theorem tw12535851100269384028:True:=trivial
theorem tw9498786951722915727:True:=trivial
theorem tw14555484800256205540:True:=trivial
theorem tw5982570277832090669:True:=trivial
theorem tw13351408081465108885:True:=trivial
theorem tw9790405596395374598:True:=trivial
theorem tw4027719493827418463:True:=trivial
theorem tw14398031490771725542:True:=trivial
theorem tw6967707534688103011:True:=trivial
theorem tw5739585311086332662:True:=trivial
theorem tw16903978133108308451:True:=trivial
theorem tw3883191350954651922:True:=trivial
theorem tw15482434677524261226:True:=trivial
theorem tw6300931531161852464:True:=trivial
theorem tw17248169966423029573:True:=trivial
theorem tw2536469308242454268:True:=trivial
theorem tw9362235445361256321:True:=trivial
theorem tw14333481079263166868:True:=trivial
theorem tw4451181933313011984:True:=trivial
theorem tw8511267164099466510:True:=trivial
theorem tw195448806792257913:True:=trivial
theorem tw11199572802097771363:True:=trivial
theorem tw15935462341668884305:True:=trivial
theorem tw11998181042891339873:True:=trivial
theorem tw143813242581663033:True:=trivial
theorem tw7792788573120555220:True:=trivial
theorem tw17880248161489573676:True:=trivial
theorem tw18406260463930861717:True:=trivial
theorem tw17044265170814873631:True:=trivial
theorem tw4289709195863501393:True:=trivial
theorem tw2028202801798433698:True:=trivial
theorem tw4519070832664487364:True:=trivial
theorem tw16546627154560424399:True:=trivial
theorem tw7133656203273652642:True:=trivial
theorem tw1099643821944204685:True:=trivial
theorem tw15020388138524396216:True:=trivial
theorem tw4509877840721408608:True:=trivial
theorem tw164214235228394196:True:=trivial
theorem tw1622107729119388793:True:=trivial
theorem tw9481560805326452086:True:=trivial
theorem tw2778121800055090690:True:=trivial
theorem tw1325563359303547807:True:=trivial
theorem tw17357414463402732671:True:=trivial
theorem tw10281658395171900918:True:=trivial
theorem tw18411625581001223169:True:=trivial
theorem tw18283143838587921664:True:=trivial
theorem tw2723965172907412582:True:=trivial
theorem tw15342356615226681809:True:=trivial
theorem tw15866925570733069953:True:=trivial
theorem tw3172976919664149957:True:=trivial
theorem tw14886016548776479903:True:=trivial
theorem tw8231285832331175505:True:=trivial
theorem tw7906084306159028798:True:=trivial
theorem tw9386119089424913692:True:=trivial
theorem tw5023183566092984370:True:=trivial
theorem tw13618569864594282811:True:=trivial
theorem tw9593430196553682054:True:=trivial
theorem tw11211256510343371587:True:=trivial
theorem tw14994440551281934583:True:=trivial
theorem tw5474141020343413675:True:=trivial
theorem tw9433083798778824656:True:=trivial
theorem tw14091712363162838822:True:=trivial
theorem tw16023272395573046389:True:=trivial
theorem tw15766428310609560505:True:=trivial
theorem tw10802510355014035997:True:=trivial
theorem tw10634194384215380445:True:=trivial
theorem tw2225065040510746:True:=trivial
theorem tw435615832525343988:True:=trivial
theorem tw6659390779716933357:True:=trivial
theorem tw5091079701339315291:True:=trivial
theorem tw15700495796298779901:True:=trivial
theorem tw6811225431393395436:True:=trivial
theorem tw14452529289578319370:True:=trivial
theorem tw10325389220607775576:True:=trivial
theorem tw80323808056249052:True:=trivial
theorem tw5669517876886870556:True:=trivial
theorem tw7421315274193600509:True:=trivial
theorem tw3862422455234371394:True:=trivial
theorem tw8663857622562263906:True:=trivial
theorem tw5196859230226350230:True:=trivial
theorem tw5271195493148003430:True:=trivial
theorem tw13839957272506988509:True:=trivial
theorem tw4047899495878874107:True:=trivial
theorem tw16957012444733856682:True:=trivial
theorem tw6117000304810918469:True:=trivial
theorem tw17790207107425831486:True:=trivial
theorem tw17519480597541726373:True:=trivial
theorem tw15840658323848438154:True:=trivial
theorem tw2464499305073966373:True:=trivial
theorem tw14856037362188205791:True:=trivial
theorem tw12774062107173049025:True:=trivial
theorem tw5542164973768048454:True:=trivial
theorem tw4686700898683769267:True:=trivial
theorem tw1991007514868039869:True:=trivial
theorem tw18283762629559767718:True:=trivial
theorem tw3985679127462579130:True:=trivial
theorem tw18193441062007195824:True:=trivial
theorem tw15324080848435783809:True:=trivial
theorem tw11521464795951228619:True:=trivial
theorem tw15493609611894325567:True:=trivial
theorem tw12956165413886062709:True:=trivial
theorem tw15278763224204923441:True:=trivial
theorem tw16956844576873235408:True:=trivial
theorem tw13539736076847335093:True:=trivial
theorem tw2426685040969131007:True:=trivial
theorem tw271308161869445403:True:=trivial
theorem tw13680928885776075119:True:=trivial
theorem tw15506206151381375496:True:=trivial
theorem tw7382070928251768783:True:=trivial
theorem tw2752270820181308196:True:=trivial
theorem tw16434002919913838336:True:=trivial
theorem tw6223989450585252326:True:=trivial
theorem tw15158932098125195304:True:=trivial
theorem tw12348194266365780642:True:=trivial
theorem tw4841533454861189698:True:=trivial
theorem tw17558041122315406662:True:=trivial
theorem tw17509577221857164449:True:=trivial
theorem tw12061572728015665657:True:=trivial
theorem tw3391015760168356675:True:=trivial
theorem tw17518287513385022272:True:=trivial
theorem tw6767331074798397999:True:=trivial
theorem tw13856037326079972558:True:=trivial
theorem tw14852021264089989234:True:=trivial
theorem tw9275343220345318328:True:=trivial
theorem tw7204512621883609416:True:=trivial
theorem tw9151062702236204014:True:=trivial
theorem tw18214344722136352492:True:=trivial
theorem tw10529833302522517170:True:=trivial
theorem tw15173255268237289771:True:=trivial
theorem tw8287886694923062437:True:=trivial
theorem tw7833171173274979660:True:=trivial
theorem tw15052899791398538336:True:=trivial
theorem tw6711572460182483968:True:=trivial
theorem tw4697864961034419159:True:=trivial
theorem tw10194294532666727575:True:=trivial
theorem tw8892337639842062363:True:=trivial
theorem tw9296796672707733673:True:=trivial
theorem tw7571812215283408042:True:=trivial
theorem tw4054863522594248368:True:=trivial
theorem tw8658605382010126852:True:=trivial
theorem tw7386155439000402374:True:=trivial
theorem tw5842522623076609373:True:=trivial
theorem tw3881521306952634129:True:=trivial
theorem tw6934042297517239762:True:=trivial
theorem tw7931089980453924163:True:=trivial
theorem tw2949213816600738669:True:=trivial
theorem tw8790896891702450008:True:=trivial
theorem tw12558045311336736830:True:=trivial
theorem tw37903126466283906:True:=trivial
theorem tw14199035413978891358:True:=trivial
theorem tw1029912278041288196:True:=trivial
theorem tw11826981931462043092:True:=trivial
theorem tw8633979406925422994:True:=trivial
theorem tw12409849213233927240:True:=trivial
theorem tw16086265931614281586:True:=trivial
theorem tw16931513145885482992:True:=trivial
theorem tw2701461999578947006:True:=trivial
theorem tw8482469957383959634:True:=trivial
theorem tw10639247873762089053:True:=trivial
theorem tw4242592946845634405:True:=trivial
theorem tw7899893752653206242:True:=trivial
theorem tw2647935887605961494:True:=trivial
theorem tw4997079662956143077:True:=trivial
theorem tw3589641013020917525:True:=trivial
end t0
set_option Elab.async true
theorem room : Room callerA 20 := ⟨rfl, rfl, by decide +kernel, by decide +kernel⟩
set_option tactic.hygienic true in
theorem t0 : PySem.Challenge.rw_nt0082_01.Holds := by
 w_on
 o_law
 k_head
 case hw => w_witness2
 k_fill
 intro w s₀ s₁ mg mb G Y fa o pm cd doc dV kV ho hd hcd hD hmg hg args vals as hpre hlay hrd hwl hlo
 have KX := km_in_of Y
 km_tabs Y
 refine Ground.open G ?_
 intro T B D TE TW
 try (refine guard_noD D (by decide +kernel) ?_; clear D)
 have hmg2 := hmg
 km_lay T hmg ho hd cd
 wrow_args hpre hlay hrd hwl hlo
 first | refine callC_kw (enter_call ?_) | refine enter_call ?_
 rename_i is _ _ _ _ _ _ _ la vs _ hL _ _ _ hI _ hc63 _
 have e847 : mg "law" = some (.ref 847) := mg_of KX T.g (by kernel_rfl)
 rw [show mg "law" = some (.ref fa) from hmg2] at e847
 obtain rfl : fa = 847 := by cases e847; rfl
 obtain ⟨ol, hol, hcl, mm, hdl⟩ := hL
 have hst := start_St (prog := PySem.Challenge.pw_nt0082_01) (w := w) (K := k0.heap_1 w.params) hT9 KX (by kernel_rfl) T
 have hz : zStart s₁.heap la = some (.raw ol) := by
  show Option.map _ _ = _
  rw [ghost_get hT9 hol (fun q => by rw [q] at hcl; cases hcl)]
  rfl
 refine codeAny_mono (s_law w (k := 0) (room.less (by decide)) (is := is) (by omega) hz hcl hdl (ints_all hI) s₁ hst) fun r s' h => ?_
 obtain ⟨v, z', n', e, st, e1⟩ := h
 subst e e1
 have hold := end_old hT9 st
 obtain ⟨h', tk, e2⟩ := st.eq
 refine ⟨.inl ⟨.bool true, .bool true, [], rfl, ?_, ReadsW.bool _, ?_, ?_⟩, hold, ?_, ?_⟩
 ·intro cls; rfl
 ·exact postW_of (by wrow_shape) (by wtm_val) (by str_meet; first | done | w_fin)
 ·intro _; exact ⟨List.nodup_nil, fun a h => by cases h⟩
 ·rw [e2]
 ·rw [e2]; exact AllBare.of_eq hg
end Mine
theorem PySem.Challenge.cw_nt0082_01_holds : PySem.Challenge.rw_nt0082_01.Holds :=
 Mine.t0
