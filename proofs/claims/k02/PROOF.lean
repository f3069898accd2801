import PyProof.Rows.All
import Wide.All
import OpenK.AllK
import Wide.FinOn
import HandS.Base
import HandS.Call
import HandS.List
import HandS.Comp
import HandS.Ends
import HandS.Dict
import HandS.Iter
import HandS.Text
import HandS.Words
import HandS.WordsList
import HandS.WordsDict
import HandS.Exc
import HandS.TryOnly
import HandS.ExcOwn
import HandS.WordsExc
import HandS.Wide
import HandS.IsInst
import HandS.Conv
import HandS.TupAny
import HandS.Rev
import HandS.Deep
import PySem.Challenge.RW_tideland_k02_edits_made_by_hand
set_option Elab.async false
set_option linter.all false
set_option maxRecDepth 100000
set_option maxHeartbeats 2000000
namespace DL
open PySem PySem.Spec PyProof.Rows L2
/-- plain data -/
inductive D where
  | non | bl (b : Bool) | int (i : Int) | str (s : Str)
  | lst (xs : List D) | tup (xs : List D) | scr (xs : List D)
  | dk (kvs : List (Key × D)) | dt (kvs : List (List Key × D))
  | ins (C : Str) (fs : List (Str × D))
  | ty (n : String)
def Ex (H H' : Hp) : Prop := ∀ a o, H a = some o → H' a = some o
theorem Ex.refl (H : Hp) : Ex H H := fun _ _ h => h
theorem Ex.trans {H H1 H2 : Hp} (a : Ex H H1) (b : Ex H1 H2) : Ex H H2 := fun x o h => b x o (a x o h)
theorem Ex.new {H : Hp} {p : Addr} {o : HO} (h : H p = none) : Ex H (upd H p o) := fun a u e => by
  rw [upd_ne (ne_of_none e h)]
  exact e
theorem Ex.mut {H H' : Hp} {p : Addr} {o : HO} (e : Ex H H') (h : H p = none) : Ex H (upd H' p o) := fun a u ha => by
  rw [upd_ne (ne_of_none ha h)]
  exact e a u ha
theorem Ex.both {H H' : Hp} {p : Addr} {o : HO} (e : Ex H H') : Ex (upd H p o) (upd H' p o) := fun a u ha => by
  by_cases h : a = p
  · subst h
    rw [upd_same] at ha ⊢
    exact ha
  · rw [upd_ne h] at ha ⊢
    exact e a u ha
theorem Ex.back {H H' : Hp} {p : Addr} (e : Ex H H') (h : H' p = none) : H p = none := by
  cases h1 : H p with
  | none => rfl
  | some o =>
    rw [e p o h1] at h
    cases h
theorem ex_sql {K : PySem.W.Frag} {H H' : Hp} {a : Addr} {xs : List V} (e : Ex H H') (h : SqL K H a xs) : SqL K H' a xs := by
  rcases h with (h | ⟨o, h⟩) | h
  · exact Or.inl (Or.inl (e a _ h))
  · exact Or.inl (Or.inr ⟨o, e a _ h⟩)
  · exact Or.inr h
section
variable (K : PySem.W.Frag) (mg : Str → Option Value)
mutual
/-- the value v reads as the data d, all of it in F -/
inductive DR (F : Hp) : V → D → Prop
  | non : DR F .non .non
  | bl (b : Bool) : DR F (.bl b) (.bl b)
  | int (i : Int) : DR F (.int i) (.int i)
  | str (x : Str) : DR F (.str x) (.str x)
  | ty (n : String) : DR F (.ty n) (.ty n)
  | scr {a : Addr} {xs : List V} {ds : List D} : SqL K F a xs → DRs F xs ds → DR F (.ref a) (.scr ds)
  | ref {a : Addr} {o : HO} {d : D} : F a = some o → Top F o d → DR F (.ref a) d
/-- the object o is the data d, its parts in F -/
inductive Top (F : Hp) : HO → D → Prop
  | lst {xs : List V} {ds : List D} : DRs F xs ds → Top F (.lst xs) (.lst ds)
  | tup {xs : List V} {ds : List D} : DRs F xs ds → Top F (.tup xs) (.tup ds)
  | dk {xs : List (Key × V)} {ds : List (Key × D)} : DRk F xs ds → Top F (.dK xs) (.dk ds)
  | dt {xs : List (List Key × V)} {ds : List (List Key × D)} : DRt F xs ds → Top F (.dT xs) (.dt ds)
  | ins {C : Str} {c dx : Addr} {xs : List (Str × V)} {ds : List (Str × D)} : mg C = some (.ref c) → DRf F xs ds → Top F (.ins c dx xs) (.ins C ds)
inductive DRs (F : Hp) : List V → List D → Prop
  | nil : DRs F [] []
  | cons {v : V} {vs : List V} {d : D} {ds : List D} : DR F v d → DRs F vs ds → DRs F (v :: vs) (d :: ds)
inductive DRk (F : Hp) : List (Key × V) → List (Key × D) → Prop
  | nil : DRk F [] []
  | cons {k : Key} {v : V} {vs : List (Key × V)} {d : D} {ds : List (Key × D)} : DR F v d → DRk F vs ds → DRk F ((k, v) :: vs) ((k, d) :: ds)
inductive DRt (F : Hp) : List (List Key × V) → List (List Key × D) → Prop
  | nil : DRt F [] []
  | cons {k : List Key} {v : V} {vs : List (List Key × V)} {d : D} {ds : List (List Key × D)} : DR F v d → DRt F vs ds → DRt F ((k, v) :: vs) ((k, d) :: ds)
inductive DRf (F : Hp) : List (Str × V) → List (Str × D) → Prop
  | nil : DRf F [] []
  | cons {k : Str} {v : V} {vs : List (Str × V)} {d : D} {ds : List (Str × D)} : DR F v d → DRf F vs ds → DRf F ((k, v) :: vs) ((k, d) :: ds)
end
end
section
variable {K : PySem.W.Frag} {mg : Str → Option Value} {F F' H H' : Hp}
mutual
theorem DR.mono (e : Ex F F') : ∀ {v : V} {d : D}, DR K mg F v d → DR K mg F' v d
  | _, _, .non => .non
  | _, _, .bl b => .bl b
  | _, _, .int i => .int i
  | _, _, .str x => .str x
  | _, _, .ty x => .ty x
  | _, _, .scr h q => .scr (ex_sql e h) (DRs.mono e q)
  | _, _, .ref h q => .ref (e _ _ h) (Top.mono e q)
theorem Top.mono (e : Ex F F') : ∀ {o : HO} {d : D}, Top K mg F o d → Top K mg F' o d
  | _, _, .lst h => .lst (DRs.mono e h)
  | _, _, .tup h => .tup (DRs.mono e h)
  | _, _, .dk h => .dk (DRk.mono e h)
  | _, _, .dt h => .dt (DRt.mono e h)
  | _, _, .ins m h => .ins m (DRf.mono e h)
theorem DRs.mono (e : Ex F F') : ∀ {xs : List V} {ds : List D}, DRs K mg F xs ds → DRs K mg F' xs ds
  | _, _, .nil => .nil
  | _, _, .cons h q => .cons (DR.mono e h) (DRs.mono e q)
theorem DRk.mono (e : Ex F F') : ∀ {xs : List (Key × V)} {ds : List (Key × D)}, DRk K mg F xs ds → DRk K mg F' xs ds
  | _, _, .nil => .nil
  | _, _, .cons h q => .cons (DR.mono e h) (DRk.mono e q)
theorem DRt.mono (e : Ex F F') : ∀ {xs : List (List Key × V)} {ds : List (List Key × D)}, DRt K mg F xs ds → DRt K mg F' xs ds
  | _, _, .nil => .nil
  | _, _, .cons h q => .cons (DR.mono e h) (DRt.mono e q)
theorem DRf.mono (e : Ex F F') : ∀ {xs : List (Str × V)} {ds : List (Str × D)}, DRf K mg F xs ds → DRf K mg F' xs ds
  | _, _, .nil => .nil
  | _, _, .cons h q => .cons (DR.mono e h) (DRf.mono e q)
end
theorem DRs.length : ∀ {xs : List V} {ds : List D}, DRs K mg F xs ds → xs.length = ds.length
  | _, _, .nil => rfl
  | _, _, .cons _ q => congrArg (· + 1) (DRs.length q)
theorem DRs.append : ∀ {xs ys : List V} {ds es : List D}, DRs K mg F xs ds → DRs K mg F ys es → DRs K mg F (xs ++ ys) (ds ++ es)
  | _, _, _, _, .nil, q => q
  | _, _, _, _, .cons h r, q => .cons h (DRs.append r q)
theorem DRs.take : ∀ {xs : List V} {ds : List D} (n : Nat), DRs K mg F xs ds → DRs K mg F (xs.take n) (ds.take n)
  | _, _, 0, _ => .nil
  | _, _, _ + 1, .nil => .nil
  | _, _, n + 1, .cons h r => .cons h (DRs.take n r)
theorem DRs.drop : ∀ {xs : List V} {ds : List D} (n : Nat), DRs K mg F xs ds → DRs K mg F (xs.drop n) (ds.drop n)
  | _, _, 0, r => r
  | _, _, _ + 1, .nil => .nil
  | _, _, n + 1, .cons _ r => DRs.drop n r
theorem DRs.get : ∀ {xs : List V} {ds : List D} {i : Nat} {d : D}, DRs K mg F xs ds → ds[i]? = some d → ∃ v, xs[i]? = some v ∧ DR K mg F v d
  | _, _, _, _, .nil, e => by simp at e
  | _, _, 0, _, .cons (v := v) h _, e => by
    obtain rfl := Option.some.inj e
    exact ⟨v, rfl, h⟩
  | _, _, i + 1, d, .cons _ r, e => DRs.get (i := i) (d := d) r (by simpa using e)
theorem DRs.getV : ∀ {xs : List V} {ds : List D} {i : Nat} {v : V}, DRs K mg F xs ds → xs[i]? = some v → ∃ d, ds[i]? = some d ∧ DR K mg F v d
  | _, _, _, _, .nil, e => by simp at e
  | _, _, 0, _, .cons (d := d) h _, e => by
    obtain rfl := Option.some.inj e
    exact ⟨d, rfl, h⟩
  | _, _, i + 1, d, .cons _ r, e => DRs.getV (i := i) r (by simpa using e)
theorem DRs.set {v : V} {d : D} (h : DR K mg F v d) : ∀ {xs : List V} {ds : List D} (i : Nat), DRs K mg F xs ds → DRs K mg F (xs.set i v) (ds.set i d)
  | _, _, _, .nil => .nil
  | _, _, 0, .cons _ r => .cons h r
  | _, _, i + 1, .cons q r => .cons q (DRs.set h i r)
theorem DRs.dropLast {xs : List V} {ds : List D} (h : DRs K mg F xs ds) : DRs K mg F xs.dropLast ds.dropLast := by
  rw [List.dropLast_eq_take, List.dropLast_eq_take, h.length]
  exact h.take _
theorem DRs.reverse : ∀ {xs : List V} {ds : List D}, DRs K mg F xs ds → DRs K mg F xs.reverse ds.reverse
  | _, _, .nil => .nil
  | _, _, .cons h r => by
    rw [List.reverse_cons, List.reverse_cons]
    exact (DRs.reverse r).append (.cons h .nil)
theorem DRs.one {v : V} {d : D} (h : DR K mg F v d) : DRs K mg F [v] [d] := .cons h .nil
theorem DRs.rep {xs : List V} {ds : List D} (h : DRs K mg F xs ds) : ∀ n : Nat, DRs K mg F (List.replicate n xs).flatten (List.replicate n ds).flatten
  | 0 => .nil
  | n + 1 => by
    rw [List.replicate_succ, List.replicate_succ, List.flatten_cons, List.flatten_cons]
    exact h.append (DRs.rep h n)
theorem DR.intI {v : V} {i : Int} (h : DR K mg F v (.int i)) : v = .int i := by
  cases h with
  | int => rfl
  | ref _ t => cases t
theorem DR.blI {v : V} {b : Bool} (h : DR K mg F v (.bl b)) : v = .bl b := by
  cases h with
  | bl => rfl
  | ref _ t => cases t
theorem DR.strI {v : V} {s : Str} (h : DR K mg F v (.str s)) : v = .str s := by
  cases h with
  | str => rfl
  | ref _ t => cases t
theorem DR.tyI {v : V} {s : String} (h : DR K mg F v (.ty s)) : v = .ty s := by
  cases h with
  | ty => rfl
  | ref _ t => cases t
theorem DR.nonI {v : V} (h : DR K mg F v .non) : v = .non := by
  cases h with
  | non => rfl
  | ref _ t => cases t
theorem DR.tupI {v : V} {ds : List D} (h : DR K mg F v (.tup ds)) : ∃ a xs, v = .ref a ∧ F a = some (.tup xs) ∧ DRs K mg F xs ds := by
  cases h with
  | ref h t =>
    cases t with
    | tup q => exact ⟨_, _, rfl, h, q⟩
theorem DR.lstI {v : V} {ds : List D} (h : DR K mg F v (.lst ds)) : ∃ a xs, v = .ref a ∧ F a = some (.lst xs) ∧ DRs K mg F xs ds := by
  cases h with
  | ref h t =>
    cases t with
    | lst q => exact ⟨_, _, rfl, h, q⟩
theorem DR.scrI {v : V} {ds : List D} (h : DR K mg F v (.scr ds)) : ∃ a xs, v = .ref a ∧ SqL K F a xs ∧ DRs K mg F xs ds := by
  cases h with
  | scr h q => exact ⟨_, _, rfl, h, q⟩
  | ref _ t => cases t
theorem Top.lstI {o : HO} {ds : List D} (h : Top K mg F o (.lst ds)) : ∃ xs, o = .lst xs ∧ DRs K mg F xs ds := by
  cases h with
  | lst q => exact ⟨_, rfl, q⟩
theorem Top.tupI {o : HO} {ds : List D} (h : Top K mg F o (.tup ds)) : ∃ xs, o = .tup xs ∧ DRs K mg F xs ds := by
  cases h with
  | tup q => exact ⟨_, rfl, q⟩
theorem Top.dkI {o : HO} {ds : List (Key × D)} (h : Top K mg F o (.dk ds)) : ∃ xs, o = .dK xs ∧ DRk K mg F xs ds := by
  cases h with
  | dk q => exact ⟨_, rfl, q⟩
theorem Top.dtI {o : HO} {ds : List (List Key × D)} (h : Top K mg F o (.dt ds)) : ∃ xs, o = .dT xs ∧ DRt K mg F xs ds := by
  cases h with
  | dt q => exact ⟨_, rfl, q⟩
theorem Top.insI {o : HO} {C : Str} {ds : List (Str × D)} (h : Top K mg F o (.ins C ds)) : ∃ c dx xs, o = .ins c dx xs ∧ mg C = some (.ref c) ∧ DRf K mg F xs ds := by
  cases h with
  | ins m q => exact ⟨_, _, _, rfl, m, q⟩
/-- is it a thing that stands at an address and may be changed -/
def heavy : D → Bool
  | .lst _ => true
  | .dk _ => true
  | .dt _ => true
  | .ins _ _ => true
  | _ => false
/-- the value v is to be read as d: its own object in H, the parts in F -/
def View (K : PySem.W.Frag) (mg : Str → Option Value) (F H : Hp) (v : V) (d : D) : Prop :=
  if heavy d then ∃ a o, v = .ref a ∧ H a = some o ∧ Top K mg F o d else DR K mg F v d
theorem View.of_dr {v : V} {d : D} (e : Ex F H) (h : DR K mg F v d) : View K mg F H v d := by
  unfold View
  split
  · cases h with
    | ref h t => exact ⟨_, _, rfl, e _ _ h, t⟩
    | _ => contradiction
  · exact h
theorem View.of_top {a : Addr} {o : HO} {d : D} (hv : heavy d = true) (h : H a = some o) (t : Top K mg F o d) : View K mg F H (.ref a) d := by
  unfold View
  rw [if_pos hv]
  exact ⟨a, o, rfl, h, t⟩
theorem View.mono {v : V} {d : D} (e : Ex F F') (e2 : Ex H H') (h : View K mg F H v d) : View K mg F' H' v d := by
  unfold View at h ⊢
  split
  · rename_i hv
    rw [if_pos hv] at h
    obtain ⟨a, o, rfl, h1, t⟩ := h
    exact ⟨a, o, rfl, e2 _ _ h1, t.mono e⟩
  · rename_i hv
    rw [if_neg hv] at h
    exact h.mono e
theorem View.lstI {v : V} {ds : List D} (h : View K mg F H v (.lst ds)) : ∃ a xs, v = .ref a ∧ H a = some (.lst xs) ∧ DRs K mg F xs ds := by
  obtain ⟨a, o, rfl, h1, t⟩ := h
  obtain ⟨xs, rfl, q⟩ := t.lstI
  exact ⟨a, xs, rfl, h1, q⟩
theorem View.dkI {v : V} {ds : List (Key × D)} (h : View K mg F H v (.dk ds)) : ∃ a xs, v = .ref a ∧ H a = some (.dK xs) ∧ DRk K mg F xs ds := by
  obtain ⟨a, o, rfl, h1, t⟩ := h
  obtain ⟨xs, rfl, q⟩ := t.dkI
  exact ⟨a, xs, rfl, h1, q⟩
theorem View.dtI {v : V} {ds : List (List Key × D)} (h : View K mg F H v (.dt ds)) : ∃ a xs, v = .ref a ∧ H a = some (.dT xs) ∧ DRt K mg F xs ds := by
  obtain ⟨a, o, rfl, h1, t⟩ := h
  obtain ⟨xs, rfl, q⟩ := t.dtI
  exact ⟨a, xs, rfl, h1, q⟩
theorem View.insI {v : V} {C : Str} {ds : List (Str × D)} (h : View K mg F H v (.ins C ds)) : ∃ a c dx xs, v = .ref a ∧ H a = some (.ins c dx xs) ∧ mg C = some (.ref c) ∧ DRf K mg F xs ds := by
  obtain ⟨a, o, rfl, h1, t⟩ := h
  obtain ⟨c, dx, xs, rfl, m, q⟩ := t.insI
  exact ⟨a, c, dx, xs, rfl, h1, m, q⟩
theorem View.dr {v : V} {d : D} (h : View K mg F H v d) (hv : heavy d = false) : DR K mg F v d := by
  unfold View at h
  rw [if_neg (by rw [hv]; decide)] at h
  exact h
end
inductive SV where
  | un | sh (d : D) | ow (d : D) | io (d : D)
abbrev DS := List SV
/-- what is fixed in a def's run: what stands at its start, the address of the first argument if it is to be changed -/
structure Cm where
  F0 : Hp
  H0 : Hp
  io : Option Addr
section
variable (K : PySem.W.Frag) (mg : Str → Option Value)
def Own (F H : Hp) (a : Addr) (d : D) : Prop := F a = none ∧ ∃ o, H a = some o ∧ Top K mg F o d
def SlotOk (c : Cm) (F H : Hp) (x : Option V) : SV → Prop
  | .un => True
  | .sh d => ∃ v, x = some v ∧ DR K mg F v d
  | .ow d => ∃ a, x = some (.ref a) ∧ Own K mg F H a d ∧ c.H0 a = none
  | .io d => ∃ a, x = some (.ref a) ∧ Own K mg F H a d ∧ c.io = some a
def isOw : SV → Bool
  | .ow _ => true
  | .io _ => true
  | _ => false
/-- the slot i owns what stands at a -/
def Ow (σ : L2.St) (δ : DS) (i : Nat) (a : Addr) : Prop := σ[i]? = some (some (.ref a)) ∧ ∃ s, δ[i]? = some s ∧ isOw s = true
structure SI (c : Cm) (F H : Hp) (σ : L2.St) (δ : DS) : Prop where
  ff : Ex c.F0 F
  fh : Ex F H
  fr : ∀ a o, c.H0 a = some o → c.io ≠ some a → H a = some o
  ft : ∀ a o, c.H0 a = some o → c.F0 a = none → F a = none
  dm : ∀ a o, c.H0 a = some o → ∃ u, H a = some u
  len : σ.length = δ.length
  sl : ∀ (i : Nat) s, δ[i]? = some s → ∃ x, σ[i]? = some x ∧ SlotOk K mg c F H x s
  nd : ∀ (i j : Nat) a, Ow σ δ i a → Ow σ δ j a → i = j
/-- a value: shared (it stays as it is), new and owned by none yet, or the thing that slot i owns -/
inductive W where
  | s (d : D) | o (d : D) | b (i : Nat)
def WOk (c : Cm) (F H : Hp) (σ : L2.St) (δ : DS) (v : V) : W → Prop
  | .s d => DR K mg F v d
  | .o d => ∃ a, v = .ref a ∧ Own K mg F H a d ∧ c.H0 a = none ∧ ∀ i, ¬ Ow σ δ i a
  | .b i => σ[i]? = some (some v)
/-- what stands still over an expression -/
structure Pd (σ : L2.St) (F H : Hp) (δ : DS) (F' H' : Hp) (δ' : DS) : Prop where
  f : Ex F F'
  h : ∀ a o, H a = some o → F a = none → (∀ i, ¬ Ow σ δ i a) → H' a = some o ∧ F' a = none ∧ ∀ i, ¬ Ow σ δ' i a
  d : ∀ a o, H a = some o → ∃ u, H' a = some u
/-- an exception as data: its class, its attributes -/
structure DX where
  cls : Str
  fs : List (Str × D)
def ExOk (F H : Hp) (cls : Value) (dd : Option Addr) (x : DX) : Prop :=
  (∃ C, mg x.cls = some (.ref C) ∧ cls = .ref C) ∧ (x.fs = [] ∨ ∃ a xs, dd = some a ∧ H a = some (.xd xs) ∧ DRf K mg F xs x.fs)
inductive R (α : Type) where
  | ok (a : α) (δ : DS) | ex (x : DX) (δ : DS)
end
section
variable {K : PySem.W.Frag} {mg : Str → Option Value} {c : Cm} {F H F' H' F2 H2 : Hp} {σ : L2.St} {δ δ' δ2 : DS} {v : V} {w : W}
theorem Pd.refl : Pd σ F H δ F H δ := ⟨Ex.refl F, fun _ _ h q n => ⟨h, q, n⟩, fun _ o h => ⟨o, h⟩⟩
theorem Pd.trans (a : Pd σ F H δ F' H' δ') (b : Pd σ F' H' δ' F2 H2 δ2) : Pd σ F H δ F2 H2 δ2 := ⟨a.f.trans b.f, fun p o h q n => by
  obtain ⟨h1, q1, n1⟩ := a.h p o h q n
  exact b.h p o h1 q1 n1, fun p o h => by
  obtain ⟨u, h1⟩ := a.d p o h
  exact b.d p u h1⟩
theorem Pd.new (p : Pd σ F H δ F' H' δ') {a : Addr} (h : H' a = none) : H a = none := by
  cases q : H a with
  | none => rfl
  | some o =>
    obtain ⟨u, hu⟩ := p.d a o q
    rw [h] at hu
    cases hu
theorem WOk.mono (p : Pd σ F H δ F' H' δ') (h : WOk K mg c F H σ δ v w) : WOk K mg c F' H' σ δ' v w := by
  cases w with
  | s d => exact DR.mono p.f h
  | o d =>
    obtain ⟨a, rfl, ⟨n, o, ho, t⟩, h0, no⟩ := h
    obtain ⟨h1, q1, n1⟩ := p.h a o ho n no
    exact ⟨a, rfl, ⟨q1, o, h1, t.mono p.f⟩, h0, n1⟩
  | b i => exact h
/-- a new thing was not there ahead -/
def Nw (H : Hp) (v : V) : W → Prop
  | .o _ => ∀ a, v = .ref a → H a = none
  | _ => True
theorem Nw.back (p : Pd σ F H δ F' H' δ') (h : Nw H' v w) : Nw H v w := by
  cases w with
  | o d => exact fun a e => p.new (h a e)
  | _ => trivial
/-- the data of a value -/
def cont (δ : DS) : W → Option D
  | .s d => some d
  | .o d => if heavy d then some d else none
  | .b i => match δ[i]? with
    | some (.ow d) => if heavy d then some d else none
    | some (.io d) => if heavy d then some d else none
    | _ => none
theorem cont_if {b : Bool} {d e : D} (h : (if b = true then some d else none) = some e) : b = true ∧ d = e := by
  cases b with
  | true => exact ⟨rfl, Option.some.inj h⟩
  | false => cases h
theorem cont_b {i : Nat} {d : D} (e : cont δ (.b i) = some d) : heavy d = true ∧ (δ[i]? = some (.ow d) ∨ δ[i]? = some (.io d)) := by
  unfold cont at e
  dsimp only at e
  split at e
  · rename_i d' hd
    obtain ⟨h1, rfl⟩ := cont_if e
    exact ⟨h1, .inl hd⟩
  · rename_i d' hd
    obtain ⟨h1, rfl⟩ := cont_if e
    exact ⟨h1, .inr hd⟩
  · cases e
theorem SI.owns (I : SI K mg c F H σ δ) {i : Nat} {d : D} (h : σ[i]? = some (some v)) (e : δ[i]? = some (.ow d) ∨ δ[i]? = some (.io d)) :
    ∃ a, v = .ref a ∧ Own K mg F H a d ∧ Ow σ δ i a := by
  rcases e with e | e
  · obtain ⟨x, hx, a, rfl, o, _⟩ := I.sl _ _ e
    rw [hx] at h
    obtain rfl := Option.some.inj (Option.some.inj h)
    exact ⟨a, rfl, o, hx, _, e, rfl⟩
  · obtain ⟨x, hx, a, rfl, o, _⟩ := I.sl _ _ e
    rw [hx] at h
    obtain rfl := Option.some.inj (Option.some.inj h)
    exact ⟨a, rfl, o, hx, _, e, rfl⟩
theorem SI.view (I : SI K mg c F H σ δ) {d : D} (h : WOk K mg c F H σ δ v w) (e : cont δ w = some d) : View K mg F H v d := by
  cases w with
  | s d' =>
    obtain rfl := Option.some.inj e
    exact View.of_dr I.fh h
  | o d' =>
    obtain ⟨hv, rfl⟩ := cont_if e
    obtain ⟨a, rfl, ⟨_, o, ho, t⟩, _⟩ := h
    exact View.of_top hv ho t
  | b i =>
    obtain ⟨hv, e⟩ := cont_b e
    obtain ⟨a, rfl, ⟨_, o, ho, t⟩, _⟩ := I.owns h e
    exact View.of_top hv ho t
/-- what a slot owns stands in H, not in F -/
theorem SI.ow (I : SI K mg c F H σ δ) {i : Nat} {a : Addr} (h : Ow σ δ i a) : F a = none ∧ ∃ o, H a = some o := by
  obtain ⟨h1, s, h2, h3⟩ := h
  obtain ⟨x, hx, q⟩ := I.sl i s h2
  rw [h1] at hx
  obtain rfl := Option.some.inj hx
  cases s with
  | ow d =>
    obtain ⟨a, ea, ⟨n, o, ho, _⟩, _⟩ := q
    cases ea
    exact ⟨n, o, ho⟩
  | io d =>
    obtain ⟨a, ea, ⟨n, o, ho, _⟩, _⟩ := q
    cases ea
    exact ⟨n, o, ho⟩
  | _ => cases h3
theorem SI.noOw (I : SI K mg c F H σ δ) {p : Addr} (hp : H p = none) (i : Nat) : ¬ Ow σ δ i p := fun h => by
  obtain ⟨_, o, ho⟩ := I.ow h
  rw [hp] at ho
  cases ho
theorem SI.new0 (I : SI K mg c F H σ δ) {p : Addr} (hp : H p = none) : c.H0 p = none := by
  cases h : c.H0 p with
  | none => rfl
  | some o =>
    obtain ⟨u, hu⟩ := I.dm p o h
    rw [hp] at hu
    cases hu
theorem SlotOk.move {x : Option V} {s : SV} (eF : Ex F F') (k : ∀ a o, H a = some o → F a = none → isOw s = true → x = some (.ref a) → H' a = some o ∧ F' a = none) (q : SlotOk K mg c F H x s) : SlotOk K mg c F' H' x s := by
  cases s with
  | un => trivial
  | sh d =>
    obtain ⟨v, rfl, r⟩ := q
    exact ⟨v, rfl, r.mono eF⟩
  | ow d =>
    obtain ⟨a, rfl, ⟨n1, o1, h1, t⟩, h0⟩ := q
    obtain ⟨h2, n2⟩ := k a o1 h1 n1 rfl rfl
    exact ⟨a, rfl, ⟨n2, o1, h2, t.mono eF⟩, h0⟩
  | io d =>
    obtain ⟨a, rfl, ⟨n1, o1, h1, t⟩, h0⟩ := q
    obtain ⟨h2, n2⟩ := k a o1 h1 n1 rfl rfl
    exact ⟨a, rfl, ⟨n2, o1, h2, t.mono eF⟩, h0⟩
/-- nothing that stands is changed -/
theorem SI.grow (I : SI K mg c F H σ δ) (eF : Ex F F') (eH : Ex H H') (eFH : Ex F' H') (k : ∀ a o, H a = some o → F a = none → (∃ i, Ow σ δ i a) ∨ c.H0 a ≠ none → F' a = none) : SI K mg c F' H' σ δ :=
  ⟨I.ff.trans eF, eFH, fun a u h n => eH _ _ (I.fr a u h n), fun a u h n => by
    obtain ⟨u', hu⟩ := I.dm a u h
    exact k a u' hu (I.ft a u h n) (.inr (by rw [h]; intro z; cases z)), fun a u h => by
    obtain ⟨u', hu⟩ := I.dm a u h
    exact ⟨u', eH _ _ hu⟩, I.len, fun i s h => by
    obtain ⟨x, hx, q⟩ := I.sl i s h
    exact ⟨x, hx, q.move eF fun a o ho n io ex => ⟨eH _ _ ho, k a o ho n (.inl ⟨i, by rw [← ex]; exact hx, s, h, io⟩)⟩⟩, I.nd⟩
/-- a new object, shared from the start -/
theorem SI.laidS (I : SI K mg c F H σ δ) {p : Addr} {o : HO} (hp : H p = none) : SI K mg c (upd F p o) (upd H p o) σ δ ∧ Pd σ F H δ (upd F p o) (upd H p o) δ := by
  have hf : F p = none := I.fh.back hp
  refine ⟨I.grow (Ex.new hf) (Ex.new hp) I.fh.both fun a u h n _ => ?_, Ex.new hf, fun a u h q n => ?_, fun a u h => ⟨u, Ex.new hp _ _ h⟩⟩
  · rw [upd_ne (ne_of_none h hp)]
    exact n
  · have ne := ne_of_none h hp
    rw [upd_ne ne, upd_ne ne]
    exact ⟨h, q, n⟩
/-- a new object, owned by none yet -/
theorem SI.laidO (I : SI K mg c F H σ δ) {p : Addr} {o : HO} {d : D} (hp : H p = none) (t : Top K mg F o d) : SI K mg c F (upd H p o) σ δ ∧ Pd σ F H δ F (upd H p o) δ ∧ WOk K mg c F (upd H p o) σ δ (.ref p) (.o d) := by
  have hf : F p = none := I.fh.back hp
  refine ⟨I.grow (Ex.refl F) (Ex.new hp) (I.fh.mut hf) fun a u h n _ => n, ⟨Ex.refl F, fun a u h q n => ⟨Ex.new hp _ _ h, q, n⟩, fun a u h => ⟨u, Ex.new hp _ _ h⟩⟩, p, rfl, ⟨hf, o, upd_same, t⟩, I.new0 hp, I.noOw hp⟩
/-- what is owned by none becomes shared -/
theorem SI.share (I : SI K mg c F H σ δ) {d : D} (h : WOk K mg c F H σ δ v (.o d)) : ∃ F', SI K mg c F' H σ δ ∧ Ex F F' ∧ DR K mg F' v d ∧ (∀ a, v ≠ .ref a → F a = none → F' a = none) := by
  obtain ⟨a, rfl, ⟨n, o, ho, t⟩, h0, no⟩ := h
  have eF : Ex F (upd F a o) := Ex.new n
  refine ⟨upd F a o, I.grow eF (Ex.refl H) (fun b u hb => ?_) fun b u hb q z => ?_, eF, .ref upd_same (t.mono eF), fun b hb q => ?_⟩
  · by_cases e : b = a
    · subst e
      rw [upd_same] at hb
      cases hb
      exact ho
    · rw [upd_ne e] at hb
      exact I.fh _ _ hb
  · have e : b ≠ a := by
      rintro rfl
      rcases z with ⟨i, z⟩ | z
      · exact no i z
      · exact z h0
    rw [upd_ne e]
    exact q
  · rw [upd_ne (by rintro rfl; exact hb rfl)]
    exact q
theorem Ow.set_other {σ : L2.St} {δ : DS} {i j : Nat} {s : SV} {a : Addr} (hs : isOw s = false) (h : Ow σ (δ.set i s) j a) : Ow σ δ j a := by
  obtain ⟨h1, t, h2, h3⟩ := h
  by_cases e : i = j
  · subst e
    by_cases hl : i < δ.length
    · rw [List.getElem?_set_self hl] at h2
      cases h2
      rw [hs] at h3
      cases h3
    · rw [List.getElem?_eq_none (by rw [List.length_set]; omega)] at h2
      cases h2
  · rw [List.getElem?_set_ne e] at h2
    exact ⟨h1, t, h2, h3⟩
/-- what slot i owns becomes shared -/
theorem SI.freeze (I : SI K mg c F H σ δ) {i : Nat} {d : D} (e : δ[i]? = some (.ow d)) : ∃ a F', σ[i]? = some (some (.ref a)) ∧ SI K mg c F' H σ (δ.set i (.sh d)) ∧ Pd σ F H δ F' H (δ.set i (.sh d)) ∧ DR K mg F' (.ref a) d := by
  obtain ⟨x, hx, a, rfl, ⟨n, o, ho, t⟩, h0⟩ := I.sl _ _ e
  have eF : Ex F (upd F a o) := Ex.new n
  have hi : i < δ.length := (List.getElem?_eq_some_iff.mp e).1
  have oi : Ow σ δ i a := ⟨hx, _, e, rfl⟩
  have dr : DR K mg (upd F a o) (.ref a) d := .ref upd_same (t.mono eF)
  refine ⟨a, upd F a o, hx, ⟨I.ff.trans eF, fun b u hb => ?_, I.fr, fun b u hb hn => ?_, I.dm, by rw [List.length_set]; exact I.len, fun j s hj => ?_, fun j k b hj hk => I.nd j k b (hj.set_other rfl) (hk.set_other rfl)⟩, ⟨eF, fun b u hb q z => ⟨hb, ?_, fun j hj => z j (hj.set_other rfl)⟩, fun b u hb => ⟨u, hb⟩⟩, dr⟩
  · by_cases e : b = a
    · subst e
      rw [upd_same] at hb
      cases hb
      exact ho
    · rw [upd_ne e] at hb
      exact I.fh _ _ hb
  · rw [upd_ne (by rintro rfl; rw [h0] at hb; cases hb)]
    exact I.ft b u hb hn
  · by_cases ej : i = j
    · subst ej
      rw [List.getElem?_set_self hi] at hj
      cases hj
      exact ⟨_, hx, _, rfl, dr⟩
    · rw [List.getElem?_set_ne ej] at hj
      obtain ⟨x, hx', q⟩ := I.sl j s hj
      refine ⟨x, hx', q.move eF fun b u hb hn io ex => ⟨hb, ?_⟩⟩
      have : b ≠ a := by
        rintro rfl
        exact ej (I.nd i j b oi ⟨by rw [← ex]; exact hx', s, hj, io⟩)
      rw [upd_ne this]
      exact hn
  · rw [upd_ne (by rintro rfl; exact z i oi)]
    exact q
/-- what slot i owns is changed -/
theorem SI.write (I : SI K mg c F H σ δ) {i : Nat} {s s' : SV} {d d' : D} {a : Addr} {o : HO} (e : δ[i]? = some s) (k : (s = .ow d ∧ s' = .ow d') ∨ (s = .io d ∧ s' = .io d')) (ha : σ[i]? = some (some (.ref a))) (t : Top K mg F o d') :
    SI K mg c F (upd H a o) σ (δ.set i s') ∧ Pd σ F H δ F (upd H a o) (δ.set i s') := by
  have hi : i < δ.length := (List.getElem?_eq_some_iff.mp e).1
  have io : isOw s = true := by rcases k with ⟨rfl, _⟩ | ⟨rfl, _⟩ <;> rfl
  have io' : isOw s' = true := by rcases k with ⟨_, rfl⟩ | ⟨_, rfl⟩ <;> rfl
  have oi : Ow σ δ i a := ⟨ha, _, e, io⟩
  obtain ⟨hn, u0, hu0⟩ := I.ow oi
  have own : Own K mg F (upd H a o) a d' := ⟨hn, o, upd_same, t⟩
  have back : ∀ {j b}, Ow σ (δ.set i s') j b → Ow σ δ j b := fun {j b} h => by
    obtain ⟨h1, t, h2, h3⟩ := h
    by_cases ej : i = j
    · subst ej
      exact ⟨h1, s, e, io⟩
    · rw [List.getElem?_set_ne ej] at h2
      exact ⟨h1, t, h2, h3⟩
  refine ⟨⟨I.ff, I.fh.mut hn, fun b u hb q => ?_, I.ft, fun b u hb => ?_, by rw [List.length_set]; exact I.len, fun j t hj => ?_, fun j k b hj hk => I.nd j k b (back hj) (back hk)⟩, ⟨Ex.refl F, fun b u hb q z => ⟨?_, q, fun j hj => z j (back hj)⟩, fun b u hb => ?_⟩⟩
  · have : b ≠ a := by
      rintro rfl
      obtain ⟨x, hx, q2⟩ := I.sl _ _ e
      rw [ha] at hx
      obtain rfl := Option.some.inj hx
      rcases k with ⟨rfl, _⟩ | ⟨rfl, _⟩
      · obtain ⟨_, e1, _, h0⟩ := q2
        cases e1
        rw [h0] at hb
        cases hb
      · obtain ⟨_, e1, _, h0⟩ := q2
        cases e1
        exact q h0
    rw [upd_ne this]
    exact I.fr b u hb q
  · by_cases eb : b = a
    · exact ⟨o, by rw [eb, upd_same]⟩
    · rw [upd_ne eb]
      exact I.dm b u hb
  · by_cases ej : i = j
    · subst ej
      rw [List.getElem?_set_self hi] at hj
      cases hj
      obtain ⟨x, hx, q2⟩ := I.sl _ _ e
      rw [ha] at hx
      obtain rfl := Option.some.inj hx
      refine ⟨_, ha, ?_⟩
      rcases k with ⟨rfl, rfl⟩ | ⟨rfl, rfl⟩
      · obtain ⟨_, e1, _, h0⟩ := q2
        cases e1
        exact ⟨_, rfl, own, h0⟩
      · obtain ⟨_, e1, _, h0⟩ := q2
        cases e1
        exact ⟨_, rfl, own, h0⟩
    · rw [List.getElem?_set_ne ej] at hj
      obtain ⟨x, hx, q2⟩ := I.sl j t hj
      refine ⟨x, hx, q2.move (Ex.refl F) fun b u hb hn io ex => ⟨?_, hn⟩⟩
      have : b ≠ a := by
        rintro rfl
        exact ej (I.nd i j b oi ⟨by rw [← ex]; exact hx, t, hj, io⟩)
      rw [upd_ne this]
      exact hb
  · rw [upd_ne (by rintro rfl; exact z i oi)]
    exact hb
  · by_cases eb : b = a
    · exact ⟨o, by rw [eb, upd_same]⟩
    · exact ⟨u, by rw [upd_ne eb]; exact hb⟩
/-- a value is stored in slot j -/
def toS : W → Option SV
  | .s d => some (.sh d)
  | .o d => some (.ow d)
  | .b _ => none
def free (δ : DS) (j : Nat) : Bool := match δ[j]? with
  | some (.io _) => false
  | some _ => true
  | none => false
theorem SI.store (I : SI K mg c F H σ δ) {j : Nat} {s : SV} (h : WOk K mg c F H σ δ v w) (e : toS w = some s) (hf : free δ j = true) : SI K mg c F H (σ.set j (some v)) (δ.set j s) := by
  have hj : j < δ.length := by
    unfold free at hf
    split at hf
    · cases hf
    · rename_i h2
      exact (List.getElem?_eq_some_iff.mp h2).1
    · cases hf
  have hjs : j < σ.length := by rw [I.len]; exact hj
  have back : ∀ {i b}, i ≠ j → Ow (σ.set j (some v)) (δ.set j s) i b → Ow σ δ i b := fun {i b} ne ⟨h1, t, h2, h3⟩ => by
    rw [List.getElem?_set_ne (Ne.symm ne)] at h1 h2
    exact ⟨h1, t, h2, h3⟩
  have self : ∀ {b}, Ow (σ.set j (some v)) (δ.set j s) j b → v = .ref b ∧ ∃ d, w = .o d := fun {b} ⟨h1, t, h2, h3⟩ => by
    rw [List.getElem?_set_self hjs] at h1
    rw [List.getElem?_set_self hj] at h2
    obtain rfl := Option.some.inj h2
    refine ⟨Option.some.inj (Option.some.inj h1), ?_⟩
    cases w with
    | s d =>
      obtain rfl := Option.some.inj e
      cases h3
    | o d => exact ⟨d, rfl⟩
    | b i => cases e
  have apart : ∀ {i b}, i ≠ j → Ow (σ.set j (some v)) (δ.set j s) j b → Ow (σ.set j (some v)) (δ.set j s) i b → False := fun {i b} ne hj hi => by
    obtain ⟨rfl, d, rfl⟩ := self hj
    obtain ⟨a, ea, _, _, no⟩ := h
    cases ea
    exact no i (back ne hi)
  refine ⟨I.ff, I.fh, I.fr, I.ft, I.dm, by rw [List.length_set, List.length_set]; exact I.len, fun i t hi => ?_, fun i k b hi hk => ?_⟩
  · by_cases e2 : j = i
    · subst e2
      rw [List.getElem?_set_self hj] at hi
      obtain rfl := Option.some.inj hi
      refine ⟨some v, List.getElem?_set_self hjs, ?_⟩
      cases w with
      | s d =>
        obtain rfl := Option.some.inj e
        exact ⟨v, rfl, h⟩
      | o d =>
        obtain rfl := Option.some.inj e
        obtain ⟨a, rfl, o, h0, _⟩ := h
        exact ⟨a, rfl, o, h0⟩
      | b i => cases e
    · rw [List.getElem?_set_ne e2] at hi ⊢
      exact I.sl i t hi
  · by_cases e1 : i = j
    · by_cases e2 : k = j
      · rw [e1, e2]
      · subst e1
        exact (apart e2 hi hk).elim
    · by_cases e2 : k = j
      · subst e2
        exact (apart e1 hk hi).elim
      · exact I.nd i k b (back e1 hi) (back e2 hk)
end
end DL
set_option maxHeartbeats 2000000
namespace DL
open PySem PySem.Spec PyProof.Rows L2
abbrev DE := DS → Option (R W)
abbrev DT := DS → Option (R Bool)
abbrev DA := DS → Option (R (List W))
def bindR {α β : Type} (x : Option (R α)) (k : α → DS → Option (R β)) : Option (R β) :=
  match x with
  | some (.ok a δ) => k a δ
  | some (.ex x δ) => some (.ex x δ)
  | none => none
@[simp] theorem bindR_ok {α β : Type} {a : α} {δ : DS} {k : α → DS → Option (R β)} : bindR (some (.ok a δ)) k = k a δ := rfl
@[simp] theorem bindR_ex {α β : Type} {x : DX} {δ : DS} {k : α → DS → Option (R β)} : bindR (some (.ex x δ)) k = some (.ex x δ) := rfl
@[simp] theorem bindR_none {α β : Type} {k : α → DS → Option (R β)} : bindR none k = none := rfl
theorem bindR_some {α β : Type} {x : Option (R α)} {k : α → DS → Option (R β)} {r : R β} (h : bindR x k = some r) : (∃ a δ, x = some (.ok a δ) ∧ k a δ = some r) ∨ ∃ e δ, x = some (.ex e δ) ∧ r = .ex e δ := by
  unfold bindR at h
  split at h
  · exact .inl ⟨_, _, rfl, h⟩
  · exact .inr ⟨_, _, rfl, (Option.some.inj h).symm⟩
  · cases h
/-- how an operation answers: a value (a plain one, or a part of what is there), a new object, a new object that is shared at once -/
inductive RW where
  | v (d : D) | n (d : D) | t (d : D)
def RW.w : RW → W
  | .v d => .s d
  | .n d => .o d
  | .t d => .s d
section
variable (K : PySem.W.Frag) (mg : Str → Option Value)
def AftE (c : Cm) (F H : Hp) (σ : L2.St) (δ : DS) (Wx : WX) (Q : VK) : R W → Prop
  | .ok w δ' => ∀ v F' H', SI K mg c F' H' σ δ' → Pd σ F H δ F' H' δ' → WOk K mg c F' H' σ δ' v w → Nw H v w → Q v H'
  | .ex x δ' => ∀ cls dd F' H', SI K mg c F' H' σ δ' → Ex F F' → ExOk K mg F' H' cls dd x → Wx cls dd σ H'
def AftT (c : Cm) (F H : Hp) (σ : L2.St) (δ : DS) (Wx : WX) (Q : Bool → Hp → Prop) : R Bool → Prop
  | .ok b δ' => ∀ F' H', SI K mg c F' H' σ δ' → Pd σ F H δ F' H' δ' → Q b H'
  | .ex x δ' => ∀ cls dd F' H', SI K mg c F' H' σ δ' → Ex F F' → ExOk K mg F' H' cls dd x → Wx cls dd σ H'
inductive WsOk (c : Cm) (F H : Hp) (σ : L2.St) (δ : DS) : List V → List W → Prop
  | nil : WsOk c F H σ δ [] []
  | cons {v : V} {vs : List V} {w : W} {ws : List W} : WOk K mg c F H σ δ v w → WsOk c F H σ δ vs ws → WsOk c F H σ δ (v :: vs) (w :: ws)
def AftA (c : Cm) (F H : Hp) (σ : L2.St) (δ : DS) (Wx : WX) (Q : List V → Hp → Prop) : R (List W) → Prop
  | .ok ws δ' => ∀ vs F' H', SI K mg c F' H' σ δ' → Pd σ F H δ F' H' δ' → WsOk K mg c F' H' σ δ' vs ws → Q vs H'
  | .ex x δ' => ∀ cls dd F' H', SI K mg c F' H' σ δ' → Ex F F' → ExOk K mg F' H' cls dd x → Wx cls dd σ H'
/-- a data function as a reading -/
def TD (Wx : WX) (de : DE) : TE := fun σ H Q => ∃ c F δ r, SI K mg c F H σ δ ∧ de δ = some r ∧ AftE K mg c F H σ δ Wx Q r
def TTD (Wx : WX) (dt : DT) : TT := fun σ H Q => ∃ c F δ r, SI K mg c F H σ δ ∧ dt δ = some r ∧ AftT K mg c F H σ δ Wx Q r
def TAD (Wx : WX) (da : DA) : TA := fun σ H Q => ∃ c F δ r, SI K mg c F H σ δ ∧ da δ = some r ∧ AftA K mg c F H σ δ Wx Q r
def ResOk (F H : Hp) (Q : VK) : RW → Prop
  | .v d => ∀ v, DR K mg F v d → Q v H
  | .n d => ∀ p o, H p = none → Top K mg F o d → Q (.ref p) (upd H p o)
  | .t d => ∀ p o, H p = none → Top K mg F o d → Q (.ref p) (upd H p o)
/-- an operation on values by one on data -/
def Snd2 (r : R2) (f : D → D → Option RW) : Prop := ∀ F H v1 v2 d1 d2 w Q, Ex F H → View K mg F H v1 d1 → View K mg F H v2 d2 → f d1 d2 = some w → ResOk K mg F H Q w → r v1 v2 H Q
def Snd1 (r : V → Hp → VK → Prop) (f : D → Option RW) : Prop := ∀ F H v1 d1 w Q, Ex F H → View K mg F H v1 d1 → f d1 = some w → ResOk K mg F H Q w → r v1 H Q
inductive Views (F H : Hp) : List V → List D → Prop
  | nil : Views F H [] []
  | cons {v : V} {vs : List V} {d : D} {ds : List D} : View K mg F H v d → Views F H vs ds → Views F H (v :: vs) (d :: ds)
def SndN (r : List V → Hp → VK → Prop) (f : List D → Option RW) : Prop := ∀ F H vs ds w Q, Ex F H → Views K mg F H vs ds → f ds = some w → ResOk K mg F H Q w → r vs H Q
end
section
variable {K : PySem.W.Frag} {mg : Str → Option Value} {X : Cx} {Wx : WX} {e a b : Expr} {pos : Pos} {t t' : TE} {da db dc de : DE} {dt du : DT}
theorem PE.imp (h : PE X e t) (k : ∀ σ H Q, t' σ H Q → t σ H Q) : PE X e t' := ⟨fun pins s σ H Q I q => h.run pins s σ H Q I (k _ _ _ q)⟩
theorem PT.imp {t t' : TT} (h : PT X e t) (k : ∀ σ H Q, t' σ H Q → t σ H Q) : PT X e t' := ⟨fun pins s σ H Q I q => h.run pins s σ H Q I (k _ _ _ q)⟩
theorem PW.imp {t t' : TT} (h : PW X e t) (k : ∀ σ H Q, t' σ H Q → t σ H Q) : PW X e t' := ⟨fun wh pins s σ H Q I q => h.run wh pins s σ H Q I (k _ _ _ q)⟩
theorem PA.imp {es : List Expr} {t t' : TA} (h : PA X es t) (k : ∀ σ H Q, t' σ H Q → t σ H Q) : PA X es t' := ⟨fun pos pins s σ H Q I q => h.run pos pins s σ H Q I (k _ _ _ q)⟩
/-- how an operation's answer lies in the state -/
theorem SI.res {c : Cm} {F H : Hp} {σ : L2.St} {δ : DS} (I : SI K mg c F H σ δ) {Q : VK} {w : RW} (k : ∀ v F' H', SI K mg c F' H' σ δ → Pd σ F H δ F' H' δ → WOk K mg c F' H' σ δ v w.w → Nw H v w.w → Q v H') : ResOk K mg F H Q w := by
  cases w with
  | v d =>
    intro v h
    exact k v F H I Pd.refl h trivial
  | n d =>
    intro p o hp t
    obtain ⟨I', P, ok⟩ := I.laidO hp t
    exact k _ _ _ I' P ok fun a e => by cases e; exact hp
  | t d =>
    intro p o hp t
    obtain ⟨I', P⟩ := I.laidS (o := o) hp
    exact k _ _ _ I' P (.ref upd_same (t.mono P.f)) trivial
def dVar (i : Nat) : DE := fun δ => match δ[i]? with
  | some (.sh d) => some (.ok (.s d) δ)
  | some (.ow _) => some (.ok (.b i) δ)
  | some (.io _) => some (.ok (.b i) δ)
  | _ => none
/-- .. to be kept elsewhere: what the slot owns is shared from here on -/
def dVarF (i : Nat) : DE := fun δ => match δ[i]? with
  | some (.sh d) => some (.ok (.s d) δ)
  | some (.ow d) => some (.ok (.s d) (δ.set i (.sh d)))
  | _ => none
def dC (d : D) : DE := fun δ => some (.ok (.s d) δ)
theorem td_var {i : Nat} {σ : L2.St} {H : Hp} {Q : VK} (h : TD K mg Wx (dVar i) σ H Q) : tVar i σ H Q := by
  obtain ⟨c, F, δ, r, I, e, k⟩ := h
  unfold dVar at e
  split at e
  · rename_i d hd
    obtain rfl := Option.some.inj e
    obtain ⟨x, hx, v, rfl, q⟩ := I.sl _ _ hd
    exact ⟨v, hx, k v F H I Pd.refl q trivial⟩
  · rename_i d hd
    obtain rfl := Option.some.inj e
    obtain ⟨x, hx, a, rfl, q⟩ := I.sl _ _ hd
    exact ⟨.ref a, hx, k _ F H I Pd.refl hx trivial⟩
  · rename_i d hd
    obtain rfl := Option.some.inj e
    obtain ⟨x, hx, a, rfl, q⟩ := I.sl _ _ hd
    exact ⟨.ref a, hx, k _ F H I Pd.refl hx trivial⟩
  · cases e
theorem td_varF {i : Nat} {σ : L2.St} {H : Hp} {Q : VK} (h : TD K mg Wx (dVarF i) σ H Q) : tVar i σ H Q := by
  obtain ⟨c, F, δ, r, I, e, k⟩ := h
  unfold dVarF at e
  split at e
  · rename_i d hd
    obtain rfl := Option.some.inj e
    obtain ⟨x, hx, v, rfl, q⟩ := I.sl _ _ hd
    exact ⟨v, hx, k v F H I Pd.refl q trivial⟩
  · rename_i d hd
    obtain rfl := Option.some.inj e
    obtain ⟨a, F', hx, I', P, q⟩ := I.freeze hd
    exact ⟨.ref a, hx, k _ F' H I' P q trivial⟩
  · cases e
theorem td_c {v : V} {d : D} (hd : ∀ F, DR K mg F v d) {σ : L2.St} {H : Hp} {Q : VK} (h : TD K mg Wx (dC d) σ H Q) : tC v σ H Q := by
  obtain ⟨c, F, δ, r, I, e, k⟩ := h
  obtain rfl := Option.some.inj e
  exact k v F H I Pd.refl (hd F) trivial
theorem dv (i : Nat) {x : Str} {pos : Pos} (hN : X.N[i]? = some x := by rfl) (hv : Vis X.env.scope x := by first | exact Or.inl rfl | exact Or.inr (Or.inl rfl) | exact Or.inr (Or.inr rfl)) (hd : (x == ("__debug__" : Str)) = false := by decide)
    (hcd : (x == ("__classdict__" : Str)) = false := by decide) : PE X (.Name x pos) (TD K mg Wx (dVar i)) := PE.imp (pe_var hN hv hd hcd) fun _ _ _ => td_var
theorem dvF (i : Nat) {x : Str} {pos : Pos} (hN : X.N[i]? = some x := by rfl) (hv : Vis X.env.scope x := by first | exact Or.inl rfl | exact Or.inr (Or.inl rfl) | exact Or.inr (Or.inr rfl)) (hd : (x == ("__debug__" : Str)) = false := by decide)
    (hcd : (x == ("__classdict__" : Str)) = false := by decide) : PE X (.Name x pos) (TD K mg Wx (dVarF i)) := PE.imp (pe_var hN hv hd hcd) fun _ _ _ => td_varF
theorem d_int {i j pos} : PE X (.Constant (.int i) j pos) (TD K mg Wx (dC (.int i))) := PE.imp pe_int fun _ _ _ => td_c fun _ => .int i
theorem d_bl {i j pos} : PE X (.Constant (.bool i) j pos) (TD K mg Wx (dC (.bl i))) := PE.imp pe_bl fun _ _ _ => td_c fun _ => .bl i
theorem d_str {i j pos} : PE X (.Constant (.str i) j pos) (TD K mg Wx (dC (.str i))) := PE.imp pe_str fun _ _ _ => td_c fun _ => .str i
theorem d_non {j pos} : PE X (.Constant .none j pos) (TD K mg Wx (dC .non)) := PE.imp pe_non fun _ _ _ => td_c fun _ => .non
theorem d_gint {x : Str} {i : Int} {pos : Pos} (hg : Gl X x) (hm : ∃ u, X.mg x = some (.int i u)) (hd : (x == ("__debug__" : Str)) = false := by decide) : PE X (.Name x pos) (TD K mg Wx (dC (.int i))) := by
  obtain ⟨u, hm⟩ := hm
  exact PE.imp (pe_glob (v := .int i) hg hm ⟨u, rfl⟩ hd) fun _ _ _ => td_c fun _ => .int i
theorem d_gstr {x : Str} {i : Str} {pos : Pos} (hg : Gl X x) (hm : ∃ u, X.mg x = some (.str i u)) (hd : (x == ("__debug__" : Str)) = false := by decide) : PE X (.Name x pos) (TD K mg Wx (dC (.str i))) := by
  obtain ⟨u, hm⟩ := hm
  exact PE.imp (pe_glob (v := .str i) hg hm ⟨u, rfl⟩ hd) fun _ _ _ => td_c fun _ => .str i
def dSh (de : DE) : DE := fun δ => bindR (de δ) fun w δ1 => match w with
  | .s d => some (.ok (.s d) δ1)
  | .o d => some (.ok (.s d) δ1)
  | .b _ => none
theorem td_sh {σ : L2.St} {H : Hp} {Q : VK} (h : TD K mg Wx (dSh de) σ H Q) : TD K mg Wx de σ H Q := by
  obtain ⟨c, F, δ, r, I, e, k⟩ := h
  rcases bindR_some e with ⟨w, δ1, e1, e2⟩ | ⟨x, δ1, e1, rfl⟩
  · refine ⟨c, F, δ, _, I, e1, fun v F' H' I' P ok nw => ?_⟩
    cases w with
    | s d =>
      obtain rfl := Option.some.inj e2
      exact k v F' H' I' P ok nw
    | o d =>
      obtain rfl := Option.some.inj e2
      obtain ⟨F2, I2, eF, q, keep⟩ := I'.share ok
      refine k v F2 H' I2 ⟨P.f.trans eF, fun a o h n no => ?_, P.d⟩ q trivial
      obtain ⟨h1, n1, no1⟩ := P.h a o h n no
      refine ⟨h1, keep a ?_ n1, no1⟩
      intro ea
      rw [nw a ea] at h
      cases h
    | b i => cases e2
  · exact ⟨c, F, δ, _, I, e1, k⟩
theorem d_sh (h : PE X e (TD K mg Wx de)) : PE X e (TD K mg Wx (dSh de)) := PE.imp h fun _ _ _ => td_sh
def HX (K : PySem.W.Frag) (mg : Str → Option Value) (c : Cm) (F : Hp) (σ : L2.St) (Wx : WX) {β : Type} (r : R β) : Prop :=
  ∀ x δ1, r = .ex x δ1 → ∀ cls dd F' H', SI K mg c F' H' σ δ1 → Ex F F' → ExOk K mg F' H' cls dd x → Wx cls dd σ H'
theorem HX.aft {β : Type} {r : R β} {c : Cm} {F F1 : Hp} {σ : L2.St} (h : HX K mg c F σ Wx r) (e : Ex F F1) : HX K mg c F1 σ Wx r := fun x δ1 er cls dd F' H' I q => h x δ1 er cls dd F' H' I (e.trans q)
theorem TD.seq {β : Type} {kk : W → DS → Option (R β)} {c : Cm} {F H : Hp} {σ : L2.St} {δ : DS} {r : R β} {Q : VK} (I : SI K mg c F H σ δ) (e : bindR (de δ) kk = some r)
    (hx : HX K mg c F σ Wx r)
    (k : ∀ w δ1, kk w δ1 = some r → ∀ v F1 H1, SI K mg c F1 H1 σ δ1 → Pd σ F H δ F1 H1 δ1 → WOk K mg c F1 H1 σ δ1 v w → Nw H v w → Q v H1) : TD K mg Wx de σ H Q := by
  rcases bindR_some e with ⟨w, δ1, e1, e2⟩ | ⟨x, δ1, e1, rfl⟩
  · exact ⟨c, F, δ, _, I, e1, fun v F1 H1 I1 P1 ok nw => k w δ1 e2 v F1 H1 I1 P1 ok nw⟩
  · exact ⟨c, F, δ, _, I, e1, hx x δ1 rfl⟩
theorem TTD.seq {β : Type} {kk : Bool → DS → Option (R β)} {c : Cm} {F H : Hp} {σ : L2.St} {δ : DS} {r : R β} {Q : Bool → Hp → Prop} (I : SI K mg c F H σ δ) (e : bindR (dt δ) kk = some r)
    (hx : HX K mg c F σ Wx r)
    (k : ∀ w δ1, kk w δ1 = some r → ∀ F1 H1, SI K mg c F1 H1 σ δ1 → Pd σ F H δ F1 H1 δ1 → Q w H1) : TTD K mg Wx dt σ H Q := by
  rcases bindR_some e with ⟨w, δ1, e1, e2⟩ | ⟨x, δ1, e1, rfl⟩
  · exact ⟨c, F, δ, _, I, e1, fun F1 H1 I1 P1 => k w δ1 e2 F1 H1 I1 P1⟩
  · exact ⟨c, F, δ, _, I, e1, hx x δ1 rfl⟩
theorem TAD.seq {β : Type} {da : DA} {kk : List W → DS → Option (R β)} {c : Cm} {F H : Hp} {σ : L2.St} {δ : DS} {r : R β} {Q : List V → Hp → Prop} (I : SI K mg c F H σ δ) (e : bindR (da δ) kk = some r)
    (hx : HX K mg c F σ Wx r)
    (k : ∀ w δ1, kk w δ1 = some r → ∀ v F1 H1, SI K mg c F1 H1 σ δ1 → Pd σ F H δ F1 H1 δ1 → WsOk K mg c F1 H1 σ δ1 v w → Q v H1) : TAD K mg Wx da σ H Q := by
  rcases bindR_some e with ⟨w, δ1, e1, e2⟩ | ⟨x, δ1, e1, rfl⟩
  · exact ⟨c, F, δ, _, I, e1, fun v F1 H1 I1 P1 ok => k w δ1 e2 v F1 H1 I1 P1 ok⟩
  · exact ⟨c, F, δ, _, I, e1, hx x δ1 rfl⟩
theorem AftE.x {c : Cm} {F H : Hp} {σ : L2.St} {δ : DS} {r : R W} {Q : VK} (k : AftE K mg c F H σ δ Wx Q r) : HX K mg c F σ Wx r := fun x δ1 e => by
  subst e
  exact k
theorem AftT.x {c : Cm} {F H : Hp} {σ : L2.St} {δ : DS} {r : R Bool} {Q : Bool → Hp → Prop} (k : AftT K mg c F H σ δ Wx Q r) : HX K mg c F σ Wx r := fun x δ1 e => by
  subst e
  exact k
theorem AftA.x {c : Cm} {F H : Hp} {σ : L2.St} {δ : DS} {r : R (List W)} {Q : List V → Hp → Prop} (k : AftA K mg c F H σ δ Wx Q r) : HX K mg c F σ Wx r := fun x δ1 e => by
  subst e
  exact k
theorem WsOk.mono {c : Cm} {σ : L2.St} {F H F' H' : Hp} {δ δ' : DS} (p : Pd σ F H δ F' H' δ') : ∀ {vs : List V} {ws : List W}, WsOk K mg c F H σ δ vs ws → WsOk K mg c F' H' σ δ' vs ws
  | _, _, .nil => .nil
  | _, _, .cons h r => .cons (h.mono p) (WsOk.mono p r)
def ans (δ : DS) (x : Option RW) : Option (R W) := match x with
  | some w => some (.ok w.w δ)
  | none => none
theorem ans_some {δ : DS} {x : Option RW} {r : R W} (h : ans δ x = some r) : ∃ w, x = some w ∧ r = .ok w.w δ := by
  cases x with
  | none => cases h
  | some w => exact ⟨w, rfl, (Option.some.inj h).symm⟩
def with1 {α : Type} (x : Option α) (k : α → Option (R W)) : Option (R W) := match x with
  | some a => k a
  | none => none
theorem with1_some {α : Type} {x : Option α} {k : α → Option (R W)} {r : R W} (h : with1 x k = some r) : ∃ a, x = some a ∧ k a = some r := by
  cases x with
  | none => cases h
  | some a => exact ⟨a, rfl, h⟩
@[simp] theorem with1_s {α : Type} {a : α} {k : α → Option (R W)} : with1 (some a) k = k a := rfl
@[simp] theorem ans_s {δ : DS} {w : RW} : ans δ (some w) = some (.ok w.w δ) := rfl
def dOp (f : D → D → Option RW) (da db : DE) : DE := fun δ => bindR (da δ) fun w1 δ1 => bindR (db δ1) fun w2 δ2 => with1 (cont δ2 w1) fun d1 => with1 (cont δ2 w2) fun d2 => ans δ2 (f d1 d2)
theorem td_op {r : R2} {f : D → D → Option RW} (hr : Snd2 K mg r f) {σ : L2.St} {H : Hp} {Q : VK} (h : TD K mg Wx (dOp f da db) σ H Q) : tOp r (TD K mg Wx da) (TD K mg Wx db) σ H Q := by
  obtain ⟨c, F, δ, rr, I, e, k⟩ := h
  refine TD.seq I e k.x fun w1 δ1 e1 v1 F1 H1 I1 P1 ok1 nw1 => ?_
  refine TD.seq I1 e1 (k.x.aft P1.f) fun w2 δ2 e2 v2 F2 H2 I2 P2 ok2 nw2 => ?_
  obtain ⟨d1, c1, e3⟩ := with1_some e2
  obtain ⟨d2, c2, e4⟩ := with1_some e3
  obtain ⟨w, hf, rfl⟩ := ans_some e4
  have P := P1.trans P2
  exact hr F2 H2 v1 v2 d1 d2 w Q I2.fh (I2.view (ok1.mono P2) c1) (I2.view ok2 c2) hf (I2.res fun v F' H' I' P' ok nw => k v F' H' I' (P.trans P') ok (nw.back P))
theorem d_op {r : R2} {op : Operator} {f : D → D → Option RW} (hs : OpR X (binaryOp op) r) (hr : Snd2 K mg r f) (ha : PE X a (TD K mg Wx da)) (hb : PE X b (TD K mg Wx db)) : PE X (.BinOp a op b pos) (TD K mg Wx (dOp f da db)) :=
  PE.imp (pe_op hs ha hb) fun _ _ _ => td_op hr
theorem d_cmp {r : R2} {op : CmpOp} {f : D → D → Option RW} (hs : OpR X (compareOp op) r) (hr : Snd2 K mg r f) (ha : PE X a (TD K mg Wx da)) (hb : PE X b (TD K mg Wx db)) (hm : behindInMarks op b = false) : PE X (.Compare a [op] [b] pos) (TD K mg Wx (dOp f da db)) :=
  PE.imp (pe_cmpR hs ha hb hm) fun _ _ _ => td_op hr
theorem d_ix {r : R2} {f : D → D → Option RW} (hs : IxR X r) (hr : Snd2 K mg r f) (ha : PE X a (TD K mg Wx da)) (hb : PE X b (TD K mg Wx db)) (hp : PlainIx b) : PE X (.Subscript a b pos) (TD K mg Wx (dOp f da db)) :=
  PE.imp (pe_ix hs ha hb hp) fun _ _ _ => td_op hr
def dUn (f : D → Option RW) (da : DE) : DE := fun δ => bindR (da δ) fun w1 δ1 => with1 (cont δ1 w1) fun d1 => ans δ1 (f d1)
theorem td_un {r : V → Hp → VK → Prop} {f : D → Option RW} (hr : Snd1 K mg r f) {σ : L2.St} {H : Hp} {Q : VK} (h : TD K mg Wx (dUn f da) σ H Q) : TD K mg Wx da σ H (fun x H1 => r x H1 Q) := by
  obtain ⟨c, F, δ, rr, I, e, k⟩ := h
  refine TD.seq I e k.x fun w1 δ1 e1 v1 F1 H1 I1 P1 ok1 nw1 => ?_
  obtain ⟨d1, c1, e3⟩ := with1_some e1
  obtain ⟨w, hf, rfl⟩ := ans_some e3
  exact hr F1 H1 v1 d1 w Q I1.fh (I1.view ok1 c1) hf (I1.res fun v F' H' I' P' ok nw => k v F' H' I' (P1.trans P') ok (nw.back P1))
theorem d_un {r : V → Hp → VK → Prop} {op : UnaryOp} {f : D → Option RW} (hs : UnR X (unaryOp op) r) (hr : Snd1 K mg r f) (ha : PE X a (TD K mg Wx da)) : PE X (.UnaryOp op a pos) (TD K mg Wx (dUn f da)) :=
  PE.imp (pe_un hs ha) fun _ _ _ => td_un hr
def dNil : DA := fun δ => some (.ok [] δ)
def dCons (de : DE) (da : DA) : DA := fun δ => bindR (de δ) fun w δ1 => bindR (da δ1) fun ws δ2 => some (.ok (w :: ws) δ2)
theorem ta_nil {σ : L2.St} {H : Hp} {Q : List V → Hp → Prop} (h : TAD K mg Wx dNil σ H Q) : tNil σ H Q := by
  obtain ⟨c, F, δ, rr, I, e, k⟩ := h
  obtain rfl := Option.some.inj e
  exact k [] F H I Pd.refl .nil
theorem ta_cons {ta : DA} {σ : L2.St} {H : Hp} {Q : List V → Hp → Prop} (h : TAD K mg Wx (dCons de ta) σ H Q) : tCons (TD K mg Wx de) (TAD K mg Wx ta) σ H Q := by
  obtain ⟨c, F, δ, rr, I, e, k⟩ := h
  refine TD.seq I e k.x fun w1 δ1 e1 v1 F1 H1 I1 P1 ok1 nw1 => ?_
  refine TAD.seq I1 e1 (k.x.aft P1.f) fun ws δ2 e2 vs F2 H2 I2 P2 ok2 => ?_
  obtain rfl := Option.some.inj e2
  exact k _ F2 H2 I2 (P1.trans P2) (.cons (ok1.mono P2) ok2)
theorem d_nil : PA X [] (TAD K mg Wx dNil) := PA.imp pa_nil fun _ _ _ => ta_nil
theorem d_cons {es : List Expr} {ta : DA} (ha : PE X e (TD K mg Wx de)) (hr : PA X es (TAD K mg Wx ta)) (hs : starEach (e :: es) X.env = (false, eval e X.env) :: starEach es X.env := by rfl) : PA X (e :: es) (TAD K mg Wx (dCons de ta)) :=
  PA.imp (pa_cons ha hr hs) fun _ _ _ => ta_cons
def conts (δ : DS) : List W → Option (List D)
  | [] => some []
  | w :: ws => match cont δ w, conts δ ws with
    | some d, some ds => some (d :: ds)
    | _, _ => none
theorem SI.views {c : Cm} {F H : Hp} {σ : L2.St} {δ : DS} (I : SI K mg c F H σ δ) : ∀ {vs : List V} {ws : List W} {ds : List D}, WsOk K mg c F H σ δ vs ws → conts δ ws = some ds → Views K mg F H vs ds
  | _, _, _, .nil, e => by
    obtain rfl := Option.some.inj e
    exact .nil
  | _, _, ds, .cons (w := w) (ws := ws) h r, e => by
    unfold conts at e
    cases c1 : cont δ w with
    | none => rw [c1] at e; cases e
    | some d =>
      cases c2 : conts δ ws with
      | none => rw [c1, c2] at e; cases e
      | some ds' =>
        rw [c1, c2] at e
        obtain rfl := Option.some.inj e
        exact .cons (I.view h c1) (SI.views I r c2)
def dCB (f : List D → Option RW) (da : DA) : DE := fun δ => bindR (da δ) fun ws δ1 => with1 (conts δ1 ws) fun ds => ans δ1 (f ds)
theorem td_cb {r : List V → Hp → VK → Prop} {f : List D → Option RW} {da : DA} (hr : SndN K mg r f) {σ : L2.St} {H : Hp} {Q : VK} (h : TD K mg Wx (dCB f da) σ H Q) : tCB r (TAD K mg Wx da) σ H Q := by
  obtain ⟨c, F, δ, rr, I, e, k⟩ := h
  refine TAD.seq I e k.x fun ws δ1 e1 vs F1 H1 I1 P1 ok1 => ?_
  obtain ⟨ds, c1, e3⟩ := with1_some e1
  obtain ⟨w, hf, rfl⟩ := ans_some e3
  exact hr F1 H1 vs ds w Q I1.fh (I1.views ok1 c1) hf (I1.res fun v F' H' I' P' ok nw => k v F' H' I' (P1.trans P') ok (nw.back P1))
theorem d_callB {x : Str} {p : Pos} {es : List Expr} {id : String} {da : DA} {r : List V → Hp → VK → Prop} {f : List D → Option RW} (hc : CallR X (.builtin id) r) (hr : SndN K mg r f) (hg : Gl X x) (hm : X.mg x = none) (hv : bootBuiltins x = some (.builtin id)) (ha : PA X (e :: es) (TAD K mg Wx da)) (hn : x ≠ "__name__" := by decide) (hdb : (x == ("__debug__" : Str)) = false := by decide)
    (he : starEach (e :: es) X.env = (false, eval e X.env) :: starEach es X.env := by rfl) (hpl : (backTo pos (starEach es X.env)).any (·.1) = false := by rfl) :
    PE X (.Call (.Name x p) (e :: es) [] pos) (TD K mg Wx (dCB f da)) := PE.imp (pe_callB hc hg hm hv ha hn hdb he hpl) fun _ _ _ => td_cb hr
theorem d_callT {x : Str} {p : Pos} {es : List Expr} {T : String} {da : DA} {r : List V → Hp → VK → Prop} {f : List D → Option RW} (hc : CallR X (.type T) r) (hr : SndN K mg r f) (hg : Gl X x) (hm : X.mg x = none) (hv : bootBuiltins x = some (.type T)) (ha : PA X (e :: es) (TAD K mg Wx da)) (hn : x ≠ "__name__" := by decide) (hdb : (x == ("__debug__" : Str)) = false := by decide)
    (he : starEach (e :: es) X.env = (false, eval e X.env) :: starEach es X.env := by rfl) (hpl : (backTo pos (starEach es X.env)).any (·.1) = false := by rfl) :
    PE X (.Call (.Name x p) (e :: es) [] pos) (TD K mg Wx (dCB f da)) := PE.imp (pe_callTy hc hg hm hv ha hn hdb he hpl) fun _ _ _ => td_cb hr
def sAll : List W → Option (List D)
  | [] => some []
  | .s d :: ws => match sAll ws with
    | some ds => some (d :: ds)
    | none => none
  | _ :: _ => none
theorem WsOk.drs {c : Cm} {F H : Hp} {σ : L2.St} {δ : DS} : ∀ {vs : List V} {ws : List W} {ds : List D}, WsOk K mg c F H σ δ vs ws → sAll ws = some ds → DRs K mg F vs ds
  | _, _, _, .nil, e => by
    obtain rfl := Option.some.inj e
    exact .nil
  | _, _, ds, .cons (w := w) (ws := ws) h r, e => by
    cases w with
    | s d =>
      unfold sAll at e
      cases c2 : sAll ws with
      | none => rw [c2] at e; cases e
      | some ds' =>
        rw [c2] at e
        obtain rfl := Option.some.inj e
        exact .cons h (WsOk.drs r c2)
    | o d => cases e
    | b i => cases e
abbrev LN : Nat := 16777216
theorem sz_line {n : Nat} (h : n ≤ LN) : n ≤ sizeLine := by rw [sizeLine_eq]; exact h
theorem sz_line' {n : Nat} (h : n < LN) : n < sizeLine := by rw [sizeLine_eq]; exact h
def dTup (da : DA) : DE := fun δ => bindR (da δ) fun ws δ1 => with1 (sAll ws) fun ds => if ds.length ≤ LN then some (.ok (.s (.tup ds)) δ1) else none
def dLst (da : DA) : DE := fun δ => bindR (da δ) fun ws δ1 => with1 (sAll ws) fun ds => if ds.length ≤ LN then some (.ok (.o (.lst ds)) δ1) else none
theorem if_some {p : Prop} [Decidable p] {α : Type} {x : α} {r : α} (h : (if p then some x else none) = some r) : p ∧ r = x := by
  split at h
  · exact ⟨by assumption, (Option.some.inj h).symm⟩
  · cases h
theorem td_tup {da : DA} {σ : L2.St} {H : Hp} {Q : VK} (h : TD K mg Wx (dTup da) σ H Q) : tTup (TAD K mg Wx da) σ H Q := by
  obtain ⟨c, F, δ, rr, I, e, k⟩ := h
  refine TAD.seq I e k.x fun ws δ1 e1 vs F1 H1 I1 P1 ok1 => ?_
  obtain ⟨ds, c1, e3⟩ := with1_some e1
  obtain ⟨hl, rfl⟩ := if_some e3
  have q := ok1.drs c1
  refine ⟨by rw [q.length]; exact sz_line hl, fun p hp => ?_⟩
  exact I1.res (w := .t (.tup ds)) (Q := Q) (fun v F' H' I' P' ok nw => k v F' H' I' (P1.trans P') ok (nw.back P1)) p _ hp (.tup q)
theorem td_lst {da : DA} {σ : L2.St} {H : Hp} {Q : VK} (h : TD K mg Wx (dLst da) σ H Q) : tLst (TAD K mg Wx da) σ H Q := by
  obtain ⟨c, F, δ, rr, I, e, k⟩ := h
  refine TAD.seq I e k.x fun ws δ1 e1 vs F1 H1 I1 P1 ok1 => ?_
  obtain ⟨ds, c1, e3⟩ := with1_some e1
  obtain ⟨hl, rfl⟩ := if_some e3
  have q := ok1.drs c1
  refine ⟨by rw [q.length]; exact sz_line hl, fun p hp => ?_⟩
  exact I1.res (w := .n (.lst ds)) (Q := Q) (fun v F' H' I' P' ok nw => k v F' H' I' (P1.trans P') ok (nw.back P1)) p _ hp (.lst q)
theorem d_tup {es : List Expr} {x1} {da : DA} (h : PA X es (TAD K mg Wx da)) : PE X (.Tuple es x1 pos) (TD K mg Wx (dTup da)) := PE.imp (pe_tup h) fun _ _ _ => td_tup
theorem d_lst {es : List Expr} {da : DA} (h : PA X es (TAD K mg Wx da)) : PE X (.List es pos) (TD K mg Wx (dLst da)) := PE.imp (pe_lst h) fun _ _ _ => td_lst
abbrev DO := DS → Option (R (Option Int))
def dNoPart : DO := fun δ => some (.ok none δ)
def dPart (de : DE) : DO := fun δ => bindR (de δ) fun w δ1 => match w with
  | .s (.int i) => some (.ok (some i) δ1)
  | _ => none
def dSl (f : D → Option Int → Option Int → Option RW) (de : DE) (dl dh : DO) : DE := fun δ => bindR (de δ) fun w δ1 => bindR (dl δ1) fun lo δ2 => bindR (dh δ2) fun hi δ3 => with1 (cont δ3 w) fun d => ans δ3 (f d lo hi)
def AftO (K : PySem.W.Frag) (mg : Str → Option Value) (c : Cm) (F H : Hp) (σ : L2.St) (δ : DS) (Wx : WX) (Q : Option Int → Hp → Prop) : R (Option Int) → Prop
  | .ok b δ' => ∀ F' H', SI K mg c F' H' σ δ' → Pd σ F H δ F' H' δ' → Q b H'
  | .ex x δ' => ∀ cls dd F' H', SI K mg c F' H' σ δ' → Ex F F' → ExOk K mg F' H' cls dd x → Wx cls dd σ H'
def TOD (K : PySem.W.Frag) (mg : Str → Option Value) (Wx : WX) (dt : DO) : TO := fun σ H Q => ∃ c F δ r, SI K mg c F H σ δ ∧ dt δ = some r ∧ AftO K mg c F H σ δ Wx Q r
theorem TOD.seq {β : Type} {dt : DO} {kk : Option Int → DS → Option (R β)} {c : Cm} {F H : Hp} {σ : L2.St} {δ : DS} {r : R β} {Q : Option Int → Hp → Prop} (I : SI K mg c F H σ δ) (e : bindR (dt δ) kk = some r)
    (hx : HX K mg c F σ Wx r)
    (k : ∀ w δ1, kk w δ1 = some r → ∀ F1 H1, SI K mg c F1 H1 σ δ1 → Pd σ F H δ F1 H1 δ1 → Q w H1) : TOD K mg Wx dt σ H Q := by
  rcases bindR_some e with ⟨w, δ1, e1, e2⟩ | ⟨x, δ1, e1, rfl⟩
  · exact ⟨c, F, δ, _, I, e1, fun F1 H1 I1 P1 => k w δ1 e2 F1 H1 I1 P1⟩
  · exact ⟨c, F, δ, _, I, e1, hx x δ1 rfl⟩
theorem PO.imp {o : Option Expr} {t t' : TO} (h : PO X o t) (k : ∀ σ H Q, t' σ H Q → t σ H Q) : PO X o t' := by
  first
    | exact ⟨fun pins s σ H Q I q => h.run pins s σ H Q I (k _ _ _ q)⟩
    | exact fun pins s σ H Q I q => h pins s σ H Q I (k _ _ _ q)
theorem d_noPart : PO X none (TOD K mg Wx dNoPart) := PO.imp po_none fun σ H Q h => by
  obtain ⟨c, F, δ, rr, I, e, k⟩ := h
  obtain rfl := Option.some.inj e
  exact k F H I Pd.refl
theorem d_part (h : PE X e (TD K mg Wx de)) : PO X (some e) (TOD K mg Wx (dPart de)) := PO.imp (po_some h) fun σ H Q h => by
  obtain ⟨c, F, δ, rr, I, e, k⟩ := h
  refine TD.seq (r := rr) I e (by intro x δ1 e; subst e; exact k) fun w1 δ1 e1 v1 F1 H1 I1 P1 ok1 nw1 => ?_
  split at e1
  · rename_i i
    obtain rfl := Option.some.inj e1
    exact ⟨i, DR.intI ok1, k F1 H1 I1 P1⟩
  · cases e1
def SndS (K : PySem.W.Frag) (mg : Str → Option Value) (r : V → Option Int → Option Int → Hp → VK → Prop) (f : D → Option Int → Option Int → Option RW) : Prop :=
  ∀ F H v1 d1 lo hi w Q, Ex F H → View K mg F H v1 d1 → f d1 lo hi = some w → ResOk K mg F H Q w → r v1 lo hi H Q
theorem td_sl {r : V → Option Int → Option Int → Hp → VK → Prop} {f : D → Option Int → Option Int → Option RW} {dl dh : DO} (hr : SndS K mg r f) {σ : L2.St} {H : Hp} {Q : VK} (h : TD K mg Wx (dSl f de dl dh) σ H Q) : tSl r (TD K mg Wx de) (TOD K mg Wx dl) (TOD K mg Wx dh) σ H Q := by
  obtain ⟨c, F, δ, rr, I, e, k⟩ := h
  refine TD.seq I e k.x fun w1 δ1 e1 v1 F1 H1 I1 P1 ok1 nw1 => ?_
  refine TOD.seq I1 e1 (k.x.aft P1.f) fun lo δ2 e2 F2 H2 I2 P2 => ?_
  refine TOD.seq I2 e2 (k.x.aft (P1.trans P2).f) fun hi δ3 e3 F3 H3 I3 P3 => ?_
  obtain ⟨d1, c1, e4⟩ := with1_some e3
  obtain ⟨w, hf, rfl⟩ := ans_some e4
  have P := (P1.trans P2).trans P3
  exact hr F3 H3 v1 d1 lo hi w Q I3.fh (I3.view ((ok1.mono P2).mono P3) c1) hf (I3.res fun v F' H' I' P' ok nw => k v F' H' I' (P.trans P') ok (nw.back P))
theorem d_sl {lo hi : Option Expr} {p2 : Pos} {r : V → Option Int → Option Int → Hp → VK → Prop} {f : D → Option Int → Option Int → Option RW} {dl dh : DO} (hs : SlR X r) (hr : SndS K mg r f) (he : PE X e (TD K mg Wx de)) (hl : PO X lo (TOD K mg Wx dl)) (hu : PO X hi (TOD K mg Wx dh)) :
    PE X (.Subscript e (.Slice lo hi none p2) pos) (TD K mg Wx (dSl f de dl dh)) := PE.imp (pe_slice hs he hl hu) fun _ _ _ => td_sl hr
def tyD : D → String
  | .str _ => "str"
  | .int _ => "int"
  | .lst _ => "list"
  | .dk _ => "dict"
  | .dt _ => "dict"
  | _ => ""
theorem tyD_ok {F H : Hp} {v : V} {d : D} {T : String} (h : View K mg F H v d) (e : tyD d = T) (hT : T ≠ "") : tyV K T v H := by
  subst e
  cases d with
  | str s =>
    obtain rfl := DR.strI (View.dr h rfl)
    exact rfl
  | int s =>
    obtain rfl := DR.intI (View.dr h rfl)
    exact rfl
  | lst ds =>
    obtain ⟨a, xs, rfl, h1, q⟩ := h.lstI
    exact .inl ⟨rfl, xs, .inl (.inl h1)⟩
  | dk ds =>
    obtain ⟨a, xs, rfl, h1, q⟩ := h.dkI
    exact .inr (.inr (.inl ⟨rfl, .inl ⟨xs, h1⟩⟩))
  | dt ds =>
    obtain ⟨a, xs, rfl, h1, q⟩ := h.dtI
    exact .inr (.inr (.inl ⟨rfl, .inr ⟨xs, h1⟩⟩))
  | _ => exact absurd rfl hT
def dBM (T : String) (f : D → List D → Option RW) (de : DE) (da : DA) : DE := fun δ => bindR (de δ) fun w δ1 => with1 (cont δ1 w) fun d0 => if tyD d0 = T then
  bindR (da δ1) fun ws δ2 => with1 (cont δ2 w) fun d => with1 (conts δ2 ws) fun ds => ans δ2 (f d ds) else none
def SndM (K : PySem.W.Frag) (mg : Str → Option Value) (r : V → List V → Hp → VK → Prop) (f : D → List D → Option RW) : Prop :=
  ∀ F H v d vs ds w Q, Ex F H → View K mg F H v d → Views K mg F H vs ds → f d ds = some w → ResOk K mg F H Q w → r v vs H Q
theorem ite_some {p : Prop} [Decidable p] {α : Type} {x : Option α} {r : α} (h : (if p then x else none) = some r) : p ∧ x = some r := by
  split at h
  · exact ⟨by assumption, h⟩
  · cases h
theorem td_bm {T : String} {r : V → List V → Hp → VK → Prop} {f : D → List D → Option RW} {da : DA} (hT : T ≠ "") (hr : SndM K mg r f) {σ : L2.St} {H : Hp} {Q : VK} (h : TD K mg Wx (dBM T f de da) σ H Q) : tBM K T r (TD K mg Wx de) (TAD K mg Wx da) σ H Q := by
  obtain ⟨c, F, δ, rr, I, e, k⟩ := h
  refine TD.seq I e k.x fun w1 δ1 e1 v1 F1 H1 I1 P1 ok1 nw1 => ?_
  obtain ⟨d0, c0, e2⟩ := with1_some e1
  obtain ⟨ht, e2⟩ := ite_some e2
  refine ⟨tyD_ok (I1.view ok1 c0) ht hT, ?_⟩
  refine TAD.seq I1 e2 (k.x.aft P1.f) fun ws δ2 e3 vs F2 H2 I2 P2 ok2 => ?_
  obtain ⟨d, c1, e4⟩ := with1_some e3
  obtain ⟨ds, c2, e5⟩ := with1_some e4
  obtain ⟨w, hf, rfl⟩ := ans_some e5
  have P := P1.trans P2
  exact hr F2 H2 v1 d vs ds w Q I2.fh (I2.view (ok1.mono P2) c1) (I2.views ok2 c2) hf (I2.res fun v F' H' I' P' ok nw => k v F' H' I' (P.trans P') ok (nw.back P))
theorem d_bm {o : Expr} {es : List Expr} {name : Str} {apos cpos : Pos} {T id : String} {r : V → List V → Hp → VK → Prop} {f : D → List D → Option RW} {da : DA} (hK : X.K = K) (hr : SndM K mg r f) (pa : PlainAttrs T) (slot : Slot T name id) (hty : typeOf (.builtin id) = pure (.type "method_descriptor")) (hm : MtR X id r) (ho : PE X o (TD K mg Wx de)) (ha : PA X (e :: es) (TAD K mg Wx da)) (hT : T ≠ "" := by decide)
    (hbase : attributeBase o name X.env (eval o X.env) = eval o X.env := by rfl)
    (hfew : ((backTo cpos (starEach (e :: es) X.env)).all (fun x => !x.1) && (backToKw cpos (keywordEach [] X.env)).all (fun x => x.1.isSome)
      && decide ((e :: es).length + ([] : List Keyword).length + (if ([] : List Keyword).isEmpty then 0 else 1) < 30)) = true := by rfl)
    (hline : (apos.endLine == cpos.line) = true := by rfl) (hs : starEach (e :: es) X.env = (false, eval e X.env) :: starEach es X.env := by rfl) (hplain : (backTo cpos (starEach es X.env)).any (·.1) = false := by rfl) :
    PE X (.Call (.Attribute o name apos) (e :: es) [] cpos) (TD K mg Wx (dBM T f de da)) := by
  subst hK
  exact PE.imp (pe_bm pa slot hty hm ho ha hbase hfew hline hs hplain) fun _ _ _ => td_bm hT hr
def slotD (δ : DS) (i : Nat) : Option D := match δ[i]? with
  | some (.ow d) => some d
  | some (.io d) => some d
  | _ => none
def wr (δ : DS) (i : Nat) (d : D) : DS := match δ[i]? with
  | some (.ow _) => δ.set i (.ow d)
  | some (.io _) => δ.set i (.io d)
  | _ => δ
theorem slotD_some {δ : DS} {i : Nat} {d : D} (h : slotD δ i = some d) : δ[i]? = some (.ow d) ∨ δ[i]? = some (.io d) := by
  unfold slotD at h
  split at h
  · obtain rfl := Option.some.inj h
    exact .inl (by assumption)
  · obtain rfl := Option.some.inj h
    exact .inr (by assumption)
  · cases h
theorem SI.wrote {c : Cm} {F H : Hp} {σ : L2.St} {δ : DS} (I : SI K mg c F H σ δ) {i : Nat} {d d' : D} {a : Addr} {o : HO} (e : slotD δ i = some d) (ha : σ[i]? = some (some (.ref a))) (t : Top K mg F o d') :
    SI K mg c F (upd H a o) σ (wr δ i d') ∧ Pd σ F H δ F (upd H a o) (wr δ i d') := by
  rcases slotD_some e with h | h
  · have := I.write h (.inl ⟨rfl, rfl⟩) ha t (s' := .ow d')
    unfold DL.wr
    rw [h]
    exact this
  · have := I.write h (.inr ⟨rfl, rfl⟩) ha t (s' := .io d')
    unfold DL.wr
    rw [h]
    exact this
/-- slot i's own thing, changed: f gives the new thing and the answer -/
def dMut (T : String) (f : D → List D → Option (D × D)) (i : Nat) (da : DA) : DE := fun δ => with1 (slotD δ i) fun d0 => if tyD d0 = T then
  bindR (da δ) fun ws δ1 => with1 (slotD δ1 i) fun d => with1 (sAll ws) fun ds => with1 (f d ds) fun p => some (.ok (.s p.2) (wr δ1 i p.1)) else none
def SndW (K : PySem.W.Frag) (mg : Str → Option Value) (r : V → List V → Hp → VK → Prop) (f : D → List D → Option (D × D)) : Prop :=
  ∀ F H a o d vs ds p (Q : VK), Ex F H → H a = some o → Top K mg F o d → DRs K mg F vs ds → f d ds = some p → (∀ v o', Top K mg F o' p.1 → DR K mg F v p.2 → Q v (upd H a o')) → r (.ref a) vs H Q
theorem td_mut {T : String} {r : V → List V → Hp → VK → Prop} {f : D → List D → Option (D × D)} {i : Nat} {da : DA} (hT : T ≠ "") (hr : SndW K mg r f) {σ : L2.St} {H : Hp} {Q : VK} (h : TD K mg Wx (dMut T f i da) σ H Q) : tBM K T r (tVar i) (TAD K mg Wx da) σ H Q := by
  obtain ⟨c, F, δ, rr, I, e, k⟩ := h
  obtain ⟨d0, c0, e1⟩ := with1_some e
  obtain ⟨ht, e2⟩ := ite_some e1
  have h0 := slotD_some c0
  obtain ⟨a, hx⟩ : ∃ a, σ[i]? = some (some (.ref a)) := by
    rcases h0 with h0 | h0
    · obtain ⟨x, hx, a, rfl, _⟩ := I.sl _ _ h0
      exact ⟨a, hx⟩
    · obtain ⟨x, hx, a, rfl, _⟩ := I.sl _ _ h0
      exact ⟨a, hx⟩
  obtain ⟨a', ea, ⟨n0, o0, ho0, t0⟩, _⟩ := I.owns hx h0
  cases ea
  have hv : heavy d0 = true ∨ heavy d0 = false := by cases heavy d0 <;> simp
  refine ⟨_, hx, ?_, ?_⟩
  · have hv : heavy d0 = true := by
      cases d0 with
      | lst => rfl
      | dk => rfl
      | dt => rfl
      | str s => cases t0
      | int s => cases t0
      | _ => exact absurd ht (Ne.symm hT)
    exact tyD_ok (View.of_top hv ho0 t0) ht hT
  · refine TAD.seq I e2 k.x fun ws δ1 e3 vs F1 H1 I1 P1 ok1 => ?_
    obtain ⟨d, c1, e4⟩ := with1_some e3
    obtain ⟨ds, c2, e5⟩ := with1_some e4
    obtain ⟨p, hf, e6⟩ := with1_some e5
    obtain rfl := Option.some.inj e6
    obtain ⟨a', ea, ⟨n1, o1, ho1, t1⟩, _⟩ := I1.owns hx (slotD_some c1)
    cases ea
    refine hr F1 H1 a o1 d vs ds p Q I1.fh ho1 t1 (ok1.drs c2) hf fun v o' t' q => ?_
    obtain ⟨I2, P2⟩ := I1.wrote c1 hx t'
    exact k v F1 _ I2 (P1.trans P2) q trivial
theorem d_mut {es : List Expr} {x : Str} {i : Nat} {xp : Pos} {name : Str} {apos cpos : Pos} {T id : String} {r : V → List V → Hp → VK → Prop} {f : D → List D → Option (D × D)} {da : DA} (hK : X.K = K) (hr : SndW K mg r f) (pa : PlainAttrs T) (slot : Slot T name id) (hty : typeOf (.builtin id) = pure (.type "method_descriptor")) (hm : MtR X id r) (ho : PE X (.Name x xp) (tVar i)) (ha : PA X (e :: es) (TAD K mg Wx da)) (hT : T ≠ "" := by decide)
    (hbase : attributeBase (.Name x xp) name X.env (eval (.Name x xp) X.env) = eval (.Name x xp) X.env := by rfl)
    (hfew : ((backTo cpos (starEach (e :: es) X.env)).all (fun x => !x.1) && (backToKw cpos (keywordEach [] X.env)).all (fun x => x.1.isSome)
      && decide ((e :: es).length + ([] : List Keyword).length + (if ([] : List Keyword).isEmpty then 0 else 1) < 30)) = true := by rfl)
    (hline : (apos.endLine == cpos.line) = true := by rfl) (hs : starEach (e :: es) X.env = (false, eval e X.env) :: starEach es X.env := by rfl) (hplain : (backTo cpos (starEach es X.env)).any (·.1) = false := by rfl) :
    PE X (.Call (.Attribute (.Name x xp) name apos) (e :: es) [] cpos) (TD K mg Wx (dMut T f i da)) := by
  subst hK
  exact PE.imp (pe_bm pa slot hty hm ho ha hbase hfew hline hs hplain) fun _ _ _ => td_mut hT hr
def valD {κ : Type} [DecidableEq κ] : List (κ × D) → κ → Option D
  | [], _ => none
  | (k, d) :: r, q => if k = q then some d else valD r q
/-- the key that a datum is -/
def keyOf : D → Option Key
  | .int i => some (.inl i)
  | .str s => some (.inr s)
  | _ => none
def keysOf : List D → Option (List Key)
  | [] => some []
  | d :: ds => match keyOf d, keysOf ds with
    | some k, some ks => some (k :: ks)
    | _, _ => none
/-- d[k]: none where there is no answer at all; some none where the key is not there -/
def lookD : D → D → Option (Option D)
  | .dk kvs, k => match keyOf k with
    | some q => some (valD kvs q)
    | none => none
  | .dt kvs, .tup ks => match keysOf ks with
    | some q => some (valD kvs q)
    | none => none
  | _, _ => none
def dTest (de : DE) : DT := fun δ => bindR (de δ) fun w δ1 => match w with
  | .s (.bl b) => some (.ok b δ1)
  | _ => none
theorem tt_val {σ : L2.St} {H : Hp} {Q : Bool → Hp → Prop} (h : TTD K mg Wx (dTest de) σ H Q) : TD K mg Wx de σ H fun x H1 => ∃ k, x = .bl k ∧ Q k H1 := by
  obtain ⟨c, F, δ, rr, I, e, k⟩ := h
  refine TD.seq I e k.x fun w1 δ1 e1 v1 F1 H1 I1 P1 ok1 nw1 => ?_
  split at e1
  · obtain rfl := Option.some.inj e1
    exact ⟨_, DR.blI ok1, k F1 H1 I1 P1⟩
  · cases e1
theorem d_tval (h : PE X e (TD K mg Wx de)) (he : ∀ whole, isTrue e X.env whole = (do let v ← whole; standAt e.pos; holding [v] (truthy v)) := by intro _; rfl) : PT X e (TTD K mg Wx (dTest de)) := PT.imp (pt_val h he) fun _ _ _ => tt_val
theorem d_tcmp {r : R2} {op : CmpOp} {f : D → D → Option RW} (hs : OpR X (compareOp op) r) (hr : Snd2 K mg r f) (ha : PE X a (TD K mg Wx da)) (hb : PE X b (TD K mg Wx db)) (hm : behindInMarks op b = false) : PT X (.Compare a [op] [b] pos) (TTD K mg Wx (dTest (dOp f da db))) :=
  PT.imp (pt_cmpR hs ha hb hm) fun _ _ _ h => td_op hr (Q := fun x H1 => ∃ k, x = .bl k ∧ _) (tt_val h)
def dAnd (dt du : DT) : DT := fun δ => bindR (dt δ) fun b δ1 => if b = true then du δ1 else some (.ok false δ1)
def dOr (dt du : DT) : DT := fun δ => bindR (dt δ) fun b δ1 => if b = true then some (.ok true δ1) else du δ1
def dNot (dt : DT) : DT := fun δ => bindR (dt δ) fun b δ1 => some (.ok (!b) δ1)
theorem AftT.after {c : Cm} {F H F1 H1 : Hp} {σ : L2.St} {δ δ1 : DS} {r : R Bool} {Q : Bool → Hp → Prop} (P : Pd σ F H δ F1 H1 δ1) (k : AftT K mg c F H σ δ Wx Q r) : AftT K mg c F1 H1 σ δ1 Wx Q r := by
  cases r with
  | ok b δ' => exact fun F' H' I' P' => k F' H' I' (P.trans P')
  | ex x δ' => exact fun cls dd F' H' I' e => k cls dd F' H' I' (P.f.trans e)
theorem AftE.after {c : Cm} {F H F1 H1 : Hp} {σ : L2.St} {δ δ1 : DS} {r : R W} {Q : VK} (P : Pd σ F H δ F1 H1 δ1) (k : AftE K mg c F H σ δ Wx Q r) : AftE K mg c F1 H1 σ δ1 Wx Q r := by
  cases r with
  | ok b δ' => exact fun v F' H' I' P' ok nw => k v F' H' I' (P.trans P') ok (nw.back P)
  | ex x δ' => exact fun cls dd F' H' I' e => k cls dd F' H' I' (P.f.trans e)
theorem tt_and {σ : L2.St} {H : Hp} {Q : Bool → Hp → Prop} (h : TTD K mg Wx (dAnd dt du) σ H Q) : tAnd (TTD K mg Wx dt) (TTD K mg Wx du) σ H Q := by
  obtain ⟨c, F, δ, rr, I, e, k⟩ := h
  refine TTD.seq I e k.x fun b δ1 e1 F1 H1 I1 P1 => ?_
  cases b with
  | true =>
    rw [if_pos rfl] at e1 ⊢
    exact ⟨c, F1, δ1, rr, I1, e1, k.after P1⟩
  | false =>
    rw [if_neg Bool.false_ne_true] at e1 ⊢
    obtain rfl := Option.some.inj e1
    exact k F1 H1 I1 P1
theorem tt_or {σ : L2.St} {H : Hp} {Q : Bool → Hp → Prop} (h : TTD K mg Wx (dOr dt du) σ H Q) : tOr (TTD K mg Wx dt) (TTD K mg Wx du) σ H Q := by
  obtain ⟨c, F, δ, rr, I, e, k⟩ := h
  refine TTD.seq I e k.x fun b δ1 e1 F1 H1 I1 P1 => ?_
  cases b with
  | true =>
    rw [if_pos rfl] at e1 ⊢
    obtain rfl := Option.some.inj e1
    exact k F1 H1 I1 P1
  | false =>
    rw [if_neg Bool.false_ne_true] at e1 ⊢
    exact ⟨c, F1, δ1, rr, I1, e1, k.after P1⟩
theorem tt_not {σ : L2.St} {H : Hp} {Q : Bool → Hp → Prop} (h : TTD K mg Wx (dNot dt) σ H Q) : tNot (TTD K mg Wx dt) σ H Q := by
  obtain ⟨c, F, δ, rr, I, e, k⟩ := h
  refine TTD.seq I e k.x fun b δ1 e1 F1 H1 I1 P1 => ?_
  obtain rfl := Option.some.inj e1
  exact k F1 H1 I1 P1
theorem d_and {rest : List Expr} (ha : PT X a (TTD K mg Wx dt)) (hb : PW X (.BoolOp .And (b :: rest) pos) (TTD K mg Wx du)) : PW X (.BoolOp .And (a :: b :: rest) pos) (TTD K mg Wx (dAnd dt du)) := PW.imp (pw_and ha hb) fun _ _ _ => tt_and
theorem d_or {rest : List Expr} (ha : PT X a (TTD K mg Wx dt)) (hb : PW X (.BoolOp .Or (b :: rest) pos) (TTD K mg Wx du)) : PW X (.BoolOp .Or (a :: b :: rest) pos) (TTD K mg Wx (dOr dt du)) := PW.imp (pw_or ha hb) fun _ _ _ => tt_or
theorem d_not (ha : PT X a (TTD K mg Wx dt)) : PT X (.UnaryOp .Not a pos) (TTD K mg Wx (dNot dt)) := PT.imp (pt_not ha) fun _ _ _ => tt_not
/-- .. as values -/
def dAndV (da db : DE) : DE := fun δ => bindR (da δ) fun w δ1 => match w with
  | .s (.bl b) => if b = true then db δ1 else some (.ok (.s (.bl false)) δ1)
  | _ => none
def dOrV (da db : DE) : DE := fun δ => bindR (da δ) fun w δ1 => match w with
  | .s (.bl b) => if b = true then some (.ok (.s (.bl true)) δ1) else db δ1
  | _ => none
def dNotV (da : DE) : DE := fun δ => bindR (da δ) fun w δ1 => match w with
  | .s (.bl b) => some (.ok (.s (.bl (!b))) δ1)
  | _ => none
theorem d_andV {rest : List Expr} (ha : PE X a (TD K mg Wx da)) (hb : PE X (.BoolOp .And (b :: rest) pos) (TD K mg Wx db)) : PE X (.BoolOp .And (a :: b :: rest) pos) (TD K mg Wx (dAndV da db)) := PE.imp (pe_and ha hb) fun σ H Q h => by
  obtain ⟨c, F, δ, rr, I, e, k⟩ := h
  refine TD.seq I e k.x fun w1 δ1 e1 v1 F1 H1 I1 P1 ok1 nw1 => ?_
  split at e1
  · rename_i b
    refine ⟨b, DR.blI ok1, ?_⟩
    cases b with
    | true =>
      rw [if_pos rfl] at e1 ⊢
      exact ⟨c, F1, δ1, rr, I1, e1, k.after P1⟩
    | false =>
      rw [if_neg Bool.false_ne_true] at e1 ⊢
      obtain rfl := Option.some.inj e1
      exact k _ F1 H1 I1 P1 (.bl false) trivial
  · cases e1
theorem d_orV {rest : List Expr} (ha : PE X a (TD K mg Wx da)) (hb : PE X (.BoolOp .Or (b :: rest) pos) (TD K mg Wx db)) : PE X (.BoolOp .Or (a :: b :: rest) pos) (TD K mg Wx (dOrV da db)) := PE.imp (pe_or ha hb) fun σ H Q h => by
  obtain ⟨c, F, δ, rr, I, e, k⟩ := h
  refine TD.seq I e k.x fun w1 δ1 e1 v1 F1 H1 I1 P1 ok1 nw1 => ?_
  split at e1
  · rename_i b
    refine ⟨b, DR.blI ok1, ?_⟩
    cases b with
    | true =>
      rw [if_pos rfl] at e1 ⊢
      obtain rfl := Option.some.inj e1
      exact k _ F1 H1 I1 P1 (.bl true) trivial
    | false =>
      rw [if_neg Bool.false_ne_true] at e1 ⊢
      exact ⟨c, F1, δ1, rr, I1, e1, k.after P1⟩
  · cases e1
theorem d_notV (ha : PE X a (TD K mg Wx da)) : PE X (.UnaryOp .Not a pos) (TD K mg Wx (dNotV da)) := PE.imp (pe_not ha) fun σ H Q h => by
  obtain ⟨c, F, δ, rr, I, e, k⟩ := h
  refine TD.seq I e k.x fun w1 δ1 e1 v1 F1 H1 I1 P1 ok1 nw1 => ?_
  split at e1
  · rename_i b
    obtain rfl := Option.some.inj e1
    exact ⟨b, DR.blI ok1, k _ F1 H1 I1 P1 (.bl _) trivial⟩
  · cases e1
def dIfE (dt : DT) (da db : DE) : DE := fun δ => bindR (dt δ) fun b δ1 => if b = true then da δ1 else db δ1
theorem d_ifE {c0 : Expr} (hc : PT X c0 (TTD K mg Wx dt)) (ha : PE X a (TD K mg Wx da)) (hb : PE X b (TD K mg Wx db)) : PE X (.IfExp c0 a b pos) (TD K mg Wx (dIfE dt da db)) := PE.imp (pe_ifExp hc ha hb) fun σ H Q h => by
  obtain ⟨c, F, δ, rr, I, e, k⟩ := h
  refine TTD.seq I e k.x fun b δ1 e1 F1 H1 I1 P1 => ?_
  cases b with
  | true =>
    rw [if_pos rfl] at e1 ⊢
    exact ⟨c, F1, δ1, rr, I1, e1, k.after P1⟩
  | false =>
    rw [if_neg Bool.false_ne_true] at e1 ⊢
    exact ⟨c, F1, δ1, rr, I1, e1, k.after P1⟩
/-- a < b < c -/
def dChain (f g : D → D → Option RW) (da db dc : DE) : DE := fun δ => bindR (da δ) fun w1 δ1 => bindR (db δ1) fun w2 δ2 => with1 (cont δ2 w1) fun d1 => with1 (cont δ2 w2) fun d2 => with1 (f d1 d2) fun z => match z with
  | .v (.bl k) => if k = true then bindR (dc δ2) fun w3 δ3 => with1 (cont δ3 w2) fun d2' => with1 (cont δ3 w3) fun d3 => ans δ3 (g d2' d3) else some (.ok (.s (.bl false)) δ2)
  | _ => none
theorem td_chain {r r' : R2} {f g : D → D → Option RW} (hr : Snd2 K mg r f) (hr' : Snd2 K mg r' g) {σ : L2.St} {H : Hp} {Q : VK} (h : TD K mg Wx (dChain f g da db dc) σ H Q) : tChain r r' (TD K mg Wx da) (TD K mg Wx db) (TD K mg Wx dc) σ H Q := by
  obtain ⟨c, F, δ, rr, I, e, k⟩ := h
  refine TD.seq I e k.x fun w1 δ1 e1 v1 F1 H1 I1 P1 ok1 nw1 => ?_
  refine TD.seq I1 e1 (k.x.aft P1.f) fun w2 δ2 e2 v2 F2 H2 I2 P2 ok2 nw2 => ?_
  obtain ⟨d1, c1, e3⟩ := with1_some e2
  obtain ⟨d2, c2, e4⟩ := with1_some e3
  obtain ⟨z, hf, e5⟩ := with1_some e4
  have P := P1.trans P2
  cases z with
  | v d =>
    cases d with
    | bl kk =>
      refine hr F2 H2 v1 v2 d1 d2 _ _ I2.fh (I2.view (ok1.mono P2) c1) (I2.view ok2 c2) hf fun v hv => ⟨kk, DR.blI hv, ?_⟩
      cases kk with
      | true =>
        rw [if_pos rfl]
        have e6 : (bindR (dc δ2) fun w3 δ3 => with1 (cont δ3 w2) fun d2' => with1 (cont δ3 w3) fun d3 => ans δ3 (g d2' d3)) = some rr := e5
        refine TD.seq I2 e6 (k.x.aft (P1.trans P2).f) fun w3 δ3 e7 v3 F3 H3 I3 P3 ok3 nw3 => ?_
        obtain ⟨d2', c3, e8⟩ := with1_some e7
        obtain ⟨d3, c4, e9⟩ := with1_some e8
        obtain ⟨w, hg, rfl⟩ := ans_some e9
        have P' := P.trans P3
        exact hr' F3 H3 v2 v3 d2' d3 w Q I3.fh (I3.view (ok2.mono P3) c3) (I3.view ok3 c4) hg (I3.res fun v F' H' I' P'' ok nw => k v F' H' I' (P'.trans P'') ok (nw.back P'))
      | false =>
        rw [if_neg Bool.false_ne_true]
        obtain rfl := Option.some.inj (show some (R.ok (W.s (.bl false)) δ2) = some rr from e5)
        exact k _ F2 H2 I2 P (.bl false) trivial
    | _ => cases e5
  | _ => cases e5
end
end DL
set_option maxHeartbeats 2000000
namespace DL
open PySem PySem.Spec PyProof.Rows L2
/-- what a def gives: its answer (or an exception), and what its first argument is then -/
inductive FR where
  | rt (w : W) (d0 : D) | ex (x : DX) (d0 : D)
section
variable (K : PySem.W.Frag) (mg : Str → Option Value)
structure Chd (io : Bool) (F H : Hp) (vs : List V) (F' H' : Hp) (d0 : D) : Prop where
  ff : Ex F F'
  fh : Ex F' H'
  st : ∀ a o, H a = some o → ¬ (io = true ∧ vs.head? = some (.ref a)) → H' a = some o
  ft : ∀ a o, H a = some o → F a = none → F' a = none
  dm : ∀ a o, H a = some o → ∃ u, H' a = some u
  ow : io = true → ∀ a, vs.head? = some (.ref a) → Own K mg F' H' a d0
inductive ArgOk (F H : Hp) : Bool → List V → List D → Prop
  | no {vs : List V} {ds : List D} : DRs K mg F vs ds → ArgOk F H false vs ds
  | io {a : Addr} {d : D} {vs : List V} {ds : List D} : Own K mg F H a d → DRs K mg F vs ds → ArgOk F H true (.ref a :: vs) (d :: ds)
def RetOk (F' H H' : Hp) (v : V) : W → Prop
  | .s d => DR K mg F' v d
  | .o d => ∃ a, v = .ref a ∧ H a = none ∧ Own K mg F' H' a d
  | .b _ => False
def FinOk (rz io : Bool) (F H : Hp) (vs : List V) (Q : VK) (E : XK) : FR → Prop
  | .rt w d0 => ∀ v F' H', Chd K mg io F H vs F' H' d0 → RetOk K mg F' H H' v w → Q v H'
  | .ex x d0 => rz = true ∧ ∀ cls dd F' H', Chd K mg io F H vs F' H' d0 → ExOk K mg F' H' cls dd x → E cls dd H'
/-- the promise of a def: it does what f does on data -/
def SpD (rz io : Bool) (f : List D → Option FR) : Sp := fun vs H Q E => ∃ F ds r, Ex F H ∧ ArgOk K mg F H io vs ds ∧ f ds = some r ∧ FinOk K mg rz io F H vs Q E r
end
def callFin (g : D → DS) : Option FR → Option (R W)
  | some (.rt (.s d) d0) => some (.ok (.s d) (g d0))
  | some (.rt (.o d) d0) => some (.ok (.o d) (g d0))
  | some (.ex x d0) => some (.ex x (g d0))
  | _ => none
def call0 (f : List D → Option FR) (ws : List W) (δ : DS) : Option (R W) := with1 (sAll ws) fun ds => callFin (fun _ => δ) (f ds)
def call1 (f : List D → Option FR) (ws : List W) (δ : DS) : Option (R W) := match ws with
  | .b i :: ws => with1 (slotD δ i) fun d => with1 (sAll ws) fun ds => callFin (wr δ i) (f (d :: ds))
  | _ => none
def callD (io : Bool) (f : List D → Option FR) (ws : List W) (δ : DS) : Option (R W) := match io with
  | false => call0 f ws δ
  | true => call1 f ws δ
theorem callFin_some {g : D → DS} {o : Option FR} {r : R W} (h : callFin g o = some r) : (∃ w d0, o = some (.rt w d0) ∧ r = .ok w (g d0)) ∨ ∃ x d0, o = some (.ex x d0) ∧ r = .ex x (g d0) := by
  unfold callFin at h
  split at h
  · exact .inl ⟨_, _, rfl, (Option.some.inj h).symm⟩
  · exact .inl ⟨_, _, rfl, (Option.some.inj h).symm⟩
  · exact .inr ⟨_, _, rfl, (Option.some.inj h).symm⟩
  · cases h
def dCall (io : Bool) (f : List D → Option FR) (da : DA) : DE := fun δ => bindR (da δ) fun ws δ1 => callD io f ws δ1
section
variable {K : PySem.W.Frag} {mg : Str → Option Value} {X : Cx} {Wx : WX} {e a b : Expr} {pos : Pos} {de : DE} {da : DA} {c : Cm} {F H F' H' : Hp} {σ : L2.St} {δ : DS}
theorem wr_ow {σ : L2.St} {δ : DS} {i j : Nat} {d d' : D} {b : Addr} (e : slotD δ i = some d) (h : Ow σ (wr δ i d') j b) : Ow σ δ j b := by
  obtain ⟨h1, t, h2, h3⟩ := h
  have hs := slotD_some e
  have hw : (∃ s', wr δ i d' = δ.set i s') := by
    unfold wr
    rcases hs with h | h <;> (rw [h]; exact ⟨_, rfl⟩)
  obtain ⟨s', hw⟩ := hw
  rw [hw] at h2
  by_cases ej : i = j
  · subst ej
    rcases hs with h | h
    · exact ⟨h1, _, h, rfl⟩
    · exact ⟨h1, _, h, rfl⟩
  · rw [List.getElem?_set_ne ej] at h2
    exact ⟨h1, t, h2, h3⟩
/-- behind a call that changed what slot i owns -/
theorem SI.chd (I : SI K mg c F H σ δ) {i : Nat} {d d0 : D} {a : Addr} {vs : List V} (e : slotD δ i = some d) (ha : σ[i]? = some (some (.ref a))) (ch : Chd K mg true F H (.ref a :: vs) F' H' d0) :
    SI K mg c F' H' σ (wr δ i d0) ∧ Pd σ F H δ F' H' (wr δ i d0) := by
  have hs := slotD_some e
  have hi : i < δ.length := by rcases hs with h | h <;> exact (List.getElem?_eq_some_iff.mp h).1
  have oi : Ow σ δ i a := by
    rcases hs with h | h
    · exact ⟨ha, _, h, rfl⟩
    · exact ⟨ha, _, h, rfl⟩
  have own : Own K mg F' H' a d0 := ch.ow rfl a rfl
  have stn : ∀ b o, H b = some o → b ≠ a → H' b = some o := fun b o h n => ch.st b o h fun ⟨_, q⟩ => n (by
    have := Option.some.inj q
    cases this
    rfl)
  obtain ⟨s', hw, hk⟩ : ∃ s', wr δ i d0 = δ.set i s' ∧ ((δ[i]? = some (.ow d) ∧ s' = .ow d0) ∨ (δ[i]? = some (.io d) ∧ s' = .io d0)) := by
    unfold wr
    rcases hs with h | h
    · rw [h]
      exact ⟨_, rfl, .inl ⟨rfl, rfl⟩⟩
    · rw [h]
      exact ⟨_, rfl, .inr ⟨rfl, rfl⟩⟩
  refine ⟨⟨I.ff.trans ch.ff, ch.fh, fun b u hb q => ?_, fun b u hb hn => ?_, fun b u hb => ?_, by rw [hw, List.length_set]; exact I.len, fun j t hj => ?_, fun j k b hj hk => I.nd j k b (wr_ow e hj) (wr_ow e hk)⟩, ⟨ch.ff, fun b u hb q z => ?_, ch.dm⟩⟩
  · refine stn b u (I.fr b u hb q) ?_
    rintro rfl
    rcases hs with h | h
    · obtain ⟨x, hx, q2⟩ := I.sl _ _ h
      rw [ha] at hx
      obtain rfl := Option.some.inj hx
      obtain ⟨_, e1, _, h0⟩ := q2
      cases e1
      rw [h0] at hb
      cases hb
    · obtain ⟨x, hx, q2⟩ := I.sl _ _ h
      rw [ha] at hx
      obtain rfl := Option.some.inj hx
      obtain ⟨_, e1, _, h0⟩ := q2
      cases e1
      exact q h0
  · obtain ⟨u', hu⟩ := I.dm b u hb
    exact ch.ft b u' hu (I.ft b u hb hn)
  · obtain ⟨u', hu⟩ := I.dm b u hb
    exact ch.dm b u' hu
  · rw [hw] at hj
    by_cases ej : i = j
    · subst ej
      rw [List.getElem?_set_self hi] at hj
      obtain rfl := Option.some.inj hj
      refine ⟨_, ha, ?_⟩
      rcases hk with ⟨h, rfl⟩ | ⟨h, rfl⟩
      · obtain ⟨x, hx, q2⟩ := I.sl _ _ h
        rw [ha] at hx
        obtain rfl := Option.some.inj hx
        obtain ⟨_, e1, _, h0⟩ := q2
        cases e1
        exact ⟨a, rfl, own, h0⟩
      · obtain ⟨x, hx, q2⟩ := I.sl _ _ h
        rw [ha] at hx
        obtain rfl := Option.some.inj hx
        obtain ⟨_, e1, _, h0⟩ := q2
        cases e1
        exact ⟨a, rfl, own, h0⟩
    · rw [List.getElem?_set_ne ej] at hj
      obtain ⟨x, hx, q2⟩ := I.sl j t hj
      refine ⟨x, hx, q2.move ch.ff fun b u hb hn io ex => ⟨stn b u hb ?_, ch.ft b u hb hn⟩⟩
      rintro rfl
      exact ej (I.nd i j b oi ⟨by rw [← ex]; exact hx, t, hj, io⟩)
  · refine ⟨stn b u hb ?_, ch.ft b u hb q, fun j hj => z j (wr_ow e hj)⟩
    rintro rfl
    exact z i oi
theorem SI.chd0 (I : SI K mg c F H σ δ) {vs : List V} {d0 : D} (ch : Chd K mg false F H vs F' H' d0) : SI K mg c F' H' σ δ ∧ Pd σ F H δ F' H' δ := by
  have eH : Ex H H' := fun b o h => ch.st b o h fun ⟨q, _⟩ => by cases q
  exact ⟨I.grow ch.ff eH ch.fh fun b o h n _ => ch.ft b o h n, ch.ff, fun b o h n no => ⟨eH b o h, ch.ft b o h n, no⟩, ch.dm⟩
theorem td_call {rz io : Bool} {f : List D → Option FR} {E : XK} {vs : List V} {ws : List W} {rr : R W} {Q : VK} (I : SI K mg c F H σ δ) (ok : WsOk K mg c F H σ δ vs ws) (e : callD io f ws δ = some rr)
    (hx : rz = false → ∀ x δ', rr ≠ .ex x δ') (k : AftE K mg c F H σ δ (fun cls dd _ H => E cls dd H) Q rr)
    (hrz : ∀ ds x d0, f ds = some (.ex x d0) → rz = true) : SpD K mg rz io f vs H Q E := by
  cases io with
  | false =>
    obtain ⟨ds, hd, e⟩ := with1_some e
    have q := ok.drs hd
    rcases callFin_some e with ⟨w, d0, hf, rfl⟩ | ⟨x, d0, hf, rfl⟩
    · refine ⟨F, ds, _, I.fh, .no q, hf, fun v F' H' ch r => ?_⟩
      obtain ⟨I', P⟩ := I.chd0 ch
      cases w with
      | s d => exact k v F' H' I' P r trivial
      | o d =>
        obtain ⟨a, rfl, hn, ow⟩ := r
        exact k _ F' H' I' P ⟨a, rfl, ow, I.new0 hn, I.noOw hn⟩ fun b eb => by cases eb; exact hn
      | b i => exact False.elim r
    · refine ⟨F, ds, _, I.fh, .no q, hf, hrz _ _ _ hf, fun cls dd F' H' ch r => ?_⟩
      obtain ⟨I', P⟩ := I.chd0 ch
      exact k cls dd F' H' I' ch.ff r
  | true =>
    cases ok with
    | nil => cases e
    | cons h0 r0 =>
      rename_i v0 vs' w0 ws'
      cases w0 with
      | s d => cases e
      | o d => cases e
      | b i =>
        obtain ⟨d, hs, e⟩ := with1_some e
        obtain ⟨ds, hd, e⟩ := with1_some e
        have q := r0.drs hd
        obtain ⟨a, rfl, ow, oi⟩ := I.owns h0 (slotD_some hs)
        rcases callFin_some e with ⟨w, d0, hf, rfl⟩ | ⟨x, d0, hf, rfl⟩
        · refine ⟨F, _, _, I.fh, .io ow q, hf, fun v F' H' ch r => ?_⟩
          obtain ⟨I', P⟩ := I.chd hs oi.1 ch
          cases w with
          | s d => exact k v F' H' I' P r trivial
          | o d =>
            obtain ⟨a, rfl, hn, ow⟩ := r
            exact k _ F' H' I' P ⟨a, rfl, ow, I.new0 hn, fun j hj => I.noOw hn j (wr_ow hs hj)⟩ fun b eb => by cases eb; exact hn
          | b i => exact False.elim r
        · refine ⟨F, _, _, I.fh, .io ow q, hf, hrz _ _ _ hf, fun cls dd F' H' ch r => ?_⟩
          obtain ⟨I', P⟩ := I.chd hs oi.1 ch
          exact k cls dd F' H' I' ch.ff r
/-- f(..) of a def that raises nothing -/
theorem d_call {x : Str} {p : Pos} {es : List Expr} {f : Addr} {fd : FuncData} {ps : List Str} {k : Nat} {io : Bool} {fD : List D → Option FR} (hK : X.K = K) (hG : X.mg = mg) (G : FnOk X.prog X.w X.K X.mg X.base CX0 k f fd ps (SpD K mg false io fD)) (nx : ∀ ds x d0, fD ds ≠ some (.ex x d0)) (hr : Room k X.A) (hg : Gl X x) (hm : X.mg x = some (.ref f)) (hk : PySem.W.keepIn X.K (.ref f) = true) (hb : Binds X.K fd ps [])
    (ha : PA X (e :: es) (TAD K mg Wx da)) (hdb : (x == ("__debug__" : Str)) = false := by decide) (he : starEach (e :: es) X.env = (false, eval e X.env) :: starEach es X.env := by rfl) (hpl : (backTo pos (starEach es X.env)).any (·.1) = false := by rfl) :
    PE X (.Call (.Name x p) (e :: es) [] pos) (TD K mg Wx (dCall io fD da)) := PE.imp (pe_call G hr hg hm hk hb .nil pass0 ha hdb he hpl) fun σ H Q h => by
  obtain ⟨c, F, δ, rr, I, e, k⟩ := h
  refine TAD.seq I e k.x fun ws δ1 e1 vs F1 H1 I1 P1 ok1 => ?_
  rw [List.append_nil]
  have hex : ∀ x δ', rr ≠ .ex x δ' := fun x δ' er => by
    subst er
    cases io with
    | false =>
      obtain ⟨ds, hd, e⟩ := with1_some e1
      rcases callFin_some e with ⟨w, d0, hf, er⟩ | ⟨x, d0, hf, er⟩
      · cases er
      · exact nx _ _ _ hf
    | true =>
      cases ok1 with
      | nil => cases e1
      | cons h0 r0 =>
        rename_i v0 vs' w0 ws'
        cases w0 with
        | s d => cases e1
        | o d => cases e1
        | b i =>
          obtain ⟨d, hs, e⟩ := with1_some e1
          obtain ⟨ds, hd, e⟩ := with1_some e
          rcases callFin_some e with ⟨w, d0, hf, er⟩ | ⟨x, d0, hf, er⟩
          · cases er
          · exact nx _ _ _ hf
  refine td_call I1 ok1 e1 (fun _ => hex) ?_ fun ds x d0 h => absurd h (nx ds x d0)
  cases rr with
  | ok w δ' => exact fun v F' H' I' P' ok nw => k v F' H' I' (P1.trans P') ok (nw.back P1)
  | ex x δ' => exact absurd rfl (hex x δ')
/-- f(..) of a def that may raise -/
theorem d_callX {x : Str} {p : Pos} {es : List Expr} {f : Addr} {fd : FuncData} {ps : List Str} {k : Nat} {io : Bool} {fD : List D → Option FR} (hK : X.K = K) (hG : X.mg = mg) (tk : Takes X Wx) (G : FnOk X.prog X.w X.K X.mg X.base (L2.CX X.prog X.w) k f fd ps (SpD K mg true io fD)) (hr : Room k X.A) (hg : Gl X x) (hm : X.mg x = some (.ref f)) (hk : PySem.W.keepIn X.K (.ref f) = true) (hb : Binds X.K fd ps [])
    (ha : PA X (e :: es) (TAD K mg Wx da)) (hdb : (x == ("__debug__" : Str)) = false := by decide) (he : starEach (e :: es) X.env = (false, eval e X.env) :: starEach es X.env := by rfl) (hpl : (backTo pos (starEach es X.env)).any (·.1) = false := by rfl) :
    PE X (.Call (.Name x p) (e :: es) [] pos) (TD K mg Wx (dCall io fD da)) := PE.imp (pe_callS (E := WE Wx) G hr hg hm hk hb (fun σ => passAt tk σ) ha hdb he hpl) fun σ H Q h => by
  obtain ⟨c, F, δ, rr, I, e, k⟩ := h
  refine TAD.seq I e k.x fun ws δ1 e1 vs F1 H1 I1 P1 ok1 => ?_
  refine td_call I1 ok1 e1 (fun h => by cases h) ?_ fun _ _ _ _ => rfl
  cases rr with
  | ok w δ' => exact fun v F' H' I' P' ok nw => k v F' H' I' (P1.trans P') ok (nw.back P1)
  | ex x δ' => exact fun cls dd F' H' I' e => k cls dd F' H' I' (P1.f.trans e)
inductive SO where
  | nx (δ : DS) | rt (w : W) (δ : DS) | bk (δ : DS) | ct (δ : DS) | ex (x : DX) (δ : DS)
abbrev DB := DS → Option SO
def AftS (K : PySem.W.Frag) (mg : Str → Option Value) (c : Cm) (F : Hp) (Wx : WX) (Dd : Ends) : SO → Prop
  | .nx δ' => ∀ σ' F' H', SI K mg c F' H' σ' δ' → Ex F F' → Dd.nx σ' H'
  | .rt w δ' => ∀ v σ' F' H', SI K mg c F' H' σ' δ' → Ex F F' → WOk K mg c F' H' σ' δ' v w → Dd.rt v H'
  | .bk δ' => ∀ σ' F' H', SI K mg c F' H' σ' δ' → Ex F F' → Dd.bk σ' H'
  | .ct δ' => ∀ σ' F' H', SI K mg c F' H' σ' δ' → Ex F F' → Dd.ct σ' H'
  | .ex x δ' => ∀ cls dd σ' F' H', SI K mg c F' H' σ' δ' → Ex F F' → ExOk K mg F' H' cls dd x → Wx cls dd σ' H'
def TSD (K : PySem.W.Frag) (mg : Str → Option Value) (Wx : WX) (db : DB) : TS := fun Dd σ H => ∃ c F δ r, SI K mg c F H σ δ ∧ db δ = some r ∧ AftS K mg c F Wx Dd r
def bindS {α : Type} (x : Option (R α)) (k : α → DS → Option SO) : Option SO :=
  match x with
  | some (.ok a δ) => k a δ
  | some (.ex x δ) => some (.ex x δ)
  | none => none
@[simp] theorem bindS_ok {α : Type} {a : α} {δ : DS} {k : α → DS → Option SO} : bindS (some (.ok a δ)) k = k a δ := rfl
@[simp] theorem bindS_ex {α : Type} {x : DX} {δ : DS} {k : α → DS → Option SO} : bindS (some (.ex x δ)) k = some (.ex x δ) := rfl
theorem bindS_some {α : Type} {x : Option (R α)} {k : α → DS → Option SO} {r : SO} (h : bindS x k = some r) : (∃ a δ, x = some (.ok a δ) ∧ k a δ = some r) ∨ ∃ e δ, x = some (.ex e δ) ∧ r = .ex e δ := by
  unfold bindS at h
  split at h
  · exact .inl ⟨_, _, rfl, h⟩
  · exact .inr ⟨_, _, rfl, (Option.some.inj h).symm⟩
  · cases h
section
variable {Dd : Ends} {dt : DT} {db dc : DB} {st : Stmt} {sts : List Stmt} {i j : Nat}
theorem PS.imp {t t' : TS} (h : PS X st t) (k : ∀ Dd σ H, t' Dd σ H → t Dd σ H) : PS X st t' := ⟨fun pins s σ H Q I q => h.run pins s σ H Q I (k _ _ _ q)⟩
theorem PSs.imp {t t' : TS} (h : PSs X sts t) (k : ∀ Dd σ H, t' Dd σ H → t Dd σ H) : PSs X sts t' := ⟨fun pins s σ H Q I q => h.run pins s σ H Q I (k _ _ _ q)⟩
theorem AftS.x {r : SO} (k : AftS K mg c F Wx Dd r) : ∀ x δ1, r = .ex x δ1 → ∀ cls dd σ' F' H', SI K mg c F' H' σ' δ1 → Ex F F' → ExOk K mg F' H' cls dd x → Wx cls dd σ' H' := fun x δ1 e => by
  subst e
  exact k
theorem AftS.after {r : SO} {F1 : Hp} (e : Ex F F1) (k : AftS K mg c F Wx Dd r) : AftS K mg c F1 Wx Dd r := by
  cases r with
  | nx δ' => exact fun σ' F' H' I' e' => k σ' F' H' I' (e.trans e')
  | rt w δ' => exact fun v σ' F' H' I' e' => k v σ' F' H' I' (e.trans e')
  | bk δ' => exact fun σ' F' H' I' e' => k σ' F' H' I' (e.trans e')
  | ct δ' => exact fun σ' F' H' I' e' => k σ' F' H' I' (e.trans e')
  | ex x δ' => exact fun cls dd σ' F' H' I' e' => k cls dd σ' F' H' I' (e.trans e')
theorem TD.seqS {kk : W → DS → Option SO} {r : SO} {Q : VK} (I : SI K mg c F H σ δ) (e : bindS (de δ) kk = some r) (hk : AftS K mg c F Wx Dd r)
    (k : ∀ w δ1, kk w δ1 = some r → ∀ v F1 H1, SI K mg c F1 H1 σ δ1 → Pd σ F H δ F1 H1 δ1 → WOk K mg c F1 H1 σ δ1 v w → Q v H1) : TD K mg Wx de σ H Q := by
  rcases bindS_some e with ⟨w, δ1, e1, e2⟩ | ⟨x, δ1, e1, rfl⟩
  · exact ⟨c, F, δ, _, I, e1, fun v F1 H1 I1 P1 ok nw => k w δ1 e2 v F1 H1 I1 P1 ok⟩
  · exact ⟨c, F, δ, _, I, e1, fun cls dd F' H' I' ok => hk.x x δ1 rfl cls dd σ F' H' I' ok⟩
theorem TTD.seqS {kk : Bool → DS → Option SO} {r : SO} {Q : Bool → Hp → Prop} (I : SI K mg c F H σ δ) (e : bindS (dt δ) kk = some r) (hk : AftS K mg c F Wx Dd r)
    (k : ∀ w δ1, kk w δ1 = some r → ∀ F1 H1, SI K mg c F1 H1 σ δ1 → Pd σ F H δ F1 H1 δ1 → Q w H1) : TTD K mg Wx dt σ H Q := by
  rcases bindS_some e with ⟨w, δ1, e1, e2⟩ | ⟨x, δ1, e1, rfl⟩
  · exact ⟨c, F, δ, _, I, e1, fun F1 H1 I1 P1 => k w δ1 e2 F1 H1 I1 P1⟩
  · exact ⟨c, F, δ, _, I, e1, fun cls dd F' H' I' ok => hk.x x δ1 rfl cls dd σ F' H' I' ok⟩
def dNext : DB := fun δ => some (.nx δ)
def dBreak : DB := fun δ => some (.bk δ)
def dCont : DB := fun δ => some (.ct δ)
def dSeq (a b : DB) : DB := fun δ => match a δ with
  | some (.nx δ1) => b δ1
  | r => r
def dDrop (de : DE) : DB := fun δ => bindS (de δ) fun _ δ1 => some (.nx δ1)
def dRet (de : DE) : DB := fun δ => bindS (de δ) fun w δ1 => some (.rt w δ1)
def dRetN : DB := fun δ => some (.rt (.s .non) δ)
def dIf (dt : DT) (a b : DB) : DB := fun δ => bindS (dt δ) fun k δ1 => if k = true then a δ1 else b δ1
def dSet (i : Nat) (de : DE) : DB := fun δ => bindS (de δ) fun w δ1 => match toS w with
  | some s => if free δ1 i = true then some (.nx (δ1.set i s)) else none
  | none => none
theorem d_snil : PSs X [] (TSD K mg Wx dNext) := PSs.imp pss_nil fun Dd σ H h => by
  obtain ⟨c, F, δ, r, I, e, k⟩ := h
  obtain rfl := Option.some.inj e
  exact k σ F H I (Ex.refl F)
theorem d_pass : PS X (.Pass pos) (TSD K mg Wx dNext) := PS.imp ps_pass fun Dd σ H h => by
  obtain ⟨c, F, δ, r, I, e, k⟩ := h
  obtain rfl := Option.some.inj e
  exact k σ F H I (Ex.refl F)
theorem d_doc {x j pos'} : PS X (.Expr (.Constant (.str x) j pos) pos') (TSD K mg Wx dNext) := PS.imp ps_doc fun Dd σ H h => by
  obtain ⟨c, F, δ, r, I, e, k⟩ := h
  obtain rfl := Option.some.inj e
  exact k σ F H I (Ex.refl F)
theorem d_break : PS X (.Break pos) (TSD K mg Wx dBreak) := PS.imp ps_break fun Dd σ H h => by
  obtain ⟨c, F, δ, r, I, e, k⟩ := h
  obtain rfl := Option.some.inj e
  exact k σ F H I (Ex.refl F)
theorem d_cont : PS X (.Continue pos) (TSD K mg Wx dCont) := PS.imp ps_continue fun Dd σ H h => by
  obtain ⟨c, F, δ, r, I, e, k⟩ := h
  obtain rfl := Option.some.inj e
  exact k σ F H I (Ex.refl F)
theorem dSeq_some {a b : DB} {δ : DS} {r : SO} (h : dSeq a b δ = some r) : (∃ δ1, a δ = some (.nx δ1) ∧ b δ1 = some r) ∨ (a δ = some r ∧ ∀ δ1, r ≠ .nx δ1) := by
  unfold dSeq at h
  split at h
  · exact .inl ⟨_, by assumption, h⟩
  · rename_i n
    exact .inr ⟨h, fun δ1 e => n δ1 (by rw [h, e])⟩
theorem d_scons (h1 : PS X st (TSD K mg Wx db)) (h2 : PSs X sts (TSD K mg Wx dc)) : PSs X (st :: sts) (TSD K mg Wx (dSeq db dc)) := PSs.imp (pss_cons h1 h2) fun Dd σ H h => by
  obtain ⟨c, F, δ, r, I, e, k⟩ := h
  rcases dSeq_some e with ⟨δ1, e1, e2⟩ | ⟨e1, n⟩
  · exact ⟨c, F, δ, _, I, e1, fun σ' F' H' I' eF => ⟨c, F', δ1, r, I', e2, k.after eF⟩⟩
  · refine ⟨c, F, δ, _, I, e1, ?_⟩
    cases r with
    | nx δ' => exact absurd rfl (n δ')
    | _ => exact k
theorem d_sone (h1 : PS X st (TSD K mg Wx db)) : PSs X [st] (TSD K mg Wx db) := pss_one h1
theorem d_expr (he : PE X e (TD K mg Wx de)) (hs : swapsWith e none pos.line X.env = pure false := by rfl) : PS X (.Expr e pos) (TSD K mg Wx (dDrop de)) := PS.imp (ps_expr he hs) fun Dd σ H h => by
  obtain ⟨c, F, δ, r, I, e, k⟩ := h
  refine TD.seqS I e k fun w δ1 e1 v F1 H1 I1 P1 ok => ?_
  obtain rfl := Option.some.inj e1
  exact k σ F1 H1 I1 P1.f
theorem d_ret (he : PE X e (TD K mg Wx de)) : PS X (.Return (some e) pos) (TSD K mg Wx (dRet de)) := PS.imp (ps_ret he) fun Dd σ H h => by
  obtain ⟨c, F, δ, r, I, e, k⟩ := h
  refine TD.seqS I e k fun w δ1 e1 v F1 H1 I1 P1 ok => ?_
  obtain rfl := Option.some.inj e1
  exact k v σ F1 H1 I1 P1.f ok
theorem d_retN : PS X (.Return none pos) (TSD K mg Wx dRetN) := PS.imp ps_retN fun Dd σ H h => by
  obtain ⟨c, F, δ, r, I, e, k⟩ := h
  obtain rfl := Option.some.inj e
  exact k _ σ F H I (Ex.refl F) .non
theorem d_if {c0 : Expr} {s1 s2 : List Stmt} (hc : PT X c0 (TTD K mg Wx dt)) (ha : PSs X s1 (TSD K mg Wx db)) (hb : PSs X s2 (TSD K mg Wx dc)) : PS X (.If c0 s1 s2 pos) (TSD K mg Wx (dIf dt db dc)) := PS.imp (ps_if hc ha hb) fun Dd σ H h => by
  obtain ⟨c, F, δ, r, I, e, k⟩ := h
  refine TTD.seqS I e k fun b δ1 e1 F1 H1 I1 P1 => ?_
  cases b with
  | true =>
    rw [if_pos rfl] at e1 ⊢
    exact ⟨c, F1, δ1, r, I1, e1, k.after P1.f⟩
  | false =>
    rw [if_neg Bool.false_ne_true] at e1 ⊢
    exact ⟨c, F1, δ1, r, I1, e1, k.after P1.f⟩
theorem td_set {i : Nat} {de : DE} {Dd : Ends} {σ : L2.St} {H : Hp} (h : TSD K mg Wx (dSet i de) Dd σ H) : tAsg (TD K mg Wx de) (gName i) Dd σ H := by
  obtain ⟨c, F, δ, r, I, e, k⟩ := h
  refine TD.seqS I e k fun w δ1 e1 v F1 H1 I1 P1 ok => ?_
  split at e1
  · rename_i s hs
    obtain ⟨hf, rfl⟩ := if_some e1
    exact k _ F1 H1 (I1.store ok hs hf) P1.f
  · cases e1
theorem d_set {x : Str} {pos' : Pos} (i : Nat) (hN : X.N.Nodup) (he : PE X e (TD K mg Wx de)) (hi : X.N[i]? = some x := by rfl) (hx : Loc X.env.scope x := by first | exact Or.inl rfl | exact Or.inr rfl) (hs : swapsWith e (some (.Name x pos')) pos.line X.env = pure false := by rfl) (hf : X.fn x = true ∨ X.env.scope.names.lookup x = some .local := by first | exact .inl rfl | exact .inr rfl | assumption) :
    PS X (.Assign [.Name x pos'] e pos) (TSD K mg Wx (dSet i de)) := PS.imp (ps_set hN hi hx he hs hf) fun Dd σ H h => td_set h
/-- x[i] = e: the list of slot i -/
def setAt : D → Int → D → Option D
  | .lst xs, k, d => match ixN xs.length k with
    | some j => some (.lst (xs.set j d))
    | none => none
  | _, _, _ => none
def dPutL (i : Nat) (dk dv : DE) : DB := fun δ => bindS (dv δ) fun w δ1 => match w, slotD δ1 i with
  | .s d, some _ => bindS (dk δ1) fun w2 δ2 => match w2, slotD δ2 i with
    | .s (.int k), some x => match setAt x k d with
      | some y => some (.nx (wr δ2 i y))
      | none => none
    | _, _ => none
  | _, _ => none
theorem SI.slotA (I : SI K mg c F H σ δ) {i : Nat} {d : D} (h : slotD δ i = some d) : ∃ a, σ[i]? = some (some (.ref a)) ∧ Own K mg F H a d := by
  rcases slotD_some h with h | h
  · obtain ⟨x, hx, a, rfl, ow, _⟩ := I.sl _ _ h
    exact ⟨a, hx, ow⟩
  · obtain ⟨x, hx, a, rfl, ow, _⟩ := I.sl _ _ h
    exact ⟨a, hx, ow⟩
theorem d_putL {x : Str} {px ps' : Pos} {ie : Expr} {dk dv : DE} {i : Nat} (hv : PE X e (TD K mg Wx dv)) (hg : PG X (.Subscript (.Name x px) ie ps') (gSub (tVar i) (TD K mg Wx dk) rSetL)) (hs : swapsWithSole [.Subscript (.Name x px) ie ps'] e pos.line X.env = pure false := by rfl) (hw : swappedStores [.Subscript (.Name x px) ie ps'] e X.env = pure none := by rfl)
    (h1 : (assignEach [.Subscript (.Name x px) ie ps'] X.env).map (·.2) = [assign (.Subscript (.Name x px) ie ps') X.env] := by rfl) : PS X (.Assign [.Subscript (.Name x px) ie ps'] e pos) (TSD K mg Wx (dPutL i dk dv)) :=
  PS.imp (ps_asg hv hg hs hw h1) fun Dd σ H h => by
    obtain ⟨c, F, δ, r, I, e, k⟩ := h
    refine TD.seqS I e k fun w δ1 e1 v F1 H1 I1 P1 ok => ?_
    split at e1
    · rename_i d d0 hs1
      obtain ⟨a, hx, _⟩ := I1.slotA hs1
      refine ⟨_, hx, ?_⟩
      refine TD.seqS I1 e1 (k.after P1.f) fun w2 δ2 e3 v2 F2 H2 I2 P2 ok2 => ?_
      split at e3
      · rename_i kk xx hsd
        split at e3
        · rename_i yy hset
          obtain rfl := Option.some.inj e3
          cases xx with
          | lst xs =>
            unfold setAt at hset
            dsimp only at hset
            split at hset
            · rename_i jj hj
              obtain rfl := Option.some.inj hset
              obtain ⟨a', hx', _, o, ho, t⟩ := I2.slotA hsd
              rw [hx] at hx'
              cases hx'
              obtain ⟨vs, rfl, q⟩ := t.lstI
              obtain rfl := DR.intI ok2
              have dv : DR K mg F2 v d := DR.mono P2.f ok
              obtain ⟨I3, P3⟩ := I2.wrote hsd hx (.lst (DRs.set dv jj q))
              exact ⟨a, vs, kk, jj, rfl, rfl, ho, by rw [q.length]; exact hj, k σ F2 _ I3 (P1.f.trans P2.f)⟩
            · cases hset
          | _ => cases hset
        · cases e3
      · cases e3
    · cases e1
end
end
end DL
set_option maxHeartbeats 2000000
namespace DL
open PySem PySem.Spec PyProof.Rows L2
section
variable {K : PySem.W.Frag} {mg : Str → Option Value} {X : Cx} {Wx : WX} {e a b : Expr} {pos : Pos} {de : DE} {da : DA} {c : Cm} {F H F' H' : Hp} {σ : L2.St} {δ : DS} {dt : DT} {db dc : DB}
def wipeD (δ : DS) : List Nat → DS
  | [] => δ
  | v :: vs => (wipeD δ vs).set v .un
def restD (δ0 δ : DS) : List Nat → DS
  | [] => δ
  | v :: vs => (restD δ0 δ vs).set v (δ0.getD v .un)
theorem wipeD_length (δ : DS) : ∀ vs : List Nat, (wipeD δ vs).length = δ.length
  | [] => rfl
  | v :: vs => by unfold wipeD; rw [List.length_set, wipeD_length δ vs]
theorem restD_length (δ0 δ : DS) : ∀ vs : List Nat, (restD δ0 δ vs).length = δ.length
  | [] => rfl
  | v :: vs => by unfold restD; rw [List.length_set, restD_length δ0 δ vs]
theorem wipe_out {σ : L2.St} {i : Nat} : ∀ {vs : List Nat}, i ∉ vs → (wipe σ vs)[i]? = σ[i]?
  | [], _ => rfl
  | v :: vs, h => by
    unfold wipe
    rw [List.getElem?_set_ne (fun e => h (by rw [e]; exact List.mem_cons_self)), wipe_out fun q => h (List.mem_cons_of_mem _ q)]
theorem wipe_in {σ : L2.St} {i : Nat} (hl : i < σ.length) : ∀ {vs : List Nat}, i ∈ vs → (wipe σ vs)[i]? = some none
  | v :: vs, h => by
    unfold wipe
    by_cases e : v = i
    · subst e
      exact List.getElem?_set_self (by rw [wipe_length]; exact hl)
    · rw [List.getElem?_set_ne e]
      rcases List.mem_cons.mp h with q | q
      · exact absurd q.symm e
      · exact wipe_in hl q
theorem wipeD_out {δ : DS} {i : Nat} : ∀ {vs : List Nat}, i ∉ vs → (wipeD δ vs)[i]? = δ[i]?
  | [], _ => rfl
  | v :: vs, h => by
    unfold wipeD
    rw [List.getElem?_set_ne (fun e => h (by rw [e]; exact List.mem_cons_self)), wipeD_out fun q => h (List.mem_cons_of_mem _ q)]
theorem wipeD_in {δ : DS} {i : Nat} (hl : i < δ.length) : ∀ {vs : List Nat}, i ∈ vs → (wipeD δ vs)[i]? = some .un
  | v :: vs, h => by
    unfold wipeD
    by_cases e : v = i
    · subst e
      exact List.getElem?_set_self (by rw [wipeD_length]; exact hl)
    · rw [List.getElem?_set_ne e]
      rcases List.mem_cons.mp h with q | q
      · exact absurd q.symm e
      · exact wipeD_in hl q
theorem restD_out {δ0 δ : DS} {i : Nat} : ∀ {vs : List Nat}, i ∉ vs → (restD δ0 δ vs)[i]? = δ[i]?
  | [], _ => rfl
  | v :: vs, h => by
    unfold restD
    rw [List.getElem?_set_ne (fun e => h (by rw [e]; exact List.mem_cons_self)), restD_out fun q => h (List.mem_cons_of_mem _ q)]
theorem restD_in {δ0 δ : DS} {i : Nat} (hl : i < δ.length) : ∀ {vs : List Nat}, i ∈ vs → (restD δ0 δ vs)[i]? = some (δ0.getD i .un)
  | v :: vs, h => by
    unfold restD
    by_cases e : v = i
    · subst e
      exact List.getElem?_set_self (by rw [restD_length]; exact hl)
    · rw [List.getElem?_set_ne e]
      rcases List.mem_cons.mp h with q | q
      · exact absurd q.symm e
      · exact restD_in hl q
theorem Ow.wiped {vs : List Nat} {i : Nat} {p : Addr} (h : Ow (wipe σ vs) (wipeD δ vs) i p) (hl : σ.length = δ.length) : i ∉ vs ∧ Ow σ δ i p := by
  obtain ⟨h1, s, h2, h3⟩ := h
  obtain ⟨h4, h5⟩ := wipe_some h1
  exact ⟨h5, h4, s, by rw [wipeD_out h5] at h2; exact h2, h3⟩
theorem SI.wiped (I : SI K mg c F H σ δ) (vs : List Nat) : SI K mg c F H (wipe σ vs) (wipeD δ vs) := by
  refine ⟨I.ff, I.fh, I.fr, I.ft, I.dm, by rw [wipe_length, wipeD_length]; exact I.len, fun i s h => ?_, fun i j p hi hj => I.nd i j p (hi.wiped I.len).2 (hj.wiped I.len).2⟩
  by_cases hv : i ∈ vs
  · have hl : i < δ.length := by
      have := (List.getElem?_eq_some_iff.mp h).1
      rw [wipeD_length] at this
      exact this
    rw [wipeD_in hl hv] at h
    obtain rfl := Option.some.inj h
    exact ⟨none, wipe_in (by rw [I.len]; exact hl) hv, trivial⟩
  · rw [wipeD_out hv] at h
    rw [wipe_out hv]
    exact I.sl i s h
/-- no slot of vs owns a thing -/
def lightS (δ : DS) (vs : List Nat) : Bool := vs.all fun v => match δ[v]? with
  | some .un => true
  | some (.sh _) => true
  | _ => false
theorem lightS_get {vs : List Nat} (h : lightS δ vs = true) {v : Nat} (hv : v ∈ vs) : ∃ s, δ[v]? = some s ∧ isOw s = false := by
  have := List.all_eq_true.mp h v hv
  split at this
  · exact ⟨_, by assumption, rfl⟩
  · exact ⟨_, by assumption, rfl⟩
  · cases this
abbrev DG := D → DS → Option DS
def SndG (K : PySem.W.Frag) (mg : Str → Option Value) (vs : List Nat) (g : TG) (dg : DG) : Prop :=
  ∀ c F H σ δ v d δ1 Q, SI K mg c F H σ δ → DR K mg F v d → dg d δ = some δ1 → (∀ σ1, SI K mg c F H σ1 δ1 → wipe σ1 vs = wipe σ vs → (∀ j p, Ow σ1 δ1 j p → Ow σ δ j p) → Q σ1 H) → g v σ H Q
def gN (j : Nat) : DG := fun d δ => if free δ j = true then some (δ.set j (.sh d)) else none
theorem wipe_set {σ : L2.St} {j : Nat} {x : Option V} : ∀ {vs : List Nat}, j ∈ vs → wipe (σ.set j x) vs = wipe σ vs := fun {vs} h => by
  apply List.ext_getElem?
  intro i
  by_cases hi : i ∈ vs
  · by_cases hl : i < σ.length
    · rw [wipe_in hl hi, wipe_in (by rw [List.length_set]; exact hl) hi]
    · rw [List.getElem?_eq_none (by rw [wipe_length, List.length_set]; omega), List.getElem?_eq_none (by rw [wipe_length]; omega)]
  · rw [wipe_out hi, wipe_out hi, List.getElem?_set_ne]
    rintro rfl
    exact hi h
theorem snd_gN {vs : List Nat} {j : Nat} (hj : j ∈ vs) : SndG K mg vs (gName j) (gN j) := fun c F H σ δ v d δ1 Q I r e k => by
  obtain ⟨hf, rfl⟩ := if_some e
  have I' := I.store (w := .s d) r rfl hf
  refine k _ I' (wipe_set hj) fun i p ⟨h1, s, h2, h3⟩ => ?_
  by_cases ei : j = i
  · subst ei
    have hl : j < δ.length := by
      have := (List.getElem?_eq_some_iff.mp h2).1
      rw [List.length_set] at this
      exact this
    rw [List.getElem?_set_self hl] at h2
    obtain rfl := Option.some.inj h2
    cases h3
  · rw [List.getElem?_set_ne ei] at h1 h2
    exact ⟨h1, s, h2, h3⟩
abbrev DGs := List D → DS → Option DS
def SndGs (K : PySem.W.Frag) (mg : Str → Option Value) (vs : List Nat) (g : TGs) (dg : DGs) : Prop :=
  ∀ c F H σ δ us ds δ1 Q, SI K mg c F H σ δ → DRs K mg F us ds → dg ds δ = some δ1 → (∀ σ1, SI K mg c F H σ1 δ1 → wipe σ1 vs = wipe σ vs → (∀ j p, Ow σ1 δ1 j p → Ow σ δ j p) → Q σ1 H) → g us σ H Q
def gsN : DGs := fun ds δ => match ds with
  | [] => some δ
  | _ => none
def gsC (g : DG) (r : DGs) : DGs := fun ds δ => match ds with
  | d :: ds => match g d δ with
    | some δ1 => r ds δ1
    | none => none
  | [] => none
theorem snd_gsN {vs : List Nat} : SndGs K mg vs gNil gsN := fun c F H σ δ us ds δ1 Q I r e k => by
  cases r with
  | nil =>
    obtain rfl := Option.some.inj e
    exact ⟨rfl, k σ I rfl fun _ _ h => h⟩
  | cons _ _ => cases e
theorem snd_gsC {vs : List Nat} {g : TG} {gs : TGs} {dg : DG} {dgs : DGs} (h1 : SndG K mg vs g dg) (h2 : SndGs K mg vs gs dgs) : SndGs K mg vs (gCons g gs) (gsC dg dgs) := fun c F H σ δ us ds δ1 Q I r e k => by
  cases r with
  | nil => cases e
  | cons hd tl =>
    rename_i v us' d ds'
    unfold gsC at e
    dsimp only at e
    split at e
    · rename_i δ2 e2
      refine ⟨v, us', rfl, h1 c F H σ δ v d δ2 _ I hd e2 fun σ1 I1 w1 o1 => ?_⟩
      exact h2 c F H σ1 δ2 us' ds' δ1 Q I1 tl e fun σ2 I2 w2 o2 => k σ2 I2 (w2.trans w1) fun j p h => o1 j p (o2 j p h)
    · cases e
def gT (n : Nat) (gs : DGs) : DG := fun d δ => match d with
  | .tup ds => if ds.length = n then gs ds δ else none
  | _ => none
theorem snd_gT {vs : List Nat} {n : Nat} {gs : TGs} {dgs : DGs} (h : SndGs K mg vs gs dgs) : SndG K mg vs (gTup K n gs) (gT n dgs) := fun c F H σ δ v d δ1 Q I r e k => by
  unfold gT at e
  split at e
  · rename_i ds
    obtain ⟨a, xs, rfl, ha, q⟩ := r.tupI
    obtain ⟨hn, e⟩ := ite_some e
    exact ⟨a, xs, rfl, .inl (.inl (I.fh _ _ ha)), by rw [q.length]; exact hn, h c F H σ δ xs ds δ1 Q I q e k⟩
  · cases e
abbrev DI := DS → Option (R (List D))
/-- J walks the data ds -/
def Goes (K : PySem.W.Frag) (mg : Str → Option Value) (J : It) (ds : List D) (F : Hp) : Prop :=
  ∀ c i F' H' σ' δ', Ex F F' → SI K mg c F' H' σ' δ' →
    (∀ d, ds[i]? = some d → J.go i H' ∧ ∀ x H2, J.yld i H' x H2 → ∃ F2, SI K mg c F2 H2 σ' δ' ∧ Pd σ' F' H' δ' F2 H2 δ' ∧ DR K mg F2 x d) ∧ (ds[i]? = none → J.stop i H')
def TID (K : PySem.W.Frag) (mg : Str → Option Value) (Wx : WX) (di : DI) : TI := fun σ H Rr => ∃ c F δ r, SI K mg c F H σ δ ∧ di δ = some r ∧ match r with
  | .ok ds δ' => ∀ J F' H', SI K mg c F' H' σ δ' → Pd σ F H δ F' H' δ' → Goes K mg J ds F' → Rr J H'
  | .ex x δ' => ∀ cls dd F' H', SI K mg c F' H' σ δ' → Ex F F' → ExOk K mg F' H' cls dd x → Wx cls dd σ H'
theorem PI.imp {tg iter : Expr} {t t' : TI} (h : PI X tg iter t) (k : ∀ σ H Rr, t' σ H Rr → t σ H Rr) : PI X tg iter t' := ⟨fun pins s σ H Q I q => h.run pins s σ H Q I (k _ _ _ q)⟩
theorem goes_list {a : Addr} {xs : List V} {ds : List D} (h : F a = some (.lst xs)) (q : DRs K mg F xs ds) : Goes K mg (Itl K a) ds F := fun c i F' H' σ' δ' e I => by
  have hs : SqL K H' a xs := .inl (.inl (I.fh _ _ (e _ _ h)))
  refine ⟨fun d hd => ?_, fun hd => ⟨xs, hs, ?_⟩⟩
  · obtain ⟨v, hv, r⟩ := q.get hd
    refine ⟨⟨xs, v, hs, hv⟩, fun x H2 ⟨e1, e2⟩ => ?_⟩
    subst e1
    have := e2 xs hs
    rw [hv] at this
    obtain rfl := Option.some.inj this
    exact ⟨F', I, Pd.refl, r.mono e⟩
  · rw [q.length]
    exact List.getElem?_eq_none_iff.mp hd
theorem goes_tup {a : Addr} {xs : List V} {ds : List D} (h : F a = some (.tup xs)) (q : DRs K mg F xs ds) : Goes K mg (Itt K a) ds F := fun c i F' H' σ' δ' e I => by
  have hs : SqT K H' a xs := .inl (.inl (I.fh _ _ (e _ _ h)))
  refine ⟨fun d hd => ?_, fun hd => ⟨xs, hs, ?_⟩⟩
  · obtain ⟨v, hv, r⟩ := q.get hd
    refine ⟨⟨xs, v, hs, hv⟩, fun x H2 ⟨e1, e2⟩ => ?_⟩
    subst e1
    have := e2 xs hs
    rw [hv] at this
    obtain rfl := Option.some.inj this
    exact ⟨F', I, Pd.refl, r.mono e⟩
  · rw [q.length]
    exact List.getElem?_eq_none_iff.mp hd
theorem goes_scr {a : Addr} {xs : List V} {ds : List D} (h : SqL K F a xs) (q : DRs K mg F xs ds) : Goes K mg (Itl K a) ds F := fun c i F' H' σ' δ' e I => by
  have hs : SqL K H' a xs := ex_sql I.fh (ex_sql e h)
  refine ⟨fun d hd => ?_, fun hd => ⟨xs, hs, ?_⟩⟩
  · obtain ⟨v, hv, r⟩ := q.get hd
    refine ⟨⟨xs, v, hs, hv⟩, fun x H2 ⟨e1, e2⟩ => ?_⟩
    subst e1
    have := e2 xs hs
    rw [hv] at this
    obtain rfl := Option.some.inj this
    exact ⟨F', I, Pd.refl, r.mono e⟩
  · rw [q.length]
    exact List.getElem?_eq_none_iff.mp hd
/-- over a list or tuple (shared; its elements as they are) -/
def iSeq (de : DE) : DI := fun δ => bindR (dSh de δ) fun w δ1 => match w with
  | .s (.lst ds) => some (.ok ds δ1)
  | _ => none
def iTupD (de : DE) : DI := fun δ => bindR (dSh de δ) fun w δ1 => match w with
  | .s (.tup ds) => some (.ok ds δ1)
  | _ => none
def iScr (de : DE) : DI := fun δ => bindR (dSh de δ) fun w δ1 => match w with
  | .s (.scr ds) => some (.ok ds δ1)
  | _ => none
theorem d_iseq {tg iter : Expr} (hK : X.K = K) (he : PE X iter (TD K mg Wx de)) : PI X tg iter (TID K mg Wx (iSeq de)) := by
  subst hK
  refine PI.imp (pi_list (d_sh he)) fun σ H Rr h => ?_
  obtain ⟨c, F, δ, r, I, e, k⟩ := h
  refine TD.seq I e (by intro x δ1 e; subst e; exact k) fun w1 δ1 e1 v1 F1 H1 I1 P1 ok1 nw1 => ?_
  split at e1
  · rename_i ds
    obtain rfl := Option.some.inj e1
    obtain ⟨a, xs, rfl, h1, q⟩ := DR.lstI ok1
    exact ⟨a, rfl, ⟨xs, .inl (.inl (I1.fh _ _ h1))⟩, k _ F1 H1 I1 P1 (goes_list h1 q)⟩
  · cases e1
theorem d_itup {tg iter : Expr} (hK : X.K = K) (he : PE X iter (TD K mg Wx de)) : PI X tg iter (TID K mg Wx (iTupD de)) := by
  subst hK
  refine PI.imp (pi_tup (d_sh he)) fun σ H Rr h => ?_
  obtain ⟨c, F, δ, r, I, e, k⟩ := h
  refine TD.seq I e (by intro x δ1 e; subst e; exact k) fun w1 δ1 e1 v1 F1 H1 I1 P1 ok1 nw1 => ?_
  split at e1
  · rename_i ds
    obtain rfl := Option.some.inj e1
    obtain ⟨a, xs, rfl, h1, q⟩ := DR.tupI ok1
    exact ⟨a, rfl, ⟨xs, .inl (.inl (I1.fh _ _ h1))⟩, k _ F1 H1 I1 P1 (goes_tup h1 q)⟩
  · cases e1
theorem d_iscr {tg iter : Expr} (hK : X.K = K) (he : PE X iter (TD K mg Wx de)) : PI X tg iter (TID K mg Wx (iScr de)) := by
  subst hK
  refine PI.imp (pi_list (d_sh he)) fun σ H Rr h => ?_
  obtain ⟨c, F, δ, r, I, e, k⟩ := h
  refine TD.seq I e (by intro x δ1 e; subst e; exact k) fun w1 δ1 e1 v1 F1 H1 I1 P1 ok1 nw1 => ?_
  split at e1
  · rename_i ds
    obtain rfl := Option.some.inj e1
    obtain ⟨a, xs, rfl, h1, q⟩ := DR.scrI ok1
    exact ⟨a, rfl, ⟨xs, ex_sql I1.fh h1⟩, k _ F1 H1 I1 P1 (goes_scr h1 q)⟩
  · cases e1
/-- range -/
def rngD (lo : Int) (n : Nat) : List D := (List.range n).map fun i => .int (lo + (i : Nat))
def rngC (lo c : Int) (n : Nat) : List D := (List.range n).map fun i => .int (lo + (i : Nat) * c)
theorem goes_rng {lo : Int} {n : Nat} : Goes K mg (Itr lo n) (rngD lo n) F := fun c i F' H' σ' δ' e I => by
  refine ⟨fun d hd => ?_, fun hd => ?_⟩
  · unfold rngD at hd
    rw [List.getElem?_map, Option.map_eq_some_iff] at hd
    obtain ⟨j, hj, rfl⟩ := hd
    obtain ⟨hl, hj⟩ := List.getElem?_eq_some_iff.mp hj
    rw [List.getElem_range] at hj
    subst hj
    rw [List.length_range] at hl
    refine ⟨hl, fun x H2 ⟨e1, e2⟩ => ?_⟩
    subst e1 e2
    exact ⟨F', I, Pd.refl, .int _⟩
  · have := List.getElem?_eq_none_iff.mp hd
    unfold rngD at this
    rw [List.length_map, List.length_range] at this
    exact this
theorem goes_rngC {lo cc : Int} {n : Nat} : Goes K mg (Itc lo cc n) (rngC lo cc n) F := fun c i F' H' σ' δ' e I => by
  refine ⟨fun d hd => ?_, fun hd => ?_⟩
  · unfold rngC at hd
    rw [List.getElem?_map, Option.map_eq_some_iff] at hd
    obtain ⟨j, hj, rfl⟩ := hd
    obtain ⟨hl, hj⟩ := List.getElem?_eq_some_iff.mp hj
    rw [List.getElem_range] at hj
    subst hj
    rw [List.length_range] at hl
    refine ⟨hl, fun x H2 ⟨e1, e2⟩ => ?_⟩
    subst e1 e2
    exact ⟨F', I, Pd.refl, .int _⟩
  · have := List.getElem?_eq_none_iff.mp hd
    unfold rngC at this
    rw [List.length_map, List.length_range] at this
    exact this
abbrev BIG : Int := 4611686018427387904
def iRange1 (da : DA) : DI := fun δ => bindR (da δ) fun ws δ1 => match ws with
  | [.s (.int j)] => if -BIG ≤ j ∧ j < BIG then some (.ok (rngD 0 j.toNat) δ1) else none
  | _ => none
def iRange2 (da : DA) : DI := fun δ => bindR (da δ) fun ws δ1 => match ws with
  | [.s (.int i), .s (.int j)] => if (-BIG ≤ i ∧ i < BIG) ∧ -BIG ≤ j ∧ j < BIG then some (.ok (rngD i (j - i).toNat) δ1) else none
  | _ => none
/-- range(i, j, -1) -/
def iRangeN (da : DA) : DI := fun δ => bindR (da δ) fun ws δ1 => match ws with
  | [.s (.int i), .s (.int j), .s (.int c)] => if ((-BIG ≤ i ∧ i < BIG) ∧ -BIG ≤ j ∧ j < BIG) ∧ c = -1 then some (.ok (rngC i (-1) (i - j).toNat) δ1) else none
  | _ => none
theorem BIG_eq : BIG = 2 ^ 62 := by decide
theorem d_irange1 {tg a : Expr} {p pos : Pos} (hg : Gl X "range") (hm : X.mg "range" = none) (ha : PA X [a] (TAD K mg Wx da)) (hs : starEach [a] X.env = [(false, eval a X.env)] := by rfl) : PI X tg (.Call (.Name "range" p) [a] [] pos) (TID K mg Wx (iRange1 da)) :=
  PI.imp (pi_range1 hg hm ha hs) fun σ H Rr h => by
    obtain ⟨c, F, δ, r, I, e, k⟩ := h
    refine TAD.seq I e (by intro x δ1 e; subst e; exact k) fun ws δ1 e1 vs F1 H1 I1 P1 ok1 => ?_
    split at e1
    · rename_i j
      obtain ⟨⟨h1, h2⟩, rfl⟩ := if_some e1
      cases ok1 with
      | cons o1 r1 =>
        cases r1
        obtain rfl := DR.intI o1
        exact ⟨j, rfl, h1, h2, k _ F1 H1 I1 P1 goes_rng⟩
    · cases e1
theorem d_irange2 {tg a b : Expr} {p pos : Pos} (hg : Gl X "range") (hm : X.mg "range" = none) (ha : PA X [a, b] (TAD K mg Wx da)) (hs : starEach [a, b] X.env = [(false, eval a X.env), (false, eval b X.env)] := by rfl) (hs2 : starEach [b] X.env = [(false, eval b X.env)] := by rfl) : PI X tg (.Call (.Name "range" p) [a, b] [] pos) (TID K mg Wx (iRange2 da)) :=
  PI.imp (pi_range2 hg hm ha hs hs2) fun σ H Rr h => by
    obtain ⟨c, F, δ, r, I, e, k⟩ := h
    refine TAD.seq I e (by intro x δ1 e; subst e; exact k) fun ws δ1 e1 vs F1 H1 I1 P1 ok1 => ?_
    split at e1
    · rename_i i j
      obtain ⟨⟨⟨h1, h2⟩, h3, h4⟩, rfl⟩ := if_some e1
      cases ok1 with
      | cons o1 r1 =>
        cases r1 with
        | cons o2 r2 =>
          cases r2
          obtain rfl := DR.intI o1
          obtain rfl := DR.intI o2
          exact ⟨i, j, rfl, ⟨h1, h2, h3, h4⟩, k _ F1 H1 I1 P1 goes_rng⟩
    · cases e1
theorem d_irangeN {tg a b c0 : Expr} {p pos : Pos} (hg : Gl X "range") (hm : X.mg "range" = none) (ha : PA X [a, b, c0] (TAD K mg Wx da)) (hs : starEach [a, b, c0] X.env = (false, eval a X.env) :: starEach [b, c0] X.env := by rfl) (hpl : (backTo pos (starEach [b, c0] X.env)).any (·.1) = false := by rfl) : PI X tg (.Call (.Name "range" p) [a, b, c0] [] pos) (TID K mg Wx (iRangeN da)) :=
  PI.imp (pi_range3 hg hm ha hs hpl) fun σ H Rr h => by
    obtain ⟨c, F, δ, r, I, e, k⟩ := h
    refine TAD.seq I e (by intro x δ1 e; subst e; exact k) fun ws δ1 e1 vs F1 H1 I1 P1 ok1 => ?_
    split at e1
    · rename_i i j cc
      obtain ⟨⟨⟨⟨h1, h2⟩, h3, h4⟩, h5⟩, rfl⟩ := if_some e1
      cases ok1 with
      | cons o1 r1 =>
        cases r1 with
        | cons o2 r2 =>
          cases r2 with
          | cons o3 r3 =>
            cases r3
            obtain rfl := DR.intI o1
            obtain rfl := DR.intI o2
            obtain rfl := DR.intI o3
            subst h5
            exact ⟨i, j, -1, _, rfl, RgC.neg h1 h2 h3 h4, k _ F1 H1 I1 P1 goes_rngC⟩
    · cases e1
def forD (tg : DG) (body : DB) : List D → DS → Option SO
  | [], δ => some (.nx δ)
  | d :: ds, δ => match tg d δ with
    | some δ1 => match body δ1 with
      | some (.nx δ2) => forD tg body ds δ2
      | some (.ct δ2) => forD tg body ds δ2
      | some (.bk δ2) => some (.nx δ2)
      | r => r
    | none => none
def dFor (di : DI) (tg : DG) (body : DB) : DB := fun δ => bindS (di δ) fun ds δ1 => forD tg body ds δ1
theorem d_for {tg iter : Expr} {body : List Stmt} {di : DI} {g : TG} {dg : DG} {vs : List Nat} (hp : PassesOwn (model X.prog X.w) X.A X.env X.xe) (hc : X.calm = true) (hi : PI X tg iter (TID K mg Wx di)) (hg : PG X tg g) (sg : SndG K mg vs g dg) (hb : PSs X body (TSD K mg Wx db))
    (hs : ∀ x, foldedSetIterable iter X.env x = pure x := by intro _; rfl) : PS X (.For tg iter body [] pos) (TSD K mg Wx (dFor di dg db)) :=
  PS.imp (ps_for hp hc hi hg hb hs) fun Dd σ H h => by
    obtain ⟨c, F, δ, r, I, e, k⟩ := h
    rcases bindS_some e with ⟨ds, δ1, e1, e2⟩ | ⟨x, δ1, e1, rfl⟩
    · refine ⟨c, F, δ, _, I, e1, fun J F1 H1 I1 P1 go => ?_⟩
      refine ⟨fun i m σ H => ∃ F' δ', Ex F1 F' ∧ SI K mg c F' H σ δ' ∧ m = ds.length - i ∧ i ≤ ds.length ∧ forD dg db (ds.drop i) δ' = some r, ⟨ds.length, F1, δ1, Ex.refl _, I1, by omega, by omega, by rw [List.drop_zero]; exact e2⟩, ?_⟩
      rintro i m σ' H' ⟨F', δ', eF, I', rfl, hi', e'⟩
      obtain ⟨gy, gn⟩ := go c i F' H' σ' δ' eF I'
      cases hd : ds[i]? with
      | none =>
        refine .inl ⟨gn hd, ?_⟩
        rw [List.drop_eq_nil_of_le (List.getElem?_eq_none_iff.mp hd)] at e'
        obtain rfl := Option.some.inj e'
        exact k σ' F' H' I' (P1.f.trans eF)
      | some d =>
        obtain ⟨hl, hd'⟩ := List.getElem?_eq_some_iff.mp hd
        obtain ⟨g1, g2⟩ := gy d hd
        have edrop : ds.drop i = d :: ds.drop (i + 1) := by rw [List.drop_eq_getElem_cons hl, hd']
        rw [edrop] at e'
        unfold forD at e'
        split at e'
        · rename_i δ2 et
          refine .inr ⟨g1, fun σ' H' => ∃ F' δ', Ex F1 F' ∧ SI K mg c F' H' σ' δ' ∧ forD dg db (ds.drop (i + 1)) δ' = some r, fun σ2 H2 ⟨F2, δ3, eF2, I2, e3⟩ => ⟨ds.length - (i + 1), by omega, F2, δ3, eF2, I2, rfl, by omega, e3⟩, fun x H2 hy => ?_⟩
          obtain ⟨F2, I2, P2, rx⟩ := g2 x H2 hy
          refine sg c F2 H2 σ' δ' x d δ2 _ I2 rx et fun σ3 I3 _ _ => ?_
          have eF2 := eF.trans P2.f
          have next : ∀ δ4, forD dg db (ds.drop (i + 1)) δ4 = some r → ∀ σ' F' H', SI K mg c F' H' σ' δ4 → Ex F2 F' → ∃ F' δ', Ex F1 F' ∧ SI K mg c F' H' σ' δ' ∧ forD dg db (ds.drop (i + 1)) δ' = some r := fun δ4 e4 σ' F' H' I' e => ⟨F', δ4, eF2.trans e, I', e4⟩
          have k' := k.after (P1.f.trans eF2)
          split at e'
          all_goals rename_i eb
          · exact ⟨c, F2, δ2, _, I3, eb, next _ e'⟩
          · exact ⟨c, F2, δ2, _, I3, eb, next _ e'⟩
          · obtain rfl := Option.some.inj e'
            exact ⟨c, F2, δ2, _, I3, eb, k'⟩
          · rename_i n1 n2
            refine ⟨c, F2, δ2, r, I3, e', ?_⟩
            cases r with
            | nx δ' => exact absurd e' (n1 δ')
            | ct δ' => exact absurd e' (n2 δ')
            | bk δ' => exact absurd e' (eb δ')
            | rt w δ' => exact k'
            | ex x δ' => exact k'
        · cases e'
    · exact ⟨c, F, δ, _, I, e1, fun cls dd F' H' I' eF ok => k.x x δ1 rfl cls dd σ F' H' I' eF ok⟩
def whileD (dt : DT) (body : DB) : Nat → DS → Option SO
  | 0, _ => none
  | n + 1, δ => bindS (dt δ) fun b δ1 => if b = true then match body δ1 with
      | some (.nx δ2) => whileD dt body n δ2
      | some (.ct δ2) => whileD dt body n δ2
      | some (.bk δ2) => some (.nx δ2)
      | r => r
    else some (.nx δ1)
open Classical in
noncomputable def dWhile (dt : DT) (body : DB) : DB := fun δ => if h : ∃ n r, whileD dt body n δ = some r then some h.choose_spec.choose else none
theorem whileD_mono {r : SO} : ∀ {n m : Nat} {δ : DS}, n ≤ m → whileD dt db n δ = some r → whileD dt db m δ = some r
  | 0, _, _, _, h => by cases h
  | n + 1, 0, _, h, _ => absurd h (Nat.not_succ_le_zero n)
  | n + 1, m + 1, δ, hl, h => by
    unfold whileD at h ⊢
    rcases bindS_some h with ⟨b, δ1, e1, e2⟩ | ⟨x, δ1, e1, rfl⟩
    · rw [e1, bindS_ok]
      cases b with
      | false => exact e2
      | true =>
        rw [if_pos rfl] at e2 ⊢
        cases eb : db δ1 with
        | none => rw [eb] at e2; cases e2
        | some o =>
          rw [eb] at e2
          cases o with
          | nx δ2 => exact whileD_mono (Nat.le_of_succ_le_succ hl) e2
          | ct δ2 => exact whileD_mono (Nat.le_of_succ_le_succ hl) e2
          | bk δ2 => exact e2
          | rt w δ2 => exact e2
          | ex x δ2 => exact e2
    · rw [e1, bindS_ex]
theorem dWhile_of {n : Nat} {r : SO} (h : whileD dt db n δ = some r) : dWhile dt db δ = some r := by
  have hx : ∃ n r, whileD dt db n δ = some r := ⟨n, r, h⟩
  unfold dWhile
  rw [dif_pos hx]
  have h2 := hx.choose_spec.choose_spec
  have h3 := whileD_mono (Nat.le_max_left n hx.choose) h
  have h4 := whileD_mono (Nat.le_max_right n hx.choose) h2
  rw [h3] at h4
  exact h4.symm
theorem dWhile_some {r : SO} (h : dWhile dt db δ = some r) : ∃ n, whileD dt db n δ = some r := by
  unfold dWhile at h
  split at h
  · rename_i hx
    obtain rfl := Option.some.inj h
    exact ⟨_, hx.choose_spec.choose_spec⟩
  · cases h
theorem d_while {c0 : Expr} {body : List Stmt} (hp : PassesOwn (model X.prog X.w) X.A X.env X.xe) (hc : PT X c0 (TTD K mg Wx dt)) (hb : PSs X body (TSD K mg Wx db)) : PS X (.While c0 body [] pos) (TSD K mg Wx (dWhile dt db)) :=
  PS.imp (ps_while hp hc hb) fun Dd σ H h => by
    obtain ⟨c, F, δ, r, I, e, k⟩ := h
    obtain ⟨n, e⟩ := dWhile_some e
    refine ⟨fun m σ H => ∃ F' δ', Ex F F' ∧ SI K mg c F' H σ δ' ∧ whileD dt db m δ' = some r, ⟨n, F, δ, Ex.refl _, I, e⟩, ?_⟩
    rintro m σ' H' ⟨F', δ', eF, I', e'⟩
    cases m with
    | zero => cases e'
    | succ m =>
      unfold whileD at e'
      refine TTD.seqS I' e' (k.after eF) fun b δ1 e1 F1 H1 I1 P1 => ?_
      cases b with
      | false =>
        rw [if_neg Bool.false_ne_true] at e1 ⊢
        obtain rfl := Option.some.inj e1
        exact k σ' F1 H1 I1 (eF.trans P1.f)
      | true =>
        rw [if_pos rfl] at e1 ⊢
        refine ⟨fun σ' H' => ∃ F' δ', Ex F F' ∧ SI K mg c F' H' σ' δ' ∧ whileD dt db m δ' = some r, fun σ2 H2 ⟨F2, δ3, eF2, I2, e3⟩ => ⟨m, Nat.lt_succ_self m, F2, δ3, eF2, I2, e3⟩, ?_⟩
        have eF2 := eF.trans P1.f
        have next : ∀ δ4, whileD dt db m δ4 = some r → ∀ σ' F' H', SI K mg c F' H' σ' δ4 → Ex F1 F' → ∃ F' δ', Ex F F' ∧ SI K mg c F' H' σ' δ' ∧ whileD dt db m δ' = some r := fun δ4 e4 σ' F' H' I' e => ⟨F', δ4, eF2.trans e, I', e4⟩
        have k' := k.after eF2
        split at e1
        all_goals rename_i eb
        · exact ⟨c, F1, δ1, _, I1, eb, next _ e1⟩
        · exact ⟨c, F1, δ1, _, I1, eb, next _ e1⟩
        · obtain rfl := Option.some.inj e1
          exact ⟨c, F1, δ1, _, I1, eb, k'⟩
        · rename_i n1 n2
          refine ⟨c, F1, δ1, r, I1, e1, ?_⟩
          cases r with
          | nx δ' => exact absurd e1 (n1 δ')
          | ct δ' => exact absurd e1 (n2 δ')
          | bk δ' => exact absurd e1 (eb δ')
          | rt w δ' => exact k'
          | ex x δ' => exact k'
theorem SI.poke (I : SI K mg c F H σ δ) {p : Addr} {o : HO} (hf : F p = none) (h0 : c.H0 p = none) (no : ∀ i, ¬ Ow σ δ i p) : SI K mg c F (upd H p o) σ δ := by
  refine ⟨I.ff, I.fh.mut hf, fun a u h n => ?_, I.ft, fun a u h => ?_, I.len, fun i s h => ?_, I.nd⟩
  · rw [upd_ne (by rintro rfl; rw [h0] at h; cases h)]
    exact I.fr a u h n
  · by_cases e : a = p
    · exact ⟨o, by rw [e, upd_same]⟩
    · rw [upd_ne e]
      exact I.dm a u h
  · obtain ⟨x, hx, q⟩ := I.sl i s h
    refine ⟨x, hx, q.move (Ex.refl F) fun a u ha hn io ex => ⟨?_, hn⟩⟩
    rw [upd_ne]
    · exact ha
    · rintro rfl
      exact no i ⟨by rw [← ex]; exact hx, s, h, io⟩
/-- [el for .. in ds if ct] -/
def lcD (vs : List Nat) (tg : DG) (ct : DT) (el : DE) : List D → List D → DS → Option (R (List D))
  | [], acc, δ => some (.ok acc (wipeD δ vs))
  | d :: ds, acc, δ => match tg d (wipeD δ vs) with
    | some δ1 => match ct δ1 with
      | some (.ok true δ2) => match dSh el δ2 with
        | some (.ok (.s d') δ3) => if acc.length < LN then lcD vs tg ct el ds (acc ++ [d']) δ3 else none
        | _ => none
      | some (.ok false δ2) => lcD vs tg ct el ds acc δ2
      | _ => none
    | none => none
def dLc (vs : List Nat) (di : DI) (tg : DG) (ct : DT) (el : DE) : DE := fun δ => bindR (di δ) fun ds δ1 => if lightS δ1 vs = true then
  match lcD vs tg ct el ds [] δ1 with
  | some (.ok xs δ2) => some (.ok (.o (.lst xs)) (restD δ1 δ2 vs))
  | _ => none else none
def dYes : DT := fun δ => some (.ok true δ)
theorem d_noIf : PTs X [] (TTD K mg Wx dYes) := by
  refine ⟨fun pins s σ H Q I h => pts_nil.run pins s σ H Q I ?_⟩
  obtain ⟨c, F, δ, r, I, e, k⟩ := h
  obtain rfl := Option.some.inj e
  exact k F H I Pd.refl
theorem d_oneIf {c0 : Expr} (h : PT X c0 (TTD K mg Wx dt)) : PTs X [c0] (TTD K mg Wx dt) := pts_one h
def W0 : WX := fun _ _ _ _ => False
theorem Ow.eqv {σ σ' : L2.St} {vs : List Nat} (e : wipe σ' vs = wipe σ vs) {i : Nat} {p : Addr} (hv : i ∉ vs) (h : Ow σ' δ i p) : Ow σ δ i p := by
  obtain ⟨h1, s, h2, h3⟩ := h
  refine ⟨?_, s, h2, h3⟩
  rw [← wipe_out hv, ← e, wipe_out hv]
  exact h1
theorem td_lc {wi : DI} {g : TG} {dg : DG} {ct : DT} {el : DE} {vs : List Nat} (sg : SndG K mg vs g dg) {Q : VK} (h : TD K mg Wx (dLc vs wi dg ct el) σ H Q) : tLc (TID K mg Wx wi) g (TTD K mg W0 ct) (TD K mg W0 (dSh el)) vs σ H Q := by
  obtain ⟨c, F, δ, r, I, e, k⟩ := h
  rcases bindR_some e with ⟨ds, δ1, e1, e2⟩ | ⟨x, δ1, e1, rfl⟩
  · obtain ⟨hlight, e2⟩ := ite_some e2
    refine ⟨c, F, δ, _, I, e1, fun J F1 H1 I1 P1 go => ?_⟩
    intro D hD
    split at e2
    · rename_i xs δ2 elc
      obtain rfl := Option.some.inj e2
      have hF1D : F1 D = none := I1.fh.back hD
      have I1w := I1.wiped vs
      have noD : ∀ i, ¬ Ow (wipe σ vs) (wipeD δ1 vs) i D := fun i h => I1.noOw hD i (h.wiped I1.len).2
      -- what holds at each turn
      refine ⟨fun i m H' => ∃ F' δ' acc accV, Ex F1 F' ∧ SI K mg c F' H' (wipe σ vs) (wipeD δ' vs) ∧ m = ds.length - i ∧ i ≤ ds.length ∧ lcD vs dg ct el (ds.drop i) acc δ' = some (.ok xs δ2) ∧
        H' D = some (.lst accV) ∧ F' D = none ∧ (∀ j, ¬ Ow (wipe σ vs) (wipeD δ' vs) j D) ∧ DRs K mg F' accV acc ∧
        (∀ a o, H1 a = some o → F1 a = none → (∀ j, ¬ Ow σ δ1 j a) → H' a = some o ∧ F' a = none ∧ ∀ j, ¬ Ow (wipe σ vs) (wipeD δ' vs) j a) ∧ (∀ a o, H1 a = some o → ∃ u, H' a = some u),
        ⟨ds.length, F1, δ1, [], [], Ex.refl _, I1w.poke hF1D (I1.new0 hD) noD, by omega, by omega, by rw [List.drop_zero]; exact elc, upd_same, hF1D, noD, .nil, ?_, ?_⟩, ?_⟩
      · intro a o ha hn no
        refine ⟨by rw [upd_ne (ne_of_none ha hD)]; exact ha, hn, fun j hj => no j (hj.wiped I1.len).2⟩
      · intro a o ha
        exact ⟨o, by rw [upd_ne (ne_of_none ha hD)]; exact ha⟩
      · rintro i m H' ⟨F', δ', acc, accV, eF, I', rfl, hi, e', hHD, hFD, nD, rD, keep, dmk⟩
        obtain ⟨gy, gn⟩ := go c i F' H' _ _ eF I'
        cases hd : ds[i]? with
        | none =>
          refine .inl ⟨gn hd, ?_⟩
          rw [List.drop_eq_nil_of_le (List.getElem?_eq_none_iff.mp hd)] at e'
          have e3 := R.ok.inj (Option.some.inj e')
          obtain ⟨rfl, rfl⟩ := e3
          -- the slots come back
          have hlen : δ'.length = δ1.length := by
            have := I'.len
            rw [wipe_length, wipeD_length] at this
            rw [← this, I1.len]
          have IR : SI K mg c F' H' σ (restD δ1 (wipeD δ' vs) vs) := by
            have owr : ∀ {j a}, Ow σ (restD δ1 (wipeD δ' vs) vs) j a → Ow (wipe σ vs) (wipeD δ' vs) j a := fun {j a} ⟨h1, s, h2, h3⟩ => by
              by_cases hj : j ∈ vs
              · have hl : j < δ1.length := by rw [← I1.len]; exact (List.getElem?_eq_some_iff.mp h1).1
                rw [restD_in (by rw [wipeD_length, hlen]; exact hl) hj] at h2
                obtain ⟨s', h4, h5⟩ := lightS_get hlight hj
                rw [List.getD_eq_getElem?_getD, h4] at h2
                obtain rfl := Option.some.inj h2
                rw [Option.getD_some] at h3
                rw [h5] at h3
                cases h3
              · rw [restD_out hj] at h2
                exact ⟨by rw [wipe_out hj]; exact h1, s, h2, h3⟩
            refine ⟨I'.ff, I'.fh, I'.fr, I'.ft, I'.dm, by rw [restD_length, wipeD_length, hlen]; exact I1.len, fun j s hj => ?_, fun i j a hi hj => I'.nd i j a (owr hi) (owr hj)⟩
            by_cases hv : j ∈ vs
            · have hl : j < δ1.length := by
                have := (List.getElem?_eq_some_iff.mp hj).1
                rw [restD_length, wipeD_length, hlen] at this
                exact this
              rw [restD_in (by rw [wipeD_length, hlen]; exact hl) hv] at hj
              obtain ⟨s', h4, h5⟩ := lightS_get hlight hv
              rw [List.getD_eq_getElem?_getD, h4] at hj
              obtain rfl := Option.some.inj hj
              rw [Option.getD_some]
              obtain ⟨x, hx, q⟩ := I1.sl j s' h4
              exact ⟨x, hx, q.move eF fun a o _ _ io _ => by rw [h5] at io; cases io⟩
            · rw [restD_out hv] at hj
              obtain ⟨x, hx, q⟩ := I'.sl j s hj
              rw [wipe_out hv] at hx
              exact ⟨x, hx, q⟩
          have owr : ∀ {j a}, Ow σ (restD δ1 (wipeD δ' vs) vs) j a → Ow (wipe σ vs) (wipeD δ' vs) j a := fun {j a} ⟨h1, s, h2, h3⟩ => by
            by_cases hj : j ∈ vs
            · have hl : j < δ1.length := by rw [← I1.len]; exact (List.getElem?_eq_some_iff.mp h1).1
              rw [restD_in (by rw [wipeD_length, hlen]; exact hl) hj] at h2
              obtain ⟨s', h4, h5⟩ := lightS_get hlight hj
              rw [List.getD_eq_getElem?_getD, h4] at h2
              obtain rfl := Option.some.inj h2
              rw [Option.getD_some] at h3
              rw [h5] at h3
              cases h3
            · rw [restD_out hj] at h2
              exact ⟨by rw [wipe_out hj]; exact h1, s, h2, h3⟩
          refine k (.ref D) F' H' IR (P1.trans ⟨eF, fun a o ha hn no => ?_, dmk⟩) ⟨D, rfl, ⟨hFD, _, hHD, .lst rD⟩, I1.new0 hD, fun j hj => nD j (owr hj)⟩ fun a ea => ?_
          · obtain ⟨h1, h2, h3⟩ := keep a o ha hn no
            exact ⟨h1, h2, fun j hj => h3 j (owr hj)⟩
          · cases ea
            exact P1.new hD
        | some d =>
          obtain ⟨hl, hd'⟩ := List.getElem?_eq_some_iff.mp hd
          obtain ⟨g1, g2⟩ := gy d hd
          have edrop : ds.drop i = d :: ds.drop (i + 1) := by rw [List.drop_eq_getElem_cons hl, hd']
          rw [edrop] at e'
          unfold lcD at e'
          split at e'
          · rename_i δ3 et
            refine .inr ⟨g1, fun H' => ∃ F' δ' acc accV, Ex F1 F' ∧ SI K mg c F' H' (wipe σ vs) (wipeD δ' vs) ∧ lcD vs dg ct el (ds.drop (i + 1)) acc δ' = some (.ok xs δ2) ∧
              H' D = some (.lst accV) ∧ F' D = none ∧ (∀ j, ¬ Ow (wipe σ vs) (wipeD δ' vs) j D) ∧ DRs K mg F' accV acc ∧
              (∀ a o, H1 a = some o → F1 a = none → (∀ j, ¬ Ow σ δ1 j a) → H' a = some o ∧ F' a = none ∧ ∀ j, ¬ Ow (wipe σ vs) (wipeD δ' vs) j a) ∧ (∀ a o, H1 a = some o → ∃ u, H' a = some u),
              fun H2 ⟨F2, δ4, acc2, accV2, q1, q2, q3, q4⟩ => ⟨ds.length - (i + 1), by omega, F2, δ4, acc2, accV2, q1, q2, rfl, by omega, q3, q4⟩, fun x H2 hy => ?_⟩
            obtain ⟨F2, I2, P2, rx⟩ := g2 x H2 hy
            refine sg c F2 H2 (wipe σ vs) (wipeD δ' vs) x d δ3 _ I2 rx et fun σ3 I3 w3 o3 => ?_
            have wid : wipe (wipe σ vs) vs = wipe σ vs := by
              apply List.ext_getElem?
              intro j
              by_cases hj : j ∈ vs
              · by_cases hl : j < σ.length
                · rw [wipe_in (by rw [wipe_length]; exact hl) hj, wipe_in hl hj]
                · rw [List.getElem?_eq_none (by rw [wipe_length, wipe_length]; omega), List.getElem?_eq_none (by rw [wipe_length]; omega)]
              · rw [wipe_out hj]
            rw [wid] at w3
            refine ⟨w3, ?_⟩
            -- behind a step under σ3
            have ow3 : ∀ {δ5 : DS} {j : Nat} {a : Addr}, σ3.length = δ5.length → Ow (wipe σ vs) (wipeD δ5 vs) j a → Ow σ3 δ5 j a := fun {δ5 j a} hl5 h => by
              rw [← w3] at h
              exact (h.wiped hl5).2
            have stepK : ∀ {F5 H5 : Hp} {δ5 : DS}, SI K mg c F5 H5 σ3 δ5 → Pd σ3 F2 H2 δ3 F5 H5 δ5 → (H5 D = some (.lst accV) ∧ F5 D = none ∧ ∀ j, ¬ Ow (wipe σ vs) (wipeD δ5 vs) j D) ∧
                (∀ a o, H1 a = some o → F1 a = none → (∀ j, ¬ Ow σ δ1 j a) → H5 a = some o ∧ F5 a = none ∧ ∀ j, ¬ Ow (wipe σ vs) (wipeD δ5 vs) j a) ∧ (∀ a o, H1 a = some o → ∃ u, H5 a = some u) := fun {F5 H5 δ5} I5 P5 => by
              refine ⟨?_, fun a o ha hn no => ?_, fun a o ha => ?_⟩
              · obtain ⟨h1, h2, h3⟩ := P2.h D _ hHD hFD nD
                obtain ⟨h4, h5, h6⟩ := P5.h D _ h1 h2 fun j hj => h3 j (o3 j D hj)
                exact ⟨h4, h5, fun j hj => h6 j (ow3 I5.len hj)⟩
              · obtain ⟨h1, h2, h3⟩ := keep a o ha hn no
                obtain ⟨h4, h5, h6⟩ := P2.h a o h1 h2 h3
                obtain ⟨h7, h8, h9⟩ := P5.h a o h4 h5 fun j hj => h6 j (o3 j a hj)
                exact ⟨h7, h8, fun j hj => h9 j (ow3 I5.len hj)⟩
              · obtain ⟨u, hu⟩ := dmk a o ha
                obtain ⟨u2, hu2⟩ := P2.d a u hu
                exact P5.d a u2 hu2
            split at e'
            · rename_i δ4 ec
              refine ⟨c, F2, δ3, _, I3, ec, fun F4 H4 I4 P4 => ?_⟩
              dsimp only
              rw [if_pos rfl]
              split at e'
              · rename_i d' δ5 ee
                obtain ⟨hlen, e'⟩ := ite_some e'
                refine ⟨c, F4, δ4, _, I4, ee, fun y F5 H5 I5 P5 ok5 nw5 => ?_⟩
                obtain ⟨⟨h1, h2, h3⟩, kp, dk⟩ := stepK I5 (P4.trans P5)
                have eF5 : Ex F' F5 := (P2.f.trans P4.f).trans P5.f
                have rD5 : DRs K mg F5 accV acc := rD.mono eF5
                have I5w : SI K mg c F5 H5 (wipe σ vs) (wipeD δ5 vs) := by
                  have := I5.wiped vs
                  rw [w3] at this
                  exact this
                refine ⟨accV, h1, sz_line' (by rw [rD5.length]; exact hlen), F5, δ5, _, accV ++ [y], eF.trans eF5, I5w.poke h2 (I1.new0 hD) h3, e', upd_same, h2, h3, rD5.append (.one ok5), fun a o ha hn no => ?_, fun a o ha => ?_⟩
                · obtain ⟨q1, q2, q3⟩ := kp a o ha hn no
                  exact ⟨by rw [upd_ne (ne_of_none ha hD)]; exact q1, q2, q3⟩
                · obtain ⟨u, hu⟩ := dk a o ha
                  exact ⟨u, by rw [upd_ne (ne_of_none ha hD)]; exact hu⟩
              · cases e'
            · rename_i δ4 ec
              refine ⟨c, F2, δ3, _, I3, ec, fun F4 H4 I4 P4 => ?_⟩
              dsimp only
              rw [if_neg Bool.false_ne_true]
              obtain ⟨⟨h1, h2, h3⟩, kp, dk⟩ := stepK I4 P4
              have eF4 : Ex F' F4 := P2.f.trans P4.f
              have I4w : SI K mg c F4 H4 (wipe σ vs) (wipeD δ4 vs) := by
                have := I4.wiped vs
                rw [w3] at this
                exact this
              exact ⟨F4, δ4, _, accV, eF.trans eF4, I4w, e', h1, h2, h3, rD.mono eF4, kp, dk⟩
            · cases e'
          · cases e'
    · cases e2
  · exact ⟨c, F, δ, _, I, e1, k⟩
end
end DL
set_option maxHeartbeats 2000000
namespace DL
open PySem PySem.Spec PyProof.Rows L2
section
variable {K : PySem.W.Frag} {mg : Str → Option Value} {X : Cx} {Wx : WX} {e a b : Expr} {pos : Pos} {de : DE} {da : DA} {c : Cm} {F H F' H' : Hp} {σ : L2.St} {δ : DS} {dt : DT} {db dc : DB}
theorem d_lc {elt tg iter : Expr} {ifs : List Expr} {scope : Scope} {own : List (Str × Nat)} {vs : List Nat} {di : DI} {g : TG} {dg : DG} {ct : DT} {el : DE} (ok : BlkOk X.N X.env.scope scope own) (hv : own.map (·.2) = vs) (hc : X.calm = true) (hN : X.N.Nodup) (hi : PI X tg iter (TID K mg Wx di)) (sg : SndG K mg vs g dg)
    (hg : ∀ (s : Shared) (H : Hp) (C : Addr) (cl : List (Str × Addr)) (fp : List Addr), PG (X.blk s H scope (compEnvC scope cl C X.env) fp) tg g) (ht : ∀ (s : Shared) (H : Hp) (C : Addr) (cl : List (Str × Addr)) (fp : List Addr), PTs (X.blk s H scope (compEnvC scope cl C X.env) fp) ifs (TTD K mg W0 ct))
    (he : ∀ (s : Shared) (H : Hp) (C : Addr) (cl : List (Str × Addr)) (fp : List Addr), PE (X.blk s H scope (compEnvC scope cl C X.env) fp) elt (TD K mg W0 el)) (hs : ∀ x, foldedSetIterable iter X.env x = pure x := by intro _; rfl) :
    PE X (.ListComp elt [⟨tg, iter, ifs, 0⟩] scope pos) (TD K mg Wx (dLc vs di dg ct el)) := by
  subst hv
  exact PE.imp (pe_lc hc hN hi ok hg ht (fun s H C cl fp => d_sh (he s H C cl fp)) hs) fun _ _ _ h => td_lc sg h
theorem d_setLc {i : Nat} {y : Str} {py : Pos} {elt tg iter : Expr} {ifs : List Expr} {scope : Scope} {own : List (Str × Nat)} {vs : List Nat} {spos : Pos} {di : DI} {g : TG} {dg : DG} {ct : DT} {el : DE} (ok : BlkOk X.N X.env.scope scope own) (hv : own.map (·.2) = vs) (hc : X.calm = true) (hN : X.N.Nodup) (hy : X.N[i]? = some y) (hyl : X.env.scope.names.lookup y = some .local)
    (hsw : swapsWith (.ListComp elt [⟨tg, iter, ifs, 0⟩] scope pos) (some (.Name y py)) spos.line X.env = pure true) (hi : PI X tg iter (TID K mg Wx di)) (sg : SndG K mg vs g dg)
    (hg : ∀ (s : Shared) (H : Hp) (C : Addr) (cl : List (Str × Addr)) (fp : List Addr), PG (X.blk s H scope (compEnvC scope cl C X.env) fp) tg g) (ht : ∀ (s : Shared) (H : Hp) (C : Addr) (cl : List (Str × Addr)) (fp : List Addr), PTs (X.blk s H scope (compEnvC scope cl C X.env) fp) ifs (TTD K mg W0 ct))
    (he : ∀ (s : Shared) (H : Hp) (C : Addr) (cl : List (Str × Addr)) (fp : List Addr), PE (X.blk s H scope (compEnvC scope cl C X.env) fp) elt (TD K mg W0 el)) (hs : ∀ x, foldedSetIterable iter X.env x = pure x := by intro _; rfl) :
    PS X (.Assign [.Name y py] (.ListComp elt [⟨tg, iter, ifs, 0⟩] scope pos) spos) (TSD K mg Wx (dSet i (dLc vs di dg ct el))) := by
  subst hv
  exact PS.imp (ps_setLc hc hN hy hyl hsw hi ok hg ht (fun s H C cl fp => d_sh (he s H C cl fp)) hs) fun Dd σ H h => by
    have h1 := td_set h
    exact td_lc sg h1
def startD (io : Bool) (n : Nat) (ds : List D) : DS := (match io, ds with
  | true, d :: r => SV.io d :: r.map SV.sh
  | _, ds => ds.map SV.sh) ++ List.replicate (n - ds.length) SV.un
def ioD (io : Bool) (δ : DS) : Option D := match io, δ with
  | true, .io d :: _ => some d
  | false, _ => some .non
  | _, _ => none
def finR (io : Bool) (w : W) (δ : DS) : Option FR := match w, ioD io δ with
  | .s d, some d0 => some (.rt (.s d) d0)
  | .o d, some d0 => some (.rt (.o d) d0)
  | _, _ => none
def finX (rz io : Bool) (x : DX) (δ : DS) : Option FR := match rz, ioD io δ with
  | true, some d0 => some (.ex x d0)
  | _, _ => none
def runD (rz io : Bool) (n k : Nat) (body : DB) (ds : List D) : Option FR := if ds.length = k then match body (startD io n ds) with
  | some (.nx δ) => finR io (.s .non) δ
  | some (.rt w δ) => finR io w δ
  | some (.ex x δ) => finX rz io x δ
  | _ => none else none
theorem runD_nx {io : Bool} {n k : Nat} {body : DB} : ∀ ds x d0, runD false io n k body ds ≠ some (.ex x d0) := fun ds x d0 h => by
  obtain ⟨_, h⟩ := ite_some h
  split at h
  · unfold finR at h
    split at h <;> first | cases h | (injection h with h; cases h)
  · unfold finR at h
    split at h <;> first | cases h | (injection h with h; cases h)
  · cases h
  · cases h
theorem ArgOk.length {io : Bool} {vs : List V} {ds : List D} (h : ArgOk K mg F H io vs ds) : vs.length = ds.length := by
  cases h with
  | no h => exact h.length
  | io _ h => exact congrArg (· + 1) h.length
theorem DRs.slots : ∀ {vs : List V} {ds : List D} {i : Nat} {s : SV}, DRs K mg F vs ds → (ds.map SV.sh)[i]? = some s → ∃ v d, vs[i]? = some v ∧ s = .sh d ∧ DR K mg F v d
  | vs, ds, i, s, h, e => by
    rw [List.getElem?_map, Option.map_eq_some_iff] at e
    obtain ⟨d, hd, rfl⟩ := e
    obtain ⟨v, hv, r⟩ := h.get hd
    exact ⟨v, d, hv, rfl, r⟩
theorem startD_false {n : Nat} {ds : List D} : startD false n ds = ds.map SV.sh ++ List.replicate (n - ds.length) SV.un := by
  unfold startD
  cases ds <;> rfl
/-- the state at a def's start -/
theorem start_ok {io : Bool} {N : List Str} {vs : List V} {ds : List D} (hfh : Ex F H) (h : ArgOk K mg F H io vs ds) (hn : ds.length ≤ N.length) :
    ∃ p, SI K mg ⟨F, H, p⟩ F H (L2.start N vs) (startD io N.length ds) ∧ (io = true → ∀ a, vs.head? = some (.ref a) → p = some a) ∧ (∀ a, p = some a → io = true ∧ vs.head? = some (.ref a)) := by
  have hl := h.length
  cases h with
  | no q =>
    refine ⟨none, ⟨Ex.refl F, hfh, fun _ _ h _ => h, fun _ _ _ h => h, fun _ o h => ⟨o, h⟩, ?_, fun i s hs => ?_, fun i j a hi => ?_⟩, fun h => by (cases h), fun a h => by cases h⟩
    · rw [startD_false]
      unfold L2.start
      rw [List.length_append, List.length_append, List.length_map, List.length_map, List.length_replicate, List.length_replicate, hl]
    · rw [startD_false] at hs
      unfold L2.start
      by_cases hi : i < ds.length
      · rw [List.getElem?_append_left (by rw [List.length_map]; exact hi)] at hs
        obtain ⟨v, d, hv, rfl, r⟩ := q.slots hs
        refine ⟨some v, ?_, v, rfl, r⟩
        rw [List.getElem?_append_left (by rw [List.length_map, hl]; exact hi), List.getElem?_map, hv]
        rfl
      · rw [List.getElem?_append_right (by rw [List.length_map]; omega), List.length_map] at hs
        obtain ⟨h1, h2⟩ := List.getElem?_eq_some_iff.mp hs
        rw [List.getElem_replicate] at h2
        subst h2
        rw [List.length_replicate] at h1
        refine ⟨none, ?_, trivial⟩
        rw [List.getElem?_append_right (by rw [List.length_map, hl]; omega), List.length_map, hl]
        exact List.getElem?_eq_some_iff.mpr ⟨by rw [List.length_replicate]; exact h1, List.getElem_replicate _⟩
    · exfalso
      obtain ⟨_, s, h2, h3⟩ := hi
      rw [startD_false] at h2
      by_cases hi : i < ds.length
      · rw [List.getElem?_append_left (by rw [List.length_map]; exact hi)] at h2
        obtain ⟨v, d, hv, rfl, r⟩ := q.slots h2
        cases h3
      · rw [List.getElem?_append_right (by rw [List.length_map]; omega)] at h2
        obtain ⟨h1, h2⟩ := List.getElem?_eq_some_iff.mp h2
        rw [List.getElem_replicate] at h2
        subst h2
        cases h3
  | @io a0 d0 vs' ds' ow q =>
    have hl' : vs'.length = ds'.length := q.length
    have est : L2.start N (.ref a0 :: vs') = some (.ref a0) :: (vs'.map some ++ List.replicate (N.length - (ds'.length + 1)) none) := by
      unfold L2.start
      rw [List.map_cons, List.cons_append, List.length_cons, hl']
    have esd : startD true N.length (d0 :: ds') = .io d0 :: (ds'.map SV.sh ++ List.replicate (N.length - (ds'.length + 1)) SV.un) := rfl
    have light : ∀ {i s}, (ds'.map SV.sh ++ List.replicate (N.length - (ds'.length + 1)) SV.un)[i]? = some s → isOw s = false ∧ ∃ x, (vs'.map some ++ List.replicate (N.length - (ds'.length + 1)) none)[i]? = some x ∧ SlotOk K mg ⟨F, H, some a0⟩ F H x s := fun {i s} hs => by
      by_cases hi : i < ds'.length
      · rw [List.getElem?_append_left (by rw [List.length_map]; exact hi)] at hs
        obtain ⟨v, d, hv, rfl, r⟩ := q.slots hs
        refine ⟨rfl, some v, ?_, v, rfl, r⟩
        rw [List.getElem?_append_left (by rw [List.length_map, hl']; exact hi), List.getElem?_map, hv]
        rfl
      · rw [List.getElem?_append_right (by rw [List.length_map]; omega), List.length_map] at hs
        obtain ⟨h1, h2⟩ := List.getElem?_eq_some_iff.mp hs
        rw [List.getElem_replicate] at h2
        subst h2
        rw [List.length_replicate] at h1
        refine ⟨rfl, none, ?_, trivial⟩
        rw [List.getElem?_append_right (by rw [List.length_map, hl']; omega), List.length_map, hl']
        exact List.getElem?_eq_some_iff.mpr ⟨by rw [List.length_replicate]; exact h1, List.getElem_replicate _⟩
    refine ⟨some a0, ⟨Ex.refl F, hfh, fun _ _ h _ => h, fun _ _ _ h => h, fun _ o h => ⟨o, h⟩, ?_, fun i s hs => ?_, fun i j a hi hj => ?_⟩, fun _ a ha => ?_, fun a ha => ⟨rfl, by obtain rfl := Option.some.inj ha; rfl⟩⟩
    · rw [est, esd, List.length_cons, List.length_cons, List.length_append, List.length_append, List.length_map, List.length_map, List.length_replicate, List.length_replicate, hl']
    · rw [esd] at hs
      rw [est]
      cases i with
      | zero =>
        obtain rfl := Option.some.inj hs
        exact ⟨_, rfl, a0, rfl, ow, rfl⟩
      | succ i =>
        rw [List.getElem?_cons_succ] at hs ⊢
        exact (light hs).2
    · have zero : ∀ {i b}, Ow (L2.start N (.ref a0 :: vs')) (startD true N.length (d0 :: ds')) i b → i = 0 := fun {i b} ⟨_, s, h2, h3⟩ => by
        cases i with
        | zero => rfl
        | succ i =>
          rw [esd, List.getElem?_cons_succ] at h2
          rw [(light h2).1] at h3
          cases h3
      rw [zero hi, zero hj]
    · have := Option.some.inj ha
      cases this
      rfl
theorem SI.chdOut {c : Cm} {io : Bool} {vs : List V} {d0 : D} {H0 F0 : Hp} {p : Option Addr} (I : SI K mg ⟨F0, H0, p⟩ F H σ δ) (hp : ∀ a, p = some a → io = true ∧ vs.head? = some (.ref a)) (hq : io = true → ∀ a, vs.head? = some (.ref a) → p = some a) (e : ioD io δ = some d0) : Chd K mg io F0 H0 vs F H d0 := by
  refine ⟨I.ff, I.fh, fun a o h n => I.fr a o h fun ep => n (hp a ep), I.ft, I.dm, fun hio a ha => ?_⟩
  subst hio
  unfold ioD at e
  split at e
  · rename_i d rest _
    obtain rfl := Option.some.inj e
    obtain ⟨x, hx, b, rfl, ow, hb⟩ := I.sl 0 (.io d) rfl
    have h2 := hq rfl a ha
    have hb' : p = some b := hb
    rw [h2] at hb'
    obtain rfl := Option.some.inj hb'
    exact ow
  · rename_i h1
    first
      | (exfalso; revert h1; decide)
      | (exfalso; rename_i h2 _; revert h2; decide)
      | (exfalso; contradiction)
  · cases e
/-- the body gives what the promise asks -/
theorem body_run {rz io : Bool} {N : List Str} {k : Nat} {body : DB} {vs : List V} {H : Hp} {Q : VK} {E : XK} (hk : k ≤ N.length) (h : SpD K mg rz io (runD rz io N.length k body) vs H Q E) :
    TSD K mg (if rz = true then fun cls d _ H => E cls d H else W0) body { nx := fun _ H' => Q .non H', rt := Q } (L2.start N vs) H := by
  obtain ⟨F, ds, r, fh, ao, e, fin⟩ := h
  obtain ⟨hlen, e⟩ := ite_some e
  obtain ⟨p, I, hp1, hp2⟩ := start_ok (N := N) fh ao (by rw [hlen]; exact hk)
  split at e
  · rename_i δ eb
    refine ⟨_, F, _, _, I, eb, fun σ' F' H' I' _ => ?_⟩
    unfold finR at e
    split at e
    · rename_i e1 e2
      obtain rfl := Option.some.inj e
      cases e1
      exact fin .non F' H' (I'.chdOut (c := ⟨F, H, p⟩) hp2 hp1 e2) .non
    · rename_i e1 e2
      cases e1
    · cases e
  · rename_i w δ eb
    refine ⟨_, F, _, _, I, eb, fun v σ' F' H' I' _ ok => ?_⟩
    unfold finR at e
    split at e
    · rename_i e2
      obtain rfl := Option.some.inj e
      exact fin v F' H' (I'.chdOut (c := ⟨F, H, p⟩) hp2 hp1 e2) ok
    · rename_i e2
      obtain rfl := Option.some.inj e
      obtain ⟨a, rfl, ow, h0, _⟩ := ok
      exact fin _ F' H' (I'.chdOut (c := ⟨F, H, p⟩) hp2 hp1 e2) ⟨a, rfl, h0, ow⟩
    · cases e
  · rename_i x δ eb
    refine ⟨_, F, _, _, I, eb, fun cls dd σ' F' H' I' _ ok => ?_⟩
    cases rz with
    | false => cases e
    | true =>
      cases e2 : ioD io δ with
      | none =>
        unfold finX at e
        rw [e2] at e
        cases e
      | some d0 =>
        unfold finX at e
        rw [e2] at e
        obtain rfl := Option.some.inj e
        exact fin.2 cls dd F' H' (I'.chdOut (c := ⟨F, H, p⟩) hp2 hp1 e2) ok
  · cases e
end
section
variable {P : Program} {w : World} {K : PySem.W.Frag} {mg : Str → Option Value} {base : Heap}
theorem len_ok {rz io : Bool} {n k : Nat} {body : DB} {ps : List Str} (hp : ps.length = k) : ∀ vs H Q E, SpD K mg rz io (runD rz io n k body) vs H Q E → vs.length = ps.length := fun vs H Q E ⟨F, ds, r, fh, ao, e, _⟩ => by
  obtain ⟨hlen, _⟩ := ite_some e
  rw [ao.length, hlen, hp]
/-- a def that raises nothing -/
theorem d_fn {x qual : Str} {st : Stmt} {f : Addr} {fd : FuncData} {N ps : List Str} {k n kk : Nat} {io : Bool} {body : DB} (F : Fun K x qual st f fd) (S : FnScope N ps (defScope st)) (hn : N.length = n) (hp : ps.length = k) (hk : k ≤ n)
    (hb : ∀ (cdv : Value) (A : Around) (outer : List Env) (s : Shared) (H : Hp) (E : XK), Room kk (A.deeper (envOfC qual (defScope st) s.heap.objs.size f cdv)) → PSs (cxOf CX0 P w K mg base N qual (defScope st) f cdv A outer s H E).nox (defBody st) (TSD K mg W0 body)) :
    FnOk P w K mg base CX0 (kk + 1) f fd ps (SpD K mg false io (runD false io n k body)) := by
  subst hn
  refine F.ok S (len_ok hp) fun cdv A outer s H vs Q E hr h => ⟨_, hb cdv A outer s H E hr, ?_⟩
  exact body_run hk h
/-- a def that may raise -/
theorem d_fnX {x qual : Str} {st : Stmt} {f : Addr} {fd : FuncData} {N ps : List Str} {k n kk : Nat} {io : Bool} {body : DB} (F : Fun K x qual st f fd) (S : FnScope N ps (defScope st)) (hn : N.length = n) (hp : ps.length = k) (hk : k ≤ n)
    (hb : ∀ (cdv : Value) (A : Around) (outer : List Env) (s : Shared) (H : Hp) (E : XK), Room kk (A.deeper (envOfC qual (defScope st) s.heap.objs.size f cdv)) → PSs (cxOf (L2.CX P w) P w K mg base N qual (defScope st) f cdv A outer s H E) (defBody st) (TSD K mg (fun cls d _ H => E cls d H) body)) :
    FnOk P w K mg base (L2.CX P w) (kk + 1) f fd ps (SpD K mg true io (runD true io n k body)) := by
  subst hn
  refine F.okX S (len_ok hp) fun cdv A outer s H vs Q E hr h => ⟨_, hb cdv A outer s H E hr, ?_⟩
  exact body_run hk h
end
end DL
set_option maxHeartbeats 2000000
namespace DL
open PySem PySem.Spec PyProof.Rows L2
section
variable {K : PySem.W.Frag} {mg : Str → Option Value} {X : Cx} {F H : Hp}
theorem View.intI {v : V} {i : Int} (h : View K mg F H v (.int i)) : v = .int i := DR.intI (View.dr h rfl)
theorem View.strI {v : V} {i : Str} (h : View K mg F H v (.str i)) : v = .str i := DR.strI (View.dr h rfl)
theorem View.blI {v : V} {i : Bool} (h : View K mg F H v (.bl i)) : v = .bl i := DR.blI (View.dr h rfl)
theorem View.nonI {v : V} (h : View K mg F H v .non) : v = .non := DR.nonI (View.dr h rfl)
theorem View.tyI {v : V} {n : String} (h : View K mg F H v (.ty n)) : v = .ty n := DR.tyI (View.dr h rfl)
theorem View.tupI {v : V} {ds : List D} (e : Ex F H) (h : View K mg F H v (.tup ds)) : ∃ a xs, v = .ref a ∧ H a = some (.tup xs) ∧ DRs K mg F xs ds := by
  obtain ⟨a, xs, rfl, h1, q⟩ := DR.tupI (View.dr h rfl)
  exact ⟨a, xs, rfl, e _ _ h1, q⟩
theorem View.scrI {v : V} {ds : List D} (e : Ex F H) (h : View K mg F H v (.scr ds)) : ∃ a xs, v = .ref a ∧ SqL K H a xs ∧ DRs K mg F xs ds := by
  obtain ⟨a, xs, rfl, h1, q⟩ := DR.scrI (View.dr h rfl)
  exact ⟨a, xs, rfl, ex_sql e h1, q⟩
theorem DRs.nil_iff {xs : List V} {ds : List D} (h : DRs K mg F xs ds) : xs = [] ↔ ds = [] := by
  cases h with
  | nil => simp
  | cons _ _ => simp
def fAdd : D → D → Option RW
  | .int i, .int j => some (.v (.int (i + j)))
  | .str a, .str b => if a.length + b.length ≤ LN then some (.v (.str (a ++ b))) else none
  | .lst xs, .lst ys => if xs.length + ys.length ≤ LN then some (.n (.lst (xs ++ ys))) else none
  | .tup [], .tup ys => if ys.length ≤ LN then some (.v (.tup ys)) else none
  | .tup (x :: xs), .tup [] => if (x :: xs).length ≤ LN then some (.v (.tup (x :: xs))) else none
  | .tup (x :: xs), .tup (y :: ys) => if (x :: xs).length + (y :: ys).length ≤ LN then some (.t (.tup ((x :: xs) ++ (y :: ys)))) else none
  | _, _ => none
def rAdd4 (K : PySem.W.Frag) : R2 := fun x y H Q => (rI0 fun i j => .int (i + j)) x y H Q ∨ ((∃ i j, x = .str i ∧ y = .str j ∧ i.length + j.length ≤ sizeLine ∧ Q (.str (i ++ j)) H) ∨ (rCat x y H Q ∨ rCatA K x y H Q))
theorem op_addA : OpR X (binaryOp .Add) (rAdd4 X.K) := OpR.or op_add (OpR.or op_add_str (OpR.or op_cat op_catA))
theorem snd_add : Snd2 K mg (rAdd4 K) fAdd := fun F H v1 v2 d1 d2 w Q eF h1 h2 hf q => by
  unfold fAdd at hf
  split at hf
  · obtain rfl := Option.some.inj hf
    obtain rfl := h1.intI
    obtain rfl := h2.intI
    exact .inl ⟨_, _, rfl, rfl, q _ (.int _)⟩
  · obtain ⟨hl, rfl⟩ := if_some hf
    obtain rfl := h1.strI
    obtain rfl := h2.strI
    exact .inr (.inl ⟨_, _, rfl, rfl, sz_line hl, q _ (.str _)⟩)
  · obtain ⟨hl, rfl⟩ := if_some hf
    obtain ⟨a, xs, rfl, ha, qa⟩ := h1.lstI
    obtain ⟨b, ys, rfl, hb, qb⟩ := h2.lstI
    exact .inr (.inr (.inl ⟨a, b, xs, ys, rfl, rfl, ha, hb, by rw [qa.length, qb.length]; exact sz_line hl, fun p hp => q p _ hp (.lst (qa.append qb))⟩))
  · obtain ⟨hl, rfl⟩ := if_some hf
    obtain ⟨a, xs, rfl, ha, qa⟩ := h1.tupI eF
    have hd2 := View.dr h2 rfl
    obtain ⟨b, ys, rfl, hb, qb⟩ := h2.tupI eF
    cases qa
    exact .inr (.inr (.inr ⟨a, b, [], ys, rfl, rfl, .inl (.inl ha), .inl (.inl hb), by rw [qb.length]; simpa using sz_line hl, fun _ => q _ hd2, fun z => absurd rfl z, fun z => absurd rfl z⟩))
  · obtain ⟨hl, rfl⟩ := if_some hf
    have hd1 := View.dr h1 rfl
    obtain ⟨a, xs, rfl, ha, qa⟩ := h1.tupI eF
    obtain ⟨b, ys, rfl, hb, qb⟩ := h2.tupI eF
    cases qb
    have hn : xs ≠ [] := fun z => by rw [z] at qa; cases qa
    exact .inr (.inr (.inr ⟨a, b, xs, [], rfl, rfl, .inl (.inl ha), .inl (.inl hb), by rw [qa.length]; simpa using sz_line hl, fun z => absurd z hn, fun _ _ => q _ hd1, fun _ z => absurd rfl z⟩))
  · obtain ⟨hl, rfl⟩ := if_some hf
    obtain ⟨a, xs, rfl, ha, qa⟩ := h1.tupI eF
    obtain ⟨b, ys, rfl, hb, qb⟩ := h2.tupI eF
    have hn : xs ≠ [] := fun z => by rw [z] at qa; cases qa
    have hn2 : ys ≠ [] := fun z => by rw [z] at qb; cases qb
    exact .inr (.inr (.inr ⟨a, b, xs, ys, rfl, rfl, .inl (.inl ha), .inl (.inl hb), by rw [qa.length, qb.length]; exact sz_line hl, fun z => absurd z hn, fun _ z => absurd z hn2, fun _ _ p hp => q p _ hp (.tup (qa.append qb))⟩))
  · cases hf
def fSub : D → D → Option RW
  | .int i, .int j => some (.v (.int (i - j)))
  | _, _ => none
theorem snd_sub : Snd2 K mg (rI0 fun i j => .int (i - j)) fSub := fun F H v1 v2 d1 d2 w Q eF h1 h2 hf q => by
  unfold fSub at hf
  split at hf
  · obtain rfl := Option.some.inj hf
    obtain rfl := h1.intI
    obtain rfl := h2.intI
    exact ⟨_, _, rfl, rfl, q _ (.int _)⟩
  · cases hf
/-- one factor below 2^64, or both together below a million bits -/
def smallI (i : Int) : Bool := decide (-(2 ^ 64) < i) && decide (i < 2 ^ 64)
def mulOk (i j : Int) : Bool := (smallI i || smallI j) || decide (i.natAbs.log2 + j.natAbs.log2 < 1000000)
theorem mulOk_ok {i j : Int} (h : mulOk i j = true) : CMul i j ∨ CMulW i j := by
  unfold mulOk smallI at h
  rw [Bool.or_eq_true, Bool.or_eq_true, Bool.and_eq_true, Bool.and_eq_true] at h
  rcases h with (h | h) | h
  · exact .inl (.inl ⟨of_decide_eq_true h.1, of_decide_eq_true h.2⟩)
  · exact .inl (.inr ⟨of_decide_eq_true h.1, of_decide_eq_true h.2⟩)
  · refine .inr ?_
    show i.natAbs.log2 + j.natAbs.log2 < 1000000
    exact of_decide_eq_true h
def repOk (n : Nat) (k : Int) : Bool := decide (-(2 ^ 63) ≤ k) && decide (k < 2 ^ 63) && decide (n * k.toNat ≤ LN)
def fMul : D → D → Option RW
  | .int i, .int j => if mulOk i j = true then some (.v (.int (i * j))) else none
  | .lst xs, .int k => if repOk xs.length k = true then some (.n (.lst (List.replicate k.toNat xs).flatten)) else none
  | _, _ => none
def rMul2 : R2 := fun x y H Q => (rI CMul fun i j => .int (i * j)) x y H Q ∨ ((rI CMulW fun i j => .int (i * j)) x y H Q ∨ rRep x y H Q)
theorem op_mulA : OpR X (binaryOp .Mult) rMul2 := OpR.or op_mul (OpR.or op_mulW op_rep)
theorem snd_mul : Snd2 K mg rMul2 fMul := fun F H v1 v2 d1 d2 w Q eF h1 h2 hf q => by
  unfold fMul at hf
  split at hf
  · obtain ⟨hl, rfl⟩ := if_some hf
    obtain rfl := h1.intI
    obtain rfl := h2.intI
    rcases mulOk_ok hl with hl | hl
    · exact .inl ⟨_, _, rfl, rfl, hl, q _ (.int _)⟩
    · exact .inr (.inl ⟨_, _, rfl, rfl, hl, q _ (.int _)⟩)
  · obtain ⟨hl, rfl⟩ := if_some hf
    obtain ⟨a, xs, rfl, ha, qa⟩ := h1.lstI
    obtain rfl := h2.intI
    unfold repOk at hl
    rw [Bool.and_eq_true, Bool.and_eq_true] at hl
    exact .inr (.inr ⟨a, _, xs, rfl, rfl, ha, of_decide_eq_true hl.1.1, of_decide_eq_true hl.1.2, by rw [qa.length]; exact sz_line (of_decide_eq_true hl.2), fun p hp => q p _ hp (.lst (qa.rep _))⟩)
  · cases hf
def divOk (j : Int) : Bool := decide (0 < j) && decide (j.natAbs.log2 < 9000)
def fDiv : D → D → Option RW
  | .int i, .int j => if divOk j = true then some (.v (.int (i / j))) else none
  | _, _ => none
theorem snd_div : Snd2 K mg (rI CDivW fun i j => .int (i / j)) fDiv := fun F H v1 v2 d1 d2 w Q eF h1 h2 hf q => by
  unfold fDiv at hf
  split at hf
  · obtain ⟨hl, rfl⟩ := if_some hf
    obtain rfl := h1.intI
    obtain rfl := h2.intI
    unfold divOk at hl
    rw [Bool.and_eq_true] at hl
    exact ⟨_, _, rfl, rfl, ⟨of_decide_eq_true hl.1, of_decide_eq_true hl.2⟩, q _ (.int _)⟩
  · cases hf
def fMod : D → D → Option RW
  | .int i, .int j => if 0 < j then some (.v (.int (i % j))) else none
  | _, _ => none
theorem snd_mod : Snd2 K mg (rI (fun _ j => 0 < j) fun i j => .int (i % j)) fMod := fun F H v1 v2 d1 d2 w Q eF h1 h2 hf q => by
  unfold fMod at hf
  split at hf
  · obtain ⟨hl, rfl⟩ := if_some hf
    obtain rfl := h1.intI
    obtain rfl := h2.intI
    exact ⟨_, _, rfl, rfl, hl, q _ (.int _)⟩
  · cases hf
def fNeg : D → Option RW
  | .int i => some (.v (.int (-i)))
  | _ => none
theorem snd_neg : Snd1 K mg (rU fun i => .int (-i)) fNeg := fun F H v1 d1 w Q eF h1 hf q => by
  unfold fNeg at hf
  split at hf
  · obtain rfl := Option.some.inj hf
    obtain rfl := h1.intI
    exact ⟨_, rfl, q _ (.int _)⟩
  · cases hf
def fLt : D → D → Option RW
  | .int i, .int j => some (.v (.bl (decide (i < j))))
  | _, _ => none
def fLe : D → D → Option RW
  | .int i, .int j => some (.v (.bl (decide (i ≤ j))))
  | _, _ => none
def fGt : D → D → Option RW
  | .int i, .int j => some (.v (.bl (decide (j < i))))
  | _, _ => none
def fGe : D → D → Option RW
  | .int i, .int j => some (.v (.bl (decide (j ≤ i))))
  | _, _ => none
theorem snd_lt : Snd2 K mg (rI0 fun i j => .bl (decide (i < j))) fLt := fun F H v1 v2 d1 d2 w Q eF h1 h2 hf q => by
  unfold fLt at hf
  split at hf
  · obtain rfl := Option.some.inj hf
    obtain rfl := h1.intI
    obtain rfl := h2.intI
    exact ⟨_, _, rfl, rfl, q _ (.bl _)⟩
  · cases hf
theorem snd_le : Snd2 K mg (rI0 fun i j => .bl (decide (i ≤ j))) fLe := fun F H v1 v2 d1 d2 w Q eF h1 h2 hf q => by
  unfold fLe at hf
  split at hf
  · obtain rfl := Option.some.inj hf
    obtain rfl := h1.intI
    obtain rfl := h2.intI
    exact ⟨_, _, rfl, rfl, q _ (.bl _)⟩
  · cases hf
theorem snd_gt : Snd2 K mg (rI0 fun i j => .bl (decide (j < i))) fGt := fun F H v1 v2 d1 d2 w Q eF h1 h2 hf q => by
  unfold fGt at hf
  split at hf
  · obtain rfl := Option.some.inj hf
    obtain rfl := h1.intI
    obtain rfl := h2.intI
    exact ⟨_, _, rfl, rfl, q _ (.bl _)⟩
  · cases hf
theorem snd_ge : Snd2 K mg (rI0 fun i j => .bl (decide (j ≤ i))) fGe := fun F H v1 v2 d1 d2 w Q eF h1 h2 hf q => by
  unfold fGe at hf
  split at hf
  · obtain rfl := Option.some.inj hf
    obtain rfl := h1.intI
    obtain rfl := h2.intI
    exact ⟨_, _, rfl, rfl, q _ (.bl _)⟩
  · cases hf
mutual
def toP : D → PyData
  | .non => .none
  | .bl b => .bool b
  | .int i => .int i
  | .str s => .str s
  | .lst xs => .list (toPs xs)
  | .tup xs => .tuple (toPs xs)
  | _ => .dict []
def toPs : List D → List PyData
  | [] => []
  | d :: ds => toP d :: toPs ds
end
mutual
theorem DR.dp : ∀ {d : D} {v : V}, Ex F H → DR K mg F v d → (toP d).canLay0 = true → Dp K H v (toP d)
  | .non, v, e, h, _ => by
    obtain rfl := h.nonI
    exact .non
  | .bl b, v, e, h, _ => by
    obtain rfl := h.blI
    exact .bl b
  | .int i, v, e, h, _ => by
    obtain rfl := h.intI
    exact .int i
  | .str s, v, e, h, _ => by
    obtain rfl := h.strI
    exact .str s
  | .lst xs, v, e, h, c => by
    obtain ⟨a, vs, rfl, h1, q⟩ := h.lstI
    exact .lst (.inl (.inl (e _ _ h1))) (DRs.dp e q (by simpa [toP, PyData.canLay0] using c))
  | .tup xs, v, e, h, c => by
    obtain ⟨a, vs, rfl, h1, q⟩ := h.tupI
    exact .tup (.inl (.inl (e _ _ h1))) (DRs.dp e q (by simpa [toP, PyData.canLay0] using c))
  | .scr _, _, _, _, c => by simp [toP, PyData.canLay0] at c
  | .dk _, _, _, _, c => by simp [toP, PyData.canLay0] at c
  | .dt _, _, _, _, c => by simp [toP, PyData.canLay0] at c
  | .ins _ _, _, _, _, c => by simp [toP, PyData.canLay0] at c
  | .ty _, _, _, _, c => by simp [toP, PyData.canLay0] at c
theorem DRs.dp : ∀ {ds : List D} {vs : List V}, Ex F H → DRs K mg F vs ds → PyData.canLayAll0 (toPs ds) = true → DpAll K H vs (toPs ds)
  | [], _, _, .nil, _ => .nil
  | d :: ds, _, e, .cons h r, c => by
    have c' : (toP d).canLay0 = true ∧ PyData.canLayAll0 (toPs ds) = true := by simpa [toPs, PyData.canLayAll0] using c
    exact .cons (DR.dp e h c'.1) (DRs.dp e r c'.2)
end
theorem View.dp {d : D} {v : V} (e : Ex F H) (h : View K mg F H v d) (c : (toP d).canLay0 = true) : Dp K H v (toP d) := by
  cases d with
  | lst xs =>
    obtain ⟨a, vs, rfl, h1, q⟩ := h.lstI
    exact .lst (.inl (.inl h1)) (DRs.dp e q (by simpa [toP, PyData.canLay0] using c))
  | dk _ => simp [toP, PyData.canLay0] at c
  | dt _ => simp [toP, PyData.canLay0] at c
  | ins _ _ => simp [toP, PyData.canLay0] at c
  | _ => exact DR.dp e (View.dr h rfl) c
/-- == on data: scalars at once, the rest by the library's -/
def scalD : D → D → Option Bool
  | .non, .non => some true
  | .non, .int _ => some false
  | .int _, .non => some false
  | .non, .bl _ => some false
  | .bl _, .non => some false
  | .non, .str _ => some false
  | .str _, .non => some false
  | .int i, .int j => some (decide (i = j))
  | .bl i, .bl j => some (decide (i = j))
  | .str i, .str j => some (decide (i = j))
  | .int _, .str _ => some false
  | .str _, .int _ => some false
  | .bl _, .str _ => some false
  | .str _, .bl _ => some false
  | _, _ => none
def deepD (d e : D) : Option Bool := if (SeqAt.shaped (toP d) && SeqAt.shaped (toP e)) = true then some (PyData.eqv (toP d) (toP e)) else none
def eqD (d e : D) : Option Bool := match scalD d e with
  | some b => some b
  | none => deepD d e
def fEq (d e : D) : Option RW := match eqD d e with
  | some b => some (.v (.bl b))
  | none => none
def fNe (d e : D) : Option RW := match eqD d e with
  | some b => some (.v (.bl (!b)))
  | none => none
def rEqA (K : PySem.W.Frag) : R2 := fun x y H Q => rEq x y H Q ∨ rEqD K x y H Q
def rNeA (K : PySem.W.Frag) : R2 := fun x y H Q => rNe x y H Q ∨ rNeD K x y H Q
theorem op_eqA (hu : X.A.units + 64 < cLine) : OpR X (compareOp .Eq) (rEqA X.K) := OpR.or op_eq (op_eqD hu)
theorem op_neA (hu : X.A.units + 64 < cLine) : OpR X (compareOp .NotEq) (rNeA X.K) := OpR.or op_ne (op_neD hu)
theorem scal_of {d e : D} {v1 v2 : V} {b : Bool} (h1 : View K mg F H v1 d) (h2 : View K mg F H v2 e) (h : scalD d e = some b) : scal v1 v2 = true ∧ decide (v1 = v2) = b := by
  unfold scalD at h
  split at h
  all_goals first
    | (obtain rfl := Option.some.inj h
       first
         | obtain rfl := h1.nonI
         | obtain rfl := h1.intI
         | obtain rfl := h1.blI
         | obtain rfl := h1.strI
       first
         | obtain rfl := h2.nonI
         | obtain rfl := h2.intI
         | obtain rfl := h2.blI
         | obtain rfl := h2.strI
       exact ⟨rfl, by simp⟩)
    | cases h
theorem eqD_some {d e : D} {b : Bool} (h : eqD d e = some b) : scalD d e = some b ∨ (SeqAt.shaped (toP d) = true ∧ SeqAt.shaped (toP e) = true ∧ b = PyData.eqv (toP d) (toP e)) := by
  unfold eqD at h
  split at h
  · exact .inl (by rw [← h]; assumption)
  · unfold deepD at h
    obtain ⟨h1, rfl⟩ := if_some h
    rw [Bool.and_eq_true] at h1
    exact .inr ⟨h1.1, h1.2, rfl⟩
theorem snd_eq : Snd2 K mg (rEqA K) fEq := fun F H v1 v2 d1 d2 w Q eF h1 h2 hf q => by
  unfold fEq at hf
  cases hb : eqD d1 d2 with
  | none => rw [hb] at hf; cases hf
  | some b =>
    rw [hb] at hf
    obtain rfl := Option.some.inj hf
    rcases eqD_some hb with h | ⟨s1, s2, rfl⟩
    · obtain ⟨a, e⟩ := scal_of h1 h2 h
      exact .inl ⟨a, by rw [e]; exact q _ (.bl _)⟩
    · exact .inr ⟨toP d1, toP d2, h1.dp eF (SeqAt.canLay_of_shaped s1), h2.dp eF (SeqAt.canLay_of_shaped s2), s1, s2, q _ (.bl _)⟩
theorem snd_ne : Snd2 K mg (rNeA K) fNe := fun F H v1 v2 d1 d2 w Q eF h1 h2 hf q => by
  unfold fNe at hf
  cases hb : eqD d1 d2 with
  | none => rw [hb] at hf; cases hf
  | some b =>
    rw [hb] at hf
    obtain rfl := Option.some.inj hf
    rcases eqD_some hb with h | ⟨s1, s2, rfl⟩
    · obtain ⟨a, e⟩ := scal_of h1 h2 h
      exact .inl ⟨a, by rw [e]; exact q _ (.bl _)⟩
    · exact .inr ⟨toP d1, toP d2, h1.dp eF (SeqAt.canLay_of_shaped s1), h2.dp eF (SeqAt.canLay_of_shaped s2), s1, s2, q _ (.bl _)⟩
def isNon : D → Bool
  | .non => true
  | _ => false
def fIsN : D → D → Option RW
  | d, .non => some (.v (.bl (isNon d)))
  | _, _ => none
def fNotN : D → D → Option RW
  | d, .non => some (.v (.bl (!isNon d)))
  | _, _ => none
theorem isNon_of {d : D} {v : V} (h : View K mg F H v d) : decide (v = .non) = isNon d := by
  cases d with
  | non =>
    obtain rfl := h.nonI
    rfl
  | int i =>
    obtain rfl := h.intI
    rfl
  | bl i =>
    obtain rfl := h.blI
    rfl
  | str i =>
    obtain rfl := h.strI
    rfl
  | ty i =>
    obtain rfl := h.tyI
    rfl
  | lst xs =>
    obtain ⟨a, xs, rfl, _⟩ := h.lstI
    rfl
  | dk xs =>
    obtain ⟨a, xs, rfl, _⟩ := h.dkI
    rfl
  | dt xs =>
    obtain ⟨a, xs, rfl, _⟩ := h.dtI
    rfl
  | ins C xs =>
    obtain ⟨a, c, dx, xs, rfl, _⟩ := h.insI
    rfl
  | tup xs =>
    obtain ⟨a, xs, rfl, _⟩ := DR.tupI (View.dr h rfl)
    rfl
  | scr xs =>
    obtain ⟨a, xs, rfl, _⟩ := DR.scrI (View.dr h rfl)
    rfl
def rIsN0 : R2 := fun x y H Q => y = .non ∧ Q (.bl (decide (x = .non))) H
def rNotN0 : R2 := fun x y H Q => y = .non ∧ Q (.bl (!decide (x = .non))) H
theorem snd_isN : Snd2 K mg rIsN0 fIsN := fun F H v1 v2 d1 d2 w Q eF h1 h2 hf q => by
  unfold fIsN at hf
  split at hf
  · obtain rfl := Option.some.inj hf
    obtain rfl := h2.nonI
    exact ⟨rfl, by rw [isNon_of h1]; exact q _ (.bl _)⟩
  · cases hf
theorem snd_notN : Snd2 K mg rNotN0 fNotN := fun F H v1 v2 d1 d2 w Q eF h1 h2 hf q => by
  unfold fNotN at hf
  split at hf
  · obtain rfl := Option.some.inj hf
    obtain rfl := h2.nonI
    exact ⟨rfl, by rw [isNon_of h1]; exact q _ (.bl _)⟩
  · cases hf
theorem DRs.atI {xs : List V} {ds : List D} {i : Int} {d : D} (h : DRs K mg F xs ds) (e : L2.atI ds i = some d) : ∃ v, L2.atI xs i = some v ∧ DR K mg F v d := by
  unfold L2.atI at e ⊢
  rw [h.length]
  cases hn : ixN ds.length i with
  | none => rw [hn] at e; cases e
  | some j =>
    rw [hn] at e
    exact h.get e
def fIx : D → D → Option RW
  | .lst xs, .int i => match atI xs i with
    | some d => some (.v d)
    | none => none
  | .tup xs, .int i => match atI xs i with
    | some d => some (.v d)
    | none => none
  | .str z, .int i => if z.length ≤ LN then match atI z.cps.toList i with
    | some c => some (.v (.str ⟨#[c]⟩))
    | none => none else none
  | _, _ => none
theorem snd_ix : Snd2 K mg (rIx K) fIx := fun F H v1 v2 d1 d2 w Q eF h1 h2 hf q => by
  unfold fIx at hf
  split at hf
  · split at hf
    · rename_i e
      obtain rfl := Option.some.inj hf
      obtain ⟨a, xs, rfl, ha, qa⟩ := h1.lstI
      obtain rfl := h2.intI
      obtain ⟨v, hv, r⟩ := qa.atI e
      exact .inl ⟨a, xs, _, v, rfl, rfl, .inl (.inl ha), hv, q v r⟩
    · cases hf
  · split at hf
    · rename_i e
      obtain rfl := Option.some.inj hf
      obtain ⟨a, xs, rfl, ha, qa⟩ := h1.tupI eF
      obtain rfl := h2.intI
      obtain ⟨v, hv, r⟩ := qa.atI e
      exact .inr (.inl ⟨a, xs, _, v, rfl, rfl, .inl (.inl ha), hv, q v r⟩)
    · cases hf
  · obtain ⟨hl, hf⟩ := ite_some hf
    split at hf
    · rename_i e
      obtain rfl := Option.some.inj hf
      obtain rfl := h1.strI
      obtain rfl := h2.intI
      exact .inr (.inr ⟨_, _, _, rfl, rfl, sz_line hl, e, q _ (.str _)⟩)
    · cases hf
  · cases hf
def cutD (xs : List D) (lo hi : Option Int) : List D := (xs.drop (HT.sIx xs.length 0 lo)).take (HT.sIx xs.length xs.length hi - HT.sIx xs.length 0 lo)
theorem DRs.cut {xs : List V} {ds : List D} (h : DRs K mg F xs ds) (lo hi : Option Int) : DRs K mg F (cutV xs lo hi) (cutD ds lo hi) := by
  unfold cutV cutD
  rw [h.length]
  exact (h.drop _).take _
def wholeB (n : Nat) (lo hi : Option Int) : Bool := decide (HT.sIx n 0 lo = 0) && decide (HT.sIx n n hi = n)
def fSl : D → Option Int → Option Int → Option RW
  | .lst xs, lo, hi => some (.n (.lst (cutD xs lo hi)))
  | .scr xs, lo, hi => some (.n (.lst (cutD xs lo hi)))
  | .tup xs, lo, hi => if wholeB xs.length lo hi = true then some (.v (.tup xs)) else some (.t (.tup (cutD xs lo hi)))
  | .str z, lo, hi => if z.length ≤ LN then some (.v (.str (cutS z lo hi))) else none
  | _, _, _ => none
def rSl3 (K : PySem.W.Frag) : V → Option Int → Option Int → Hp → VK → Prop := fun x lo hi H Q => rSlL K x lo hi H Q ∨ (rSlA K x lo hi H Q ∨ rSlS x lo hi H Q)
theorem sl_any : SlR X (rSl3 X.K) := SlR.or sl_list (SlR.or sl_tupA sl_str)
theorem snd_sl : SndS K mg (rSl3 K) fSl := fun F H v1 d1 lo hi w Q eF h1 hf q => by
  unfold fSl at hf
  split at hf
  · obtain rfl := Option.some.inj hf
    obtain ⟨a, xs, rfl, ha, qa⟩ := h1.lstI
    exact .inl ⟨a, xs, rfl, .inl (.inl ha), fun p hp => q p _ hp (.lst (qa.cut _ _))⟩
  · obtain rfl := Option.some.inj hf
    obtain ⟨a, xs, rfl, ha, qa⟩ := h1.scrI eF
    exact .inl ⟨a, xs, rfl, ha, fun p hp => q p _ hp (.lst (qa.cut _ _))⟩
  · have hd1 := View.dr h1 rfl
    obtain ⟨a, xs, rfl, ha, qa⟩ := h1.tupI eF
    rename_i ds _ _
    refine .inr (.inl ⟨a, xs, rfl, .inl (.inl ha), fun hw => ?_, fun hw p hp => ?_⟩)
    · rw [qa.length] at hw
      rw [if_pos (by unfold wholeB; rw [decide_eq_true hw.1, decide_eq_true hw.2]; rfl)] at hf
      obtain rfl := Option.some.inj hf
      exact q _ hd1
    · rw [qa.length] at hw
      rw [if_neg (by unfold wholeB; intro z; rw [Bool.and_eq_true] at z; exact hw ⟨of_decide_eq_true z.1, of_decide_eq_true z.2⟩)] at hf
      obtain rfl := Option.some.inj hf
      exact q p _ hp (.tup (qa.cut _ _))
  · obtain ⟨hl, rfl⟩ := if_some hf
    obtain rfl := h1.strI
    exact .inr (.inr ⟨_, rfl, sz_line hl, q _ (.str _)⟩)
  · cases hf
theorem Views.one {vs : List V} {d : D} (h : Views K mg F H vs [d]) : ∃ v, vs = [v] ∧ View K mg F H v d := by
  cases h with
  | cons h r =>
    cases r
    exact ⟨_, rfl, h⟩
theorem Views.two {vs : List V} {d e : D} (h : Views K mg F H vs [d, e]) : ∃ v u, vs = [v, u] ∧ View K mg F H v d ∧ View K mg F H u e := by
  cases h with
  | cons h r =>
    obtain ⟨u, rfl, h2⟩ := r.one
    exact ⟨_, u, rfl, h, h2⟩
theorem DRk.length : ∀ {xs : List (Key × V)} {ds : List (Key × D)}, DRk K mg F xs ds → xs.length = ds.length
  | _, _, .nil => rfl
  | _, _, .cons _ q => congrArg (· + 1) (DRk.length q)
def fLen : List D → Option RW
  | [.lst xs] => some (.v (.int xs.length))
  | [.tup xs] => some (.v (.int xs.length))
  | [.scr xs] => some (.v (.int xs.length))
  | [.str z] => if z.length ≤ LN then some (.v (.int z.length)) else none
  | [.dk kvs] => some (.v (.int kvs.length))
  | _ => none
def rLen2 (K : PySem.W.Frag) : List V → Hp → VK → Prop := fun xs H Q => (∃ x n, xs = [x] ∧ LenV K x H n ∧ Q (.int n) H) ∨ (∃ a kvs, xs = [V.ref a] ∧ H a = some (.dK kvs) ∧ Q (.int kvs.length) H)
theorem call_lenA : CallR X (.builtin "len") (rLen2 X.K) := CallR.or call_len call_lenD
theorem snd_len : SndN K mg (rLen2 K) fLen := fun F H vs ds w Q eF h hf q => by
  unfold fLen at hf
  split at hf
  · obtain rfl := Option.some.inj hf
    obtain ⟨v, rfl, h1⟩ := h.one
    obtain ⟨a, xs, rfl, ha, qa⟩ := h1.lstI
    exact .inl ⟨_, _, rfl, .inl ⟨xs, .inl (.inl ha), rfl⟩, by rw [qa.length]; exact q _ (.int _)⟩
  · obtain rfl := Option.some.inj hf
    obtain ⟨v, rfl, h1⟩ := h.one
    obtain ⟨a, xs, rfl, ha, qa⟩ := h1.tupI eF
    exact .inl ⟨_, _, rfl, .inr ⟨xs, .inl (.inl ha), rfl⟩, by rw [qa.length]; exact q _ (.int _)⟩
  · obtain rfl := Option.some.inj hf
    obtain ⟨v, rfl, h1⟩ := h.one
    obtain ⟨a, xs, rfl, ha, qa⟩ := h1.scrI eF
    exact .inl ⟨_, _, rfl, .inl ⟨xs, ha, rfl⟩, by rw [qa.length]; exact q _ (.int _)⟩
  · obtain ⟨hl, rfl⟩ := if_some hf
    obtain ⟨v, rfl, h1⟩ := h.one
    obtain rfl := h1.strI
    exact .inl ⟨_, _, rfl, ⟨sz_line hl, rfl⟩, q _ (.int _)⟩
  · obtain rfl := Option.some.inj hf
    obtain ⟨v, rfl, h1⟩ := h.one
    obtain ⟨a, xs, rfl, ha, qa⟩ := h1.dkI
    exact .inr ⟨a, xs, rfl, ha, by rw [qa.length]; exact q _ (.int _)⟩
  · cases hf
def fList : List D → Option RW
  | [.lst xs] => some (.n (.lst xs))
  | [.tup xs] => some (.n (.lst xs))
  | _ => none
def rListO (K : PySem.W.Frag) : List V → Hp → VK → Prop := fun xs H Q => ∃ p ys, xs = [.ref p] ∧ (SqL K H p ys ∨ SqT K H p ys) ∧ ∀ l, H l = none → Q (.ref l) (upd H l (.lst ys))
theorem snd_list : SndN K mg (rListO K) fList := fun F H vs ds w Q eF h hf q => by
  unfold fList at hf
  split at hf
  · obtain rfl := Option.some.inj hf
    obtain ⟨v, rfl, h1⟩ := h.one
    obtain ⟨a, xs, rfl, ha, qa⟩ := h1.lstI
    exact ⟨a, xs, rfl, .inl (.inl (.inl ha)), fun l hl => q l _ hl (.lst qa)⟩
  · obtain rfl := Option.some.inj hf
    obtain ⟨v, rfl, h1⟩ := h.one
    obtain ⟨a, xs, rfl, ha, qa⟩ := h1.tupI eF
    exact ⟨a, xs, rfl, .inr (.inl (.inl ha)), fun l hl => q l _ hl (.lst qa)⟩
  · cases hf
def fTuple : List D → Option RW
  | [.lst xs] => some (.t (.tup xs))
  | [.tup xs] => some (.v (.tup xs))
  | _ => none
def rTupO (K : PySem.W.Frag) : List V → Hp → VK → Prop := fun xs H Q => ∃ p ys, xs = [.ref p] ∧ ((SqL K H p ys ∧ ∀ l, H l = none → Q (.ref l) (upd H l (.tup ys))) ∨ (SqT K H p ys ∧ Q (.ref p) H))
theorem snd_tuple : SndN K mg (rTupO K) fTuple := fun F H vs ds w Q eF h hf q => by
  unfold fTuple at hf
  split at hf
  · obtain rfl := Option.some.inj hf
    obtain ⟨v, rfl, h1⟩ := h.one
    obtain ⟨a, xs, rfl, ha, qa⟩ := h1.lstI
    exact ⟨a, xs, rfl, .inl ⟨.inl (.inl ha), fun l hl => q l _ hl (.tup qa)⟩⟩
  · obtain rfl := Option.some.inj hf
    obtain ⟨v, rfl, h1⟩ := h.one
    have hd := View.dr h1 rfl
    obtain ⟨a, xs, rfl, ha, qa⟩ := h1.tupI eF
    exact ⟨a, xs, rfl, .inr ⟨.inl (.inl ha), q _ hd⟩⟩
  · cases hf
def fMax : List D → Option RW
  | [.int i, .int j] => some (.v (.int (if j > i then j else i)))
  | _ => none
def fMin : List D → Option RW
  | [.int i, .int j] => some (.v (.int (if j < i then j else i)))
  | _ => none
def rMaxO : List V → Hp → VK → Prop := fun xs H Q => ∃ i j, xs = [.int i, .int j] ∧ Q (.int (if j > i then j else i)) H
def rMinO : List V → Hp → VK → Prop := fun xs H Q => ∃ i j, xs = [.int i, .int j] ∧ Q (.int (if j < i then j else i)) H
theorem snd_max : SndN K mg rMaxO fMax := fun F H vs ds w Q eF h hf q => by
  unfold fMax at hf
  split at hf
  · obtain rfl := Option.some.inj hf
    obtain ⟨v, u, rfl, h1, h2⟩ := h.two
    obtain rfl := h1.intI
    obtain rfl := h2.intI
    exact ⟨_, _, rfl, q _ (.int _)⟩
  · cases hf
theorem snd_min : SndN K mg rMinO fMin := fun F H vs ds w Q eF h hf q => by
  unfold fMin at hf
  split at hf
  · obtain rfl := Option.some.inj hf
    obtain ⟨v, u, rfl, h1, h2⟩ := h.two
    obtain rfl := h1.intI
    obtain rfl := h2.intI
    exact ⟨_, _, rfl, q _ (.int _)⟩
  · cases hf
def fInt : List D → Option RW
  | [.int i] => some (.v (.int i))
  | [.bl k] => some (.v (.int (if k then 1 else 0)))
  | _ => none
def rIntO : List V → Hp → VK → Prop := fun xs H Q => (∃ i, xs = [.int i] ∧ Q (.int i) H) ∨ ∃ k, xs = [.bl k] ∧ Q (.int (if k then 1 else 0)) H
theorem snd_int : SndN K mg rIntO fInt := fun F H vs ds w Q eF h hf q => by
  unfold fInt at hf
  split at hf
  · obtain rfl := Option.some.inj hf
    obtain ⟨v, rfl, h1⟩ := h.one
    obtain rfl := h1.intI
    exact .inl ⟨_, rfl, q _ (.int _)⟩
  · obtain rfl := Option.some.inj hf
    obtain ⟨v, rfl, h1⟩ := h.one
    obtain rfl := h1.blI
    exact .inr ⟨_, rfl, q _ (.int _)⟩
  · cases hf
def kindD : D → String
  | .non => "NoneType"
  | .bl _ => "bool"
  | .int _ => "int"
  | .str _ => "str"
  | .lst _ => "list"
  | .tup _ => "tuple"
  | .dk _ => "dict"
  | .dt _ => "dict"
  | _ => ""
def kindIs (a b : String) : Option Bool :=
  if a = "" then none else if b = "int" then some (decide (a = "int") || decide (a = "bool")) else if b = "bool" ∨ b = "str" ∨ b = "list" ∨ b = "tuple" ∨ b = "dict" then some (decide (a = b)) else none
def fIsi : List D → Option RW
  | [d, .ty n] => match kindIs (kindD d) n with
    | some b => some (.v (.bl b))
    | none => none
  | _ => none
theorem kind_ok {a b : String} {r : Bool} (ha : a = "NoneType" ∨ a = "bool" ∨ a = "int" ∨ a = "str" ∨ a = "list" ∨ a = "tuple" ∨ a = "dict") (h : kindIs a b = some r) : kitB a b = some r := by
  unfold kindIs at h
  rcases ha with rfl | rfl | rfl | rfl | rfl | rfl | rfl
  all_goals
    rw [if_neg (by decide)] at h
    split at h
    · rename_i e
      subst e
      obtain rfl := Option.some.inj h
      decide +kernel
    · split at h
      · rename_i e
        rcases e with rfl | rfl | rfl | rfl | rfl
        all_goals
          obtain rfl := Option.some.inj h
          decide +kernel
      · cases h
theorem kind_ty {d : D} {v : V} (eF : Ex F H) (h : View K mg F H v d) (hk : kindD d ≠ "") : TyX K H v (.type (kindD d)) ∧ (kindD d = "NoneType" ∨ kindD d = "bool" ∨ kindD d = "int" ∨ kindD d = "str" ∨ kindD d = "list" ∨ kindD d = "tuple" ∨ kindD d = "dict") := by
  cases d with
  | non =>
    obtain rfl := h.nonI
    exact ⟨.base .non, by simp [kindD]⟩
  | int i =>
    obtain rfl := h.intI
    exact ⟨.base (.int i), by simp [kindD]⟩
  | bl i =>
    obtain rfl := h.blI
    exact ⟨.base (.bl i), by simp [kindD]⟩
  | str i =>
    obtain rfl := h.strI
    exact ⟨.base (.str i), by simp [kindD]⟩
  | lst xs =>
    obtain ⟨a, xs, rfl, h1, _⟩ := h.lstI
    exact ⟨.base (.lst h1), by simp [kindD]⟩
  | dk xs =>
    obtain ⟨a, xs, rfl, h1, _⟩ := h.dkI
    exact ⟨.base (.dK h1), by simp [kindD]⟩
  | dt xs =>
    obtain ⟨a, xs, rfl, h1, _⟩ := h.dtI
    exact ⟨.base (.dT h1), by simp [kindD]⟩
  | tup xs =>
    obtain ⟨a, xs, rfl, h1, _⟩ := h.tupI eF
    exact ⟨.base (.tup h1), by simp [kindD]⟩
  | _ => exact absurd rfl hk
theorem snd_isi : SndN K mg (rIsi K) fIsi := fun F H vs ds w Q eF h hf q => by
  unfold fIsi at hf
  split at hf
  · split at hf
    · rename_i e
      obtain rfl := Option.some.inj hf
      obtain ⟨v, u, rfl, h1, h2⟩ := h.two
      obtain rfl := h2.tyI
      have hne : kindD _ ≠ "" := fun z => by
        unfold kindIs at e
        rw [if_pos z] at e
        cases e
      obtain ⟨ty, hk⟩ := kind_ty eF h1 hne
      exact ⟨v, _, _, _, _, rfl, .ty _, ty, kit_ty (kind_ok hk e), q _ (.bl _)⟩
    · cases hf
  · cases hf
theorem d_bty {Wx : WX} {x : Str} {n : String} {pos : Pos} (hg : Gl X x) (hm : X.mg x = none) (hv : bootBuiltins x = some (.type n)) (hn : x ≠ "__name__" := by decide) (hd : (x == ("__debug__" : Str)) = false := by decide) : PE X (.Name x pos) (TD K mg Wx (dC (.ty n))) :=
  PE.imp (pe_bltn (v := .ty n) hg hm hv rfl hn hd) fun _ _ _ => td_c fun _ => .ty n
end
end DL
set_option maxHeartbeats 2000000
namespace DL
open PySem PySem.Spec PyProof.Rows L2
section
variable {κ : Type} [DecidableEq κ]
def lkD (kvs : List (κ × D)) (k : κ) : Option D := (kvs.find? fun kv => decide (kv.1 = k)).map (·.2)
def putD (kvs : List (κ × D)) (k : κ) (v : D) : List (κ × D) :=
  if (kvs.any fun kv => decide (kv.1 = k)) = true then kvs.map (fun kv => if kv.1 = k then (kv.1, v) else kv) else kvs ++ [(k, v)]
end
section
variable {K : PySem.W.Frag} {mg : Str → Option Value} {X : Cx} {F H : Hp} {Wx : WX}
theorem DRk.look {k : Key} : ∀ {xs : List (Key × V)} {ds : List (Key × D)}, DRk K mg F xs ds → (∀ d, lkD ds k = some d → ∃ v, valV xs k = some v ∧ DR K mg F v d) ∧ (lkD ds k = none → valV xs k = none)
  | _, _, .nil => ⟨fun d h => (by cases h), fun _ => rfl⟩
  | _, _, .cons (k := j) (v := v) (d := e) (vs := vs) (ds := ds) h r => by
    by_cases ek : j = k
    · refine ⟨fun d hd => ⟨v, valV_pos (p := (j, v)) ek, ?_⟩, fun hd => ?_⟩
      · unfold lkD at hd
        rw [List.find?_cons_of_pos (by simpa using ek)] at hd
        obtain rfl := Option.some.inj hd
        exact h
      · unfold lkD at hd
        rw [List.find?_cons_of_pos (by simpa using ek)] at hd
        cases hd
    · have e1 : lkD ((j, e) :: ds) k = lkD ds k := by
        unfold lkD
        rw [List.find?_cons_of_neg (by simpa using ek)]
      rw [e1, valV_neg (p := (j, v)) ek]
      exact DRk.look r
theorem DRt.look {k : List Key} : ∀ {xs : List (List Key × V)} {ds : List (List Key × D)}, DRt K mg F xs ds → (∀ d, lkD ds k = some d → ∃ v, valV xs k = some v ∧ DR K mg F v d) ∧ (lkD ds k = none → valV xs k = none)
  | _, _, .nil => ⟨fun d h => (by cases h), fun _ => rfl⟩
  | _, _, .cons (k := j) (v := v) (d := e) (vs := vs) (ds := ds) h r => by
    by_cases ek : j = k
    · refine ⟨fun d hd => ⟨v, valV_pos (p := (j, v)) ek, ?_⟩, fun hd => ?_⟩
      · unfold lkD at hd
        rw [List.find?_cons_of_pos (by simpa using ek)] at hd
        obtain rfl := Option.some.inj hd
        exact h
      · unfold lkD at hd
        rw [List.find?_cons_of_pos (by simpa using ek)] at hd
        cases hd
    · have e1 : lkD ((j, e) :: ds) k = lkD ds k := by
        unfold lkD
        rw [List.find?_cons_of_neg (by simpa using ek)]
      rw [e1, valV_neg (p := (j, v)) ek]
      exact DRt.look r
theorem DRk.any {p : Key → Bool} : ∀ {xs : List (Key × V)} {ds : List (Key × D)}, DRk K mg F xs ds → (xs.any fun kv => p kv.1) = ds.any fun kv => p kv.1
  | _, _, .nil => rfl
  | _, _, .cons _ r => by rw [List.any_cons, List.any_cons, DRk.any r]
theorem DRt.any {p : List Key → Bool} : ∀ {xs : List (List Key × V)} {ds : List (List Key × D)}, DRt K mg F xs ds → (xs.any fun kv => p kv.1) = ds.any fun kv => p kv.1
  | _, _, .nil => rfl
  | _, _, .cons _ r => by rw [List.any_cons, List.any_cons, DRt.any r]
theorem DRk.over {k : Key} {v : V} {d : D} (h : DR K mg F v d) : ∀ {xs : List (Key × V)} {ds : List (Key × D)}, DRk K mg F xs ds → DRk K mg F (xs.map fun kv => if kv.1 = k then (kv.1, v) else kv) (ds.map fun kv => if kv.1 = k then (kv.1, d) else kv)
  | _, _, .nil => .nil
  | _, _, .cons (k := j) q r => by
    rw [List.map_cons, List.map_cons]
    by_cases e : j = k
    · rw [if_pos e, if_pos e]
      exact .cons h (DRk.over h r)
    · rw [if_neg e, if_neg e]
      exact .cons q (DRk.over h r)
theorem DRt.over {k : List Key} {v : V} {d : D} (h : DR K mg F v d) : ∀ {xs : List (List Key × V)} {ds : List (List Key × D)}, DRt K mg F xs ds → DRt K mg F (xs.map fun kv => if kv.1 = k then (kv.1, v) else kv) (ds.map fun kv => if kv.1 = k then (kv.1, d) else kv)
  | _, _, .nil => .nil
  | _, _, .cons (k := j) q r => by
    rw [List.map_cons, List.map_cons]
    by_cases e : j = k
    · rw [if_pos e, if_pos e]
      exact .cons h (DRt.over h r)
    · rw [if_neg e, if_neg e]
      exact .cons q (DRt.over h r)
theorem DRk.snoc {k : Key} {v : V} {d : D} (h : DR K mg F v d) : ∀ {xs : List (Key × V)} {ds : List (Key × D)}, DRk K mg F xs ds → DRk K mg F (xs ++ [(k, v)]) (ds ++ [(k, d)])
  | _, _, .nil => .cons h .nil
  | _, _, .cons q r => .cons q (DRk.snoc h r)
theorem DRt.snoc {k : List Key} {v : V} {d : D} (h : DR K mg F v d) : ∀ {xs : List (List Key × V)} {ds : List (List Key × D)}, DRt K mg F xs ds → DRt K mg F (xs ++ [(k, v)]) (ds ++ [(k, d)])
  | _, _, .nil => .cons h .nil
  | _, _, .cons q r => .cons q (DRt.snoc h r)
theorem DRk.put {k : Key} {v : V} {d : D} (h : DR K mg F v d) {xs : List (Key × V)} {ds : List (Key × D)} (r : DRk K mg F xs ds) : DRk K mg F (putK xs k v) (putD ds k d) := by
  unfold putK putD
  rw [DRk.any (p := fun j => decide (j = k)) r]
  split
  · exact DRk.over h r
  · exact DRk.snoc h r
theorem DRt.put {k : List Key} {v : V} {d : D} (h : DR K mg F v d) {xs : List (List Key × V)} {ds : List (List Key × D)} (r : DRt K mg F xs ds) : DRt K mg F (putK xs k v) (putD ds k d) := by
  unfold putK putD
  rw [DRt.any (p := fun j => decide (j = k)) r]
  split
  · exact DRt.over h r
  · exact DRt.snoc h r
theorem DRt.length : ∀ {xs : List (List Key × V)} {ds : List (List Key × D)}, DRt K mg F xs ds → xs.length = ds.length
  | _, _, .nil => rfl
  | _, _, .cons _ q => congrArg (· + 1) (DRt.length q)
theorem keyOf_ok {d : D} {k : Key} {v : V} (h : DR K mg F v d) (e : keyOf d = some k) : v = kV k := by
  cases d with
  | int i =>
    obtain rfl := Option.some.inj e
    exact h.intI
  | str i =>
    obtain rfl := Option.some.inj e
    exact h.strI
  | _ => cases e
theorem keysOf_ok : ∀ {ds : List D} {ks : List Key} {vs : List V}, DRs K mg F vs ds → keysOf ds = some ks → vs = ks.map kV
  | [], ks, _, .nil, e => by
    obtain rfl := Option.some.inj e
    rfl
  | d :: ds, ks, _, .cons h r, e => by
    unfold keysOf at e
    cases e1 : keyOf d with
    | none => rw [e1] at e; cases e
    | some k =>
      cases e2 : keysOf ds with
      | none => rw [e1, e2] at e; cases e
      | some ks' =>
        rw [e1, e2] at e
        obtain rfl := Option.some.inj e
        rw [List.map_cons, keyOf_ok h e1, keysOf_ok r e2]
/-- what a dict tells of a key: no answer at all | the key is not there | its value -/
def look2 : D → D → Option (Option D)
  | .dk kvs, k => match keyOf k with
    | some q => some (lkD kvs q)
    | none => none
  | .dt kvs, .tup ks => match keysOf ks with
    | some q => some (lkD kvs q)
    | none => none
  | _, _ => none
theorem look_ok {x y : V} {d k : D} {o : Option D} (eF : Ex F H) (h1 : View K mg F H x d) (h2 : View K mg F H y k) (e : look2 d k = some o) :
    ∃ a r, x = .ref a ∧ DGet H a y r ∧ ((o = none ∧ r = none) ∨ ∃ d' v, o = some d' ∧ r = some v ∧ DR K mg F v d') := by
  unfold look2 at e
  split at e
  · split at e
    · rename_i q hk
      obtain rfl := Option.some.inj e
      obtain ⟨a, xs, rfl, ha, qa⟩ := h1.dkI
      have hy : y = kV q := by
        cases k with
        | int i => exact keyOf_ok (View.dr h2 rfl) hk
        | str i => exact keyOf_ok (View.dr h2 rfl) hk
        | _ => cases hk
      subst hy
      refine ⟨a, _, rfl, DGet.k ha, ?_⟩
      obtain ⟨q1, q2⟩ := qa.look (k := q)
      cases ho : lkD _ q with
      | none => exact .inl ⟨rfl, q2 ho⟩
      | some d' =>
        obtain ⟨v, hv, r⟩ := q1 d' ho
        exact .inr ⟨d', v, rfl, hv, r⟩
    · cases e
  · split at e
    · rename_i q hk
      obtain rfl := Option.some.inj e
      obtain ⟨a, xs, rfl, ha, qa⟩ := h1.dtI
      obtain ⟨b, ks, rfl, hb, qb⟩ := h2.tupI eF
      have hy := keysOf_ok qb hk
      subst hy
      refine ⟨a, _, rfl, DGet.t ha hb, ?_⟩
      obtain ⟨q1, q2⟩ := qa.look (k := q)
      cases ho : lkD _ q with
      | none => exact .inl ⟨rfl, q2 ho⟩
      | some d' =>
        obtain ⟨v, hv, r⟩ := q1 d' ho
        exact .inr ⟨d', v, rfl, hv, r⟩
    · cases e
  · cases e
def fDGet (d k : D) : Option RW := match look2 d k with
  | some (some v) => some (.v v)
  | _ => none
def rDGet : R2 := fun x y H Q => ∃ a v, x = .ref a ∧ DGet H a y (some v) ∧ Q v H
theorem snd_dget : Snd2 K mg rDGet fDGet := fun F H v1 v2 d1 d2 w Q eF h1 h2 hf q => by
  unfold fDGet at hf
  split at hf
  · rename_i e
    obtain rfl := Option.some.inj hf
    obtain ⟨a, r, rfl, g, ⟨z, _⟩ | ⟨d', v, z, rfl, dr⟩⟩ := look_ok eF h1 h2 e
    · cases z
    · cases z
      exact ⟨a, v, rfl, g, q v dr⟩
  · cases hf
theorem d_dget {o i : Expr} {pos : Pos} {da db : DE} (hu : X.A.units + 1 < cLine) (ho : PE X o (TD K mg Wx da)) (hi : PE X i (TD K mg Wx db)) (hs : NoSl i) : PE X (.Subscript o i pos) (TD K mg Wx (dOp fDGet da db)) :=
  PE.imp (pe_dget hu ho hi hs) fun _ _ _ h => td_op snd_dget h
/-- k in d -/
def fDIn (k d : D) : Option RW := match look2 d k with
  | some o => some (.v (.bl o.isSome))
  | none => none
def fDNotIn (k d : D) : Option RW := match look2 d k with
  | some o => some (.v (.bl (!o.isSome)))
  | none => none
def rDIn0 : R2 := fun y x H Q => ∃ a o, x = .ref a ∧ DGet H a y o ∧ Q (.bl o.isSome) H
def rDNotIn0 : R2 := fun y x H Q => ∃ a o, x = .ref a ∧ DGet H a y o ∧ Q (.bl (!o.isSome)) H
theorem snd_din : Snd2 K mg rDIn0 fDIn := fun F H v1 v2 d1 d2 w Q eF h1 h2 hf q => by
  unfold fDIn at hf
  split at hf
  · rename_i e
    obtain rfl := Option.some.inj hf
    obtain ⟨a, r, rfl, g, ⟨rfl, rfl⟩ | ⟨d', v, rfl, rfl, dr⟩⟩ := look_ok eF h2 h1 e
    · exact ⟨a, none, rfl, g, q _ (.bl _)⟩
    · exact ⟨a, some v, rfl, g, q _ (.bl _)⟩
  · cases hf
theorem snd_dnotin : Snd2 K mg rDNotIn0 fDNotIn := fun F H v1 v2 d1 d2 w Q eF h1 h2 hf q => by
  unfold fDNotIn at hf
  split at hf
  · rename_i e
    obtain rfl := Option.some.inj hf
    obtain ⟨a, r, rfl, g, ⟨rfl, rfl⟩ | ⟨d', v, rfl, rfl, dr⟩⟩ := look_ok eF h2 h1 e
    · exact ⟨a, none, rfl, g, q _ (.bl _)⟩
    · exact ⟨a, some v, rfl, g, q _ (.bl _)⟩
  · cases hf
theorem d_din {o i : Expr} {pos : Pos} {da db : DE} (hu : X.A.units + 1 < cLine) (hi : PE X i (TD K mg Wx da)) (ho : PE X o (TD K mg Wx db)) (h1 : behindInMarks .In o = false := by rfl) : PE X (.Compare i [.In] [o] pos) (TD K mg Wx (dOp fDIn da db)) :=
  PE.imp (pe_cmp (pc_din hu hi ho) h1) fun _ _ _ h => td_op snd_din h
theorem d_dnotin {o i : Expr} {pos : Pos} {da db : DE} (hu : X.A.units + 1 < cLine) (hi : PE X i (TD K mg Wx da)) (ho : PE X o (TD K mg Wx db)) (h1 : behindInMarks .NotIn o = false := by rfl) : PE X (.Compare i [.NotIn] [o] pos) (TD K mg Wx (dOp fDNotIn da db)) :=
  PE.imp (pe_cmp (pc_dnotin hu hi ho) h1) fun _ _ _ h => td_op snd_dnotin h
theorem d_tdin {o i : Expr} {pos : Pos} {da db : DE} (hu : X.A.units + 1 < cLine) (hi : PE X i (TD K mg Wx da)) (ho : PE X o (TD K mg Wx db)) (h1 : behindInMarks .In o = false := by rfl) : PT X (.Compare i [.In] [o] pos) (TTD K mg Wx (dTest (dOp fDIn da db))) :=
  PT.imp (pt_cmp (pc_din hu hi ho) h1) fun _ _ _ h => td_op snd_din (Q := fun x H1 => ∃ k, x = .bl k ∧ _) (tt_val h)
theorem d_tdnotin {o i : Expr} {pos : Pos} {da db : DE} (hu : X.A.units + 1 < cLine) (hi : PE X i (TD K mg Wx da)) (ho : PE X o (TD K mg Wx db)) (h1 : behindInMarks .NotIn o = false := by rfl) : PT X (.Compare i [.NotIn] [o] pos) (TTD K mg Wx (dTest (dOp fDNotIn da db))) :=
  PT.imp (pt_cmp (pc_dnotin hu hi ho) h1) fun _ _ _ h => td_op snd_dnotin (Q := fun x H1 => ∃ k, x = .bl k ∧ _) (tt_val h)
def put2 : D → D → D → Option D
  | .dk kvs, k, v => match keyOf k with
    | some q => if kvs.length < LN then some (.dk (putD kvs q v)) else none
    | none => none
  | .dt kvs, .tup ks, v => match keysOf ks with
    | some q => if kvs.length < LN then some (.dt (putD kvs q v)) else none
    | none => none
  | _, _, _ => none
def dPutK (i : Nat) (dk dv : DE) : DB := fun δ => bindS (dSh dv δ) fun w δ1 => match w, slotD δ1 i with
  | .s d, some _ => bindS (dSh dk δ1) fun w2 δ2 => match w2, slotD δ2 i with
    | .s k, some x => match put2 x k d with
      | some y => some (.nx (wr δ2 i y))
      | none => none
    | _, _ => none
  | _, _ => none
theorem d_putK {x : Str} {px ps' pos : Pos} {ie e : Expr} {dk dv : DE} {i : Nat} (hu : X.A.units + 1 < cLine) (hv : PE X e (TD K mg Wx dv)) (hi : PE X ie (TD K mg Wx dk)) (ho : PE X (.Name x px) (tVar i)) (hs : swapsWith e (some (.Subscript (.Name x px) ie ps')) pos.line X.env = pure false := by rfl) : PS X (.Assign [.Subscript (.Name x px) ie ps'] e pos) (TSD K mg Wx (dPutK i dk dv)) :=
  PS.imp (ps_dput hu ho (d_sh hi) (d_sh hv) hs) fun Dd σ H h => by
    obtain ⟨c, F, δ, r, I, e, k⟩ := h
    refine TD.seqS I e k fun w δ1 e1 v F1 H1 I1 P1 ok => ?_
    split at e1
    · rename_i d d0 hs1
      obtain ⟨a, hx, _⟩ := I1.slotA hs1
      refine ⟨_, hx, ?_⟩
      refine TD.seqS I1 e1 (k.after P1.f) fun w2 δ2 e3 v2 F2 H2 I2 P2 ok2 => ?_
      split at e3
      · rename_i kk xx hsd
        split at e3
        · rename_i yy hset
          obtain rfl := Option.some.inj e3
          obtain ⟨a', hx', _, o, ho, t⟩ := I2.slotA hsd
          rw [hx] at hx'
          cases hx'
          have dv : DR K mg F2 v d := DR.mono P2.f ok
          unfold put2 at hset
          split at hset
          · split at hset
            · rename_i q hk
              obtain ⟨hl, rfl⟩ := if_some hset
              obtain ⟨vs, rfl, qa⟩ := t.dkI
              have hy := keyOf_ok (K := K) (mg := mg) ok2 hk
              subst hy
              obtain ⟨I3, P3⟩ := I2.wrote hsd hx (.dk (DRk.put dv qa))
              exact ⟨a, _, rfl, DPut.k ho (by rw [qa.length]; exact sz_line' hl), k σ F2 _ I3 (P1.f.trans P2.f)⟩
            · cases hset
          · split at hset
            · rename_i q hk
              obtain ⟨hl, rfl⟩ := if_some hset
              obtain ⟨vs, rfl, qa⟩ := t.dtI
              obtain ⟨b, ks, rfl, hb, qb⟩ := DR.tupI ok2
              have hy := keysOf_ok qb hk
              subst hy
              obtain ⟨I3, P3⟩ := I2.wrote hsd hx (.dt (DRt.put dv qa))
              exact ⟨a, _, rfl, DPut.t ho (I2.fh _ _ hb) (by rw [qa.length]; exact sz_line' hl), k σ F2 _ I3 (P1.f.trans P2.f)⟩
            · cases hset
          · cases hset
        · cases e3
      · cases e3
    · cases e1
def dNewK : DE := fun δ => some (.ok (.o (.dk [])) δ)
def dNewT : DE := fun δ => some (.ok (.o (.dt [])) δ)
theorem d_newK {pos : Pos} : PE X (.Dict [] [] pos) (TD K mg Wx dNewK) := PE.imp pe_dnewK fun σ H Q h => by
  obtain ⟨c, F, δ, r, I, e, k⟩ := h
  obtain rfl := Option.some.inj e
  exact I.res (w := .n (.dk [])) (Q := Q) k |> fun q => fun p hp => q p _ hp (.dk .nil)
theorem d_newT {pos : Pos} : PE X (.Dict [] [] pos) (TD K mg Wx dNewT) := PE.imp pe_dnewT fun σ H Q h => by
  obtain ⟨c, F, δ, r, I, e, k⟩ := h
  obtain rfl := Option.some.inj e
  exact I.res (w := .n (.dt [])) (Q := Q) k |> fun q => fun p hp => q p _ hp (.dt .nil)
def dPairs : List (DE × DE) → DS → Option (R (List (Key × D)))
  | [], δ => some (.ok [] δ)
  | (dk, dv) :: r, δ => bindR (dSh dk δ) fun w δ1 => match w with
    | .s k => match keyOf k with
      | some q => bindR (dSh dv δ1) fun w2 δ2 => match w2 with
        | .s d => bindR (dPairs r δ2) fun ps δ3 => some (.ok ((q, d) :: ps) δ3)
        | _ => none
      | none => none
    | _ => none
def mergeD (ps : List (Key × D)) : List (Key × D) := ps.foldl (fun acc kv => putD acc kv.1 kv.2) []
def dDisp (prs : List (DE × DE)) : DE := fun δ => bindR (dPairs prs δ) fun ps δ1 => if ps.length ≤ 15 then some (.ok (.o (.dk (mergeD ps))) δ1) else none
theorem DRk.merge : ∀ {more : List (Key × V)} {ms : List (Key × D)} {xs : List (Key × V)} {ds : List (Key × D)}, DRk K mg F more ms → DRk K mg F xs ds → DRk K mg F (mergeK xs more) (ms.foldl (fun acc kv => putD acc kv.1 kv.2) ds)
  | _, _, _, _, .nil, r => r
  | _, _, _, _, .cons (k := j) h q, r => by
    have := DRk.merge q (DRk.put (k := j) h r)
    exact this
def AftP (K : PySem.W.Frag) (mg : Str → Option Value) (c : Cm) (F H : Hp) (σ : L2.St) (δ : DS) (Wx : WX) (Q : List (V × V) → Hp → Prop) : R (List (Key × D)) → Prop
  | .ok ps δ' => ∀ (kvs : List (Key × V)) F' H', SI K mg c F' H' σ δ' → Pd σ F H δ F' H' δ' → DRk K mg F' kvs ps → Q (kvs.map fun kv => (kV kv.1, kv.2)) H'
  | .ex x δ' => ∀ cls dd F' H', SI K mg c F' H' σ δ' → Ex F F' → ExOk K mg F' H' cls dd x → Wx cls dd σ H'
def TPs (K : PySem.W.Frag) (mg : Str → Option Value) (Wx : WX) : List (DE × DE) → List (TE × TE) := List.map fun p => (TD K mg Wx (dSh p.1), TD K mg Wx (dSh p.2))
theorem tps_run {c : Cm} {σ : L2.St} : ∀ {prs : List (DE × DE)} {F H : Hp} {δ : DS} {r : R (List (Key × D))} {Q : List (V × V) → Hp → Prop}, SI K mg c F H σ δ → dPairs prs δ = some r → AftP K mg c F H σ δ Wx Q r → tPairs (TPs K mg Wx prs) σ H Q
  | [], F, H, δ, r, Q, I, e, k => by
    obtain rfl := Option.some.inj e
    exact k [] F H I Pd.refl .nil
  | (dk, dv) :: prs, F, H, δ, r, Q, I, e, k => by
    have kx : HX K mg c F σ Wx r := fun x δ1 er => by subst er; exact k
    refine TD.seq I e kx fun w1 δ1 e1 v1 F1 H1 I1 P1 ok1 nw1 => ?_
    split at e1
    · split at e1
      · rename_i kd q hq
        refine TD.seq I1 e1 (kx.aft P1.f) fun w2 δ2 e2 v2 F2 H2 I2 P2 ok2 nw2 => ?_
        split at e2
        · rename_i d
          rcases bindR_some e2 with ⟨ps, δ3, e3, e4⟩ | ⟨x, δ3, e3, rfl⟩
          · obtain rfl := Option.some.inj e4
            refine tps_run I2 e3 fun kvs F3 H3 I3 P3 r3 => ?_
            have hy := keyOf_ok (K := K) (mg := mg) ok1 hq
            subst hy
            have P := (P1.trans P2).trans P3
            exact k ((q, v2) :: kvs) F3 H3 I3 P (.cons (DR.mono P3.f ok2) r3)
          · exact tps_run I2 e3 fun cls dd F' H' I' eF ok => k cls dd F' H' I' ((P1.trans P2).f.trans eF) ok
        · cases e2
      · cases e1
    · cases e1
/-- the pairs of a display, as written -/
inductive Prs (K : PySem.W.Frag) (mg : Str → Option Value) (X : Cx) (Wx : WX) : List (Option Expr) → List Expr → List (DE × DE) → Prop
  | nil : Prs K mg X Wx [] [] []
  | cons {k v : Expr} {ks : List (Option Expr)} {vs : List Expr} {dk dv : DE} {r : List (DE × DE)} : PE X k (TD K mg Wx dk) → PE X v (TD K mg Wx dv) → Prs K mg X Wx ks vs r → Prs K mg X Wx (some k :: ks) (v :: vs) ((dk, dv) :: r)
theorem Prs.pps {pos : Pos} : ∀ {ks : List (Option Expr)} {vs : List Expr} {r : List (DE × DE)}, Prs K mg X Wx ks vs r → PPs X pos ks vs (TPs K mg Wx r)
  | _, _, _, .nil => pps_nil
  | _, _, _, .cons h1 h2 q => pps_cons (d_sh h1) (d_sh h2) (Prs.pps q)
theorem d_disp {pos : Pos} {keys : List (Option Expr)} {values : List Expr} {prs : List (DE × DE)} (h : Prs K mg X Wx keys values prs) (hall : keys.all (·.isSome) = true) (hl : keys.length = values.length) (h0 : keys ≠ [])
    (h15 : keys.length ≤ 15) : PE X (.Dict keys values pos) (TD K mg Wx (dDisp prs)) := PE.imp (pe_disp h.pps hall hl h0 h15) fun σ H Q h => by
  obtain ⟨c, F, δ, r, I, e, k⟩ := h
  intro p hp
  obtain ⟨I0, P0, ok0⟩ := I.laidO (o := .dK []) (d := .dk []) hp (.dk .nil)
  rcases bindR_some e with ⟨ps, δ1, e1, e2⟩ | ⟨x, δ1, e1, rfl⟩
  · obtain ⟨h15, rfl⟩ := if_some e2
    refine tps_run I0 e1 fun kvs F1 H1 I1 P1 r1 => ?_
    obtain ⟨a, ea, ⟨hn, o, ho, t⟩, h0, no⟩ := ok0
    cases ea
    rw [upd_same] at ho
    obtain rfl := Option.some.inj ho
    obtain ⟨h1, n1, no1⟩ := P1.h p _ upd_same hn no
    have hlen := DRk.length r1
    refine ⟨h1, kvs, rfl, by rw [hlen]; exact h15, ?_⟩
    have I2 := I1.poke (o := .dK (mergeK [] kvs)) n1 h0 no1
    have PP := P0.trans P1
    refine k (.ref p) F1 _ I2 ⟨PP.f, fun a o ha hn no => ?_, fun a o ha => ?_⟩ ⟨p, rfl, ⟨n1, _, upd_same, .dk (DRk.merge r1 .nil)⟩, h0, no1⟩ fun b eb => by cases eb; exact hp
    · obtain ⟨q1, q2⟩ := PP.h a o ha hn no
      exact ⟨by rw [upd_ne (ne_of_none ha hp)]; exact q1, q2⟩
    · obtain ⟨u, hu⟩ := PP.d a o ha
      exact ⟨u, by rw [upd_ne (ne_of_none ha hp)]; exact hu⟩
  · exact tps_run I0 e1 fun cls dd F' H' I' eF ok => k cls dd F' H' I' (P0.f.trans eF) ok
end
end DL
set_option maxHeartbeats 2000000
namespace DL
open PySem PySem.Spec PyProof.Rows L2
/-- code that the data function never comes to -/
def dStuck : DB := fun _ => none
section
variable {K : PySem.W.Frag} {mg : Str → Option Value} {X : Cx} {Wx : WX}
theorem d_stuck {st : Stmt} : PS X st (TSD K mg Wx dStuck) := PS.imp ps_never fun Dd σ H h => by
  obtain ⟨c, F, δ, r, I, e, k⟩ := h
  cases e
end
/-- a def of the text, where it stands -/
def Dfn (K : PySem.W.Frag) (mg : Str → Option Value) (x : Str) (st : Stmt) (ps : List Str) : Prop :=
  ∃ (f : Addr) (fd : FuncData), Fun K x x st f fd ∧ mg x = some (.ref f) ∧ Binds K fd ps []
/-- a def that does what f does on data and raises nothing; one that may raise -/
def Cal (P : Program) (w : World) (K : PySem.W.Frag) (mg : Str → Option Value) (base : Heap) (k : Nat) (x : Str) (ps : List Str) (io : Bool) (f : List D → Option FR) : Prop :=
  (∀ ds y d0, f ds ≠ some (.ex y d0)) ∧ ∃ (a : Addr) (fd : FuncData), FnOk P w K mg base CX0 k a fd ps (SpD K mg false io f) ∧ mg x = some (.ref a) ∧ PySem.W.keepIn K (.ref a) = true ∧ Binds K fd ps []
def CalX (P : Program) (w : World) (K : PySem.W.Frag) (mg : Str → Option Value) (base : Heap) (k : Nat) (x : Str) (ps : List Str) (io : Bool) (f : List D → Option FR) : Prop :=
  ∃ (a : Addr) (fd : FuncData), FnOk P w K mg base (L2.CX P w) k a fd ps (SpD K mg true io f) ∧ mg x = some (.ref a) ∧ PySem.W.keepIn K (.ref a) = true ∧ Binds K fd ps []
section
variable {P : Program} {w : World} {K : PySem.W.Frag} {mg : Str → Option Value} {base : Heap}
theorem mk_cal {x : Str} {st : Stmt} {N ps : List Str} {k n kk : Nat} {io : Bool} {body : DB} (d : Dfn K mg x st ps) (S : FnScope N ps (defScope st)) (hn : N.length = n) (hp : ps.length = k) (hk : k ≤ n)
    (hb : ∀ (f : Addr) (cdv : Value) (A : Around) (outer : List Env) (s : Shared) (H : Hp) (E : XK), Room kk (A.deeper (envOfC x (defScope st) s.heap.objs.size f cdv)) → PSs (cxOf CX0 P w K mg base N x (defScope st) f cdv A outer s H E).nox (defBody st) (TSD K mg W0 body)) :
    Cal P w K mg base (kk + 1) x ps io (runD false io n k body) := by
  obtain ⟨f, fd, F, g, b⟩ := d
  exact ⟨runD_nx, f, fd, d_fn F S hn hp hk (hb f), g, F.kp, b⟩
theorem mk_calX {x : Str} {st : Stmt} {N ps : List Str} {k n kk : Nat} {io : Bool} {body : DB} (d : Dfn K mg x st ps) (S : FnScope N ps (defScope st)) (hn : N.length = n) (hp : ps.length = k) (hk : k ≤ n)
    (hb : ∀ (f : Addr) (cdv : Value) (A : Around) (outer : List Env) (s : Shared) (H : Hp) (E : XK), Room kk (A.deeper (envOfC x (defScope st) s.heap.objs.size f cdv)) → PSs (cxOf (L2.CX P w) P w K mg base N x (defScope st) f cdv A outer s H E) (defBody st) (TSD K mg (fun cls d _ H => E cls d H) body)) :
    CalX P w K mg base (kk + 1) x ps io (runD true io n k body) := by
  obtain ⟨f, fd, F, g, b⟩ := d
  exact ⟨f, fd, d_fnX F S hn hp hk (hb f), g, F.kp, b⟩
end
section
variable {X : Cx} {Wx : WX} {e : Expr} {es : List Expr} {da : DA} {x : Str} {p pos : Pos} {ps : List Str} {k kk : Nat} {io : Bool} {f : List D → Option FR}
theorem d_c (c : Cal X.prog X.w X.K X.mg X.base k x ps io f) (hr : Room kk X.A) (hg : Gl X x) (ha : PA X (e :: es) (TAD X.K X.mg Wx da)) (hk : k ≤ kk := by decide) (hdb : (x == ("__debug__" : Str)) = false := by decide) (he : starEach (e :: es) X.env = (false, eval e X.env) :: starEach es X.env := by rfl) (hpl : (backTo pos (starEach es X.env)).any (·.1) = false := by rfl) :
    PE X (.Call (.Name x p) (e :: es) [] pos) (TD X.K X.mg Wx (dCall io f da)) := by
  obtain ⟨nx, a, fd, G, m, kp, b⟩ := c
  exact d_call rfl rfl G nx (hr.mono hk) hg m kp b ha hdb he hpl
theorem d_cX (tk : Takes X Wx) (c : CalX X.prog X.w X.K X.mg X.base k x ps io f) (hr : Room kk X.A) (hg : Gl X x) (ha : PA X (e :: es) (TAD X.K X.mg Wx da)) (hk : k ≤ kk := by decide) (hdb : (x == ("__debug__" : Str)) = false := by decide) (he : starEach (e :: es) X.env = (false, eval e X.env) :: starEach es X.env := by rfl) (hpl : (backTo pos (starEach es X.env)).any (·.1) = false := by rfl) :
    PE X (.Call (.Name x p) (e :: es) [] pos) (TD X.K X.mg Wx (dCall io f da)) := by
  obtain ⟨a, fd, G, m, kp, b⟩ := c
  exact d_callX rfl rfl tk G (hr.mono hk) hg m kp b ha hdb he hpl
theorem hu64 {A : Around} {k : Nat} (hr : Room k A) : A.units + 64 < cLine := by
  have := hr.un
  omega
end
/-- the law's own promise -/
def spLaw (K : PySem.W.Frag) : Sp := fun vs H Q _ => ∃ (a : Addr) (ns : List Int), vs = [.ref a] ∧ SqL K H a (ns.map V.int) ∧ ns.length ≤ 63 ∧ ∀ H', Q (.bl true) H'
section
variable {P : Program} {w : World} {K : PySem.W.Frag} {mg : Str → Option Value} {base : Heap}
theorem DRs.ints {F : Hp} : ∀ ns : List Int, DRs K mg F (ns.map V.int) (ns.map D.int)
  | [] => .nil
  | n :: ns => .cons (.int n) (DRs.ints ns)
theorem law_ok {a : Addr} {fd : FuncData} {k : Nat} {ps : List Str} {f : List D → Option FR} (G : FnOk P w K mg base CX0 k a fd ps (SpD K mg false false f)) (h : ∀ ns : List Int, ns.length ≤ 63 → ∃ d0, f [.scr (ns.map D.int)] = some (.rt (.s (.bl true)) d0)) :
    FnOk P w K mg base CX0 k a fd ps (spLaw K) := G.imp fun vs H Q E q => by
  obtain ⟨b, ns, rfl, hs, hl, q⟩ := q
  obtain ⟨d0, hf⟩ := h ns hl
  refine ⟨H, _, _, Ex.refl H, .no (.cons (.scr hs (DRs.ints ns)) .nil), hf, fun v F' H' ch r => ?_⟩
  obtain rfl := DR.blI (show DR K mg F' v (.bl true) from r)
  exact q H'
end
end DL
set_option maxHeartbeats 2000000
namespace DL
open PySem PySem.Spec PyProof.Rows L2
section
variable {K : PySem.W.Frag} {mg : Str → Option Value} {X : Cx} {Wx : WX} {F H : Hp}
def fAppend : D → List D → Option (D × D)
  | .lst xs, [d] => if xs.length < LN then some (.lst (xs ++ [d]), .non) else none
  | _, _ => none
theorem snd_append : SndW K mg rAppend fAppend := fun F H a o d vs ds p Q eF ho t h hf k => by
  unfold fAppend at hf
  split at hf
  · obtain ⟨hl, rfl⟩ := if_some hf
    obtain ⟨xs, rfl, q⟩ := t.lstI
    cases h with
    | cons h r =>
      cases r
      exact ⟨a, xs, _, rfl, rfl, ho, by rw [q.length]; exact sz_line' hl, k .non _ (.lst (q.append (.one h))) .non⟩
  · cases hf
def fExtend : D → List D → Option (D × D)
  | .lst xs, [.lst ys] => if xs.length + ys.length ≤ LN then some (.lst (xs ++ ys), .non) else none
  | _, _ => none
theorem snd_extend : SndW K mg rExtend fExtend := fun F H a o d vs ds p Q eF ho t h hf k => by
  unfold fExtend at hf
  split at hf
  · obtain ⟨hl, rfl⟩ := if_some hf
    obtain ⟨xs, rfl, q⟩ := t.lstI
    cases h with
    | cons h r =>
      cases r
      obtain ⟨b, zs, rfl, hb, qb⟩ := h.lstI
      exact ⟨a, b, xs, zs, rfl, rfl, ho, eF _ _ hb, by rw [q.length, qb.length]; exact sz_line hl, k .non _ (.lst (q.append qb)) .non⟩
  · cases hf
def dUnp (dg : DG) (de : DE) : DB := fun δ => bindS (dSh de δ) fun w δ1 => match w with
  | .s d => match dg d δ1 with
    | some δ2 => some (.nx δ2)
    | none => none
  | _ => none
theorem d_unp {tg e : Expr} {pos : Pos} {de : DE} {g : TG} {dg : DG} {vs : List Nat} (he : PE X e (TD K mg Wx de)) (hg : PG X tg g) (sg : SndG K mg vs g dg) (hs : swapsWithSole [tg] e pos.line X.env = pure false := by rfl) (hw : swappedStores [tg] e X.env = pure none := by rfl)
    (h1 : (assignEach [tg] X.env).map (·.2) = [assign tg X.env] := by rfl) : PS X (.Assign [tg] e pos) (TSD K mg Wx (dUnp dg de)) := PS.imp (ps_asg (d_sh he) hg hs hw h1) fun Dd σ H h => by
  obtain ⟨c, F, δ, r, I, e, k⟩ := h
  refine TD.seqS I e k fun w δ1 e1 v F1 H1 I1 P1 ok => ?_
  split at e1
  · split at e1
    · rename_i δ2 e2
      obtain rfl := Option.some.inj e1
      exact sg c F1 H1 σ δ1 v _ δ2 _ I1 ok e2 fun σ1 I2 _ _ => k σ1 F1 H1 I2 P1.f
    · cases e1
  · cases e1
theorem d_chain {r r' : R2} {op op' : CmpOp} {f g : D → D → Option RW} {a b c0 : Expr} {pos : Pos} {da db dc : DE} (hs : OpR X (compareOp op) r) (hr : Snd2 K mg r f) (hs' : OpR X (compareOp op') r') (hr' : Snd2 K mg r' g) (ha : PE X a (TD K mg Wx da)) (hb : PE X b (TD K mg Wx db)) (hc : PE X c0 (TD K mg Wx dc))
    (hm : lastMarks [op, op'] [b, c0] = false := by with_unfolding_all rfl) : PE X (.Compare a [op, op'] [b, c0] pos) (TD K mg Wx (dChain f g da db dc)) := PE.imp (pe_chain hs hs' ha hb hc hm) fun _ _ _ h => td_chain hr hr' h
theorem d_tchain {r r' : R2} {op op' : CmpOp} {f g : D → D → Option RW} {a b c0 : Expr} {pos : Pos} {da db dc : DE} (hs : OpR X (compareOp op) r) (hr : Snd2 K mg r f) (hs' : OpR X (compareOp op') r') (hr' : Snd2 K mg r' g) (ha : PE X a (TD K mg Wx da)) (hb : PE X b (TD K mg Wx db)) (hc : PE X c0 (TD K mg Wx dc))
    (hm : lastMarks [op, op'] [b, c0] = false := by with_unfolding_all rfl) : PT X (.Compare a [op, op'] [b, c0] pos) (TTD K mg Wx (dTest (dChain f g da db dc))) := PT.imp (pt_chain hs hs' ha hb hc hm) fun _ _ _ h => td_chain hr hr' (Q := fun x H1 => ∃ k, x = .bl k ∧ _) (tt_val h)
end
end DL
set_option maxHeartbeats 2000000
namespace DL
open PySem PySem.Spec PyProof.Rows L2 RT
section
variable {prog : Program} {w : World} {A : Around} {E : Value → Shared → Prop} {s : Shared}
theorem rv_extend {R : PySem.Result → Shared → Prop} {it l S : Addr} {items : Array Value} (hh : A.handled = none) (hit : s.heap.IsRevIter it l ((items.size : Int) - 1)) (hl : s.heap.IsList l items) (hne : l ≠ it) (hn : items.size ≤ sizeLine) (hSi : S ≠ it) (hSl : S ≠ l) (res : Value) (c₀ : Nat) (hS : s.heap.get? S = some { cls := .type "list", data := .seq #[] c₀ })
    (hR : ∀ h' tk acc' c', (∀ b o, b ≠ S → b ≠ it → s.heap.get? b = some o → h'.get? b = some o) → h'.get? S = some { cls := .type "list", dict := none, data := .seq acc' c', slots := #[] } → ItemsOf (fun i v => items[items.size - 1 - i]? = some v) acc' items.size → R (.ok (.ret res)) { s with heap := h', toks := tk }) :
    wpAny (model prog w) A.in1 (Builtin.List.listExtendWith (.ref S) (.ref it) res)
      (fun fin s' => match fin with | .done f => R (.ok f) s' | .again c' => c'.quiet = true ∧ codeAny (model prog w) A c' R s') (fun e s' => R (.error e) s') s := by
  have W := (Walks.listRev (prog := prog) (w := w) (A := A.in1) hh it l hne items).toS
  have hSf : S ∉ [it, l] := by simp only [List.mem_cons, List.not_mem_nil, or_false, not_or]; exact ⟨hSi, hSl⟩
  have hT : s.TypeIs (.ref it) "list_reverseiterator" := hit.typeIs
  have h1 : Builtin.List.listSameRef (.ref S) (.ref it) = false := by simp [Builtin.List.listSameRef, hSi]
  have h2 : (Value.type "list_reverseiterator" == Value.type "list") = false := by decide
  have h3 : (Value.type "list_reverseiterator" == Value.type "tuple") = false := by decide
  unfold Builtin.List.listExtendWith
  refine wpAny_bind (wpAny_typeOf hT ?_)
  simp only [h1, h2, h3, Bool.or_false, Bool.false_eq_true, if_false]
  refine wpAny_bind (wpAny_pyIter_revIter hit ?_)
  refine wpAny_bind (wpAny_holding ?_)
  unfold Builtin.List.listLengthHint
  refine wpAny_bind (wpAny_specialOf hT nolen_lri ?_)
  show wpAny _ A.in1 (specialOf (Value.ref it) (Str.ofString "__length_hint__") >>= _) _ _ _
  refine wpAny_bind (wpAny_specialOf hT hint_lri ?_)
  generalize hid : ("list_reverseiterator.__length_hint__" : String) = id0
  wp_delta
  rw [show splitId id0 = some ("list_reverseiterator", "__length_hint__") from by subst hid; decide +kernel]
  subst hid
  refine wpAny_bind (wpAny_isInstance (b := true) hT (by rw [isSubtype_type]; kernel_rfl) ?_)
  refine wpAny_pure ?_
  rw [if_neg (by decide)]
  have e0 : ((items.size : Nat) : Int) - 1 - ((0 : Nat) : Int) = (items.size : Int) - 1 := by omega
  refine wpAny_pure ⟨plainId_quiet PySem.F.plain_extend_loop _, codeAny_extend_loopS W hn _ hSf _ items.size 0 _ _ _ rfl (Nat.zero_le _) ⟨Nat.zero_le _, by rw [e0]; exact hit, hl⟩ hS (ItemsOf.nil _) fun s' acc' c' hm hS' hacc => ?_⟩
  rw [Moved.eq_with hm]
  refine hR s'.heap s'.toks acc' c' (fun b o hb hb2 e => hm.heap b o (fun hmem => ?_) e) hS' hacc
  rcases List.mem_cons.mp hmem with e' | hmem
  · exact hb e'
  · exact hb2 (List.mem_singleton.mp hmem)
theorem rv_init {R : PySem.Result → Shared → Prop} {it l S : Addr} {items : Array Value} (hh : A.handled = none) (hit : s.heap.IsRevIter it l ((items.size : Int) - 1)) (hl : s.heap.IsList l items) (hne : l ≠ it) (hn : items.size ≤ sizeLine) (hSi : S ≠ it) (hSl : S ≠ l) (hS : s.heap.get? S = some { cls := .type "list", data := .seq #[] })
    (hR : ∀ h' tk acc' c', (∀ b o, b ≠ S → b ≠ it → s.heap.get? b = some o → h'.get? b = some o) → h'.get? S = some { cls := .type "list", dict := none, data := .seq acc' c', slots := #[] } → ItemsOf (fun i v => items[items.size - 1 - i]? = some v) acc' items.size → R (.ok (.ret .none)) { s with heap := h', toks := tk }) :
    wpAny (model prog w) A.in1 (Builtin.«list.__init__» ⟨[.ref S, .ref it], []⟩)
      (fun fin s' => match fin with | .done f => R (.ok f) s' | .again c' => c'.quiet = true ∧ codeAny (model prog w) A c' R s') (fun e s' => R (.error e) s') s := by
  show wpAny _ _ (do let old ← Builtin.List.listItems (.ref S); Builtin.List.listUpdate (.ref S) (fun _ => #[]); letGo old.toList.reverse; Builtin.List.listExtendWith (.ref S) (.ref it) .none) _ _ s
  refine wpAny_bind ?_
  unfold Builtin.List.listItems
  refine wpAny_bind (wpAny_seqItems hS rfl (wpAny_pure ?_))
  show wpAny _ _ (updateSeq S (fun _ => #[]) >>= fun _ => letGo (#[] : Array Value).toList.reverse >>= fun _ => Builtin.List.listExtendWith (.ref S) (.ref it) .none) _ _ s
  refine wpAny_bind (wpAny_updateSeq hS rfl ?_)
  have hS₂ := Heap.get?_update_self (Obj.mapSeq (fun _ => (#[] : Array Value))) hS rfl
  have oth : ∀ b o, b ≠ S → s.heap.get? b = some o → (s.heap.update S (Obj.mapSeq (fun _ => (#[] : Array Value)))).get? b = some o :=
    fun b o hb e => (Heap.get?_update_other _ _ (Ne.symm hb)).trans e
  refine wpAny_bind (wpAny_letGo ?_)
  refine rv_extend hh (hit.at fun o e => oth it o (Ne.symm hSi) e) (hl.at fun o e => oth l o (Ne.symm hSl) e) hne hn hSi hSl .none _ hS₂ fun h' tk acc' c' hk hS' hacc => ?_
  exact hR h' tk acc' c' (fun b o hb hb2 e => hk b o hb hb2 (oth b o hb e)) hS' hacc
theorem rv_call {Q : Value → Shared → Prop} {it l : Addr} {items : Array Value} (hh : A.handled = none) (hit : s.heap.IsRevIter it l ((items.size : Int) - 1)) (hl : s.heap.IsList l items) (hne : l ≠ it) (hn : items.size ≤ sizeLine)
    (hQ : ∀ h' tk acc' c', (∀ b o, b ≠ it → s.heap.get? b = some o → h'.get? b = some o) → h'.get? s.heap.objs.size = some { cls := .type "list", dict := none, data := .seq acc' c', slots := #[] } → ItemsOf (fun i v => items[items.size - 1 - i]? = some v) acc' items.size → Q (.ref s.heap.objs.size) { s with heap := h', toks := tk }) :
    wpAny (model prog w) A (call (.type "list") [.ref it]) Q E s := by
  obtain ⟨oi, hoi, _⟩ := id hit
  obtain ⟨ol, hol, _⟩ := id hl
  refine callType_codes (Q₁ := fun obj s₁ => obj = .ref s.heap.objs.size ∧ s₁ = { s with heap := s.heap.push { cls := .type "list", data := .seq #[] } }) PySem.F.called_list (PySem.F.typeCall_list_1 _) PySem.F.entry_list_init
    (code_list_new _ ⟨rfl, rfl⟩) fun obj s₁ h₁ => ?_
  obtain ⟨rfl, rfl⟩ := h₁
  have hS : (s.heap.push { cls := .type "list", data := .seq #[] }).get? s.heap.objs.size = some { cls := .type "list", data := .seq #[] } := Heap.get?_push_size _ rfl
  refine ⟨⟨_, hS, rfl⟩, PySem.F.args_list_init_2 _ _, rv_init (A := A.in1) hh (hit.at fun o e => Heap.get?_push_of_some _ e) (hl.push _) hne hn (Nat.ne_of_gt (Heap.lt_size hoi)) (Nat.ne_of_gt (Heap.lt_size hol)) hS (fun h' tk acc' c' hk hS' hacc => ?_)⟩
  exact ⟨rfl, hQ h' tk acc' c' (fun b o hb e => hk b o (Nat.ne_of_lt (Heap.lt_size e)) hb (Heap.get?_push_of_some _ e)) hS' hacc⟩
end
def rListRev (K : PySem.W.Frag) : V → Hp → VK → Prop := fun v H Q => ∃ (a : Addr) (xs : List V), v = .ref a ∧ SqL K H a xs ∧ ∀ q, H q = none → Q (.ref q) (upd H q (.lst xs.reverse))
section
variable {X : Cx} {K : PySem.W.Frag} {mg : Str → Option Value} {Wx : WX}
theorem pe_listRev {e : Expr} {te : TE} {p p2 pos pos2 : Pos} (hc : X.calm = true) (hg : Gl X "list") (hm : X.mg "list" = none) (hg2 : Gl X "reversed") (hm2 : X.mg "reversed" = none) (he : PE X e te)
    (hs : starEach [e] X.env = (false, eval e X.env) :: starEach [] X.env := by rfl)
    (hs2 : starEach [.Call (.Name "reversed" p2) [e] [] pos2] X.env = (false, eval (.Call (.Name "reversed" p2) [e] [] pos2) X.env) :: starEach [] X.env := by rfl) :
    PE X (.Call (.Name "list" p) [.Call (.Name "reversed" p2) [e] [] pos2] [] pos) (fun σ H Q => te σ H fun x H1 => rListRev X.K x H1 Q) := by
  refine ⟨fun pins s σ H Q I h => ?_⟩
  refine Call_ (ld_blt I hg hm (show bootBuiltins "list" = some (.type "list") by decide +kernel) (PyProof.Rows.callWith_type1 (args_cons (Call_ (ld_blt I hg2 hm2 PyProof.Rows.boot_reversed (PyProof.Rows.callWith_type1 (args_cons (thn (he.run pins s σ H _ I h) fun u s1 ⟨v, H1, I1, r1, q1⟩ => args_nil ?_) hs) hs rfl))) hs2) hs2 rfl))
  obtain ⟨a, xs, ev, hq, q⟩ := q1
  subst ev
  obtain rfl : u = Value.ref a := r1
  obtain ⟨its, rv, p', hz⟩ := I1.list hq
  refine call_reversed_list p'.isList (args_nil ?_)
  have k0 : ∀ b o, s1.heap.get? b = some o → (s1.heap.push (revObj a ((its.toArray.size : Int) - 1))).get? b = some o := fun b o e => Heap.get?_push_of_some _ e
  have I2 : Inv X pins σ H1 { s1 with heap := s1.heap.push (revObj a ((its.toArray.size : Int) - 1)) } := I1.kept (t' := s1.toks) k0
  have fp := I1.fpOk (H' := H1) (b := s1.heap.objs.size) (Nat.le_refl _) (I1.hok.fresh (Nat.le_refl _))
  obtain ⟨f0, f1, f2, f3, f4, f5⟩ := fp
  have hl := p'.isList
  obtain ⟨ol, hol, _⟩ := id hl
  have hne : a ≠ s1.heap.objs.size := Nat.ne_of_lt (Heap.lt_size hol)
  have hn : its.toArray.size ≤ sizeLine := by rw [List.size_toArray, ← rv.length]; exact hz
  refine rv_call (s := { s1 with heap := s1.heap.push (revObj a ((its.toArray.size : Int) - 1)) }) (I1.ok.hd hc) ⟨_, Heap.get?_push_size _ rfl, rfl, rfl⟩ (hl.push _) hne hn fun h' tk acc c' hk hS hi => ?_
  have hsz : (s1.heap.push (revObj a ((its.toArray.size : Int) - 1))).objs.size = s1.heap.objs.size + 1 := by simp [Heap.push]
  refine ⟨.ref (s1.heap.push (revObj a ((its.toArray.size : Int) - 1))).objs.size, upd H1 (s1.heap.push (revObj a ((its.toArray.size : Int) - 1))).objs.size (.lst xs.reverse), ?_, rfl, q _ (I2.hok.fresh (Nat.le_refl _))⟩
  refine I2.turnedNew (ch := [s1.heap.objs.size]) (t' := tk) (fun b ob hb e => hk b ob (fun z => hb (by simp [z])) e) (fun b hb => ?_) (Nat.le_refl _) (show ObjOk X.prog X.w _ _ _ (.lst xs.reverse) from ⟨by rw [List.length_reverse]; exact hz, acc.toList, c', vals_rev rv hi, ?_⟩)
  · obtain rfl : b = s1.heap.objs.size := by simpa using hb
    exact ⟨f0, f1, f2, f3, f4, f5⟩
  · rw [Array.toArray_toList]
    exact hS
def fListRev : D → Option RW
  | .lst xs => some (.n (.lst xs.reverse))
  | _ => none
theorem snd_listRev {K : PySem.W.Frag} {mg : Str → Option Value} : Snd1 K mg (rListRev K) fListRev := fun F H v1 d1 w Q eF h1 hf q => by
  unfold fListRev at hf
  split at hf
  · obtain rfl := Option.some.inj hf
    obtain ⟨a, xs, rfl, ha, qa⟩ := h1.lstI
    exact ⟨a, xs, rfl, .inl (.inl ha), fun p hp => q p _ hp (.lst qa.reverse)⟩
  · cases hf
theorem d_listRev {e : Expr} {de : DE} {p p2 pos pos2 : Pos} (hc : X.calm = true) (hg : Gl X "list") (hm : X.mg "list" = none) (hg2 : Gl X "reversed") (hm2 : X.mg "reversed" = none) (he : PE X e (TD X.K mg Wx de))
    (hs : starEach [e] X.env = (false, eval e X.env) :: starEach [] X.env := by rfl)
    (hs2 : starEach [.Call (.Name "reversed" p2) [e] [] pos2] X.env = (false, eval (.Call (.Name "reversed" p2) [e] [] pos2) X.env) :: starEach [] X.env := by rfl) :
    PE X (.Call (.Name "list" p) [.Call (.Name "reversed" p2) [e] [] pos2] [] pos) (TD X.K mg Wx (dUn fListRev de)) := PE.imp (pe_listRev hc hg hm hg2 hm2 he hs hs2) fun _ _ _ h => td_un snd_listRev h
end
end DL
namespace DL
open PySem PySem.Spec PyProof.Rows L2
def rLenQ (K : PySem.W.Frag) : List V → Hp → VK → Prop := fun xs H Q => ∃ p ys, xs = [V.ref p] ∧ (SqL K H p ys ∨ SqT K H p ys) ∧ Q (.int ys.length) H
def eqB (x y : D) : Bool := eqD x y == some true
def lcsD : List D → List D → Int
  | [], _ => 0
  | _ :: _, [] => 0
  | x :: xs, y :: ys => if eqB x y = true then lcsD xs ys + 1 else (if lcsD (x :: xs) ys > lcsD xs (y :: ys) then lcsD (x :: xs) ys else lcsD xs (y :: ys))
termination_by xs ys => xs.length + ys.length
theorem lcsD_nil (xs : List D) : lcsD xs [] = 0 := by
  cases xs <;> simp [lcsD]
theorem lcsD_nil' (ys : List D) : lcsD [] ys = 0 := by simp [lcsD]
/-- the cells of the table at the turn: those behind (i, j) are done -/
def cellD (xs ys : List D) (i j : Nat) (a b : Nat) : Int := if i < a ∨ (i = a ∧ j < b) then lcsD (xs.drop a) (ys.drop b) else 0
def rowV (m : Nat) (f : Nat → Int) : List V := (List.range (m + 1)).map fun j => V.int (f j)
def rowD (m : Nat) (f : Nat → Int) : List D := (List.range (m + 1)).map fun j => D.int (f j)
def tableD (xs ys : List D) : D := .lst ((List.range (xs.length + 1)).map fun i => .lst (rowD ys.length fun j => lcsD (xs.drop i) (ys.drop j)))
def cmpOk (xs ys : List D) : Bool := xs.all fun x => ys.all fun y => (eqD x y).isSome
def f_common_table : List D → Option FR := fun ds => match ds with
  | [.lst xs, .lst ys] => if xs.length ≤ 1000 ∧ ys.length ≤ 1000 ∧ cmpOk xs ys = true then some (.rt (.s (tableD xs ys)) .non) else none
  | _ => none
theorem rowV_length {m : Nat} {f : Nat → Int} : (rowV m f).length = m + 1 := by simp [rowV]
theorem rowV_get {m : Nat} {f : Nat → Int} {j : Nat} (h : j ≤ m) : (rowV m f)[j]? = some (V.int (f j)) := by
  unfold rowV
  rw [List.getElem?_map, List.getElem?_range (by omega)]
  rfl
theorem rowV_set {m : Nat} {f : Nat → Int} {j : Nat} {z : Int} (h : j ≤ m) : (rowV m f).set j (V.int z) = rowV m fun k => if k = j then z else f k := by
  apply List.ext_getElem?
  intro k
  by_cases hk : k ≤ m
  · by_cases e : j = k
    · subst e
      rw [List.getElem?_set_self (by rw [rowV_length]; omega), rowV_get hk, if_pos rfl]
    · rw [List.getElem?_set_ne e, rowV_get hk, rowV_get hk, if_neg (fun z => e z.symm)]
  · rw [List.getElem?_eq_none (by rw [List.length_set, rowV_length]; omega), List.getElem?_eq_none (by rw [rowV_length]; omega)]
theorem rowV_congr {m : Nat} {f g : Nat → Int} (h : ∀ j, j ≤ m → f j = g j) : rowV m f = rowV m g := by
  apply List.ext_getElem?
  intro k
  by_cases hk : k ≤ m
  · rw [rowV_get hk, rowV_get hk, h k hk]
  · rw [List.getElem?_eq_none (by rw [rowV_length]; omega), List.getElem?_eq_none (by rw [rowV_length]; omega)]
/-- the table lies at D, its rows at ps, the cells are f -/
structure Tab (H : Hp) (D : Addr) (ps : List Addr) (m : Nat) (f : Nat → Nat → Int) : Prop where
  tab : H D = some (.lst (ps.map V.ref))
  rows : ∀ k p, ps[k]? = some p → H p = some (.lst (rowV m (f k)))
  nd : ps.Nodup
  out : D ∉ ps
theorem Tab.put {H : Hp} {D : Addr} {ps : List Addr} {m : Nat} {f : Nat → Nat → Int} (T : Tab H D ps m f) {i j : Nat} {p : Addr} {z : Int} (hi : ps[i]? = some p) (hj : j ≤ m) : Tab (upd H p (.lst ((rowV m (f i)).set j (.int z)))) D ps m (fun a b => if a = i ∧ b = j then z else f a b) := by
  have hpm : p ∈ ps := List.mem_of_getElem? hi
  refine ⟨?_, fun k q hk => ?_, T.nd, T.out⟩
  · rw [upd_ne (by rintro rfl; exact T.out hpm)]
    exact T.tab
  · by_cases e : k = i
    · subst e
      rw [hi] at hk
      obtain rfl := Option.some.inj hk
      rw [upd_same, rowV_set hj]
      congr 1
      congr 1
      apply rowV_congr
      intro b _
      by_cases e : b = j <;> simp [e]
    · have hq : q ≠ p := by
        rintro rfl
        obtain ⟨h1, h2⟩ := List.getElem?_eq_some_iff.mp hk
        obtain ⟨h3, h4⟩ := List.getElem?_eq_some_iff.mp hi
        exact e ((List.getElem_inj T.nd).mp (h2.trans h4.symm))
      rw [upd_ne hq, T.rows k q hk]
      congr 1
      congr 1
      apply rowV_congr
      intro b _
      rw [if_neg (fun z => e z.1)]
theorem Tab.congr {H : Hp} {D : Addr} {ps : List Addr} {m : Nat} {f g : Nat → Nat → Int} (T : Tab H D ps m f) (h : ∀ a b, a < ps.length → b ≤ m → f a b = g a b) : Tab H D ps m g :=
  ⟨T.tab, fun k p hk => by
    rw [T.rows k p hk]
    congr 1
    congr 1
    exact rowV_congr fun b hb => h k b (List.getElem?_eq_some_iff.mp hk).1 hb, T.nd, T.out⟩
theorem atI_nat' {α : Type} {xs : List α} {j : Nat} {v : α} (h : xs[j]? = some v) : atI xs (j : Int) = some v := by
  obtain ⟨h1, _⟩ := List.getElem?_eq_some_iff.mp h
  unfold atI ixN
  rw [if_pos (by omega), if_pos (by omega)]
  simpa using h
theorem cell_step {xs ys : List D} {i j : Nat} {x y : D} (hx : xs[i]? = some x) (hy : ys[j]? = some y) : lcsD (xs.drop i) (ys.drop j) = if eqB x y = true then lcsD (xs.drop (i + 1)) (ys.drop (j + 1)) + 1 else
    (if lcsD (xs.drop i) (ys.drop (j + 1)) > lcsD (xs.drop (i + 1)) (ys.drop j) then lcsD (xs.drop i) (ys.drop (j + 1)) else lcsD (xs.drop (i + 1)) (ys.drop j)) := by
  obtain ⟨h1, rfl⟩ := List.getElem?_eq_some_iff.mp hx
  obtain ⟨h2, rfl⟩ := List.getElem?_eq_some_iff.mp hy
  rw [List.drop_eq_getElem_cons h1, List.drop_eq_getElem_cons h2]
  conv => lhs; rw [lcsD]
end DL
namespace DL
open PySem PySem.Spec PyProof.Rows L2
section
variable {δ δ1 : DS} {da db dc de : DE} {dt du : DT} {b b2 : DB} {f g : D → D → Option RW} {i j n : Nat} {w w2 : W} {d e : D} {x : DX}
def bindB (o : Option SO) (b : DB) : Option SO := match o with
  | some (.nx δ) => b δ
  | r => r
theorem e_seq : dSeq b b2 δ = bindB (b δ) b2 := rfl
theorem bindB_nx : bindB (some (.nx δ)) b = b δ := rfl
theorem bindB_rt : bindB (some (.rt w δ)) b = some (.rt w δ) := rfl
theorem bindB_bk : bindB (some (.bk δ)) b = some (.bk δ) := rfl
theorem bindB_ct : bindB (some (.ct δ)) b = some (.ct δ) := rfl
theorem bindB_ex : bindB (some (.ex x δ)) b = some (.ex x δ) := rfl
theorem e_next : dNext δ = some (.nx δ) := rfl
theorem e_break : dBreak δ = some (.bk δ) := rfl
theorem e_cont : dCont δ = some (.ct δ) := rfl
theorem e_retN : dRetN δ = some (.rt (.s .non) δ) := rfl
def kDrop : W → DS → Option SO := fun _ δ => some (.nx δ)
theorem e_drop : dDrop de δ = bindS (de δ) kDrop := rfl
theorem k_drop : kDrop w δ = some (.nx δ) := rfl
def kRet : W → DS → Option SO := fun w δ => some (.rt w δ)
theorem e_ret : dRet de δ = bindS (de δ) kRet := rfl
theorem k_ret : kRet w δ = some (.rt w δ) := rfl
def kIf (a b : DB) : Bool → DS → Option SO := fun k δ => if k = true then a δ else b δ
theorem e_if : dIf dt b b2 δ = bindS (dt δ) (kIf b b2) := rfl
theorem k_ifT : kIf b b2 true δ = b δ := rfl
theorem k_ifF : kIf b b2 false δ = b2 δ := rfl
def kSet (i : Nat) : W → DS → Option SO := fun w δ1 => match toS w with
  | some s => if free δ1 i = true then some (.nx (δ1.set i s)) else none
  | none => none
theorem e_set : dSet i de δ = bindS (de δ) (kSet i) := rfl
theorem k_setS : kSet i (.s d) δ = if free δ i = true then some (.nx (δ.set i (.sh d))) else none := rfl
theorem k_setO : kSet i (.o d) δ = if free δ i = true then some (.nx (δ.set i (.ow d))) else none := rfl
def kPutK1 (i : Nat) (dk : DE) : W → DS → Option SO := fun w δ1 => match w, slotD δ1 i with
  | .s d, some _ => bindS (dSh dk δ1) fun w2 δ2 => match w2, slotD δ2 i with
    | .s k, some x => match put2 x k d with
      | some y => some (.nx (wr δ2 i y))
      | none => none
    | _, _ => none
  | _, _ => none
def kPutK2 (i : Nat) (d : D) : W → DS → Option SO := fun w2 δ2 => match w2, slotD δ2 i with
    | .s k, some x => match put2 x k d with
      | some y => some (.nx (wr δ2 i y))
      | none => none
    | _, _ => none
theorem e_putK : dPutK i da db δ = bindS (dSh db δ) (kPutK1 i da) := rfl
theorem k_putK1 {q : D} (h : slotD δ i = some q) : kPutK1 i da (.s d) δ = bindS (dSh da δ) (kPutK2 i d) := by
  unfold kPutK1
  rw [h]
  rfl
theorem k_putK2 {q y : D} (h : slotD δ i = some q) (hp : put2 q e d = some y) : kPutK2 i d (.s e) δ = some (.nx (wr δ i y)) := by
  unfold kPutK2
  rw [h]
  simp only [hp]
def kPutL1 (i : Nat) (dk : DE) : W → DS → Option SO := fun w δ1 => match w, slotD δ1 i with
  | .s d, some _ => bindS (dk δ1) fun w2 δ2 => match w2, slotD δ2 i with
    | .s (.int k), some x => match setAt x k d with
      | some y => some (.nx (wr δ2 i y))
      | none => none
    | _, _ => none
  | _, _ => none
def kPutL2 (i : Nat) (d : D) : W → DS → Option SO := fun w2 δ2 => match w2, slotD δ2 i with
    | .s (.int k), some x => match setAt x k d with
      | some y => some (.nx (wr δ2 i y))
      | none => none
    | _, _ => none
theorem e_putL : dPutL i da db δ = bindS (db δ) (kPutL1 i da) := rfl
theorem k_putL1 {q : D} (h : slotD δ i = some q) : kPutL1 i da (.s d) δ = bindS (da δ) (kPutL2 i d) := by
  unfold kPutL1
  rw [h]
  rfl
theorem k_putL2 {q y : D} {k : Int} (h : slotD δ i = some q) (hp : setAt q k d = some y) : kPutL2 i d (.s (.int k)) δ = some (.nx (wr δ i y)) := by
  unfold kPutL2
  rw [h]
  simp only [hp]
def kUnp (dg : DG) : W → DS → Option SO := fun w δ1 => match w with
  | .s d => match dg d δ1 with
    | some δ2 => some (.nx δ2)
    | none => none
  | _ => none
def toNx : Option DS → Option SO
  | some δ => some (.nx δ)
  | none => none
theorem e_unp {dg : DG} : dUnp dg de δ = bindS (dSh de δ) (kUnp dg) := rfl
theorem k_unp {dg : DG} : kUnp dg (.s d) δ = toNx (dg d δ) := by
  unfold kUnp toNx
  dsimp only
theorem toNx_s : toNx (some δ) = some (.nx δ) := rfl
theorem e_c : dC d δ = some (.ok (.s d) δ) := rfl
def vOf (i : Nat) (δ : DS) : Option SV → Option (R W)
  | some (.sh d) => some (.ok (.s d) δ)
  | some (.ow _) => some (.ok (.b i) δ)
  | some (.io _) => some (.ok (.b i) δ)
  | _ => none
theorem e_var : dVar i δ = vOf i δ δ[i]? := rfl
theorem v_sh : vOf i δ (some (.sh d)) = some (.ok (.s d) δ) := rfl
theorem v_ow : vOf i δ (some (.ow d)) = some (.ok (.b i) δ) := rfl
theorem v_io : vOf i δ (some (.io d)) = some (.ok (.b i) δ) := rfl
def vOfF (i : Nat) (δ : DS) : Option SV → Option (R W)
  | some (.sh d) => some (.ok (.s d) δ)
  | some (.ow d) => some (.ok (.s d) (δ.set i (.sh d)))
  | _ => none
theorem e_varF : dVarF i δ = vOfF i δ δ[i]? := rfl
theorem vF_sh : vOfF i δ (some (.sh d)) = some (.ok (.s d) δ) := rfl
theorem vF_ow : vOfF i δ (some (.ow d)) = some (.ok (.s d) (δ.set i (.sh d))) := rfl
def kSh : W → DS → Option (R W) := fun w δ1 => match w with
  | .s d => some (.ok (.s d) δ1)
  | .o d => some (.ok (.s d) δ1)
  | .b _ => none
theorem e_sh : dSh de δ = bindR (de δ) kSh := rfl
theorem k_shS : kSh (.s d) δ = some (.ok (.s d) δ) := rfl
theorem k_shO : kSh (.o d) δ = some (.ok (.s d) δ) := rfl
def kOp1 (f : D → D → Option RW) (db : DE) : W → DS → Option (R W) := fun w1 δ1 => bindR (db δ1) fun w2 δ2 => with1 (cont δ2 w1) fun d1 => with1 (cont δ2 w2) fun d2 => ans δ2 (f d1 d2)
def kOp2 (f : D → D → Option RW) (w1 : W) : W → DS → Option (R W) := fun w2 δ2 => with1 (cont δ2 w1) fun d1 => with1 (cont δ2 w2) fun d2 => ans δ2 (f d1 d2)
def an2 (f : D → D → Option RW) (a b : Option D) (δ : DS) : Option (R W) := match a, b with
  | some a, some b => ans δ (f a b)
  | _, _ => none
theorem e_op : dOp f da db δ = bindR (da δ) (kOp1 f db) := rfl
theorem k_op1 : kOp1 f db w δ = bindR (db δ) (kOp2 f w) := rfl
theorem k_op2 : kOp2 f w w2 δ = an2 f (cont δ w) (cont δ w2) δ := by
  unfold kOp2 an2 with1
  cases cont δ w with
  | none => rfl
  | some a => cases cont δ w2 <;> rfl
theorem an2_s : an2 f (some d) (some e) δ = ans δ (f d e) := rfl
theorem ans_v : ans δ (some (.v d)) = some (.ok (.s d) δ) := rfl
theorem ans_n : ans δ (some (.n d)) = some (.ok (.o d) δ) := rfl
theorem ans_t : ans δ (some (.t d)) = some (.ok (.s d) δ) := rfl
def kUn (f : D → Option RW) : W → DS → Option (R W) := fun w1 δ1 => with1 (cont δ1 w1) fun d1 => ans δ1 (f d1)
def an1 (f : D → Option RW) (a : Option D) (δ : DS) : Option (R W) := match a with
  | some a => ans δ (f a)
  | none => none
theorem e_un {f : D → Option RW} : dUn f da δ = bindR (da δ) (kUn f) := rfl
theorem k_un {f : D → Option RW} : kUn f w δ = an1 f (cont δ w) δ := by
  unfold kUn an1 with1
  cases cont δ w <;> rfl
theorem an1_s {f : D → Option RW} : an1 f (some d) δ = ans δ (f d) := rfl
theorem c_s : cont δ (.s d) = some d := rfl
theorem c_o : cont δ (.o d) = if heavy d = true then some d else none := rfl
def cOf : Option SV → Option D
  | some (.ow d) => if heavy d = true then some d else none
  | some (.io d) => if heavy d = true then some d else none
  | _ => none
theorem c_b : cont δ (.b i) = cOf δ[i]? := rfl
theorem cOf_ow : cOf (some (.ow d)) = if heavy d = true then some d else none := rfl
theorem cOf_io : cOf (some (.io d)) = if heavy d = true then some d else none := rfl
theorem h_lst {xs : List D} : heavy (.lst xs) = true := rfl
theorem h_dk {xs : List (Key × D)} : heavy (.dk xs) = true := rfl
theorem h_dt {xs : List (List Key × D)} : heavy (.dt xs) = true := rfl
theorem h_ins {C : Str} {xs : List (Str × D)} : heavy (.ins C xs) = true := rfl
theorem e_nil : dNil δ = some (.ok [] δ) := rfl
def kCons1 (da : DA) : W → DS → Option (R (List W)) := fun w δ1 => bindR (da δ1) fun ws δ2 => some (.ok (w :: ws) δ2)
def kCons2 (w : W) : List W → DS → Option (R (List W)) := fun ws δ2 => some (.ok (w :: ws) δ2)
theorem e_cons {da : DA} : dCons de da δ = bindR (de δ) (kCons1 da) := rfl
theorem k_cons1 {da : DA} : kCons1 da w δ = bindR (da δ) (kCons2 w) := rfl
theorem k_cons2 {ws : List W} : kCons2 w ws δ = some (.ok (w :: ws) δ) := rfl
def kCB (f : List D → Option RW) : List W → DS → Option (R W) := fun ws δ1 => with1 (conts δ1 ws) fun ds => ans δ1 (f ds)
def anN (f : List D → Option RW) (a : Option (List D)) (δ : DS) : Option (R W) := match a with
  | some a => ans δ (f a)
  | none => none
theorem e_cb {f : List D → Option RW} {da : DA} : dCB f da δ = bindR (da δ) (kCB f) := rfl
theorem k_cb {f : List D → Option RW} {ws : List W} : kCB f ws δ = anN f (conts δ ws) δ := by
  unfold kCB anN with1
  cases conts δ ws <;> rfl
theorem anN_s {f : List D → Option RW} {ds : List D} : anN f (some ds) δ = ans δ (f ds) := rfl
def cs2 : Option D → Option (List D) → Option (List D)
  | some d, some ds => some (d :: ds)
  | _, _ => none
theorem cs_nil : conts δ [] = some [] := rfl
theorem cs_cons {ws : List W} : conts δ (w :: ws) = cs2 (cont δ w) (conts δ ws) := by
  rw [conts]
  cases cont δ w with
  | none => rfl
  | some a => cases conts δ ws <;> rfl
theorem cs2_s {ds : List D} : cs2 (some d) (some ds) = some (d :: ds) := rfl
def kTup : List W → DS → Option (R W) := fun ws δ1 => with1 (sAll ws) fun ds => if ds.length ≤ LN then some (.ok (.s (.tup ds)) δ1) else none
def kLst : List W → DS → Option (R W) := fun ws δ1 => with1 (sAll ws) fun ds => if ds.length ≤ LN then some (.ok (.o (.lst ds)) δ1) else none
theorem e_tup {da : DA} : dTup da δ = bindR (da δ) kTup := rfl
theorem e_lst {da : DA} : dLst da δ = bindR (da δ) kLst := rfl
theorem k_tup {ws : List W} {ds : List D} (h : sAll ws = some ds) (hl : ds.length ≤ LN) : kTup ws δ = some (.ok (.s (.tup ds)) δ) := by
  unfold kTup
  rw [h, with1_s, if_pos hl]
theorem k_lst {ws : List W} {ds : List D} (h : sAll ws = some ds) (hl : ds.length ≤ LN) : kLst ws δ = some (.ok (.o (.lst ds)) δ) := by
  unfold kLst
  rw [h, with1_s, if_pos hl]
theorem e_noPart : dNoPart δ = some (.ok none δ) := rfl
def kPart : W → DS → Option (R (Option Int)) := fun w δ1 => match w with
  | .s (.int i) => some (.ok (some i) δ1)
  | _ => none
theorem e_part : dPart de δ = bindR (de δ) kPart := rfl
theorem k_part {i : Int} : kPart (.s (.int i)) δ = some (.ok (some i) δ) := rfl
def kSl1 (f : D → Option Int → Option Int → Option RW) (dl dh : DO) : W → DS → Option (R W) := fun w δ1 => bindR (dl δ1) fun lo δ2 => bindR (dh δ2) fun hi δ3 => with1 (cont δ3 w) fun d => ans δ3 (f d lo hi)
def kSl2 (f : D → Option Int → Option Int → Option RW) (dh : DO) (w : W) : Option Int → DS → Option (R W) := fun lo δ2 => bindR (dh δ2) fun hi δ3 => with1 (cont δ3 w) fun d => ans δ3 (f d lo hi)
def kSl3 (f : D → Option Int → Option Int → Option RW) (w : W) (lo : Option Int) : Option Int → DS → Option (R W) := fun hi δ3 => with1 (cont δ3 w) fun d => ans δ3 (f d lo hi)
def anS (f : D → Option Int → Option Int → Option RW) (lo hi : Option Int) (a : Option D) (δ : DS) : Option (R W) := match a with
  | some a => ans δ (f a lo hi)
  | none => none
theorem e_sl {f : D → Option Int → Option Int → Option RW} {dl dh : DO} : dSl f de dl dh δ = bindR (de δ) (kSl1 f dl dh) := rfl
theorem k_sl1 {f : D → Option Int → Option Int → Option RW} {dl dh : DO} : kSl1 f dl dh w δ = bindR (dl δ) (kSl2 f dh w) := rfl
theorem k_sl2 {f : D → Option Int → Option Int → Option RW} {dh : DO} {lo : Option Int} : kSl2 f dh w lo δ = bindR (dh δ) (kSl3 f w lo) := rfl
theorem k_sl3 {f : D → Option Int → Option Int → Option RW} {lo hi : Option Int} : kSl3 f w lo hi δ = anS f lo hi (cont δ w) δ := by
  unfold kSl3 anS with1
  cases cont δ w <;> rfl
theorem anS_s {f : D → Option Int → Option Int → Option RW} {lo hi : Option Int} : anS f lo hi (some d) δ = ans δ (f d lo hi) := rfl
def kBM1 (T : String) (f : D → List D → Option RW) (da : DA) : W → DS → Option (R W) := fun w δ1 => with1 (cont δ1 w) fun d0 => if tyD d0 = T then
  bindR (da δ1) fun ws δ2 => with1 (cont δ2 w) fun d => with1 (conts δ2 ws) fun ds => ans δ2 (f d ds) else none
def kBM2 (f : D → List D → Option RW) (w : W) : List W → DS → Option (R W) := fun ws δ2 => with1 (cont δ2 w) fun d => with1 (conts δ2 ws) fun ds => ans δ2 (f d ds)
theorem e_bm {T : String} {f : D → List D → Option RW} {da : DA} : dBM T f de da δ = bindR (de δ) (kBM1 T f da) := rfl
theorem k_bm1 {T : String} {f : D → List D → Option RW} {da : DA} {d0 : D} (h : cont δ w = some d0) (ht : tyD d0 = T) : kBM1 T f da w δ = bindR (da δ) (kBM2 f w) := by
  unfold kBM1
  rw [h, with1_s, if_pos ht]
  rfl
theorem k_bm2 {f : D → List D → Option RW} {ws : List W} {ds : List D} (h : cont δ w = some d) (h2 : conts δ ws = some ds) : kBM2 f w ws δ = ans δ (f d ds) := by
  unfold kBM2
  rw [h, with1_s, h2, with1_s]
def kMut (f : D → List D → Option (D × D)) (i : Nat) : List W → DS → Option (R W) := fun ws δ1 => with1 (slotD δ1 i) fun d => with1 (sAll ws) fun ds => with1 (f d ds) fun p => some (.ok (.s p.2) (wr δ1 i p.1))
theorem e_mut {T : String} {f : D → List D → Option (D × D)} {da : DA} {d0 : D} (h : slotD δ i = some d0) (ht : tyD d0 = T) : dMut T f i da δ = bindR (da δ) (kMut f i) := by
  unfold dMut
  rw [h, with1_s, if_pos ht]
  rfl
theorem k_mut {f : D → List D → Option (D × D)} {ws : List W} {ds : List D} {p : D × D} (h : slotD δ i = some d) (h2 : sAll ws = some ds) (hf : f d ds = some p) : kMut f i ws δ = some (.ok (.s p.2) (wr δ i p.1)) := by
  unfold kMut
  rw [h, with1_s, h2, with1_s, hf, with1_s]
def kTest : W → DS → Option (R Bool) := fun w δ1 => match w with
  | .s (.bl b) => some (.ok b δ1)
  | _ => none
theorem e_test : dTest de δ = bindR (de δ) kTest := rfl
theorem k_test {b : Bool} : kTest (.s (.bl b)) δ = some (.ok b δ) := rfl
def kAnd (du : DT) : Bool → DS → Option (R Bool) := fun b δ1 => if b = true then du δ1 else some (.ok false δ1)
def kOr (du : DT) : Bool → DS → Option (R Bool) := fun b δ1 => if b = true then some (.ok true δ1) else du δ1
def kNot : Bool → DS → Option (R Bool) := fun b δ1 => some (.ok (!b) δ1)
theorem e_and : dAnd dt du δ = bindR (dt δ) (kAnd du) := rfl
theorem e_or : dOr dt du δ = bindR (dt δ) (kOr du) := rfl
theorem e_not : dNot dt δ = bindR (dt δ) kNot := rfl
theorem k_andT : kAnd du true δ = du δ := rfl
theorem k_andF : kAnd du false δ = some (.ok false δ) := rfl
theorem k_orT : kOr du true δ = some (.ok true δ) := rfl
theorem k_orF : kOr du false δ = du δ := rfl
theorem k_not {b : Bool} : kNot b δ = some (.ok (!b) δ) := rfl
def kAndV (db : DE) : W → DS → Option (R W) := fun w δ1 => match w with
  | .s (.bl b) => if b = true then db δ1 else some (.ok (.s (.bl false)) δ1)
  | _ => none
def kOrV (db : DE) : W → DS → Option (R W) := fun w δ1 => match w with
  | .s (.bl b) => if b = true then some (.ok (.s (.bl true)) δ1) else db δ1
  | _ => none
def kNotV : W → DS → Option (R W) := fun w δ1 => match w with
  | .s (.bl b) => some (.ok (.s (.bl (!b))) δ1)
  | _ => none
theorem e_andV : dAndV da db δ = bindR (da δ) (kAndV db) := rfl
theorem e_orV : dOrV da db δ = bindR (da δ) (kOrV db) := rfl
theorem e_notV : dNotV da δ = bindR (da δ) kNotV := rfl
theorem k_andVT : kAndV db (.s (.bl true)) δ = db δ := rfl
theorem k_andVF : kAndV db (.s (.bl false)) δ = some (.ok (.s (.bl false)) δ) := rfl
theorem k_orVT : kOrV db (.s (.bl true)) δ = some (.ok (.s (.bl true)) δ) := rfl
theorem k_orVF : kOrV db (.s (.bl false)) δ = db δ := rfl
theorem k_notV {b : Bool} : kNotV (.s (.bl b)) δ = some (.ok (.s (.bl (!b))) δ) := rfl
def kIfE (da db : DE) : Bool → DS → Option (R W) := fun b δ1 => if b = true then da δ1 else db δ1
theorem e_ifE : dIfE dt da db δ = bindR (dt δ) (kIfE da db) := rfl
theorem k_ifET : kIfE da db true δ = da δ := rfl
theorem k_ifEF : kIfE da db false δ = db δ := rfl
def kCall (io : Bool) (f : List D → Option FR) : List W → DS → Option (R W) := fun ws δ1 => callD io f ws δ1
theorem e_call {io : Bool} {f : List D → Option FR} {da : DA} : dCall io f da δ = bindR (da δ) (kCall io f) := rfl
theorem k_call0 {f : List D → Option FR} {ws : List W} {ds : List D} {d d0 : D} (h : sAll ws = some ds) (hf : f ds = some (.rt (.s d) d0)) : kCall false f ws δ = some (.ok (.s d) δ) := by
  unfold kCall callD call0
  simp only [h, with1_s, hf, callFin]
theorem k_call0o {f : List D → Option FR} {ws : List W} {ds : List D} {d d0 : D} (h : sAll ws = some ds) (hf : f ds = some (.rt (.o d) d0)) : kCall false f ws δ = some (.ok (.o d) δ) := by
  unfold kCall callD call0
  simp only [h, with1_s, hf, callFin]
theorem k_call1 {f : List D → Option FR} {ws : List W} {ds : List D} {q d d0 : D} (hs : slotD δ i = some q) (h : sAll ws = some ds) (hf : f (q :: ds) = some (.rt (.s d) d0)) : kCall true f (.b i :: ws) δ = some (.ok (.s d) (wr δ i d0)) := by
  unfold kCall callD call1
  simp only [hs, h, with1_s, hf, callFin]
theorem sAll_nil : sAll [] = some [] := rfl
def cs1 (d : D) : Option (List D) → Option (List D)
  | some ds => some (d :: ds)
  | none => none
theorem sAll_s {ws : List W} : sAll (.s d :: ws) = cs1 d (sAll ws) := by
  unfold cs1
  rw [sAll]
  all_goals (cases sAll ws <;> rfl)
theorem cs1_s {ds : List D} : cs1 d (some ds) = some (d :: ds) := rfl
def slotOf : Option SV → Option D
  | some (.ow d) => some d
  | some (.io d) => some d
  | _ => none
theorem slotD_ap : slotD δ i = slotOf δ[i]? := rfl
theorem slotOf_ow : slotOf (some (.ow d)) = some d := rfl
theorem slotOf_io : slotOf (some (.io d)) = some d := rfl
def wrOf (δ : DS) (i : Nat) (d : D) : Option SV → DS
  | some (.ow _) => δ.set i (.ow d)
  | some (.io _) => δ.set i (.io d)
  | _ => δ
theorem wr_ap : wr δ i d = wrOf δ i d δ[i]? := rfl
theorem wrOf_ow : wrOf δ i d (some (.ow e)) = δ.set i (.ow d) := rfl
theorem wrOf_io : wrOf δ i d (some (.io e)) = δ.set i (.io d) := rfl
def freeOf : Option SV → Bool
  | some (.io _) => false
  | some _ => true
  | none => false
theorem free_ap : free δ i = freeOf δ[i]? := rfl
theorem free_un : freeOf (some .un) = true := rfl
theorem free_sh : freeOf (some (.sh d)) = true := rfl
theorem free_ow : freeOf (some (.ow d)) = true := rfl
theorem o_add {i j : Int} : fAdd (.int i) (.int j) = some (.v (.int (i + j))) := rfl
theorem o_sub {i j : Int} : fSub (.int i) (.int j) = some (.v (.int (i - j))) := rfl
theorem o_mul {i j : Int} : fMul (.int i) (.int j) = if mulOk i j = true then some (.v (.int (i * j))) else none := rfl
theorem o_div {i j : Int} : fDiv (.int i) (.int j) = if divOk j = true then some (.v (.int (i / j))) else none := rfl
theorem o_mod {i j : Int} : fMod (.int i) (.int j) = if 0 < j then some (.v (.int (i % j))) else none := rfl
theorem o_neg {i : Int} : fNeg (.int i) = some (.v (.int (-i))) := rfl
theorem o_lt {i j : Int} : fLt (.int i) (.int j) = some (.v (.bl (decide (i < j)))) := rfl
theorem o_le {i j : Int} : fLe (.int i) (.int j) = some (.v (.bl (decide (i ≤ j)))) := rfl
theorem o_gt {i j : Int} : fGt (.int i) (.int j) = some (.v (.bl (decide (j < i)))) := rfl
theorem o_ge {i j : Int} : fGe (.int i) (.int j) = some (.v (.bl (decide (j ≤ i)))) := rfl
theorem o_int {i : Int} : fInt [.int i] = some (.v (.int i)) := rfl
theorem o_len {xs : List D} : fLen [.lst xs] = some (.v (.int xs.length)) := rfl
theorem o_lenT {xs : List D} : fLen [.tup xs] = some (.v (.int xs.length)) := rfl
theorem o_list {xs : List D} : fList [.lst xs] = some (.n (.lst xs)) := rfl
theorem o_listT {xs : List D} : fList [.tup xs] = some (.n (.lst xs)) := rfl
theorem o_tuple {xs : List D} : fTuple [.lst xs] = some (.t (.tup xs)) := rfl
theorem o_tupleT {xs : List D} : fTuple [.tup xs] = some (.v (.tup xs)) := rfl
theorem o_eqI {i j : Int} : fEq (.int i) (.int j) = some (.v (.bl (decide (i = j)))) := rfl
theorem o_neI {i j : Int} : fNe (.int i) (.int j) = some (.v (.bl (!decide (i = j)))) := rfl
theorem o_addL {xs ys : List D} (h : xs.length + ys.length ≤ LN) : fAdd (.lst xs) (.lst ys) = some (.n (.lst (xs ++ ys))) := by
  show (if xs.length + ys.length ≤ LN then _ else _) = _
  rw [if_pos h]
theorem o_app {xs : List D} (h : xs.length < LN) : fAppend (.lst xs) [d] = some (.lst (xs ++ [d]), .non) := by
  show (if xs.length < LN then _ else _) = _
  rw [if_pos h]
theorem o_rev {xs : List D} : fListRev (.lst xs) = some (.n (.lst xs.reverse)) := rfl
theorem o_min {i j : Int} : fMin [.int i, .int j] = some (.v (.int (if j < i then j else i))) := rfl
theorem o_max {i j : Int} : fMax [.int i, .int j] = some (.v (.int (if j > i then j else i))) := rfl
theorem o_isi {n : String} : fIsi [d, .ty n] = (match kindIs (kindD d) n with
    | some b => some (.v (.bl b))
    | none => none) := rfl
def outD (rz io : Bool) : Option SO → Option FR
  | some (.nx δ) => finR io (.s .non) δ
  | some (.rt w δ) => finR io w δ
  | some (.ex x δ) => finX rz io x δ
  | _ => none
theorem e_run {rz io : Bool} {n k : Nat} {ds : List D} (h : ds.length = k) : runD rz io n k b ds = outD rz io (b (startD io n ds)) := by
  unfold runD outD
  rw [if_pos h]
  all_goals (cases b (startD io n ds) with
    | none => rfl
    | some o => cases o <;> rfl)
theorem out_nx {rz io : Bool} : outD rz io (some (.nx δ)) = finR io (.s .non) δ := rfl
theorem out_rt {rz io : Bool} : outD rz io (some (.rt w δ)) = finR io w δ := rfl
theorem fin_0s : finR false (.s d) δ = some (.rt (.s d) .non) := rfl
theorem fin_0o : finR false (.o d) δ = some (.rt (.o d) .non) := rfl
theorem fin_1s {r : DS} : finR true (.s d) (.io e :: r) = some (.rt (.s d) e) := rfl
theorem fin_1o {r : DS} : finR true (.o d) (.io e :: r) = some (.rt (.o d) e) := rfl
theorem st_1 {r : List D} : startD true n (d :: r) = .io d :: (r.map SV.sh ++ List.replicate (n - (r.length + 1)) SV.un) := rfl
theorem st_0 {ds : List D} : startD false n ds = ds.map SV.sh ++ List.replicate (n - ds.length) SV.un := startD_false
end
end DL
namespace DL
open PySem PySem.Spec PyProof.Rows L2
def b_law_fresh : DB := (dSeq (dSet 1 (dOp fDGet (dVar 0) (dC (.str "cells"))))
 (dSeq (dSet 2 (dOp fDGet (dVar 0) (dC (.str "at"))))
 (dSeq (dSet 3 (dVarF 2))
 (dSeq (dIf (dTest (dOp fLt (dVar 2) (dCB fLen (dCons (dVar 1) dNil))))
 (dSet 3 (dOp fIx (dVar 1) (dVar 2)))
 dNext)
 (dSeq (dIf (dTest (dOp fLt (dVar 3) (dC (.int 0))))
 (dSet 3 (dOp fSub (dOp fSub (dC (.int 0)) (dOp fMul (dC (.int 2)) (dVar 3))) (dC (.int 1))))
 dNext)
 (dSeq (dPutK 0 (dC (.str "at")) (dSh (dOp fAdd (dVar 2) (dC (.int 1)))))
 (dSeq (dIf (dTest (dOp fGe (dVar 3) (dC (.int 1000000000000000000))))
 (dSeq (dPutK 0 (dC (.str "rest")) (dVarF 3))
 dRetN)
 dNext)
 (dSeq (dSet 4 (dC (.int 2305843009213693951)))
 (dSeq (dSet 5 (dOp fMod (dCB fInt (dCons (dOp fAdd (dOp fAdd (dOp fAdd (dOp fMul (dVar 3) (dC (.int 6364136223846793005))) (dOp fDGet (dVar 0) (dC (.str "mixed")))) (dOp fMul (dVar 2) (dC (.int 104729)))) (dC (.int 77))) dNil)) (dVar 4)))
 (dSeq (dSet 6 (dOp fMod (dCB fInt (dCons (dOp fAdd (dOp fAdd (dOp fMul (dVar 5) (dVar 5)) (dOp fMul (dC (.int 1013)) (dVar 5))) (dVar 2)) dNil)) (dVar 4)))
 (dSeq (dSet 7 (dOp fMod (dCB fInt (dCons (dOp fAdd (dOp fAdd (dOp fMul (dVar 6) (dC (.int 48271))) (dOp fMul (dVar 5) (dC (.int 31)))) (dC (.int 9))) dNil)) (dVar 4)))
 (dSeq (dSet 8 (dOp fMod (dCB fInt (dCons (dOp fAdd (dOp fMul (dVar 7) (dVar 7)) (dVar 6)) dNil)) (dVar 4)))
 (dSeq (dPutK 0 (dC (.str "mixed")) (dVarF 7))
 (dPutK 0 (dC (.str "rest")) (dSh (dOp fAdd (dOp fMul (dOp fAdd (dOp fMul (dVar 8) (dVar 4)) (dVar 7)) (dVar 4)) (dVar 6)))))))))))))))))
def f_law_fresh : List D → Option FR := runD false true 9 1 b_law_fresh
def b_law_pick : DB := (dSeq (dIf (dTest (dOp fLt (dOp fDGet (dVar 0) (dC (.str "rest"))) (dVar 1)))
 (dDrop (dCall true f_law_fresh (dCons (dVar 0) dNil)))
 dNext)
 (dSeq (dSet 2 (dOp fMod (dCB fInt (dCons (dOp fDGet (dVar 0) (dC (.str "rest"))) dNil)) (dVar 1)))
 (dSeq (dPutK 0 (dC (.str "rest")) (dOp fDiv (dOp fDGet (dVar 0) (dC (.str "rest"))) (dVar 1)))
 (dRet (dVarF 2)))))
def f_law_pick : List D → Option FR := runD false true 3 2 b_law_pick
def b_law_stream : DB := (dRet (dDisp [((dC (.str "cells")), (dSh (dLc [1] (iSeq (dSl fSl (dVar 0) dNoPart (dPart (dC (.int 63))))) (gN 1) dYes (dCB fInt (dCons (dVar 1) dNil))))), ((dC (.str "at")), (dC (.int 0))), ((dC (.str "rest")), (dC (.int 0))), ((dC (.str "mixed")), (dC (.int 40503)))]))
def f_law_stream : List D → Option FR := runD false false 2 1 b_law_stream
/-- the stream as data -/
def kC : Key := .inr "cells"
def kA : Key := .inr "at"
def kR : Key := .inr "rest"
def kM : Key := .inr "mixed"
def streamD (cells : List Int) (at_ rest mixed : Int) : D := .dk [(kC, .lst (cells.map .int)), (kA, .int at_), (kR, .int rest), (kM, .int mixed)]
theorem kCA : kC ≠ kA := by decide +kernel
theorem kCR : kC ≠ kR := by decide +kernel
theorem kCM : kC ≠ kM := by decide +kernel
theorem kAR : kA ≠ kR := by decide +kernel
theorem kAM : kA ≠ kM := by decide +kernel
theorem kRM : kR ≠ kM := by decide +kernel
theorem fDGet_dk {kvs : List (Key × D)} {k : D} {q : Key} {v : D} (hk : keyOf k = some q) (h : lkD kvs q = some v) : fDGet (.dk kvs) k = some (.v v) := by
  unfold fDGet look2
  simp only [hk, h]
theorem put2_dk {kvs : List (Key × D)} {k v : D} {q : Key} (hk : keyOf k = some q) (hl : kvs.length < LN) : put2 (.dk kvs) k v = some (.dk (putD kvs q v)) := by
  unfold put2
  simp only [hk, if_pos hl]
section
variable {cells : List Int} {a r m : Int} {d : D}
theorem get_cells : fDGet (streamD cells a r m) (.str "cells") = some (.v (.lst (cells.map .int))) := fDGet_dk (q := kC) rfl (by simp [lkD])
theorem get_at : fDGet (streamD cells a r m) (.str "at") = some (.v (.int a)) := fDGet_dk (q := kA) rfl (by simp [lkD, kCA])
theorem get_rest : fDGet (streamD cells a r m) (.str "rest") = some (.v (.int r)) := fDGet_dk (q := kR) rfl (by simp [lkD, kCR, kAR])
theorem get_mixed : fDGet (streamD cells a r m) (.str "mixed") = some (.v (.int m)) := fDGet_dk (q := kM) rfl (by simp [lkD, kCM, kAM, kRM])
theorem put_at {z : Int} : put2 (streamD cells a r m) (.str "at") (.int z) = some (streamD cells z r m) := (put2_dk (q := kA) rfl (by show 4 < 16777216; decide)).trans (by simp [putD, streamD, kCA, kAR.symm, kAM.symm])
theorem put_rest {z : Int} : put2 (streamD cells a r m) (.str "rest") (.int z) = some (streamD cells a z m) := (put2_dk (q := kR) rfl (by show 4 < 16777216; decide)).trans (by simp [putD, streamD, kCR, kAR, kRM.symm])
theorem put_mixed {z : Int} : put2 (streamD cells a r m) (.str "mixed") (.int z) = some (streamD cells a r z) := (put2_dk (q := kM) rfl (by show 4 < 16777216; decide)).trans (by simp [putD, streamD, kCM, kAM, kRM])
theorem heavy_stream : heavy (streamD cells a r m) = true := rfl
end
theorem mulOk_r {i j : Int} (h1 : -(2 ^ 64) < j) (h2 : j < 2 ^ 64) : mulOk i j = true := by
  unfold mulOk smallI
  rw [decide_eq_true h1, decide_eq_true h2]
  simp
theorem mulOk_l {i j : Int} (h1 : -(2 ^ 64) < i) (h2 : i < 2 ^ 64) : mulOk i j = true := by
  unfold mulOk smallI
  rw [decide_eq_true h1, decide_eq_true h2]
  simp
theorem divOk_s {j : Int} (h : 0 < j) (h2 : j < 2 ^ 64) : divOk j = true := by
  unfold divOk
  have : j.natAbs.log2 < 64 := by
    rw [Nat.log2_lt (by omega)]
    omega
  simp only [Bool.and_eq_true, decide_eq_true_eq]
  omega
/-- a right stream -/
def Strm (d : D) : Prop := ∃ cells a r m, d = streamD cells a r m ∧ 0 ≤ a ∧ 0 ≤ r ∧ 0 ≤ m ∧ m < 2305843009213693951
theorem Strm.heavy {d : D} (h : Strm d) : heavy d = true := by
  obtain ⟨_, _, _, _, rfl, _⟩ := h
  rfl
local macro_rules | `(tactic| walk_at "ds") => `(tactic| simp (config := { maxSteps := 1000000 }) only [e_seq, bindB_nx, bindB_rt, bindB_bk, bindB_ct, bindB_ex, e_next, e_break, e_cont, e_retN, e_drop, k_drop, e_ret, k_ret, e_if, k_ifT, k_ifF, e_set, k_setS, k_setO, e_putK, e_putL, e_unp, k_unp, toNx_s,
  e_c, e_var, v_sh, v_ow, v_io, e_varF, vF_sh, vF_ow, e_sh, k_shS, k_shO, e_op, k_op1, k_op2, an2_s, ans_v, ans_n, ans_t, e_un, k_un, an1_s, c_s, c_o, c_b, cOf_ow, cOf_io, h_lst, h_dk, h_dt, h_ins, e_nil, e_cons, k_cons1, k_cons2, e_cb, k_cb, anN_s, cs_nil, cs_cons, cs2_s, e_tup, e_lst,
  e_noPart, e_part, k_part, e_sl, k_sl1, k_sl2, k_sl3, anS_s, e_bm, e_test, k_test, e_and, e_or, e_not, k_andT, k_andF, k_orT, k_orF, k_not, e_andV, e_orV, e_notV, k_andVT, k_andVF, k_orVT, k_orVF, k_notV, e_ifE, k_ifET, k_ifEF, e_call, sAll_nil, sAll_s, cs1_s, slotD_ap, slotOf_ow, slotOf_io, wr_ap, wrOf_ow, wrOf_io, free_ap, free_un, free_sh, free_ow,
  o_add, o_sub, o_neg, o_lt, o_le, o_gt, o_ge, o_int, o_len, o_lenT, o_list, o_listT, o_tuple, o_tupleT, o_eqI, o_neI, o_rev, o_min, o_max, e_run, out_nx, out_rt, fin_0s, fin_0o, fin_1s, fin_1o, st_1, st_0, bindR_ok, bindS_ok,
  List.length_cons, List.length_nil, List.map_cons, List.map_nil, List.replicate, List.cons_append, List.nil_append, List.getElem?_cons_zero, List.getElem?_cons_succ, List.set_cons_zero, List.set_cons_succ, Nat.reduceAdd, Nat.reduceSub, Nat.reduceEqDiff, reduceIte, Bool.not_true, Bool.not_false, decide_true, decide_false, if_true, if_false, heavy_stream, get_cells, get_at, get_rest, get_mixed])
theorem kPutK1_s {i : Nat} {dk : DE} {d q : D} {δ : DS} (h : slotOf δ[i]? = some q) : kPutK1 i dk (.s d) δ = bindS (dSh dk δ) (kPutK2 i d) := k_putK1 h
theorem kPutK2_s {i : Nat} {d e q y : D} {δ : DS} (h : slotOf δ[i]? = some q) (hp : put2 q e d = some y) : kPutK2 i d (.s e) δ = some (.nx (wrOf δ i y δ[i]?)) := k_putK2 h hp
theorem put_s1 {dk : DE} {d q : D} {r : DS} : kPutK1 0 dk (.s d) (.io q :: r) = bindS (dSh dk (.io q :: r)) (kPutK2 0 d) := k_putK1 rfl
theorem put_at' {cells : List Int} {a r m z : Int} {ρ : DS} : kPutK2 0 (.int z) (.s (.str "at")) (.io (streamD cells a r m) :: ρ) = some (.nx (.io (streamD cells z r m) :: ρ)) := k_putK2 (q := streamD cells a r m) rfl put_at
theorem put_rest' {cells : List Int} {a r m z : Int} {ρ : DS} : kPutK2 0 (.int z) (.s (.str "rest")) (.io (streamD cells a r m) :: ρ) = some (.nx (.io (streamD cells a z m) :: ρ)) := k_putK2 (q := streamD cells a r m) rfl put_rest
theorem put_mixed' {cells : List Int} {a r m z : Int} {ρ : DS} : kPutK2 0 (.int z) (.s (.str "mixed")) (.io (streamD cells a r m) :: ρ) = some (.nx (.io (streamD cells a r z) :: ρ)) := k_putK2 (q := streamD cells a r m) rfl put_mixed
theorem mul_r {i j : Int} (h1 : -(2 ^ 64) < j) (h2 : j < 2 ^ 64) : fMul (.int i) (.int j) = some (.v (.int (i * j))) := by rw [o_mul, if_pos (mulOk_r h1 h2)]
theorem mul_l {i j : Int} (h1 : -(2 ^ 64) < i) (h2 : i < 2 ^ 64) : fMul (.int i) (.int j) = some (.v (.int (i * j))) := by rw [o_mul, if_pos (mulOk_l h1 h2)]
theorem mod_p {i j : Int} (h : 0 < j) : fMod (.int i) (.int j) = some (.v (.int (i % j))) := by rw [o_mod, if_pos h]
theorem div_p {i j : Int} (h : 0 < j) (h2 : j < 2 ^ 64) : fDiv (.int i) (.int j) = some (.v (.int (i / j))) := by rw [o_div, if_pos (divOk_s h h2)]
theorem ix_nat {xs : List D} {a : Int} {d : D} (h0 : 0 ≤ a) (h : xs[a.toNat]? = some d) : fIx (.lst xs) (.int a) = some (.v d) := by
  have e : a = (a.toNat : Int) := by omega
  unfold fIx
  have h2 := atI_nat' h
  rw [← e] at h2
  simp only [h2]
theorem fresh_ok {s : D} (h : Strm s) : ∃ s', f_law_fresh [s] = some (.rt (.s .non) s') ∧ Strm s' := by
  obtain ⟨cells, a, r, m, rfl, ha, hr, hm, hm2⟩ := h
  unfold f_law_fresh b_law_fresh
  walk_at "ds"
  obtain ⟨z, hz⟩ : ∃ z : Int, (kIf (dSet 3 (dOp fIx (dVar 1) (dVar 2))) dNext (decide (a < ↑(List.map D.int cells).length))
              [SV.io (streamD cells a r m), SV.sh (D.lst (List.map D.int cells)), SV.sh (D.int a), SV.sh (D.int a),
                SV.un, SV.un, SV.un, SV.un, SV.un]) = some (.nx [SV.io (streamD cells a r m), SV.sh (D.lst (List.map D.int cells)), SV.sh (D.int a), SV.sh (D.int z),
                SV.un, SV.un, SV.un, SV.un, SV.un]) := by
    by_cases h1 : a < ↑(List.map D.int cells).length
    · rw [List.length_map] at h1
      refine ⟨cells[a.toNat]'(by omega), ?_⟩
      have hx : fIx (.lst (cells.map D.int)) (.int a) = some (.v (.int (cells[a.toNat]'(by omega)))) := ix_nat ha (by rw [List.getElem?_map, List.getElem?_eq_getElem (by omega)]; rfl)
      simp only [h1, List.length_map]
      walk_at "ds"
      rw [hx]
      walk_at "ds"
    · refine ⟨a, ?_⟩
      simp only [h1]
      walk_at "ds"
  rw [hz]
  walk_at "ds"
  obtain ⟨y, hy, hy0⟩ : ∃ y : Int, (kIf (dSet 3 (dOp fSub (dOp fSub (dC (D.int 0)) (dOp fMul (dC (D.int 2)) (dVar 3))) (dC (D.int 1)))) dNext (decide (z < 0))
              [SV.io (streamD cells a r m), SV.sh (D.lst (List.map D.int cells)), SV.sh (D.int a), SV.sh (D.int z),
                SV.un, SV.un, SV.un, SV.un, SV.un]) = some (.nx [SV.io (streamD cells a r m), SV.sh (D.lst (List.map D.int cells)), SV.sh (D.int a), SV.sh (D.int y),
                SV.un, SV.un, SV.un, SV.un, SV.un]) ∧ 0 ≤ y := by
    by_cases h1 : z < 0
    · refine ⟨0 - 2 * z - 1, ?_, by omega⟩
      simp only [h1]
      walk_at "ds"
      rw [mul_l (by decide) (by decide)]
      walk_at "ds"
    · refine ⟨z, ?_, by omega⟩
      simp only [h1]
      walk_at "ds"
  rw [hy]
  walk_at "ds"
  rw [put_s1]
  walk_at "ds"
  rw [put_at']
  walk_at "ds"
  by_cases h2 : 1000000000000000000 ≤ y
  · rw [decide_eq_true h2]
    walk_at "ds"
    rw [put_s1]
    walk_at "ds"
    rw [put_rest']
    walk_at "ds"
    exact ⟨_, rfl, cells, a + 1, y, m, rfl, by omega, hy0, hm, hm2⟩
  · rw [decide_eq_false h2]
    have p0 : (0 : Int) < 2305843009213693951 := by decide
    walk_at "ds"
    rw [mul_r (j := 6364136223846793005) (by decide) (by decide)]
    walk_at "ds"
    rw [mul_r (j := 104729) (by decide) (by decide)]
    walk_at "ds"
    rw [mod_p p0]
    have l5 := Int.emod_nonneg (y * 6364136223846793005 + m + a * 104729 + 77) (b := 2305843009213693951) (by decide)
    have u5 := Int.emod_lt_of_pos (y * 6364136223846793005 + m + a * 104729 + 77) p0
    generalize (y * 6364136223846793005 + m + a * 104729 + 77) % 2305843009213693951 = x5 at *
    walk_at "ds"
    rw [mul_r (i := x5) (j := x5) (by omega) (by omega)]
    walk_at "ds"
    rw [mul_l (i := 1013) (by decide) (by decide)]
    walk_at "ds"
    rw [mod_p p0]
    have l6 := Int.emod_nonneg (x5 * x5 + 1013 * x5 + a) (b := 2305843009213693951) (by decide)
    have u6 := Int.emod_lt_of_pos (x5 * x5 + 1013 * x5 + a) p0
    generalize (x5 * x5 + 1013 * x5 + a) % 2305843009213693951 = x6 at *
    walk_at "ds"
    rw [mul_r (j := 48271) (by decide) (by decide)]
    walk_at "ds"
    rw [mul_r (j := 31) (by decide) (by decide)]
    walk_at "ds"
    rw [mod_p p0]
    have l7 := Int.emod_nonneg (x6 * 48271 + x5 * 31 + 9) (b := 2305843009213693951) (by decide)
    have u7 := Int.emod_lt_of_pos (x6 * 48271 + x5 * 31 + 9) p0
    generalize (x6 * 48271 + x5 * 31 + 9) % 2305843009213693951 = x7 at *
    walk_at "ds"
    rw [mul_r (i := x7) (j := x7) (by omega) (by omega)]
    walk_at "ds"
    rw [mod_p p0]
    have l8 := Int.emod_nonneg (x7 * x7 + x6) (b := 2305843009213693951) (by decide)
    generalize (x7 * x7 + x6) % 2305843009213693951 = x8 at *
    walk_at "ds"
    rw [put_s1]
    walk_at "ds"
    rw [put_mixed']
    walk_at "ds"
    rw [mul_r (j := 2305843009213693951) (by decide) (by decide)]
    walk_at "ds"
    rw [mul_r (j := 2305843009213693951) (by decide) (by decide)]
    walk_at "ds"
    rw [put_s1]
    walk_at "ds"
    rw [put_rest']
    walk_at "ds"
    exact ⟨_, rfl, cells, a + 1, _, x7, rfl, by omega, by omega, l7, u7⟩
def restOf : D → Int
  | .dk kvs => match lkD kvs kR with
    | some (.int i) => i
    | _ => 0
  | _ => 0
theorem pick_ok {s : D} {n : Int} (h : Strm s) (h0 : 0 < n) (hn : n < 2 ^ 64) : ∃ d s', f_law_pick [s, .int n] = some (.rt (.s (.int d)) s') ∧ 0 ≤ d ∧ d < n ∧ Strm s' := by
  obtain ⟨s1, h1, hs1⟩ : ∃ s1, (kIf (dDrop (dCall true f_law_fresh (dCons (dVar 0) dNil))) dNext (decide (restOf s < n)) [SV.io s, SV.sh (D.int n), SV.un]) = some (.nx [SV.io s1, SV.sh (D.int n), SV.un]) ∧ Strm s1 := by
    obtain ⟨s2, h2, hs2⟩ := fresh_ok h
    generalize decide (restOf s < n) = b
    cases b with
    | true =>
      refine ⟨s2, ?_, hs2⟩
      walk_at "ds"
      rw [k_call1 (q := s) rfl rfl h2]
      walk_at "ds"
    | false =>
      refine ⟨s, ?_, h⟩
      walk_at "ds"
  obtain ⟨cells, a, r, m, rfl, ha, hr, hm, hm2⟩ := h
  have e0 : restOf (streamD cells a r m) = r := by
    simp [restOf, streamD, lkD, kCR, kAR]
  rw [e0] at h1
  unfold f_law_pick b_law_pick
  walk_at "ds"
  rw [h1]
  obtain ⟨cells, a, r, m, rfl, ha, hr, hm, hm2⟩ := hs1
  walk_at "ds"
  rw [mod_p h0]
  walk_at "ds"
  rw [div_p h0 hn]
  walk_at "ds"
  rw [put_s1]
  walk_at "ds"
  rw [put_rest']
  walk_at "ds"
  exact ⟨_, _, rfl, Int.emod_nonneg _ (by omega), Int.emod_lt_of_pos _ h0, cells, a, _, m, rfl, ha, Int.ediv_nonneg hr (by omega), hm, hm2⟩
end DL
namespace DL
open PySem PySem.Spec PyProof.Rows L2
section
variable {tg : DG} {ct dt : DT} {el : DE} {body : DB} {vs : List Nat}
theorem lc_nil {acc : List D} {δ : DS} : lcD vs tg ct el [] acc δ = some (.ok acc (wipeD δ vs)) := rfl
theorem lc_keep {d d' : D} {ds acc : List D} {δ δ1 δ2 δ3 : DS} (h1 : tg d (wipeD δ vs) = some δ1) (h2 : ct δ1 = some (.ok true δ2)) (h3 : dSh el δ2 = some (.ok (.s d') δ3)) (hl : acc.length < LN) : lcD vs tg ct el (d :: ds) acc δ = lcD vs tg ct el ds (acc ++ [d']) δ3 := by
  rw [lcD]
  simp only [h1, h2, h3]
  rw [if_pos hl]
theorem lc_drop {d : D} {ds acc : List D} {δ δ1 δ2 : DS} (h1 : tg d (wipeD δ vs) = some δ1) (h2 : ct δ1 = some (.ok false δ2)) : lcD vs tg ct el (d :: ds) acc δ = lcD vs tg ct el ds acc δ2 := by
  rw [lcD]
  simp only [h1, h2]
/-- nothing but the answers changes -/
theorem lc_pure {ω : DS} (g : D → D) : ∀ (ds acc : List D) (δ : DS), (∀ d ∈ ds, ∃ δ1 δ2 δ3, tg d ω = some δ1 ∧ ct δ1 = some (.ok true δ2) ∧ dSh el δ2 = some (.ok (.s (g d)) δ3) ∧ wipeD δ3 vs = ω) → wipeD δ vs = ω → acc.length + ds.length ≤ LN →
    lcD vs tg ct el ds acc δ = some (.ok (acc ++ ds.map g) ω)
  | [], acc, δ, _, e, _ => by rw [lc_nil, e, List.map_nil, List.append_nil]
  | d :: ds, acc, δ, h, e, hl => by
    rw [List.length_cons] at hl
    obtain ⟨δ1, δ2, δ3, h1, h2, h3, h4⟩ := h d List.mem_cons_self
    rw [lc_keep (by rw [e]; exact h1) h2 h3 (by omega), lc_pure g ds _ δ3 (fun x hx => h x (List.mem_cons_of_mem _ hx)) h4 (by rw [List.length_append, List.length_singleton]; omega), List.map_cons, List.append_assoc]
    rfl
/-- each item is dropped, or kept as another -/
inductive Pick (R : D → D → Prop) : List D → List D → Prop
  | nil : Pick R [] []
  | drop {d : D} {ds xs : List D} : Pick R ds xs → Pick R (d :: ds) xs
  | keep {d e : D} {ds xs : List D} : R d e → Pick R ds xs → Pick R (d :: ds) (e :: xs)
theorem lc_pick {P : DS → Prop} {R : D → D → Prop} : ∀ (ds acc : List D) (δ : DS), (∀ d ∈ ds, ∀ ω, P ω → ∃ δ1, tg d ω = some δ1 ∧ ((∃ δ2, ct δ1 = some (.ok false δ2) ∧ P (wipeD δ2 vs)) ∨ ∃ δ2 e δ3, ct δ1 = some (.ok true δ2) ∧ dSh el δ2 = some (.ok (.s e) δ3) ∧ R d e ∧ P (wipeD δ3 vs))) →
    P (wipeD δ vs) → acc.length + ds.length ≤ LN → ∃ xs ω, lcD vs tg ct el ds acc δ = some (.ok (acc ++ xs) ω) ∧ P ω ∧ Pick R ds xs
  | [], acc, δ, _, p, _ => ⟨[], _, by rw [lc_nil, List.append_nil], p, .nil⟩
  | d :: ds, acc, δ, h, p, hl => by
    rw [List.length_cons] at hl
    obtain ⟨δ1, h1, ⟨δ2, h2, p2⟩ | ⟨δ2, e, δ3, h2, h3, r, p3⟩⟩ := h d List.mem_cons_self _ p
    · obtain ⟨xs, ω, e1, q1, q2⟩ := lc_pick ds acc δ2 (fun x hx => h x (List.mem_cons_of_mem _ hx)) p2 (by omega)
      exact ⟨xs, ω, by rw [lc_drop h1 h2, e1], q1, .drop q2⟩
    · obtain ⟨xs, ω, e1, q1, q2⟩ := lc_pick ds (acc ++ [e]) δ3 (fun x hx => h x (List.mem_cons_of_mem _ hx)) p3 (by rw [List.length_append, List.length_singleton]; omega)
      exact ⟨e :: xs, ω, by rw [lc_keep h1 h2 h3 (by omega), e1, List.append_assoc]; rfl, q1, .keep r q2⟩
/-- each item gives one answer -/
inductive Each (R : D → D → Prop) : List D → List D → Prop
  | nil : Each R [] []
  | keep {d e : D} {ds xs : List D} : R d e → Each R ds xs → Each R (d :: ds) (e :: xs)
theorem Each.length {R : D → D → Prop} {ds xs : List D} (h : Each R ds xs) : xs.length = ds.length := by
  induction h with
  | nil => rfl
  | keep _ _ ih => exact congrArg (· + 1) ih
theorem Each.mem {R : D → D → Prop} {ds xs : List D} (h : Each R ds xs) : ∀ x ∈ xs, ∃ d ∈ ds, R d x := by
  induction h with
  | nil => intro x hx; cases hx
  | keep r _ ih =>
    intro x hx
    rcases List.mem_cons.mp hx with rfl | hx
    · exact ⟨_, List.mem_cons_self, r⟩
    · obtain ⟨d, hd, q⟩ := ih x hx
      exact ⟨d, List.mem_cons_of_mem _ hd, q⟩
theorem lc_each {P : DS → Prop} {R : D → D → Prop} : ∀ (ds acc : List D) (δ : DS), (∀ d ∈ ds, ∀ ω, P ω → ∃ δ1 δ2 e δ3, tg d ω = some δ1 ∧ ct δ1 = some (.ok true δ2) ∧ dSh el δ2 = some (.ok (.s e) δ3) ∧ R d e ∧ P (wipeD δ3 vs)) →
    P (wipeD δ vs) → acc.length + ds.length ≤ LN → ∃ xs ω, lcD vs tg ct el ds acc δ = some (.ok (acc ++ xs) ω) ∧ P ω ∧ Each R ds xs
  | [], acc, δ, _, p, _ => ⟨[], _, by rw [lc_nil, List.append_nil], p, .nil⟩
  | d :: ds, acc, δ, h, p, hl => by
    rw [List.length_cons] at hl
    obtain ⟨δ1, δ2, e, δ3, h1, h2, h3, r, p3⟩ := h d List.mem_cons_self _ p
    obtain ⟨xs, ω, e1, q1, q2⟩ := lc_each ds (acc ++ [e]) δ3 (fun x hx => h x (List.mem_cons_of_mem _ hx)) p3 (by rw [List.length_append, List.length_singleton]; omega)
    exact ⟨e :: xs, ω, by rw [lc_keep h1 h2 h3 (by omega), e1, List.append_assoc]; rfl, q1, .keep r q2⟩
def kLc (vs : List Nat) (tg : DG) (ct : DT) (el : DE) : List D → DS → Option (R W) := fun ds δ1 => if lightS δ1 vs = true then
  match lcD vs tg ct el ds [] δ1 with
  | some (.ok xs δ2) => some (.ok (.o (.lst xs)) (restD δ1 δ2 vs))
  | _ => none else none
theorem e_lc {di : DI} {δ : DS} : dLc vs di tg ct el δ = bindR (di δ) (kLc vs tg ct el) := rfl
theorem k_lc {ds xs : List D} {δ δ2 : DS} (h : lightS δ vs = true) (e : lcD vs tg ct el ds [] δ = some (.ok xs δ2)) : kLc vs tg ct el ds δ = some (.ok (.o (.lst xs)) (restD δ δ2 vs)) := by
  unfold kLc
  rw [if_pos h, e]
def kFor (tg : DG) (body : DB) : List D → DS → Option SO := fun ds δ1 => forD tg body ds δ1
theorem e_for {di : DI} {δ : DS} : dFor di tg body δ = bindS (di δ) (kFor tg body) := rfl
theorem for_nil {δ : DS} : forD tg body [] δ = some (.nx δ) := rfl
theorem for_nx {d : D} {ds : List D} {δ δ1 δ2 : DS} (h1 : tg d δ = some δ1) (h2 : body δ1 = some (.nx δ2) ∨ body δ1 = some (.ct δ2)) : forD tg body (d :: ds) δ = forD tg body ds δ2 := by
  rw [forD]
  rcases h2 with h2 | h2 <;> simp only [h1, h2]
theorem for_inv {P : List D → DS → Prop} : ∀ (ds pre : List D) (δ : DS), P pre δ → (∀ (q : List D) (d : D) (δ : DS), P q δ → (∃ r, pre ++ ds = q ++ d :: r) → ∃ δ1 δ2, tg d δ = some δ1 ∧ (body δ1 = some (.nx δ2) ∨ body δ1 = some (.ct δ2)) ∧ P (q ++ [d]) δ2) → ∃ δ', forD tg body ds δ = some (.nx δ') ∧ P (pre ++ ds) δ'
  | [], pre, δ, p, _ => ⟨δ, for_nil, by rw [List.append_nil]; exact p⟩
  | d :: ds, pre, δ, p, h => by
    obtain ⟨δ1, δ2, h1, h2, p2⟩ := h pre d δ p ⟨ds, rfl⟩
    obtain ⟨δ', e, q⟩ := for_inv ds (pre ++ [d]) δ2 p2 (fun q e δ3 p3 ⟨r, hr⟩ => h q e δ3 p3 ⟨r, by rw [← hr, List.append_assoc]; rfl⟩)
    exact ⟨δ', by rw [for_nx h1 h2, e], by rw [List.append_assoc] at q; exact q⟩
theorem while_inv {P Z : DS → Prop} (μ : DS → Nat) (h : ∀ δ, P δ → (∃ δ1, dt δ = some (.ok false δ1) ∧ Z δ1) ∨ ∃ δ1 δ2, dt δ = some (.ok true δ1) ∧ (body δ1 = some (.nx δ2) ∨ body δ1 = some (.ct δ2)) ∧ P δ2 ∧ μ δ2 < μ δ) {δ : DS} (p : P δ) : ∃ δ', dWhile dt body δ = some (.nx δ') ∧ Z δ' := by
  have main : ∀ n δ, μ δ < n → P δ → ∃ δ', whileD dt body n δ = some (.nx δ') ∧ Z δ' := by
    intro n
    induction n with
    | zero => intro δ h0; omega
    | succ n ih =>
      intro δ hm p
      rcases h δ p with ⟨δ1, h1, z⟩ | ⟨δ1, δ2, h1, h2, p2, hlt⟩
      · exact ⟨δ1, by rw [whileD, h1]; rfl, z⟩
      · obtain ⟨δ', e, z⟩ := ih δ2 (by omega) p2
        refine ⟨δ', ?_, z⟩
        rw [whileD, h1, bindS_ok, if_pos rfl]
        rcases h2 with h2 | h2 <;> (rw [h2]; exact e)
  obtain ⟨δ', e, z⟩ := main (μ δ + 1) δ (Nat.lt_succ_self _) p
  exact ⟨δ', dWhile_of e, z⟩
theorem while_inv2 {P : Nat → DS → Prop} {Z : DS → Prop} (h : ∀ n δ, P n δ → (∃ δ1, dt δ = some (.ok false δ1) ∧ Z δ1) ∨ ∃ δ1 δ2 m, dt δ = some (.ok true δ1) ∧ (body δ1 = some (.nx δ2) ∨ body δ1 = some (.ct δ2)) ∧ P m δ2 ∧ m < n) : ∀ (n : Nat) (δ : DS), P n δ → ∃ δ', dWhile dt body δ = some (.nx δ') ∧ Z δ' := by
  have main : ∀ k n δ, n < k → P n δ → ∃ δ', whileD dt body k δ = some (.nx δ') ∧ Z δ' := by
    intro k
    induction k with
    | zero => intro n δ h0; omega
    | succ k ih =>
      intro n δ hm p
      rcases h n δ p with ⟨δ1, h1, z⟩ | ⟨δ1, δ2, m, h1, h2, p2, hlt⟩
      · exact ⟨δ1, by rw [whileD, h1]; rfl, z⟩
      · obtain ⟨δ', e, z⟩ := ih m δ2 (by omega) p2
        refine ⟨δ', ?_, z⟩
        rw [whileD, h1, bindS_ok, if_pos rfl]
        rcases h2 with h2 | h2 <;> (rw [h2]; exact e)
  intro n δ p
  obtain ⟨δ', e, z⟩ := main (n + 1) n δ (Nat.lt_succ_self _) p
  exact ⟨δ', dWhile_of e, z⟩
end
section
variable {δ : DS} {de : DE} {da : DA}
def kSeq : W → DS → Option (R (List D)) := fun w δ1 => match w with
  | .s (.lst ds) => some (.ok ds δ1)
  | _ => none
theorem e_iseq : iSeq de δ = bindR (dSh de δ) kSeq := rfl
theorem k_iseq {ds : List D} : kSeq (.s (.lst ds)) δ = some (.ok ds δ) := rfl
def kTupI : W → DS → Option (R (List D)) := fun w δ1 => match w with
  | .s (.tup ds) => some (.ok ds δ1)
  | _ => none
theorem e_itup : iTupD de δ = bindR (dSh de δ) kTupI := rfl
theorem k_itup {ds : List D} : kTupI (.s (.tup ds)) δ = some (.ok ds δ) := rfl
def kRg1 : List W → DS → Option (R (List D)) := fun ws δ1 => match ws with
  | [.s (.int j)] => if -BIG ≤ j ∧ j < BIG then some (.ok (rngD 0 j.toNat) δ1) else none
  | _ => none
theorem e_rg1 : iRange1 da δ = bindR (da δ) kRg1 := rfl
theorem k_rg1 {j : Int} (h : -BIG ≤ j ∧ j < BIG) : kRg1 [.s (.int j)] δ = some (.ok (rngD 0 j.toNat) δ) := by
  show (if -BIG ≤ j ∧ j < BIG then _ else _) = _
  rw [if_pos h]
def kRg2 : List W → DS → Option (R (List D)) := fun ws δ1 => match ws with
  | [.s (.int i), .s (.int j)] => if (-BIG ≤ i ∧ i < BIG) ∧ -BIG ≤ j ∧ j < BIG then some (.ok (rngD i (j - i).toNat) δ1) else none
  | _ => none
theorem e_rg2 : iRange2 da δ = bindR (da δ) kRg2 := rfl
theorem k_rg2 {i j : Int} (h : (-BIG ≤ i ∧ i < BIG) ∧ -BIG ≤ j ∧ j < BIG) : kRg2 [.s (.int i), .s (.int j)] δ = some (.ok (rngD i (j - i).toNat) δ) := by
  show (if _ ∧ _ then _ else _) = _
  rw [if_pos h]
theorem rngD_length {lo : Int} {n : Nat} : (rngD lo n).length = n := by simp [rngD]
theorem gN_free {j : Nat} {d : D} (h : free δ j = true) : gN j d δ = some (δ.set j (.sh d)) := by
  unfold gN
  rw [if_pos h]
end
/-- the laws' stream from the script -/
theorem stream_ok (ns : List Int) : ∃ s, f_law_stream [.scr (ns.map D.int)] = some (.rt (.o s) .non) ∧ Strm s := by
  have hcut : cutD (ns.map D.int) none (some 63) = (ns.take 63).map D.int := by
    unfold cutD
    rw [show HT.sIx (ns.map D.int).length 0 none = 0 from rfl, show HT.sIx (ns.map D.int).length (ns.map D.int).length (some 63) = min 63 (ns.map D.int).length from HT.sIx_nat _ _ 63, List.drop_zero, Nat.sub_zero, List.length_map, List.map_take]
    rw [List.take_eq_take_iff]
    simp
  have hl : ((ns.take 63).map D.int).length ≤ LN := by
    rw [List.length_map, List.length_take]
    exact Nat.le_trans (Nat.min_le_left _ _) (by decide)
  have lc := lc_pure (vs := [1]) (tg := gN 1) (ct := dYes) (el := dCB fInt (dCons (dVar 1) dNil)) (ω := [.sh (.scr (ns.map D.int)), .un]) (fun d => d) ((ns.take 63).map D.int) [] [.sh (.scr (ns.map D.int)), .un] (fun d hd => by
    obtain ⟨z, hz, rfl⟩ := List.mem_map.mp hd
    exact ⟨_, _, _, rfl, rfl, rfl, rfl⟩) rfl (by rw [List.length_nil, Nat.zero_add]; exact hl)
  rw [List.nil_append, List.map_id'] at lc
  refine ⟨streamD (ns.take 63) 0 0 40503, ?_, _, _, _, _, rfl, by decide, by decide, by decide, by decide⟩
  unfold f_law_stream b_law_stream
  rw [e_run (k := 1) rfl]
  have e1 : startD false 2 [.scr (ns.map D.int)] = [.sh (.scr (ns.map D.int)), .un] := rfl
  rw [e1, e_ret]
  have q1 : keyOf (.str "cells") = some kC := rfl
  have q2 : keyOf (.str "at") = some kA := rfl
  have q3 : keyOf (.str "rest") = some kR := rfl
  have q4 : keyOf (.str "mixed") = some kM := rfl
  have eI : (iSeq (dSl fSl (dVar 0) dNoPart (dPart (dC (.int 63))))) [.sh (.scr (ns.map D.int)), .un] = some (.ok ((ns.take 63).map D.int) [.sh (.scr (ns.map D.int)), .un]) := by
    rw [← hcut]
    rfl
  unfold dDisp
  simp only [dPairs, e_sh, e_c, k_shS, k_shO, bindR_ok, q1, q2, q3, q4, e_lc, eI]
  rw [k_lc rfl lc]
  simp only [bindR_ok, k_shO, k_shS]
  have em : D.dk (mergeD [(kC, .lst ((ns.take 63).map .int)), (kA, .int 0), (kR, .int 0), (kM, .int 40503)]) = streamD (ns.take 63) 0 0 40503 := by
    simp [mergeD, putD, kCA, kCR, kCM, kAR, kAM, kRM, streamD]
  rw [em]
  rfl
end DL
namespace DL
open PySem PySem.Spec PyProof.Rows L2
section
variable {δ δ1 : DS} {da db dc de : DE} {dt du : DT} {b b2 : DB} {i j n : Nat} {w w2 : W} {d e q y : D} {x : DX} {ws : List W} {ds xs : List D}
def mt1 (T : String) (f : D → List D → Option (D × D)) (i : Nat) (da : DA) (δ : DS) : Option D → Option (R W)
  | some d0 => if tyD d0 = T then bindR (da δ) (kMut f i) else none
  | none => none
def mt2 (f : D → List D → Option (D × D)) (i : Nat) (δ : DS) : Option D → Option (List D) → Option (R W)
  | some d, some ds => (match f d ds with
    | some p => some (.ok (.s p.2) (wr δ i p.1))
    | none => none)
  | _, _ => none
def mt3 (i : Nat) (δ : DS) : Option (D × D) → Option (R W)
  | some p => some (.ok (.s p.2) (wr δ i p.1))
  | none => none
theorem x_mut {T : String} {f : D → List D → Option (D × D)} {da : DA} : dMut T f i da δ = mt1 T f i da δ (slotD δ i) := by
  unfold dMut mt1 with1
  cases slotD δ i <;> rfl
theorem x_mutL {f : D → List D → Option (D × D)} {da : DA} : mt1 "list" f i da δ (some (.lst xs)) = bindR (da δ) (kMut f i) := rfl
theorem x_mutK {f : D → List D → Option (D × D)} {da : DA} {kvs : List (Key × D)} : mt1 "dict" f i da δ (some (.dk kvs)) = bindR (da δ) (kMut f i) := rfl
theorem x_mut2 {f : D → List D → Option (D × D)} : kMut f i ws δ = mt2 f i δ (slotD δ i) (sAll ws) := by
  unfold kMut mt2 with1
  cases slotD δ i with
  | none => rfl
  | some d => cases sAll ws with
    | none => rfl
    | some ds =>
      dsimp only
      cases f d ds <;> rfl
theorem x_mut3 {f : D → List D → Option (D × D)} : mt2 f i δ (some d) (some ds) = mt3 i δ (f d ds) := by
  unfold mt2 mt3
  dsimp only
theorem x_mut4 : mt3 i δ (some (q, y)) = some (.ok (.s y) (wr δ i q)) := rfl
def tu1 (δ : DS) : Option (List D) → Option (R W)
  | some ds => if ds.length ≤ LN then some (.ok (.s (.tup ds)) δ) else none
  | none => none
def ls1 (δ : DS) : Option (List D) → Option (R W)
  | some ds => if ds.length ≤ LN then some (.ok (.o (.lst ds)) δ) else none
  | none => none
theorem x_tup : kTup ws δ = tu1 δ (sAll ws) := by
  unfold kTup tu1 with1
  cases sAll ws <;> rfl
theorem x_tup0 : tu1 δ (some []) = some (.ok (.s (.tup [])) δ) := rfl
theorem x_tup1 {a : D} : tu1 δ (some [a]) = some (.ok (.s (.tup [a])) δ) := rfl
theorem x_tup2 {a b : D} : tu1 δ (some [a, b]) = some (.ok (.s (.tup [a, b])) δ) := rfl
theorem x_tup3 {a b c : D} : tu1 δ (some [a, b, c]) = some (.ok (.s (.tup [a, b, c])) δ) := rfl
theorem x_tup4 {a b c d : D} : tu1 δ (some [a, b, c, d]) = some (.ok (.s (.tup [a, b, c, d])) δ) := rfl
theorem x_tup5 {a b c d e : D} : tu1 δ (some [a, b, c, d, e]) = some (.ok (.s (.tup [a, b, c, d, e])) δ) := rfl
theorem x_lst : kLst ws δ = ls1 δ (sAll ws) := by
  unfold kLst ls1 with1
  cases sAll ws <;> rfl
theorem x_lst0 : ls1 δ (some []) = some (.ok (.o (.lst [])) δ) := rfl
theorem x_lst1 {a : D} : ls1 δ (some [a]) = some (.ok (.o (.lst [a])) δ) := rfl
theorem x_lst2 {a b : D} : ls1 δ (some [a, b]) = some (.ok (.o (.lst [a, b])) δ) := rfl
theorem x_lst3 {a b c : D} : ls1 δ (some [a, b, c]) = some (.ok (.o (.lst [a, b, c])) δ) := rfl
theorem x_lst4 {a b c d : D} : ls1 δ (some [a, b, c, d]) = some (.ok (.o (.lst [a, b, c, d])) δ) := rfl
def pk1 (i : Nat) (dk : DE) (d : D) (δ : DS) : Option D → Option SO
  | some _ => bindS (dSh dk δ) (kPutK2 i d)
  | none => none
def pk2 (i : Nat) (k d : D) (δ : DS) : Option D → Option SO
  | some x => (match put2 x k d with
    | some y => some (.nx (wr δ i y))
    | none => none)
  | none => none
def pk3 (i : Nat) (δ : DS) : Option D → Option SO
  | some y => some (.nx (wr δ i y))
  | none => none
theorem x_pk1 : kPutK1 i da (.s d) δ = pk1 i da d δ (slotD δ i) := by
  unfold kPutK1 pk1
  cases slotD δ i <;> rfl
theorem x_pk2 : pk1 i da d δ (some q) = bindS (dSh da δ) (kPutK2 i d) := rfl
theorem x_pk3 : kPutK2 i d (.s e) δ = pk2 i e d δ (slotD δ i) := by
  unfold kPutK2 pk2
  cases slotD δ i <;> rfl
theorem x_pk4 : pk2 i e d δ (some q) = pk3 i δ (put2 q e d) := by
  unfold pk2 pk3
  dsimp only
theorem x_pk5 : pk3 i δ (some y) = some (.nx (wr δ i y)) := rfl
def pl1 (i : Nat) (dk : DE) (d : D) (δ : DS) : Option D → Option SO
  | some _ => bindS (dk δ) (kPutL2 i d)
  | none => none
def pl2 (i : Nat) (k : Int) (d : D) (δ : DS) : Option D → Option SO
  | some x => (match setAt x k d with
    | some y => some (.nx (wr δ i y))
    | none => none)
  | none => none
theorem x_pl1 : kPutL1 i da (.s d) δ = pl1 i da d δ (slotD δ i) := by
  unfold kPutL1 pl1
  cases slotD δ i <;> rfl
theorem x_pl2 : pl1 i da d δ (some q) = bindS (da δ) (kPutL2 i d) := rfl
theorem x_pl3 {k : Int} : kPutL2 i d (.s (.int k)) δ = pl2 i k d δ (slotD δ i) := by
  unfold kPutL2 pl2
  cases slotD δ i <;> rfl
theorem x_pl4 {k : Int} : pl2 i k d δ (some q) = pk3 i δ (setAt q k d) := by
  unfold pl2 pk3
  dsimp only
def co0 (f : List D → Option FR) (δ : DS) : Option (List D) → Option (R W)
  | some ds => callFin (fun _ => δ) (f ds)
  | none => none
def co1 (f : List D → Option FR) (i : Nat) (δ : DS) : Option D → Option (List D) → Option (R W)
  | some d, some ds => callFin (wr δ i) (f (d :: ds))
  | _, _ => none
theorem x_call0 {f : List D → Option FR} : kCall false f ws δ = co0 f δ (sAll ws) := by
  unfold kCall callD call0 co0 with1
  cases sAll ws <;> rfl
theorem x_co0 {f : List D → Option FR} : co0 f δ (some ds) = callFin (fun _ => δ) (f ds) := rfl
theorem x_call1 {f : List D → Option FR} : kCall true f (.b i :: ws) δ = co1 f i δ (slotD δ i) (sAll ws) := by
  unfold kCall callD call1 co1 with1
  dsimp only
  cases slotD δ i with
  | none => rfl
  | some d => cases sAll ws <;> rfl
theorem x_co1 {f : List D → Option FR} : co1 f i δ (some d) (some ds) = callFin (wr δ i) (f (d :: ds)) := rfl
theorem x_finS {g : D → DS} : callFin g (some (.rt (.s d) e)) = some (.ok (.s d) (g e)) := rfl
theorem x_finO {g : D → DS} : callFin g (some (.rt (.o d) e)) = some (.ok (.o d) (g e)) := rfl
theorem x_finX {g : D → DS} : callFin g (some (.ex x e)) = some (.ex x (g e)) := rfl
def bm1 (T : String) (f : D → List D → Option RW) (da : DA) (w : W) (δ : DS) : Option D → Option (R W)
  | some d0 => if tyD d0 = T then bindR (da δ) (kBM2 f w) else none
  | none => none
def bm2 (f : D → List D → Option RW) (δ : DS) : Option D → Option (List D) → Option (R W)
  | some d, some ds => ans δ (f d ds)
  | _, _ => none
theorem x_bm {T : String} {f : D → List D → Option RW} {da : DA} : kBM1 T f da w δ = bm1 T f da w δ (cont δ w) := by
  unfold kBM1 bm1 with1
  cases cont δ w <;> rfl
theorem x_bmS {f : D → List D → Option RW} {da : DA} {s : Str} : bm1 "str" f da w δ (some (.str s)) = bindR (da δ) (kBM2 f w) := rfl
theorem x_bmL {f : D → List D → Option RW} {da : DA} : bm1 "list" f da w δ (some (.lst xs)) = bindR (da δ) (kBM2 f w) := rfl
theorem x_bmK {f : D → List D → Option RW} {da : DA} {kvs : List (Key × D)} : bm1 "dict" f da w δ (some (.dk kvs)) = bindR (da δ) (kBM2 f w) := rfl
theorem x_bm2 {f : D → List D → Option RW} : kBM2 f w ws δ = bm2 f δ (cont δ w) (conts δ ws) := by
  unfold kBM2 bm2 with1
  cases cont δ w with
  | none => rfl
  | some d => cases conts δ ws <;> rfl
theorem x_bm3 {f : D → List D → Option RW} : bm2 f δ (some d) (some ds) = ans δ (f d ds) := rfl
def lc1 (δ : DS) (vs : List Nat) (o : Option (R (List D))) : Bool → Option (R W)
  | true => (match o with
    | some (.ok xs δ2) => some (.ok (.o (.lst xs)) (restD δ δ2 vs))
    | _ => none)
  | false => none
def lc2 (δ : DS) (vs : List Nat) : Option (R (List D)) → Option (R W)
  | some (.ok xs δ2) => some (.ok (.o (.lst xs)) (restD δ δ2 vs))
  | _ => none
theorem x_lc {vs : List Nat} {tg : DG} {ct : DT} {el : DE} : kLc vs tg ct el ds δ = lc1 δ vs (lcD vs tg ct el ds [] δ) (lightS δ vs) := by
  unfold kLc lc1
  cases lightS δ vs <;> rfl
theorem x_lcT {vs : List Nat} {o : Option (R (List D))} : lc1 δ vs o true = lc2 δ vs o := rfl
theorem x_lc2 {vs : List Nat} : lc2 δ vs (some (.ok xs δ1)) = some (.ok (.o (.lst xs)) (restD δ δ1 vs)) := rfl
def liV : Option SV → Bool
  | some .un => true
  | some (.sh _) => true
  | _ => false
theorem x_liN : lightS δ [] = true := rfl
theorem x_liC {v : Nat} {vs : List Nat} : lightS δ (v :: vs) = (liV δ[v]? && lightS δ vs) := rfl
theorem x_liU : liV (some .un) = true := rfl
theorem x_liS : liV (some (.sh d)) = true := rfl
theorem x_reN {δ0 : DS} : restD δ0 δ [] = δ := rfl
theorem x_reC {δ0 : DS} {v : Nat} {vs : List Nat} : restD δ0 δ (v :: vs) = (restD δ0 δ vs).set v (δ0.getD v .un) := rfl
theorem x_wiN : wipeD δ [] = δ := rfl
theorem x_wiC {v : Nat} {vs : List Nat} : wipeD δ (v :: vs) = (wipeD δ vs).set v .un := rfl
theorem x_for {tg : DG} {body : DB} : kFor tg body ds δ = forD tg body ds δ := rfl
def gn1 (j : Nat) (d : D) (δ : DS) : Bool → Option DS
  | true => some (δ.set j (.sh d))
  | false => none
theorem x_gN : gN j d δ = gn1 j d δ (free δ j) := by
  unfold gN gn1
  cases free δ j <;> rfl
theorem x_gn1 : gn1 j d δ true = some (δ.set j (.sh d)) := rfl
theorem x_gT {gs : DGs} : gT n gs (.tup ds) δ = if ds.length = n then gs ds δ else none := rfl
def gs1 (r : DGs) (ds : List D) : Option DS → Option DS
  | some δ => r ds δ
  | none => none
theorem x_gsC {g : DG} {r : DGs} : gsC g r (d :: ds) δ = gs1 r ds (g d δ) := by
  unfold gsC gs1
  dsimp only
  all_goals (cases g d δ <;> rfl)
theorem x_gs1 {r : DGs} : gs1 r ds (some δ) = r ds δ := rfl
theorem x_gsN : gsN [] δ = some δ := rfl
def se1 (i : Nat) (v : SV) (δ : DS) : Bool → Option SO
  | true => some (.nx (δ.set i v))
  | false => none
theorem x_setS : kSet i (.s d) δ = se1 i (.sh d) δ (free δ i) := by
  unfold kSet toS se1
  cases free δ i <;> rfl
theorem x_setO : kSet i (.o d) δ = se1 i (.ow d) δ (free δ i) := by
  unfold kSet toS se1
  cases free δ i <;> rfl
theorem x_se1 {v : SV} : se1 i v δ true = some (.nx (δ.set i v)) := rfl
theorem x_yes : dYes δ = some (.ok true δ) := rfl
end
end DL
namespace DL
open PySem PySem.Spec PyProof.Rows L2
mutual
def plainD : D → Bool
  | .non => true
  | .int _ => true
  | .str s => PyData.strOk s
  | .lst xs => plainDs xs
  | .tup xs => plainDs xs
  | _ => false
def plainDs : List D → Bool
  | [] => true
  | d :: ds => plainD d && plainDs ds
end
mutual
def depD : D → Nat
  | .lst xs => depDs xs + 1
  | .tup xs => depDs xs + 1
  | _ => 0
def depDs : List D → Nat
  | [] => 0
  | d :: ds => max (depD d) (depDs ds)
end
mutual
theorem eqv_plain : ∀ (d e : D), plainD d = true → plainD e = true → (PyData.eqv (toP d) (toP e) = true ↔ d = e)
  | .non, e, _, he => by cases e <;> simp [plainD] at he <;> simp [toP, PyData.eqv]
  | .int i, e, _, he => by cases e <;> simp [plainD] at he <;> simp [toP, PyData.eqv]
  | .str i, e, _, he => by cases e <;> simp [plainD] at he <;> simp [toP, PyData.eqv]
  | .lst xs, e, hd, he => by
    cases e with
    | lst ys =>
      simp only [toP, PyData.eqv, D.lst.injEq]
      exact eqv_plains xs ys (by simpa [plainD] using hd) (by simpa [plainD] using he)
    | _ => simp [plainD] at he <;> simp [toP, PyData.eqv]
  | .tup xs, e, hd, he => by
    cases e with
    | tup ys =>
      simp only [toP, PyData.eqv, D.tup.injEq]
      exact eqv_plains xs ys (by simpa [plainD] using hd) (by simpa [plainD] using he)
    | _ => simp [plainD] at he <;> simp [toP, PyData.eqv]
  | .bl _, _, h, _ => by simp [plainD] at h
  | .scr _, _, h, _ => by simp [plainD] at h
  | .dk _, _, h, _ => by simp [plainD] at h
  | .dt _, _, h, _ => by simp [plainD] at h
  | .ins _ _, _, h, _ => by simp [plainD] at h
  | .ty _, _, h, _ => by simp [plainD] at h
theorem eqv_plains : ∀ (ds es : List D), plainDs ds = true → plainDs es = true → (PyData.eqvAll (toPs ds) (toPs es) = true ↔ ds = es)
  | [], [], _, _ => by simp [toPs, PyData.eqvAll]
  | [], _ :: _, _, _ => by simp [toPs, PyData.eqvAll]
  | _ :: _, [], _, _ => by simp [toPs, PyData.eqvAll]
  | d :: ds, e :: es, hd, he => by
    simp only [plainDs, Bool.and_eq_true] at hd he
    simp only [toPs, PyData.eqvAll, Bool.and_eq_true, List.cons.injEq]
    rw [eqv_plain d e hd.1 he.1, eqv_plains ds es hd.2 he.2]
end
mutual
theorem lay_plain : ∀ (d : D), plainD d = true → (toP d).canLay0 = true ∧ (toP d).depth = depD d
  | .non, _ => by simp [toP, PyData.canLay0, PyData.depth, depD]
  | .int _, _ => by simp [toP, PyData.canLay0, PyData.depth, depD]
  | .str _, h => by simpa [toP, PyData.canLay0, PyData.depth, depD, plainD] using h
  | .lst xs, h => by
    have := lay_plains xs (by simpa [plainD] using h)
    simp [toP, PyData.canLay0, PyData.depth, depD, this]
  | .tup xs, h => by
    have := lay_plains xs (by simpa [plainD] using h)
    simp [toP, PyData.canLay0, PyData.depth, depD, this]
  | .bl _, h => by simp [plainD] at h
  | .scr _, h => by simp [plainD] at h
  | .dk _, h => by simp [plainD] at h
  | .dt _, h => by simp [plainD] at h
  | .ins _ _, h => by simp [plainD] at h
  | .ty _, h => by simp [plainD] at h
theorem lay_plains : ∀ (ds : List D), plainDs ds = true → PyData.canLayAll0 (toPs ds) = true ∧ PyData.depthAll (toPs ds) = depDs ds
  | [], _ => by simp [toPs, PyData.canLayAll0, PyData.depthAll, depDs]
  | d :: ds, h => by
    simp only [plainDs, Bool.and_eq_true] at h
    have h1 := lay_plain d h.1
    have h2 := lay_plains ds h.2
    simp [toPs, PyData.canLayAll0, PyData.depthAll, depDs, h1, h2]
end
/-- == is sameness on plain data of small depth -/
def sm (d : D) : Bool := plainD d && decide (depD d ≤ 64)
theorem eqD_sm {d e : D} (hd : sm d = true) (he : sm e = true) : ∃ b, eqD d e = some b ∧ (b = true ↔ d = e) := by
  simp only [sm, Bool.and_eq_true, decide_eq_true_eq] at hd he
  have dd : deepD d e = some (PyData.eqv (toP d) (toP e)) := by
    have h1 := lay_plain d hd.1
    have h2 := lay_plain e he.1
    unfold deepD SeqAt.shaped
    rw [h1.1, h2.1, h1.2, h2.2]
    simp [hd.2, he.2]
  unfold eqD
  cases h : scalD d e with
  | none => exact ⟨_, dd, eqv_plain d e hd.1 he.1⟩
  | some b =>
    refine ⟨b, rfl, ?_⟩
    have hd1 := hd.1
    have he1 := he.1
    cases d <;> cases e <;> simp [scalD] at h <;> simp [plainD] at hd1 he1 <;> (subst h; simp)
theorem fEq_sm {d e : D} (hd : sm d = true) (he : sm e = true) : ∃ b, fEq d e = some (.v (.bl b)) ∧ (b = true ↔ d = e) := by
  obtain ⟨b, h1, h2⟩ := eqD_sm hd he
  exact ⟨b, by unfold fEq; simp only [h1], h2⟩
theorem fEq_same {d : D} (hd : sm d = true) : fEq d d = some (.v (.bl true)) := by
  obtain ⟨b, h1, h2⟩ := fEq_sm hd hd
  rw [h1, h2.mpr rfl]
theorem fEq_diff {d e : D} (hd : sm d = true) (he : sm e = true) (h : d ≠ e) : fEq d e = some (.v (.bl false)) := by
  obtain ⟨b, h1, h2⟩ := fEq_sm hd he
  rw [h1]
  cases b with
  | true => exact absurd (h2.mp rfl) h
  | false => rfl
theorem fNe_of {d e : D} {b : Bool} (h : fEq d e = some (.v (.bl b))) : fNe d e = some (.v (.bl (!b))) := by
  unfold fEq at h
  unfold fNe
  cases q : eqD d e with
  | none => rw [q] at h; cases h
  | some c =>
    rw [q] at h
    obtain rfl : c = b := by simpa using h
    rfl
theorem fNe_same {d : D} (hd : sm d = true) : fNe d d = some (.v (.bl false)) := fNe_of (fEq_same hd)
theorem fNe_diff {d e : D} (hd : sm d = true) (he : sm e = true) (h : d ≠ e) : fNe d e = some (.v (.bl true)) := fNe_of (fEq_diff hd he h)
theorem plain_ints : ∀ (xs : List Int), plainDs (xs.map D.int) = true ∧ depDs (xs.map D.int) = 0
  | [] => ⟨rfl, rfl⟩
  | x :: xs => by
    have := plain_ints xs
    simp [plainDs, depDs, plainD, depD, this]
theorem sm_ints (xs : List Int) : sm (.lst (xs.map .int)) = true := by
  have := plain_ints xs
  simp [sm, plainD, depD, this]
theorem sm_tints (xs : List Int) : sm (.tup (xs.map .int)) = true := by
  have := plain_ints xs
  simp [sm, plainD, depD, this]
end DL
namespace DL
open PySem PySem.Spec PyProof.Rows L2
noncomputable def b_common_pairs : DB := (dSeq (dSet 2 (dCall false f_common_table (dCons (dVarF 0) (dCons (dVarF 1) dNil))))
 (dSeq (dSet 3 (dLst dNil))
 (dSeq (dSet 4 (dC (.int 0)))
 (dSeq (dSet 5 (dC (.int 0)))
 (dSeq (dWhile (dAnd (dTest (dOp fLt (dVar 4) (dCB fLen (dCons (dVar 0) dNil)))) (dTest (dOp fLt (dVar 5) (dCB fLen (dCons (dVar 1) dNil)))))
 (dIf (dTest (dOp fEq (dOp fIx (dVar 0) (dVar 4)) (dOp fIx (dVar 1) (dVar 5))))
 (dSeq (dDrop (dMut "list" fAppend 3 (dCons (dTup (dCons (dVarF 4) (dCons (dVarF 5) dNil))) dNil)))
 (dSeq (dSet 4 (dOp fAdd (dVar 4) (dC (.int 1))))
 (dSet 5 (dOp fAdd (dVar 5) (dC (.int 1))))))
 (dIf (dTest (dOp fGe (dOp fIx (dOp fIx (dVar 2) (dOp fAdd (dVar 4) (dC (.int 1)))) (dVar 5)) (dOp fIx (dOp fIx (dVar 2) (dVar 4)) (dOp fAdd (dVar 5) (dC (.int 1))))))
 (dSet 4 (dOp fAdd (dVar 4) (dC (.int 1))))
 (dSet 5 (dOp fAdd (dVar 5) (dC (.int 1)))))))
 (dRet (dVarF 3)))))))
noncomputable def f_common_pairs : List D → Option FR := runD false false 6 2 b_common_pairs
noncomputable def b_check_edits : DB := (dSeq (dSet 1 (dUn fNeg (dC (.int 1))))
 (dFor (iSeq (dVarF 0)) (gT 3 (gsC (gN 2) (gsC (gN 3) (gsC (gN 4) gsN))))
 (dSeq (dIf (dOr (dTest (dOp fLe (dVar 2) (dVar 1))) (dTest (dOp fGt (dVar 2) (dC (.int (999999))))))
 dStuck
 dNext)
 (dSeq (dIf (dOr (dTest (dOp fGt (dCB fLen (dCons (dVar 3) dNil)) (dC (.int (999999))))) (dOr (dTest (dOp fGt (dCB fLen (dCons (dVar 4) dNil)) (dC (.int (999999))))) (dAnd (dTest (dOp fEq (dCB fLen (dCons (dVar 3) dNil)) (dC (.int 0)))) (dTest (dOp fEq (dCB fLen (dCons (dVar 4) dNil)) (dC (.int 0)))))))
 dStuck
 dNext)
 (dSet 1 (dOp fAdd (dVar 2) (dCB fLen (dCons (dVar 3) dNil))))))))
noncomputable def f_check_edits : List D → Option FR := runD false false 5 1 b_check_edits
noncomputable def b_edits_between : DB := (dSeq (dSet 2 (dLst dNil))
 (dSeq (dSet 3 (dC (.int 0)))
 (dSeq (dSet 4 (dC (.int 0)))
 (dSeq (dFor (iSeq (dOp fAdd (dCall false f_common_pairs (dCons (dVarF 0) (dCons (dVarF 1) dNil))) (dLst (dCons (dTup (dCons (dCB fLen (dCons (dVar 0) dNil)) (dCons (dCB fLen (dCons (dVar 1) dNil)) dNil))) dNil)))) (gT 2 (gsC (gN 5) (gsC (gN 6) gsN)))
 (dSeq (dIf (dOr (dTest (dOp fGt (dVar 5) (dVar 3))) (dTest (dOp fGt (dVar 6) (dVar 4))))
 (dDrop (dMut "list" fAppend 2 (dCons (dTup (dCons (dVarF 3) (dCons (dCB fTuple (dCons (dSl fSl (dVar 0) (dPart (dVar 3)) (dPart (dVar 5))) dNil)) (dCons (dCB fTuple (dCons (dSl fSl (dVar 1) (dPart (dVar 4)) (dPart (dVar 6))) dNil)) dNil)))) dNil)))
 dNext)
 (dSeq (dSet 3 (dOp fAdd (dVar 5) (dC (.int 1))))
 (dSet 4 (dOp fAdd (dVar 6) (dC (.int 1)))))))
 (dRet (dVarF 2))))))
noncomputable def f_edits_between : List D → Option FR := runD false false 7 2 b_edits_between
noncomputable def b_edit_size : DB := (dSeq (dDrop (dCall false f_check_edits (dCons (dVarF 0) dNil)))
 (dSeq (dSet 1 (dC (.int 0)))
 (dSeq (dFor (iSeq (dVarF 0)) (gT 3 (gsC (gN 2) (gsC (gN 3) (gsC (gN 4) gsN))))
 (dSet 1 (dOp fAdd (dOp fAdd (dVar 1) (dCB fLen (dCons (dVar 3) dNil))) (dCB fLen (dCons (dVar 4) dNil)))))
 (dRet (dVarF 1)))))
noncomputable def f_edit_size : List D → Option FR := runD false false 5 1 b_edit_size
noncomputable def b_law_row : DB := (dSeq (dSet 2 (dCall true f_law_pick (dCons (dVar 0) (dCons (dVarF 1) dNil))))
 (dSeq (dIf (dTest (dOp fEq (dVar 2) (dC (.int 0))))
 (dRet (dTup (dCons (dC (.int 10)) dNil)))
 dNext)
 (dRet (dTup (dCons (dSh (dOp fAdd (dC (.int 96)) (dVar 2))) (dCons (dC (.int 10)) dNil))))))
noncomputable def f_law_row : List D → Option FR := runD false true 3 2 b_law_row
noncomputable def b_law_rows : DB := (dRet (dSh (dLc [3] (iRange1 (dCons (dCall true f_law_pick (dCons (dVar 0) (dCons (dSh (dOp fAdd (dVar 1) (dC (.int 1)))) dNil))) dNil)) (gN 3) dYes (dCall true f_law_row (dCons (dVar 0) (dCons (dVarF 2) dNil))))))
noncomputable def f_law_rows : List D → Option FR := runD false true 4 3 b_law_rows
noncomputable def b_law_varied : DB := (dSeq (dSet 3 (dLst dNil))
 (dSeq (dFor (iSeq (dVarF 1)) (gN 4)
 (dSeq (dSet 5 (dCall true f_law_pick (dCons (dVar 0) (dCons (dC (.int 9)) dNil))))
 (dSeq (dIf (dTest (dOp fLt (dVar 5) (dC (.int 2))))
 (dDrop (dMut "list" fAppend 3 (dCons (dSh (dCall true f_law_row (dCons (dVar 0) (dCons (dVarF 2) dNil)))) dNil)))
 dNext)
 (dIf (dAnd (dTest (dOp fNe (dVar 5) (dC (.int 0)))) (dTest (dOp fNe (dVar 5) (dC (.int 2)))))
 (dDrop (dMut "list" fAppend 3 (dCons (dVarF 4) dNil)))
 dNext))))
 (dSeq (dIf (dTest (dOp fEq (dCall true f_law_pick (dCons (dVar 0) (dCons (dC (.int 3)) dNil))) (dC (.int 0))))
 (dDrop (dMut "list" fAppend 3 (dCons (dSh (dCall true f_law_row (dCons (dVar 0) (dCons (dVarF 2) dNil)))) dNil)))
 dNext)
 (dRet (dVarF 3)))))
noncomputable def f_law_varied : List D → Option FR := runD false true 6 3 b_law_varied
noncomputable def b_law_kept : DB := (dSeq (dSet 2 (dLst (dCons (dSh (dOp fMul (dLst (dCons (dC (.int 0)) dNil)) (dOp fAdd (dCB fLen (dCons (dVar 1) dNil)) (dC (.int 1))))) dNil)))
 (dSeq (dFor (iRange1 (dCons (dCB fLen (dCons (dVar 0) dNil)) dNil)) (gN 3)
 (dSeq (dSet 4 (dOp fIx (dVar 0) (dOp fSub (dOp fSub (dCB fLen (dCons (dVar 0) dNil)) (dC (.int 1))) (dVar 3))))
 (dSeq (dSet 5 (dOp fIx (dVar 2) (dC (.int 0))))
 (dSeq (dSet 6 (dOp fMul (dLst (dCons (dC (.int 0)) dNil)) (dOp fAdd (dCB fLen (dCons (dVar 1) dNil)) (dC (.int 1)))))
 (dSeq (dFor (iRange1 (dCons (dCB fLen (dCons (dVar 1) dNil)) dNil)) (gN 7)
 (dSeq (dSet 8 (dOp fSub (dOp fSub (dCB fLen (dCons (dVar 1) dNil)) (dC (.int 1))) (dVar 7)))
 (dSeq (dPutL 6 (dVar 8) (dCB fMax (dCons (dOp fIx (dVar 5) (dVar 8)) (dCons (dOp fIx (dVar 6) (dOp fAdd (dVar 8) (dC (.int 1)))) dNil))))
 (dIf (dTest (dOp fEq (dVar 4) (dOp fIx (dVar 1) (dVar 8))))
 (dPutL 6 (dVar 8) (dSh (dOp fAdd (dOp fIx (dVar 5) (dOp fAdd (dVar 8) (dC (.int 1)))) (dC (.int 1)))))
 dNext))))
 (dSet 2 (dOp fAdd (dLst (dCons (dVarF 6) dNil)) (dVar 2))))))))
 (dSeq (dSet 9 (dLst dNil))
 (dSeq (dSet 3 (dC (.int 0)))
 (dSeq (dSet 8 (dC (.int 0)))
 (dSeq (dFor (iRange1 (dCons (dOp fAdd (dCB fLen (dCons (dVar 0) dNil)) (dCB fLen (dCons (dVar 1) dNil))) dNil)) (gN 10)
 (dSeq (dIf (dOr (dTest (dOp fEq (dVar 3) (dCB fLen (dCons (dVar 0) dNil)))) (dTest (dOp fEq (dVar 8) (dCB fLen (dCons (dVar 1) dNil)))))
 dBreak
 dNext)
 (dIf (dTest (dOp fEq (dOp fIx (dVar 0) (dVar 3)) (dOp fIx (dVar 1) (dVar 8))))
 (dSeq (dDrop (dMut "list" fAppend 9 (dCons (dTup (dCons (dVarF 3) (dCons (dVarF 8) dNil))) dNil)))
 (dSeq (dSet 3 (dOp fAdd (dVar 3) (dC (.int 1))))
 (dSet 8 (dOp fAdd (dVar 8) (dC (.int 1))))))
 (dIf (dTest (dOp fGe (dOp fIx (dOp fIx (dVar 2) (dOp fAdd (dVar 3) (dC (.int 1)))) (dVar 8)) (dOp fIx (dOp fIx (dVar 2) (dVar 3)) (dOp fAdd (dVar 8) (dC (.int 1))))))
 (dSet 3 (dOp fAdd (dVar 3) (dC (.int 1))))
 (dSet 8 (dOp fAdd (dVar 8) (dC (.int 1))))))))
 (dRet (dVarF 9))))))))
noncomputable def f_law_kept : List D → Option FR := runD false false 11 2 b_law_kept
noncomputable def b_law_edits : DB := (dSeq (dSet 2 (dLst dNil))
 (dSeq (dSet 3 (dC (.int 0)))
 (dSeq (dSet 4 (dC (.int 0)))
 (dSeq (dFor (iSeq (dOp fAdd (dCall false f_law_kept (dCons (dVarF 0) (dCons (dVarF 1) dNil))) (dLst (dCons (dTup (dCons (dCB fLen (dCons (dVar 0) dNil)) (dCons (dCB fLen (dCons (dVar 1) dNil)) dNil))) dNil)))) (gT 2 (gsC (gN 5) (gsC (gN 6) gsN)))
 (dSeq (dIf (dOr (dTest (dOp fGt (dVar 5) (dVar 3))) (dTest (dOp fGt (dVar 6) (dVar 4))))
 (dDrop (dMut "list" fAppend 2 (dCons (dTup (dCons (dVarF 3) (dCons (dCB fTuple (dCons (dSl fSl (dVar 0) (dPart (dVar 3)) (dPart (dVar 5))) dNil)) (dCons (dCB fTuple (dCons (dSl fSl (dVar 1) (dPart (dVar 4)) (dPart (dVar 6))) dNil)) dNil)))) dNil)))
 dNext)
 (dSeq (dSet 3 (dOp fAdd (dVar 5) (dC (.int 1))))
 (dSet 4 (dOp fAdd (dVar 6) (dC (.int 1)))))))
 (dRet (dVarF 2))))))
noncomputable def f_law_edits : List D → Option FR := runD false false 7 2 b_law_edits
local macro_rules | `(tactic| walk_at "ds") => `(tactic| simp (config := { maxSteps := 1000000 }) only [e_seq, bindB_nx, bindB_rt, bindB_bk, bindB_ct, bindB_ex, e_next, e_break, e_cont, e_retN, e_drop, k_drop, e_ret, k_ret, e_if, k_ifT, k_ifF, e_set, x_setS, x_setO, x_se1, e_putK, e_putL, e_unp, k_unp, toNx_s, e_c, e_var, v_sh, v_ow, v_io, e_varF, vF_sh, vF_ow, e_sh, k_shS, k_shO, e_op, k_op1, k_op2, an2_s, ans_v, ans_n, ans_t, e_un, k_un, an1_s, c_s, c_o, c_b, cOf_ow, cOf_io, h_lst, h_dk, h_dt, h_ins, e_nil, e_cons, k_cons1, k_cons2, e_cb, k_cb, anN_s, cs_nil, cs_cons, cs2_s, e_tup, e_lst, e_noPart, e_part, k_part, e_sl, k_sl1, k_sl2, k_sl3, anS_s, e_bm, e_test, k_test, e_and, e_or, e_not, k_andT, k_andF, k_orT, k_orF, k_not, e_andV, e_orV, e_notV, k_andVT, k_andVF, k_orVT, k_orVF, k_notV, e_ifE, k_ifET, k_ifEF, e_call, sAll_nil, sAll_s, cs1_s, slotD_ap, slotOf_ow, slotOf_io, wr_ap, wrOf_ow, wrOf_io, free_ap, free_un, free_sh, free_ow, o_add, o_sub, o_neg, o_lt, o_le, o_gt, o_ge, o_int, o_len, o_lenT, o_list, o_listT, o_tuple, o_tupleT, o_eqI, o_neI, o_rev, o_min, o_max, e_run, out_nx, out_rt, fin_0s, fin_0o, fin_1s, fin_1o, st_1, st_0, bindR_ok, bindS_ok, List.length_cons, List.length_nil, List.map_cons, List.map_nil, List.replicate, List.cons_append, List.nil_append, List.getElem?_cons_zero, List.getElem?_cons_succ, List.set_cons_zero, List.set_cons_succ, Nat.reduceAdd, Nat.reduceSub, Nat.reduceEqDiff, reduceIte, Bool.not_true, Bool.not_false, decide_true, decide_false, if_true, if_false, x_mut, x_mutL, x_mutK, x_mut2, x_mut3, x_mut4, x_tup, x_tup0, x_tup1, x_tup2, x_tup3, x_tup4, x_tup5, x_lst, x_lst0, x_lst1, x_lst2, x_lst3, x_lst4, x_pk1, x_pk2, x_pk3, x_pk4, x_pk5, x_pl1, x_pl2, x_pl3, x_pl4, x_call0, x_co0, x_call1, x_co1, x_finS, x_finO, x_finX, x_bm, x_bmS, x_bmL, x_bmK, x_bm2, x_bm3, x_lc, x_lcT, x_lc2, x_liN, x_liC, x_liU, x_liS, x_reN, x_reC, x_wiN, x_wiC, x_for, x_gN, x_gn1, x_gT, x_gsC, x_gs1, x_gsN, x_yes, e_lc, e_for, e_iseq, k_iseq, e_itup, k_itup, e_rg1, e_rg2, Bool.and_true, Bool.true_and, List.getD_cons_zero, List.getD_cons_succ])
theorem rngD_succ {n k : Nat} (h : k < n) : (rngD 0 n).drop k = .int k :: (rngD 0 n).drop (k + 1) := by
  have e : (rngD 0 n)[k]? = some (.int k) := by
    unfold rngD
    rw [List.getElem?_map, List.getElem?_range h]
    show some (D.int (0 + (k : Int))) = _
    rw [Int.zero_add]
  have hl : k < (rngD 0 n).length := by rw [rngD_length]; exact h
  rw [List.drop_eq_getElem_cons hl]
  congr 1
  rw [List.getElem?_eq_getElem hl] at e
  exact Option.some.inj e
section
variable {tg : DG} {body : DB}
theorem for_bk {d : D} {ds : List D} {δ δ1 δ2 : DS} (h1 : tg d δ = some δ1) (h2 : body δ1 = some (.bk δ2)) : forD tg body (d :: ds) δ = some (.nx δ2) := by
  rw [forD]
  simp only [h1, h2]
/-- a loop over range(n): by its turns; it may break -/
theorem for_rngB {P : Nat → DS → Prop} {Z : DS → Prop} {n : Nat} (hz : ∀ δ, P n δ → Z δ) (step : ∀ k δ, k < n → P k δ → ∃ δ1 δ2, tg (.int k) δ = some δ1 ∧ (((body δ1 = some (.nx δ2) ∨ body δ1 = some (.ct δ2)) ∧ P (k + 1) δ2) ∨ (body δ1 = some (.bk δ2) ∧ Z δ2))) {δ0 : DS} (h0 : P 0 δ0) : ∃ δ', forD tg body (rngD 0 n) δ0 = some (.nx δ') ∧ Z δ' := by
  have main : ∀ m k δ, n = k + m → P k δ → ∃ δ', forD tg body ((rngD 0 n).drop k) δ = some (.nx δ') ∧ Z δ' := by
    intro m
    induction m with
    | zero =>
      intro k δ e p
      rw [List.drop_eq_nil_of_le (by rw [rngD_length]; omega), for_nil]
      exact ⟨δ, rfl, hz δ (by rw [e]; exact p)⟩
    | succ m ih =>
      intro k δ e p
      rw [rngD_succ (by omega)]
      obtain ⟨δ1, δ2, h1, ⟨h2, p2⟩ | ⟨h2, z⟩⟩ := step k δ (by omega) p
      · obtain ⟨δ', e', z⟩ := ih (k + 1) δ2 (by omega) p2
        exact ⟨δ', by rw [for_nx h1 h2, e'], z⟩
      · exact ⟨δ2, for_bk h1 h2, z⟩
  exact main n 0 δ0 (by omega) h0
theorem for_rng {P : Nat → DS → Prop} {n : Nat} (step : ∀ k δ, k < n → P k δ → ∃ δ1 δ2, tg (.int k) δ = some δ1 ∧ (body δ1 = some (.nx δ2) ∨ body δ1 = some (.ct δ2)) ∧ P (k + 1) δ2) {δ0 : DS} (h0 : P 0 δ0) : ∃ δ', forD tg body (rngD 0 n) δ0 = some (.nx δ') ∧ P n δ' :=
  for_rngB (Z := P n) (fun _ h => h) (fun k δ hk p => by
    obtain ⟨δ1, δ2, h1, h2, h3⟩ := step k δ hk p
    exact ⟨δ1, δ2, h1, .inl ⟨h2, h3⟩⟩) h0
end
def walkP : List D → List D → Nat → Nat → List (Nat × Nat)
  | x :: xs, y :: ys, i, j => if eqB x y = true then (i, j) :: walkP xs ys (i + 1) (j + 1) else if lcsD (x :: xs) ys ≤ lcsD xs (y :: ys) then walkP xs (y :: ys) (i + 1) j else walkP (x :: xs) ys i (j + 1)
  | [], _, _, _ => []
  | _ :: _, [], _, _ => []
termination_by xs ys => xs.length + ys.length
theorem walkP_nil (xs : List D) (i j : Nat) : walkP xs [] i j = [] := by
  cases xs <;> simp [walkP]
theorem walkP_nil' (ys : List D) (i j : Nat) : walkP [] ys i j = [] := by simp [walkP]
theorem walkP_eq {x y : D} {xs ys : List D} {i j : Nat} (h : eqB x y = true) : walkP (x :: xs) (y :: ys) i j = (i, j) :: walkP xs ys (i + 1) (j + 1) := by
  rw [walkP, if_pos h]
theorem walkP_l {x y : D} {xs ys : List D} {i j : Nat} (h : eqB x y = false) (h2 : lcsD (x :: xs) ys ≤ lcsD xs (y :: ys)) : walkP (x :: xs) (y :: ys) i j = walkP xs (y :: ys) (i + 1) j := by
  rw [walkP, if_neg (by rw [h]; decide), if_pos h2]
theorem walkP_r {x y : D} {xs ys : List D} {i j : Nat} (h : eqB x y = false) (h2 : ¬ lcsD (x :: xs) ys ≤ lcsD xs (y :: ys)) : walkP (x :: xs) (y :: ys) i j = walkP (x :: xs) ys i (j + 1) := by
  rw [walkP, if_neg (by rw [h]; decide), if_neg h2]
/-- pairs of places, as data -/
def prD (p : Nat × Nat) : D := .tup [.int p.1, .int p.2]
theorem cmp_get {xs ys : List D} (h : cmpOk xs ys = true) {i j : Nat} (hi : i < xs.length) (hj : j < ys.length) : fEq xs[i] ys[j] = some (.v (.bl (eqB xs[i] ys[j]))) := by
  have h1 := List.all_eq_true.mp h xs[i] (List.getElem_mem hi)
  have h2 := List.all_eq_true.mp h1 ys[j] (List.getElem_mem hj)
  obtain ⟨b, hb⟩ := Option.isSome_iff_exists.mp h2
  unfold fEq eqB
  rw [hb]
  cases b <;> rfl
theorem row_ix {xs ys : List D} {i : Nat} (h : i ≤ xs.length) : fIx (tableD xs ys) (.int i) = some (.v (.lst (rowD ys.length fun j => lcsD (xs.drop i) (ys.drop j)))) := by
  unfold tableD
  refine ix_nat (by omega) ?_
  rw [Int.toNat_natCast, List.getElem?_map, List.getElem?_range (by omega)]
  rfl
theorem cell_ix {m : Nat} {f : Nat → Int} {j : Nat} (h : j ≤ m) : fIx (.lst (rowD m f)) (.int j) = some (.v (.int (f j))) := by
  unfold rowD
  refine ix_nat (by omega) ?_
  rw [Int.toNat_natCast, List.getElem?_map, List.getElem?_range (by omega)]
  rfl
theorem item_ix {xs : List D} {i : Nat} (h : i < xs.length) : fIx (.lst xs) (.int i) = some (.v xs[i]) := by
  refine ix_nat (by omega) ?_
  rw [Int.toNat_natCast, List.getElem?_eq_getElem h]
theorem table_ok {xs ys : List D} (hc : cmpOk xs ys = true) (hx : xs.length ≤ 1000) (hy : ys.length ≤ 1000) : f_common_table [.lst xs, .lst ys] = some (.rt (.s (tableD xs ys)) .non) := by
  show (if _ ∧ _ ∧ _ then _ else none) = _
  rw [if_pos ⟨hx, hy, hc⟩]
/-- the loop's turn, in its eyes: what is found and what is left make the whole -/
def stP (xs ys : List D) (ps : List (Nat × Nat)) (i j : Nat) : DS := [.sh (.lst xs), .sh (.lst ys), .sh (tableD xs ys), .ow (.lst (ps.map prD)), .sh (.int i), .sh (.int j)]
def invP (xs ys : List D) (n : Nat) (δ : DS) : Prop := ∃ (i j : Nat) (ps : List (Nat × Nat)), δ = stP xs ys ps i j ∧ i ≤ xs.length ∧ j ≤ ys.length ∧ n = xs.length + ys.length - i - j ∧ ps.length ≤ i ∧ ps ++ walkP (xs.drop i) (ys.drop j) i j = walkP xs ys 0 0
def endP (xs ys : List D) (δ : DS) : Prop := ∃ (i j : Nat), δ = stP xs ys (walkP xs ys 0 0) i j
theorem pairs_ok {xs ys : List D} (hc : cmpOk xs ys = true) (hx : xs.length ≤ 1000) (hy : ys.length ≤ 1000) : f_common_pairs [.lst xs, .lst ys] = some (.rt (.s (.lst ((walkP xs ys 0 0).map prD))) .non) := by
  unfold f_common_pairs b_common_pairs
  walk_at "ds"
  rw [table_ok hc hx hy]
  walk_at "ds"
  generalize hW : dWhile _ _ _ = W
  obtain ⟨δ', rfl, i, j, rfl⟩ : ∃ δ', W = some (.nx δ') ∧ endP xs ys δ' := by
    rw [← hW]
    refine while_inv2 (P := invP xs ys) ?_ (xs.length + ys.length) _ ⟨0, 0, [], rfl, Nat.zero_le _, Nat.zero_le _, rfl, Nat.le_refl _, by rw [List.drop_zero, List.drop_zero, List.nil_append]⟩
    rintro n _ ⟨i, j, ps, rfl, hi, hj, rfl, hl, hp⟩
    by_cases h1 : i < xs.length
    · by_cases h2 : j < ys.length
      · have dx : xs.drop i = xs[i] :: xs.drop (i + 1) := List.drop_eq_getElem_cons h1
        have dy : ys.drop j = ys[j] :: ys.drop (j + 1) := List.drop_eq_getElem_cons h2
        have hx' : decide ((i : Int) < (xs.length : Int)) = true := decide_eq_true (by omega)
        have hy' : decide ((j : Int) < (ys.length : Int)) = true := decide_eq_true (by omega)
        have ht : ∀ δ, δ = stP xs ys ps i j → (dAnd (dTest (dOp fLt (dVar 4) (dCB fLen (dCons (dVar 0) dNil)))) (dTest (dOp fLt (dVar 5) (dCB fLen (dCons (dVar 1) dNil))))) δ = some (.ok true (stP xs ys ps i j)) := by
          rintro δ rfl
          unfold stP
          walk_at "ds"
          rw [hx']
          walk_at "ds"
          rw [hy']
        rw [dx, dy] at hp
        have he := cmp_get hc h1 h2
        cases e : eqB xs[i] ys[j] with
        | true =>
          rw [walkP_eq e] at hp
          rw [e] at he
          refine .inr ⟨_, stP xs ys (ps ++ [(i, j)]) (i + 1) (j + 1), xs.length + ys.length - (i + 1) - (j + 1), ht _ rfl, .inl ?_, ⟨i + 1, j + 1, ps ++ [(i, j)], rfl, h1, h2, rfl, by rw [List.length_append, List.length_singleton]; omega, by rw [List.append_assoc]; exact hp⟩, by omega⟩
          unfold stP
          walk_at "ds"
          rw [item_ix h1]
          walk_at "ds"
          rw [item_ix h2]
          walk_at "ds"
          rw [he]
          walk_at "ds"
          rw [o_app (by rw [List.length_map]; unfold LN; omega)]
          walk_at "ds"
          rw [List.map_append]
          rfl
        | false =>
          rw [e] at he
          have g1 := row_ix (xs := xs) (ys := ys) (i := i + 1) (by omega)
          have g2 := row_ix (xs := xs) (ys := ys) (i := i) (by omega)
          have g3 := cell_ix (m := ys.length) (f := fun j => lcsD (xs.drop (i + 1)) (ys.drop j)) (j := j) (by omega)
          have g4 := cell_ix (m := ys.length) (f := fun j => lcsD (xs.drop i) (ys.drop j)) (j := j + 1) (by omega)
          rw [show ((i + 1 : Nat) : Int) = (i : Int) + 1 from rfl] at g1
          rw [show ((j + 1 : Nat) : Int) = (j : Int) + 1 from rfl] at g4
          by_cases m : lcsD (xs.drop i) (ys.drop (j + 1)) ≤ lcsD (xs.drop (i + 1)) (ys.drop j)
          · have m' := m
            rw [dx, dy] at m'
            rw [walkP_l e m', ← dy] at hp
            refine .inr ⟨_, stP xs ys ps (i + 1) j, xs.length + ys.length - (i + 1) - j, ht _ rfl, .inl ?_, ⟨i + 1, j, ps, rfl, h1, hj, rfl, by omega, hp⟩, by omega⟩
            unfold stP
            walk_at "ds"
            rw [item_ix h1]
            walk_at "ds"
            rw [item_ix h2]
            walk_at "ds"
            rw [he]
            walk_at "ds"
            rw [g1]
            walk_at "ds"
            rw [g3]
            walk_at "ds"
            rw [g2]
            walk_at "ds"
            rw [g4]
            walk_at "ds"
            rw [decide_eq_true m]
            walk_at "ds"
            rfl
          · have m' := m
            rw [dx, dy] at m'
            rw [walkP_r e m', ← dx] at hp
            refine .inr ⟨_, stP xs ys ps i (j + 1), xs.length + ys.length - i - (j + 1), ht _ rfl, .inl ?_, ⟨i, j + 1, ps, rfl, hi, h2, rfl, hl, hp⟩, by omega⟩
            unfold stP
            walk_at "ds"
            rw [item_ix h1]
            walk_at "ds"
            rw [item_ix h2]
            walk_at "ds"
            rw [he]
            walk_at "ds"
            rw [g1]
            walk_at "ds"
            rw [g3]
            walk_at "ds"
            rw [g2]
            walk_at "ds"
            rw [g4]
            walk_at "ds"
            rw [decide_eq_false m]
            walk_at "ds"
            rfl
      · rw [List.drop_eq_nil_of_le (as := ys) (by omega), walkP_nil, List.append_nil] at hp
        subst hp
        refine .inl ⟨stP xs ys (walkP xs ys 0 0) i j, ?_, i, j, rfl⟩
        unfold stP
        walk_at "ds"
        rw [decide_eq_true (by omega)]
        walk_at "ds"
        rw [decide_eq_false (by omega)]
    · rw [List.drop_eq_nil_of_le (as := xs) (by omega), walkP_nil', List.append_nil] at hp
      subst hp
      refine .inl ⟨stP xs ys (walkP xs ys 0 0) i j, ?_, i, j, rfl⟩
      unfold stP
      walk_at "ds"
      rw [decide_eq_false (by omega)]
      walk_at "ds"
  unfold stP
  walk_at "ds"
end DL
namespace DL
open PySem PySem.Spec PyProof.Rows L2
theorem h_tab {xs ys : List D} : heavy (tableD xs ys) = true := (rfl)
local macro_rules | `(tactic| walk_at "ds") => `(tactic| simp (config := { maxSteps := 1000000, implicitDefEqProofs := false }) only [e_seq, bindB_nx, bindB_rt, bindB_bk, bindB_ct, bindB_ex, e_next, e_break, e_cont, e_retN, e_drop, k_drop, e_ret, k_ret, e_if, k_ifT, k_ifF, e_set, x_setS, x_setO, x_se1, e_putK, e_putL, e_unp, k_unp, toNx_s, e_c, e_var, v_sh, v_ow, v_io, e_varF, vF_sh, vF_ow, e_sh, k_shS, k_shO, e_op, k_op1, k_op2, an2_s, ans_v, ans_n, ans_t, e_un, k_un, an1_s, c_s, c_o, c_b, cOf_ow, cOf_io, h_lst, h_dk, h_dt, h_ins, e_nil, e_cons, k_cons1, k_cons2, e_cb, k_cb, anN_s, cs_nil, cs_cons, cs2_s, e_tup, e_lst, e_noPart, e_part, k_part, e_sl, k_sl1, k_sl2, k_sl3, anS_s, e_bm, e_test, k_test, e_and, e_or, e_not, k_andT, k_andF, k_orT, k_orF, k_not, e_andV, e_orV, e_notV, k_andVT, k_andVF, k_orVT, k_orVF, k_notV, e_ifE, k_ifET, k_ifEF, e_call, sAll_nil, sAll_s, cs1_s, slotD_ap, slotOf_ow, slotOf_io, wr_ap, wrOf_ow, wrOf_io, free_ap, free_un, free_sh, free_ow, o_add, o_sub, o_neg, o_lt, o_le, o_gt, o_ge, o_int, o_len, o_lenT, o_list, o_listT, o_tuple, o_tupleT, o_eqI, o_neI, o_rev, o_min, o_max, e_run, out_nx, out_rt, fin_0s, fin_0o, fin_1s, fin_1o, st_1, st_0, bindR_ok, bindS_ok, List.length_cons, List.length_nil, List.map_cons, List.map_nil, List.replicate, List.cons_append, List.nil_append, List.getElem?_cons_zero, List.getElem?_cons_succ, List.set_cons_zero, List.set_cons_succ, Nat.reduceAdd, Nat.reduceSub, Nat.reduceEqDiff, reduceIte, Bool.not_true, Bool.not_false, decide_true, decide_false, if_true, if_false, x_mut, x_mutL, x_mutK, x_mut2, x_mut3, x_mut4, x_tup, x_tup0, x_tup1, x_tup2, x_tup3, x_tup4, x_tup5, x_lst, x_lst0, x_lst1, x_lst2, x_lst3, x_lst4, x_pk1, x_pk2, x_pk3, x_pk4, x_pk5, x_pl1, x_pl2, x_pl3, x_pl4, x_call0, x_co0, x_call1, x_co1, x_finS, x_finO, x_finX, x_bm, x_bmS, x_bmL, x_bmK, x_bm2, x_bm3, x_lc, x_lcT, x_lc2, x_liN, x_liC, x_liU, x_liS, x_reN, x_reC, x_wiN, x_wiC, x_for, x_gN, x_gn1, x_gT, x_gsC, x_gs1, x_gsN, x_yes, e_lc, e_for, e_iseq, k_iseq, e_itup, k_itup, e_rg1, e_rg2, Bool.and_true, Bool.true_and, List.getD_cons_zero, List.getD_cons_succ, h_tab])
theorem rowD_length {m : Nat} {f : Nat → Int} : (rowD m f).length = m + 1 := by simp [rowD]
theorem rowD_get {m : Nat} {f : Nat → Int} {j : Nat} (h : j ≤ m) : (rowD m f)[j]? = some (D.int (f j)) := by
  unfold rowD
  rw [List.getElem?_map, List.getElem?_range (by omega)]
  rfl
theorem rowD_congr {m : Nat} {f g : Nat → Int} (h : ∀ j, j ≤ m → f j = g j) : rowD m f = rowD m g := by
  unfold rowD
  refine List.map_congr_left fun j hj => ?_
  rw [h j (by have := List.mem_range.mp hj; omega)]
theorem rowD_set {m : Nat} {f : Nat → Int} {j : Nat} {z : Int} (h : j ≤ m) : (rowD m f).set j (D.int z) = rowD m fun k => if k = j then z else f k := by
  apply List.ext_getElem?
  intro k
  by_cases hk : k ≤ m
  · by_cases e : j = k
    · subst e
      rw [List.getElem?_set_self (by rw [rowD_length]; omega), rowD_get hk, if_pos rfl]
    · rw [List.getElem?_set_ne e, rowD_get hk, rowD_get hk, if_neg (fun z => e z.symm)]
  · rw [List.getElem?_eq_none (by rw [List.length_set, rowD_length]; omega), List.getElem?_eq_none (by rw [rowD_length]; omega)]
theorem set_row {m : Nat} {f : Nat → Int} {j : Nat} {z : Int} (h : j ≤ m) : setAt (.lst (rowD m f)) (j : Int) (.int z) = some (.lst (rowD m fun k => if k = j then z else f k)) := by
  unfold setAt
  have e : ixN (rowD m f).length (j : Int) = some j := by
    rw [rowD_length]
    unfold ixN
    simp
    omega
  simp only [e]
  rw [rowD_set h]
theorem rep_row {m : Nat} (h : m ≤ 1000) : fMul (.lst [.int 0]) (.int ((m : Int) + 1)) = some (.n (.lst (rowD m fun _ => 0))) := by
  have e : (List.replicate ((m : Int) + 1).toNat [D.int 0]).flatten = rowD m fun _ => 0 := by
    rw [show ((m : Int) + 1).toNat = m + 1 by omega, List.flatten_replicate_singleton]
    unfold rowD
    rw [List.map_const', List.length_range]
  show (if repOk 1 ((m : Int) + 1) = true then some (RW.n (.lst (List.replicate ((m : Int) + 1).toNat [D.int 0]).flatten)) else none) = _
  rw [if_pos (by unfold repOk; simp; unfold LN; omega), e]
def tabK (xs ys : List D) (k : Nat) : List D := (List.range (k + 1)).map fun a => .lst (rowD ys.length fun j => lcsD (xs.drop (xs.length - k + a)) (ys.drop j))
theorem tabK_length {xs ys : List D} {k : Nat} : (tabK xs ys k).length = k + 1 := by simp [tabK]
theorem tabK_0 {xs ys : List D} : tabK xs ys 0 = [.lst (rowD ys.length fun _ => 0)] := by
  show [D.lst (rowD ys.length fun j => lcsD (xs.drop (xs.length - 0 + 0)) (ys.drop j))] = _
  congr 2
  refine rowD_congr fun j _ => ?_
  rw [List.drop_eq_nil_of_le (by omega), lcsD_nil']
theorem tabK_succ {xs ys : List D} {k : Nat} (h : k < xs.length) : tabK xs ys (k + 1) = .lst (rowD ys.length fun j => lcsD (xs.drop (xs.length - 1 - k)) (ys.drop j)) :: tabK xs ys k := by
  unfold tabK
  rw [List.range_succ_eq_map, List.map_cons, List.map_map]
  congr 1
  · rw [show xs.length - (k + 1) + 0 = xs.length - 1 - k by omega]
  · refine List.map_congr_left fun a _ => ?_
    show D.lst (rowD ys.length fun j => lcsD (xs.drop (xs.length - (k + 1) + (a + 1))) (ys.drop j)) = _
    rw [show xs.length - (k + 1) + (a + 1) = xs.length - k + a by omega]
theorem tabK_all {xs ys : List D} : D.lst (tabK xs ys xs.length) = tableD xs ys := by
  unfold tabK tableD
  congr 1
  refine List.map_congr_left fun a _ => ?_
  rw [show xs.length - xs.length + a = a by omega]
theorem tabK_ix {xs ys : List D} {k : Nat} : fIx (.lst (tabK xs ys k)) (.int 0) = some (.v (.lst (rowD ys.length fun j => lcsD (xs.drop (xs.length - k)) (ys.drop j)))) := by
  refine ix_nat (by omega) ?_
  unfold tabK
  rw [List.getElem?_map, show Int.toNat 0 = 0 from rfl, List.getElem?_range (by omega)]
  rfl
def rowI (ys : List D) (zs : List D) (kk : Nat) : List D := rowD ys.length fun j => if ys.length - kk ≤ j then lcsD zs (ys.drop j) else 0
theorem rowI_0 {ys zs : List D} : rowI ys zs 0 = rowD ys.length fun _ => 0 := by
  refine rowD_congr fun j _ => ?_
  split
  · rw [List.drop_eq_nil_of_le (by omega), lcsD_nil]
  · rfl
theorem rowI_all {ys zs : List D} : rowI ys zs ys.length = rowD ys.length fun j => lcsD zs (ys.drop j) := by
  refine rowD_congr fun j _ => ?_
  rw [if_pos (by omega)]
theorem inner_ok {xs ys : List D} (hc : cmpOk xs ys = true) (hx : xs.length ≤ 1000) (hy : ys.length ≤ 1000) {k : Nat} (hk : k < xs.length) {t a3 x7 x8 : SV} (l7 : freeOf (some x7) = true) (l8 : freeOf (some x8) = true) :
    ∃ y7 y8, forD (gN 7) (dSeq (dSet 8 (dOp fSub (dOp fSub (dCB fLen (dCons (dVar 1) dNil)) (dC (.int 1))) (dVar 7)))
 (dSeq (dPutL 6 (dVar 8) (dCB fMax (dCons (dOp fIx (dVar 5) (dVar 8)) (dCons (dOp fIx (dVar 6) (dOp fAdd (dVar 8) (dC (.int 1)))) dNil))))
 (dIf (dTest (dOp fEq (dVar 4) (dOp fIx (dVar 1) (dVar 8))))
 (dPutL 6 (dVar 8) (dSh (dOp fAdd (dOp fIx (dVar 5) (dOp fAdd (dVar 8) (dC (.int 1)))) (dC (.int 1)))))
 dNext))) (rngD 0 ys.length) [.sh (.lst xs), .sh (.lst ys), t, a3, .sh xs[xs.length - 1 - k], .sh (.lst (rowD ys.length fun j => lcsD (xs.drop (xs.length - k)) (ys.drop j))), .ow (.lst (rowD ys.length fun _ => 0)), x7, x8, .un, .un] =
    some (.nx [.sh (.lst xs), .sh (.lst ys), t, a3, .sh xs[xs.length - 1 - k], .sh (.lst (rowD ys.length fun j => lcsD (xs.drop (xs.length - k)) (ys.drop j))), .ow (.lst (rowD ys.length fun j => lcsD (xs.drop (xs.length - 1 - k)) (ys.drop j))), y7, y8, .un, .un]) ∧ freeOf (some y7) = true ∧ freeOf (some y8) = true := by
  have hk1 : xs.length - 1 - k < xs.length := by omega
  have dx : xs.drop (xs.length - 1 - k) = xs[xs.length - 1 - k] :: xs.drop (xs.length - k) := by
    rw [List.drop_eq_getElem_cons hk1, show xs.length - 1 - k + 1 = xs.length - k by omega]
  obtain ⟨δ', e, y7, y8, rfl, q7, q8⟩ := for_rng (tg := gN 7) (body := dSeq (dSet 8 (dOp fSub (dOp fSub (dCB fLen (dCons (dVar 1) dNil)) (dC (.int 1))) (dVar 7)))
 (dSeq (dPutL 6 (dVar 8) (dCB fMax (dCons (dOp fIx (dVar 5) (dVar 8)) (dCons (dOp fIx (dVar 6) (dOp fAdd (dVar 8) (dC (.int 1)))) dNil))))
 (dIf (dTest (dOp fEq (dVar 4) (dOp fIx (dVar 1) (dVar 8))))
 (dPutL 6 (dVar 8) (dSh (dOp fAdd (dOp fIx (dVar 5) (dOp fAdd (dVar 8) (dC (.int 1)))) (dC (.int 1)))))
 dNext))) (n := ys.length) (P := fun kk δ => ∃ y7 y8, δ = [.sh (.lst xs), .sh (.lst ys), t, a3, .sh xs[xs.length - 1 - k], .sh (.lst (rowD ys.length fun j => lcsD (xs.drop (xs.length - k)) (ys.drop j))), .ow (.lst (rowI ys (xs.drop (xs.length - 1 - k)) kk)), y7, y8, .un, .un] ∧ freeOf (some y7) = true ∧ freeOf (some y8) = true) (by
    rintro kk _ hkk ⟨y7, y8, rfl, q7, q8⟩
    have hj : ys.length - 1 - kk < ys.length := by omega
    have ej : ((ys.length : Int) - 1 - (kk : Int)) = ((ys.length - 1 - kk : Nat) : Int) := by omega
    generalize hjj : ys.length - 1 - kk = j at hj ej
    have dy : ys.drop j = ys[j] :: ys.drop (j + 1) := List.drop_eq_getElem_cons hj
    have he := cmp_get hc hk1 hj
    have g1 := cell_ix (m := ys.length) (f := fun j => lcsD (xs.drop (xs.length - k)) (ys.drop j)) (j := j) (by omega)
    have g2 : fIx (.lst (rowI ys (xs.drop (xs.length - 1 - k)) kk)) (.int ((j : Int) + 1)) = some (.v (.int (lcsD (xs.drop (xs.length - 1 - k)) (ys.drop (j + 1))))) := by
      have := cell_ix (m := ys.length) (f := fun j => if ys.length - kk ≤ j then lcsD (xs.drop (xs.length - 1 - k)) (ys.drop j) else 0) (j := j + 1) (by omega)
      rw [if_pos (by omega)] at this
      exact this
    have g3 := cell_ix (m := ys.length) (f := fun j => lcsD (xs.drop (xs.length - k)) (ys.drop j)) (j := j + 1) (by omega)
    rw [show ((j + 1 : Nat) : Int) = (j : Int) + 1 from rfl] at g3
    have q0 : gN 7 (.int kk) [.sh (.lst xs), .sh (.lst ys), t, a3, .sh xs[xs.length - 1 - k], .sh (.lst (rowD ys.length fun j => lcsD (xs.drop (xs.length - k)) (ys.drop j))), .ow (.lst (rowI ys (xs.drop (xs.length - 1 - k)) kk)), y7, y8, .un, .un] = some [.sh (.lst xs), .sh (.lst ys), t, a3, .sh xs[xs.length - 1 - k], .sh (.lst (rowD ys.length fun j => lcsD (xs.drop (xs.length - k)) (ys.drop j))), .ow (.lst (rowI ys (xs.drop (xs.length - 1 - k)) kk)), .sh (.int kk), y8, .un, .un] := gN_free q7
    refine ⟨_, [.sh (.lst xs), .sh (.lst ys), t, a3, .sh xs[xs.length - 1 - k], .sh (.lst (rowD ys.length fun j => lcsD (xs.drop (xs.length - k)) (ys.drop j))), .ow (.lst (rowI ys (xs.drop (xs.length - 1 - k)) (kk + 1))), .sh (.int kk), .sh (.int j), .un, .un], q0, .inl ?_, _, _, rfl, rfl, rfl⟩
    walk_at "ds"
    rw [q8]
    walk_at "ds"
    rw [ej]
    rw [g1]
    walk_at "ds"
    rw [g2]
    walk_at "ds"
    unfold rowI
    rw [set_row (by omega)]
    walk_at "ds"
    rw [item_ix hj]
    walk_at "ds"
    rw [he]
    have hl : ∀ j', j' ≤ ys.length → (if ys.length - (kk + 1) ≤ j' then lcsD (xs.drop (xs.length - 1 - k)) (ys.drop j') else 0) = if j' = j then lcsD (xs.drop (xs.length - 1 - k)) (ys.drop j) else (if ys.length - kk ≤ j' then lcsD (xs.drop (xs.length - 1 - k)) (ys.drop j') else 0) := by
      intro j' _
      by_cases e1 : j' = j
      · subst e1
        rw [if_pos rfl, if_pos (by omega)]
      · rw [if_neg e1]
        by_cases e2 : ys.length - kk ≤ j'
        · rw [if_pos e2, if_pos (by omega)]
        · rw [if_neg e2, if_neg (by omega)]
    rw [rowD_congr hl]
    cases e : eqB xs[xs.length - 1 - k] ys[j] with
    | true =>
      walk_at "ds"
      rw [g3]
      walk_at "ds"
      rw [set_row (by omega)]
      walk_at "ds"
      have hv : lcsD (xs.drop (xs.length - 1 - k)) (ys.drop j) = lcsD (xs.drop (xs.length - k)) (ys.drop (j + 1)) + 1 := by
        rw [dx, dy, lcsD, if_pos e]
      exact congrArg (fun r => some (SO.nx [.sh (.lst xs), .sh (.lst ys), t, a3, .sh xs[xs.length - 1 - k], .sh (.lst (rowD ys.length fun j => lcsD (xs.drop (xs.length - k)) (ys.drop j))), .ow (.lst r), .sh (.int kk), .sh (.int j), .un, .un])) (rowD_congr fun j' _ => by
        by_cases e1 : j' = j
        · rw [if_pos e1, if_pos e1, hv]
        · simp only [if_neg e1])
    | false =>
      walk_at "ds"
      have hv : lcsD (xs.drop (xs.length - 1 - k)) (ys.drop j) = if lcsD (xs.drop (xs.length - 1 - k)) (ys.drop (j + 1)) > lcsD (xs.drop (xs.length - k)) (ys.drop j) then lcsD (xs.drop (xs.length - 1 - k)) (ys.drop (j + 1)) else lcsD (xs.drop (xs.length - k)) (ys.drop j) := by
        rw [dx, dy, lcsD, if_neg (by rw [e]; decide)]
      exact congrArg (fun r => some (SO.nx [.sh (.lst xs), .sh (.lst ys), t, a3, .sh xs[xs.length - 1 - k], .sh (.lst (rowD ys.length fun j => lcsD (xs.drop (xs.length - k)) (ys.drop j))), .ow (.lst r), .sh (.int kk), .sh (.int j), .un, .un])) (rowD_congr fun j' _ => by
        by_cases e1 : j' = j
        · rw [if_pos e1, if_pos e1, hv]
        · simp only [if_neg e1])) (δ0 := [.sh (.lst xs), .sh (.lst ys), t, a3, .sh xs[xs.length - 1 - k], .sh (.lst (rowD ys.length fun j => lcsD (xs.drop (xs.length - k)) (ys.drop j))), .ow (.lst (rowD ys.length fun _ => 0)), x7, x8, .un, .un]) ⟨x7, x8, by rw [rowI_0], l7, l8⟩
  refine ⟨y7, y8, ?_, q7, q8⟩
  rw [e, rowI_all]
def stK (xs ys : List D) (t x3 x4 x5 x6 x7 x8 : SV) : DS := [.sh (.lst xs), .sh (.lst ys), t, x3, x4, x5, x6, x7, x8, .un, .un]
def stQ (xs ys : List D) (i j : Nat) (x4 x5 x6 x7 x10 : SV) (ps : List (Nat × Nat)) : DS := [.sh (.lst xs), .sh (.lst ys), .ow (tableD xs ys), .sh (.int i), x4, x5, x6, x7, .sh (.int j), .ow (.lst (ps.map prD)), x10]
theorem kept_ok {xs ys : List D} (hc : cmpOk xs ys = true) (hx : xs.length ≤ 1000) (hy : ys.length ≤ 1000) : f_law_kept [.lst xs, .lst ys] = some (.rt (.s (.lst ((walkP xs ys 0 0).map prD))) .non) := by
  unfold f_law_kept b_law_kept
  walk_at "ds"
  rw [rep_row hy]
  walk_at "ds"
  rw [k_rg1 (by rw [BIG_eq]; omega)]
  walk_at "ds"
  rw [Int.toNat_natCast]
  generalize hF : forD _ _ _ _ = o
  obtain ⟨δ', rfl, x3, x4, x5, x6, x7, x8, rfl, l3, l4, l5, l6, l7, l8⟩ : ∃ δ', o = some (.nx δ') ∧ ∃ x3 x4 x5 x6 x7 x8, δ' = stK xs ys (.ow (.lst (tabK xs ys xs.length))) x3 x4 x5 x6 x7 x8 ∧ freeOf (some x3) = true ∧ freeOf (some x4) = true ∧ freeOf (some x5) = true ∧ freeOf (some x6) = true ∧ freeOf (some x7) = true ∧ freeOf (some x8) = true := by
    rw [← hF]
    refine for_rng (P := fun k δ' => ∃ x3 x4 x5 x6 x7 x8, δ' = stK xs ys (.ow (.lst (tabK xs ys k))) x3 x4 x5 x6 x7 x8 ∧ freeOf (some x3) = true ∧ freeOf (some x4) = true ∧ freeOf (some x5) = true ∧ freeOf (some x6) = true ∧ freeOf (some x7) = true ∧ freeOf (some x8) = true) ?_ ⟨.un, .un, .un, .un, .un, .un, by rw [tabK_0]; rfl, rfl, rfl, rfl, rfl, rfl, rfl⟩
    rintro k _ hk ⟨x3, x4, x5, x6, x7, x8, rfl, l3, l4, l5, l6, l7, l8⟩
    obtain ⟨y7, y8, e, q7, q8⟩ := inner_ok hc hx hy hk (t := .ow (.lst (tabK xs ys k))) (a3 := .sh (.int k)) l7 l8
    have q0 : gN 3 (.int k) (stK xs ys (.ow (.lst (tabK xs ys k))) x3 x4 x5 x6 x7 x8) = some (stK xs ys (.ow (.lst (tabK xs ys k))) (.sh (.int k)) x4 x5 x6 x7 x8) := gN_free l3
    refine ⟨_, stK xs ys (.ow (.lst (tabK xs ys (k + 1)))) (.sh (.int k)) (.sh xs[xs.length - 1 - k]) (.sh (.lst (rowD ys.length fun j => lcsD (xs.drop (xs.length - k)) (ys.drop j)))) (.sh (.lst (rowD ys.length fun j => lcsD (xs.drop (xs.length - 1 - k)) (ys.drop j)))) y7 y8, q0, .inl ?_, _, _, _, _, _, _, rfl, rfl, rfl, rfl, rfl, q7, q8⟩
    unfold stK
    walk_at "ds"
    rw [show ((xs.length : Int) - 1 - (k : Int)) = ((xs.length - 1 - k : Nat) : Int) by omega, item_ix (by omega)]
    walk_at "ds"
    rw [l4]
    walk_at "ds"
    rw [tabK_ix]
    walk_at "ds"
    rw [l5]
    walk_at "ds"
    rw [rep_row hy]
    walk_at "ds"
    rw [l6]
    walk_at "ds"
    rw [k_rg1 (by rw [BIG_eq]; omega)]
    walk_at "ds"
    rw [Int.toNat_natCast, e]
    walk_at "ds"
    rw [o_addL (by rw [tabK_length, List.length_singleton]; unfold LN; omega)]
    walk_at "ds"
    rw [tabK_succ hk]
  rw [tabK_all]
  unfold stK
  walk_at "ds"
  rw [l3]
  walk_at "ds"
  rw [l8]
  walk_at "ds"
  rw [k_rg1 (by rw [BIG_eq]; omega)]
  walk_at "ds"
  rw [show ((xs.length : Int) + (ys.length : Int)).toNat = xs.length + ys.length by omega]
  clear hF
  generalize hF : forD _ _ _ _ = o
  obtain ⟨δ', rfl, i, j, y4, y5, y6, y7, y10, rfl⟩ : ∃ δ', o = some (.nx δ') ∧ ∃ i j y4 y5 y6 y7 y10, δ' = stQ xs ys i j y4 y5 y6 y7 y10 (walkP xs ys 0 0) := by
    rw [← hF]
    refine for_rngB (P := fun t δ' => ∃ i j y4 y5 y6 y7 y10 ps, δ' = stQ xs ys i j y4 y5 y6 y7 y10 ps ∧ freeOf (some y10) = true ∧ i ≤ xs.length ∧ j ≤ ys.length ∧ t ≤ i + j ∧ ps.length ≤ i ∧ ps ++ walkP (xs.drop i) (ys.drop j) i j = walkP xs ys 0 0) ?_ ?_ ⟨0, 0, x4, x5, x6, x7, .un, [], rfl, rfl, Nat.zero_le _, Nat.zero_le _, Nat.zero_le _, Nat.zero_le _, by rw [List.drop_zero, List.drop_zero, List.nil_append]⟩
    · rintro _ ⟨i, j, y4, y5, y6, y7, y10, ps, rfl, -, hi, hj, ht, -, hp⟩
      refine ⟨i, j, y4, y5, y6, y7, y10, ?_⟩
      rw [List.drop_eq_nil_of_le (as := xs) (by omega), walkP_nil', List.append_nil] at hp
      rw [hp]
    · rintro t _ ht ⟨i, j, y4, y5, y6, y7, y10, ps, rfl, l10, hi, hj, htj, hl, hp⟩
      have q0 : gN 10 (.int t) (stQ xs ys i j y4 y5 y6 y7 y10 ps) = some (stQ xs ys i j y4 y5 y6 y7 (.sh (.int t)) ps) := gN_free l10
      by_cases h1 : i < xs.length
      · by_cases h2 : j < ys.length
        · have dx : xs.drop i = xs[i] :: xs.drop (i + 1) := List.drop_eq_getElem_cons h1
          have dy : ys.drop j = ys[j] :: ys.drop (j + 1) := List.drop_eq_getElem_cons h2
          have hx' : decide ((i : Int) = (xs.length : Int)) = false := decide_eq_false (by omega)
          have hy' : decide ((j : Int) = (ys.length : Int)) = false := decide_eq_false (by omega)
          rw [dx, dy] at hp
          have he := cmp_get hc h1 h2
          cases e : eqB xs[i] ys[j] with
          | true =>
            rw [walkP_eq e] at hp
            rw [e] at he
            refine ⟨_, stQ xs ys (i + 1) (j + 1) y4 y5 y6 y7 (.sh (.int t)) (ps ++ [(i, j)]), q0, .inl ⟨.inl ?_, i + 1, j + 1, _, _, _, _, _, ps ++ [(i, j)], rfl, rfl, h1, h2, by omega, by rw [List.length_append, List.length_singleton]; omega, by rw [List.append_assoc]; exact hp⟩⟩
            unfold stQ
            walk_at "ds"
            rw [hx']
            walk_at "ds"
            rw [hy']
            walk_at "ds"
            rw [item_ix h1]
            walk_at "ds"
            rw [item_ix h2]
            walk_at "ds"
            rw [he]
            walk_at "ds"
            rw [o_app (by rw [List.length_map]; unfold LN; omega)]
            walk_at "ds"
            rw [List.map_append]
            rfl
          | false =>
            rw [e] at he
            have g1 := row_ix (xs := xs) (ys := ys) (i := i + 1) (by omega)
            have g2 := row_ix (xs := xs) (ys := ys) (i := i) (by omega)
            have g3 := cell_ix (m := ys.length) (f := fun j => lcsD (xs.drop (i + 1)) (ys.drop j)) (j := j) (by omega)
            have g4 := cell_ix (m := ys.length) (f := fun j => lcsD (xs.drop i) (ys.drop j)) (j := j + 1) (by omega)
            rw [show ((i + 1 : Nat) : Int) = (i : Int) + 1 from rfl] at g1
            rw [show ((j + 1 : Nat) : Int) = (j : Int) + 1 from rfl] at g4
            by_cases m : lcsD (xs.drop i) (ys.drop (j + 1)) ≤ lcsD (xs.drop (i + 1)) (ys.drop j)
            · have m' := m
              rw [dx, dy] at m'
              rw [walkP_l e m', ← dy] at hp
              refine ⟨_, stQ xs ys (i + 1) j y4 y5 y6 y7 (.sh (.int t)) ps, q0, .inl ⟨.inl ?_, i + 1, j, _, _, _, _, _, ps, rfl, rfl, h1, hj, by omega, by omega, hp⟩⟩
              unfold stQ
              walk_at "ds"
              rw [hx']
              walk_at "ds"
              rw [hy']
              walk_at "ds"
              rw [item_ix h1]
              walk_at "ds"
              rw [item_ix h2]
              walk_at "ds"
              rw [he]
              walk_at "ds"
              rw [g1]
              walk_at "ds"
              rw [g3]
              walk_at "ds"
              rw [g2]
              walk_at "ds"
              rw [g4]
              walk_at "ds"
              rw [decide_eq_true m]
              walk_at "ds"
              rfl
            · have m' := m
              rw [dx, dy] at m'
              rw [walkP_r e m', ← dx] at hp
              refine ⟨_, stQ xs ys i (j + 1) y4 y5 y6 y7 (.sh (.int t)) ps, q0, .inl ⟨.inl ?_, i, j + 1, _, _, _, _, _, ps, rfl, rfl, hi, h2, by omega, hl, hp⟩⟩
              unfold stQ
              walk_at "ds"
              rw [hx']
              walk_at "ds"
              rw [hy']
              walk_at "ds"
              rw [item_ix h1]
              walk_at "ds"
              rw [item_ix h2]
              walk_at "ds"
              rw [he]
              walk_at "ds"
              rw [g1]
              walk_at "ds"
              rw [g3]
              walk_at "ds"
              rw [g2]
              walk_at "ds"
              rw [g4]
              walk_at "ds"
              rw [decide_eq_false m]
              walk_at "ds"
              rfl
        · rw [List.drop_eq_nil_of_le (as := ys) (by omega), walkP_nil, List.append_nil] at hp
          subst hp
          refine ⟨_, stQ xs ys i j y4 y5 y6 y7 (.sh (.int t)) (walkP xs ys 0 0), q0, .inr ⟨?_, i, j, _, _, _, _, _, rfl⟩⟩
          unfold stQ
          walk_at "ds"
          rw [decide_eq_false (by omega)]
          walk_at "ds"
          rw [decide_eq_true (by omega)]
          walk_at "ds"
      · rw [List.drop_eq_nil_of_le (as := xs) (by omega), walkP_nil', List.append_nil] at hp
        subst hp
        refine ⟨_, stQ xs ys i j y4 y5 y6 y7 (.sh (.int t)) (walkP xs ys 0 0), q0, .inr ⟨?_, i, j, _, _, _, _, _, rfl⟩⟩
        unfold stQ
        walk_at "ds"
        rw [decide_eq_true (by omega)]
        walk_at "ds"
  unfold stQ
  walk_at "ds"
end DL
namespace DL
open PySem PySem.Spec PyProof.Rows L2
local macro_rules | `(tactic| walk_at "ds") => `(tactic| simp (config := { maxSteps := 1000000, implicitDefEqProofs := false }) only [e_seq, bindB_nx, bindB_rt, bindB_bk, bindB_ct, bindB_ex, e_next, e_break, e_cont, e_retN, e_drop, k_drop, e_ret, k_ret, e_if, k_ifT, k_ifF, e_set, x_setS, x_setO, x_se1, e_putK, e_putL, e_unp, k_unp, toNx_s, e_c, e_var, v_sh, v_ow, v_io, e_varF, vF_sh, vF_ow, e_sh, k_shS, k_shO, e_op, k_op1, k_op2, an2_s, ans_v, ans_n, ans_t, e_un, k_un, an1_s, c_s, c_o, c_b, cOf_ow, cOf_io, h_lst, h_dk, h_dt, h_ins, e_nil, e_cons, k_cons1, k_cons2, e_cb, k_cb, anN_s, cs_nil, cs_cons, cs2_s, e_tup, e_lst, e_noPart, e_part, k_part, e_sl, k_sl1, k_sl2, k_sl3, anS_s, e_bm, e_test, k_test, e_and, e_or, e_not, k_andT, k_andF, k_orT, k_orF, k_not, e_andV, e_orV, e_notV, k_andVT, k_andVF, k_orVT, k_orVF, k_notV, e_ifE, k_ifET, k_ifEF, e_call, sAll_nil, sAll_s, cs1_s, slotD_ap, slotOf_ow, slotOf_io, wr_ap, wrOf_ow, wrOf_io, free_ap, free_un, free_sh, free_ow, o_add, o_sub, o_neg, o_lt, o_le, o_gt, o_ge, o_int, o_len, o_lenT, o_list, o_listT, o_tuple, o_tupleT, o_eqI, o_neI, o_rev, o_min, o_max, e_run, out_nx, out_rt, fin_0s, fin_0o, fin_1s, fin_1o, st_1, st_0, bindR_ok, bindS_ok, List.length_cons, List.length_nil, List.map_cons, List.map_nil, List.replicate, List.cons_append, List.nil_append, List.getElem?_cons_zero, List.getElem?_cons_succ, List.set_cons_zero, List.set_cons_succ, Nat.reduceAdd, Nat.reduceSub, Nat.reduceEqDiff, reduceIte, Bool.not_true, Bool.not_false, decide_true, decide_false, if_true, if_false, x_mut, x_mutL, x_mutK, x_mut2, x_mut3, x_mut4, x_tup, x_tup0, x_tup1, x_tup2, x_tup3, x_tup4, x_tup5, x_lst, x_lst0, x_lst1, x_lst2, x_lst3, x_lst4, x_pk1, x_pk2, x_pk3, x_pk4, x_pk5, x_pl1, x_pl2, x_pl3, x_pl4, x_call0, x_co0, x_call1, x_co1, x_finS, x_finO, x_finX, x_bm, x_bmS, x_bmL, x_bmK, x_bm2, x_bm3, x_lc, x_lcT, x_lc2, x_liN, x_liC, x_liU, x_liS, x_reN, x_reC, x_wiN, x_wiC, x_for, x_gN, x_gn1, x_gT, x_gsC, x_gs1, x_gsN, x_yes, e_lc, e_for, e_iseq, k_iseq, e_itup, k_itup, e_rg1, e_rg2, Bool.and_true, Bool.true_and, List.getD_cons_zero, List.getD_cons_succ])
/-- a loop over a list, by what is left of it -/
theorem for_map {tg : DG} {body : DB} {α : Type} (f : α → D) {P : List α → DS → Prop} (step : ∀ a as δ, P (a :: as) δ → ∃ δ1 δ2, tg (f a) δ = some δ1 ∧ (body δ1 = some (.nx δ2) ∨ body δ1 = some (.ct δ2)) ∧ P as δ2) : ∀ (as : List α) (δ : DS), P as δ → ∃ δ', forD tg body (as.map f) δ = some (.nx δ') ∧ P [] δ'
  | [], δ, p => ⟨δ, for_nil, p⟩
  | a :: as, δ, p => by
    obtain ⟨δ1, δ2, h1, h2, p2⟩ := step a as δ p
    obtain ⟨δ', e, q⟩ := for_map f step as δ2 p2
    exact ⟨δ', by rw [List.map_cons, for_nx h1 h2, e], q⟩
theorem for_list {tg : DG} {body : DB} {P : List D → DS → Prop} (step : ∀ a as δ, P (a :: as) δ → ∃ δ1 δ2, tg a δ = some δ1 ∧ (body δ1 = some (.nx δ2) ∨ body δ1 = some (.ct δ2)) ∧ P as δ2) (as : List D) (δ : DS) (p : P as δ) : ∃ δ', forD tg body as δ = some (.nx δ') ∧ P [] δ' := by
  obtain ⟨δ', e, q⟩ := for_map (tg := tg) (body := body) id step as δ p
  rw [List.map_id] at e
  exact ⟨δ', e, q⟩
def sl (xs : List D) (i b : Nat) : List D := (xs.drop i).take (b - i)
theorem cut_nat {xs : List D} {i b : Nat} : cutD xs (some i) (some b) = sl xs i b := by
  unfold cutD sl
  rw [HT.sIx_nat, HT.sIx_nat]
  apply List.ext_getElem?
  intro k
  simp only [List.getElem?_take, List.getElem?_drop]
  by_cases h : min i xs.length + k < xs.length
  · by_cases h2 : i ≤ xs.length
    · rw [Nat.min_eq_left h2]
      by_cases h3 : k < b - i
      · rw [if_pos h3, if_pos (by omega)]
      · rw [if_neg h3, if_neg (by omega)]
    · omega
  · rw [List.getElem?_eq_none (by omega : xs.length ≤ min i xs.length + k), List.getElem?_eq_none (by omega : xs.length ≤ i + k)]
    split <;> split <;> rfl
theorem sl_nat {xs : List D} {i b : Nat} : fSl (.lst xs) (some (i : Int)) (some (b : Int)) = some (.n (.lst (sl xs i b))) := by
  rw [← cut_nat]
  rfl
abbrev Ed := Nat × List D × List D
def edD (e : Ed) : D := .tup [.int e.1, .tup e.2.1, .tup e.2.2]
def edW (xs ys : List D) : Nat → Nat → List (Nat × Nat) → List Ed
  | _, _, [] => []
  | i, j, (b, a) :: ps => (if i < b ∨ j < a then [(i, sl xs i b, sl ys j a)] else []) ++ edW xs ys (b + 1) (a + 1) ps
theorem edW_length {xs ys : List D} : ∀ (ps : List (Nat × Nat)) (i j : Nat), (edW xs ys i j ps).length ≤ ps.length
  | [], _, _ => Nat.le_refl _
  | (b, a) :: ps, i, j => by
    rw [edW, List.length_append, List.length_cons]
    have := edW_length (xs := xs) (ys := ys) ps (b + 1) (a + 1)
    split
    · rw [List.length_singleton]; omega
    · rw [List.length_nil]; omega
theorem walkP_length : ∀ (xs ys : List D) (i j : Nat), (walkP xs ys i j).length ≤ xs.length
  | [], ys, i, j => by rw [walkP_nil']; exact Nat.zero_le _
  | x :: xs, [], i, j => by rw [walkP_nil]; exact Nat.zero_le _
  | x :: xs, y :: ys, i, j => by
    rw [walkP]
    split
    · rw [List.length_cons, List.length_cons]
      exact Nat.succ_le_succ (walkP_length xs ys _ _)
    · split
      · exact Nat.le_succ_of_le (walkP_length xs (y :: ys) _ _)
      · exact walkP_length (x :: xs) ys _ _
termination_by xs ys => xs.length + ys.length
def edsL (xs ys : List D) : List Ed := edW xs ys 0 0 (walkP xs ys 0 0 ++ [(xs.length, ys.length)])
def stE (xs ys : List D) (es : List Ed) (i j : Nat) (x5 x6 : SV) : DS := [.sh (.lst xs), .sh (.lst ys), .ow (.lst (es.map edD)), .sh (.int i), .sh (.int j), x5, x6]
theorem edits_ok {f : List D → Option FR} {xs ys : List D} (hf : f [.lst xs, .lst ys] = some (.rt (.s (.lst ((walkP xs ys 0 0).map prD))) .non)) (hx : xs.length ≤ 1000) (hy : ys.length ≤ 1000) :
    runD false false 7 2 (dSeq (dSet 2 (dLst dNil))
 (dSeq (dSet 3 (dC (.int 0)))
 (dSeq (dSet 4 (dC (.int 0)))
 (dSeq (dFor (iSeq (dOp fAdd (dCall false f (dCons (dVarF 0) (dCons (dVarF 1) dNil))) (dLst (dCons (dTup (dCons (dCB fLen (dCons (dVar 0) dNil)) (dCons (dCB fLen (dCons (dVar 1) dNil)) dNil))) dNil)))) (gT 2 (gsC (gN 5) (gsC (gN 6) gsN)))
 (dSeq (dIf (dOr (dTest (dOp fGt (dVar 5) (dVar 3))) (dTest (dOp fGt (dVar 6) (dVar 4))))
 (dDrop (dMut "list" fAppend 2 (dCons (dTup (dCons (dVarF 3) (dCons (dCB fTuple (dCons (dSl fSl (dVar 0) (dPart (dVar 3)) (dPart (dVar 5))) dNil)) (dCons (dCB fTuple (dCons (dSl fSl (dVar 1) (dPart (dVar 4)) (dPart (dVar 6))) dNil)) dNil)))) dNil)))
 dNext)
 (dSeq (dSet 3 (dOp fAdd (dVar 5) (dC (.int 1))))
 (dSet 4 (dOp fAdd (dVar 6) (dC (.int 1)))))))
 (dRet (dVarF 2)))))) [.lst xs, .lst ys] = some (.rt (.s (.lst ((edsL xs ys).map edD))) .non) := by
  walk_at "ds"
  rw [hf]
  walk_at "ds"
  have hw := walkP_length xs ys 0 0
  rw [o_addL (by rw [List.length_map, List.length_singleton]; unfold LN; omega)]
  walk_at "ds"
  rw [show (walkP xs ys 0 0).map prD ++ [D.tup [.int xs.length, .int ys.length]] = (walkP xs ys 0 0 ++ [(xs.length, ys.length)]).map prD by rw [List.map_append]; rfl]
  generalize hF : forD _ _ _ _ = o
  obtain ⟨δ', rfl, i, j, es, x5, x6, rfl, -, -, he, -⟩ : ∃ δ', o = some (.nx δ') ∧ ∃ i j es x5 x6, δ' = stE xs ys es i j x5 x6 ∧ freeOf (some x5) = true ∧ freeOf (some x6) = true ∧ es ++ edW xs ys i j [] = edsL xs ys ∧ es.length + ([] : List (Nat × Nat)).length ≤ 1001 := by
    rw [← hF]
    refine for_map prD (P := fun r δ' => ∃ i j es x5 x6, δ' = stE xs ys es i j x5 x6 ∧ freeOf (some x5) = true ∧ freeOf (some x6) = true ∧ es ++ edW xs ys i j r = edsL xs ys ∧ es.length + r.length ≤ 1001) ?_ _ _ ⟨0, 0, [], .un, .un, rfl, rfl, rfl, rfl, by rw [List.length_nil, List.length_append, List.length_singleton]; omega⟩
    rintro ⟨b, a⟩ r _ ⟨i, j, es, x5, x6, rfl, l5, l6, he, hl⟩
    rw [List.length_cons] at hl
    have q0 : gT 2 (gsC (gN 5) (gsC (gN 6) gsN)) (prD (b, a)) (stE xs ys es i j x5 x6) = some (stE xs ys es i j (.sh (.int b)) (.sh (.int a))) := by
      unfold prD stE
      walk_at "ds"
      rw [l5]
      walk_at "ds"
      rw [l6]
      walk_at "ds"
    by_cases h : i < b ∨ j < a
    · refine ⟨_, stE xs ys (es ++ [(i, sl xs i b, sl ys j a)]) (b + 1) (a + 1) (.sh (.int b)) (.sh (.int a)), q0, .inl ?_, _, _, _, _, _, rfl, rfl, rfl, by rw [edW, if_pos h] at he; rw [List.append_assoc]; exact he, by rw [List.length_append, List.length_singleton]; omega⟩
      have hb : (dOr (dTest (dOp fGt (dVar 5) (dVar 3))) (dTest (dOp fGt (dVar 6) (dVar 4)))) (stE xs ys es i j (.sh (.int b)) (.sh (.int a))) = some (.ok true (stE xs ys es i j (.sh (.int b)) (.sh (.int a)))) := by
        unfold stE
        walk_at "ds"
        by_cases h1 : i < b
        · rw [decide_eq_true (by omega)]
          walk_at "ds"
        · rw [decide_eq_false (by omega)]
          walk_at "ds"
          rw [decide_eq_true (by omega)]
      rw [e_seq, e_if, hb, bindS_ok, k_ifT]
      unfold stE
      walk_at "ds"
      rw [sl_nat]
      walk_at "ds"
      rw [sl_nat]
      walk_at "ds"
      rw [o_app (by rw [List.length_map]; unfold LN; omega)]
      walk_at "ds"
      rw [List.map_append]
      rfl
    · refine ⟨_, stE xs ys es (b + 1) (a + 1) (.sh (.int b)) (.sh (.int a)), q0, .inl ?_, _, _, _, _, _, rfl, rfl, rfl, by rw [edW, if_neg h, List.nil_append] at he; exact he, by omega⟩
      unfold stE
      walk_at "ds"
      rw [decide_eq_false (by omega)]
      walk_at "ds"
      rw [decide_eq_false (by omega)]
      walk_at "ds"
      rfl
  rw [edW, List.append_nil] at he
  subst he
  unfold stE
  walk_at "ds"
theorem between_ok {xs ys : List D} (hc : cmpOk xs ys = true) (hx : xs.length ≤ 1000) (hy : ys.length ≤ 1000) : f_edits_between [.lst xs, .lst ys] = some (.rt (.s (.lst ((edsL xs ys).map edD))) .non) := edits_ok (pairs_ok hc hx hy) hx hy
theorem ledits_ok {xs ys : List D} (hc : cmpOk xs ys = true) (hx : xs.length ≤ 1000) (hy : ys.length ≤ 1000) : f_law_edits [.lst xs, .lst ys] = some (.rt (.s (.lst ((edsL xs ys).map edD))) .non) := edits_ok (kept_ok hc hx hy) hx hy
/-- edits that stand in order and do something -/
def Proper : Int → List Ed → Prop
  | _, [] => True
  | e, (a, r, p) :: es => e < a ∧ a ≤ 999999 ∧ r.length ≤ 999999 ∧ p.length ≤ 999999 ∧ ¬ (r.length = 0 ∧ p.length = 0) ∧ Proper (a + r.length) es
def sizeE : List Ed → Nat
  | [] => 0
  | (_, r, p) :: es => r.length + p.length + sizeE es
theorem check_ok {es : List Ed} (h : Proper (-1) es) : f_check_edits [.lst (es.map edD)] = some (.rt (.s .non) .non) := by
  unfold f_check_edits b_check_edits
  walk_at "ds"
  generalize hF : forD _ _ _ _ = o
  generalize hE : D.lst (es.map edD) = E at hF
  obtain ⟨δ', rfl, e, x2, x3, x4, rfl, -⟩ : ∃ δ', o = some (.nx δ') ∧ ∃ e x2 x3 x4, δ' = [.sh E, .sh (.int e), x2, x3, x4] ∧ freeOf (some x2) = true ∧ freeOf (some x3) = true ∧ freeOf (some x4) = true ∧ Proper e [] := by
    rw [← hF]
    refine for_map edD (P := fun r δ' => ∃ e x2 x3 x4, δ' = [.sh E, .sh (.int e), x2, x3, x4] ∧ freeOf (some x2) = true ∧ freeOf (some x3) = true ∧ freeOf (some x4) = true ∧ Proper e r) ?_ _ _ ⟨-1, .un, .un, .un, rfl, rfl, rfl, rfl, h⟩
    rintro ⟨a, r, p⟩ es _ ⟨e, x2, x3, x4, rfl, l2, l3, l4, h1, h2, h3, h4, h5, h6⟩
    have q0 : gT 3 (gsC (gN 2) (gsC (gN 3) (gsC (gN 4) gsN))) (edD (a, r, p)) [.sh E, .sh (.int e), x2, x3, x4] = some [.sh E, .sh (.int e), .sh (.int a), .sh (.tup r), .sh (.tup p)] := by
      unfold edD
      walk_at "ds"
      rw [l2]
      walk_at "ds"
      rw [l3]
      walk_at "ds"
      rw [l4]
      walk_at "ds"
    refine ⟨_, [.sh E, .sh (.int (a + r.length)), .sh (.int a), .sh (.tup r), .sh (.tup p)], q0, .inl ?_, _, _, _, _, rfl, rfl, rfl, rfl, h6⟩
    walk_at "ds"
    rw [decide_eq_false (by omega)]
    walk_at "ds"
    rw [decide_eq_false (by omega)]
    walk_at "ds"
    rw [decide_eq_false (by omega)]
    walk_at "ds"
    rw [decide_eq_false (by omega)]
    walk_at "ds"
    by_cases h7 : r.length = 0
    · rw [decide_eq_true (by omega)]
      walk_at "ds"
      rw [decide_eq_false (by omega)]
      walk_at "ds"
    · rw [decide_eq_false (by omega)]
      walk_at "ds"
  walk_at "ds"
theorem size_ok {es : List Ed} (h : Proper (-1) es) : f_edit_size [.lst (es.map edD)] = some (.rt (.s (.int (sizeE es))) .non) := by
  unfold f_edit_size b_edit_size
  walk_at "ds"
  rw [check_ok h]
  walk_at "ds"
  generalize hF : forD _ _ _ _ = o
  generalize hE : D.lst (es.map edD) = E at hF
  obtain ⟨δ', rfl, z, x2, x3, x4, rfl, -, -, -, hz⟩ : ∃ δ', o = some (.nx δ') ∧ ∃ z x2 x3 x4, δ' = [.sh E, .sh (.int z), x2, x3, x4] ∧ freeOf (some x2) = true ∧ freeOf (some x3) = true ∧ freeOf (some x4) = true ∧ z + sizeE [] = sizeE es := by
    rw [← hF]
    refine for_map edD (P := fun r δ' => ∃ z x2 x3 x4, δ' = [.sh E, .sh (.int z), x2, x3, x4] ∧ freeOf (some x2) = true ∧ freeOf (some x3) = true ∧ freeOf (some x4) = true ∧ z + sizeE r = sizeE es) ?_ _ _ ⟨0, .un, .un, .un, rfl, rfl, rfl, rfl, by omega⟩
    rintro ⟨a, r, p⟩ es' _ ⟨z, x2, x3, x4, rfl, l2, l3, l4, h1⟩
    have q0 : gT 3 (gsC (gN 2) (gsC (gN 3) (gsC (gN 4) gsN))) (edD (a, r, p)) [.sh E, .sh (.int z), x2, x3, x4] = some [.sh E, .sh (.int z), .sh (.int a), .sh (.tup r), .sh (.tup p)] := by
      unfold edD
      walk_at "ds"
      rw [l2]
      walk_at "ds"
      rw [l3]
      walk_at "ds"
      rw [l4]
      walk_at "ds"
    refine ⟨_, [.sh E, .sh (.int (z + r.length + p.length)), .sh (.int a), .sh (.tup r), .sh (.tup p)], q0, .inl ?_, _, _, _, _, rfl, rfl, rfl, rfl, by simp only [sizeE] at h1; omega⟩
    walk_at "ds"
  simp only [sizeE] at hz
  walk_at "ds"
  rw [show z = (sizeE es : Int) by omega]
end DL
namespace DL
open PySem PySem.Spec PyProof.Rows L2
local macro_rules | `(tactic| walk_at "ds") => `(tactic| simp (config := { maxSteps := 1000000, implicitDefEqProofs := false }) only [e_seq, bindB_nx, bindB_rt, bindB_bk, bindB_ct, bindB_ex, e_next, e_break, e_cont, e_retN, e_drop, k_drop, e_ret, k_ret, e_if, k_ifT, k_ifF, e_set, x_setS, x_setO, x_se1, e_putK, e_putL, e_unp, k_unp, toNx_s, e_c, e_var, v_sh, v_ow, v_io, e_varF, vF_sh, vF_ow, e_sh, k_shS, k_shO, e_op, k_op1, k_op2, an2_s, ans_v, ans_n, ans_t, e_un, k_un, an1_s, c_s, c_o, c_b, cOf_ow, cOf_io, h_lst, h_dk, h_dt, h_ins, e_nil, e_cons, k_cons1, k_cons2, e_cb, k_cb, anN_s, cs_nil, cs_cons, cs2_s, e_tup, e_lst, e_noPart, e_part, k_part, e_sl, k_sl1, k_sl2, k_sl3, anS_s, e_bm, e_test, k_test, e_and, e_or, e_not, k_andT, k_andF, k_orT, k_orF, k_not, e_andV, e_orV, e_notV, k_andVT, k_andVF, k_orVT, k_orVF, k_notV, e_ifE, k_ifET, k_ifEF, e_call, sAll_nil, sAll_s, cs1_s, slotD_ap, slotOf_ow, slotOf_io, wr_ap, wrOf_ow, wrOf_io, free_ap, free_un, free_sh, free_ow, o_add, o_sub, o_neg, o_lt, o_le, o_gt, o_ge, o_int, o_len, o_lenT, o_list, o_listT, o_tuple, o_tupleT, o_eqI, o_neI, o_rev, o_min, o_max, e_run, out_nx, out_rt, fin_0s, fin_0o, fin_1s, fin_1o, st_1, st_0, bindR_ok, bindS_ok, List.length_cons, List.length_nil, List.map_cons, List.map_nil, List.replicate, List.cons_append, List.nil_append, List.getElem?_cons_zero, List.getElem?_cons_succ, List.set_cons_zero, List.set_cons_succ, Nat.reduceAdd, Nat.reduceSub, Nat.reduceEqDiff, reduceIte, Bool.not_true, Bool.not_false, decide_true, decide_false, if_true, if_false, x_mut, x_mutL, x_mutK, x_mut2, x_mut3, x_mut4, x_tup, x_tup0, x_tup1, x_tup2, x_tup3, x_tup4, x_tup5, x_lst, x_lst0, x_lst1, x_lst2, x_lst3, x_lst4, x_pk1, x_pk2, x_pk3, x_pk4, x_pk5, x_pl1, x_pl2, x_pl3, x_pl4, x_call0, x_co0, x_call1, x_co1, x_finS, x_finO, x_finX, x_bm, x_bmS, x_bmL, x_bmK, x_bm2, x_bm3, x_lc, x_lcT, x_lc2, x_liN, x_liC, x_liU, x_liS, x_reN, x_reC, x_wiN, x_wiC, x_for, x_gN, x_gn1, x_gT, x_gsC, x_gs1, x_gsN, x_yes, e_lc, e_for, e_iseq, k_iseq, e_itup, k_itup, e_rg1, e_rg2, Bool.and_true, Bool.true_and, List.getD_cons_zero, List.getD_cons_succ])
def IncP (n m : Nat) : Nat → Nat → List (Nat × Nat) → Prop
  | _, _, [] => True
  | i, j, (b, a) :: ps => i ≤ b ∧ j ≤ a ∧ b ≤ n ∧ a ≤ m ∧ IncP n m (b + 1) (a + 1) ps
theorem IncP.mono {n m i j i' j' : Nat} (h1 : i' ≤ i) (h2 : j' ≤ j) : ∀ {ps : List (Nat × Nat)}, IncP n m i j ps → IncP n m i' j' ps
  | [], _ => trivial
  | (b, a) :: ps, ⟨q1, q2, q3, q4, q5⟩ => ⟨by omega, by omega, q3, q4, q5⟩
theorem walkP_inc : ∀ (xs ys : List D) (i j n m : Nat), n = i + xs.length → m = j + ys.length → IncP n m i j (walkP xs ys i j ++ [(n, m)])
  | [], ys, i, j, n, m, hn, hm => by
    rw [walkP_nil', List.nil_append]
    exact ⟨by omega, by omega, Nat.le_refl _, Nat.le_refl _, trivial⟩
  | x :: xs, [], i, j, n, m, hn, hm => by
    rw [walkP_nil, List.nil_append]
    exact ⟨by omega, by omega, Nat.le_refl _, Nat.le_refl _, trivial⟩
  | x :: xs, y :: ys, i, j, n, m, hn, hm => by
    rw [List.length_cons] at hn hm
    rw [walkP]
    split
    · exact ⟨Nat.le_refl _, Nat.le_refl _, by omega, by omega, walkP_inc xs ys (i + 1) (j + 1) n m (by omega) (by omega)⟩
    · split
      · exact (walkP_inc xs (y :: ys) (i + 1) j n m (by omega) (by rw [List.length_cons]; omega)).mono (Nat.le_succ _) (Nat.le_refl _)
      · exact (walkP_inc (x :: xs) ys i (j + 1) n m (by rw [List.length_cons]; omega) (by omega)).mono (Nat.le_refl _) (Nat.le_succ _)
termination_by xs ys => xs.length + ys.length
theorem sl_length {xs : List D} {i b : Nat} (h1 : i ≤ b) (h2 : b ≤ xs.length) : (sl xs i b).length = b - i := by
  unfold sl
  rw [List.length_take, List.length_drop]
  omega
theorem sl_mem {xs : List D} {i b : Nat} {d : D} (h : d ∈ sl xs i b) : d ∈ xs := List.mem_of_mem_drop (List.mem_of_mem_take h)
theorem edW_proper {xs ys : List D} (hx : xs.length ≤ 1000) (hy : ys.length ≤ 1000) : ∀ (ps : List (Nat × Nat)) (i j : Nat) (e : Int), e < i → IncP xs.length ys.length i j ps → Proper e (edW xs ys i j ps)
  | [], _, _, _, _, _ => trivial
  | (b, a) :: ps, i, j, e, he, ⟨q1, q2, q3, q4, q5⟩ => by
    rw [edW]
    split
    · have l1 := sl_length q1 q3
      have l2 := sl_length q2 q4
      refine ⟨he, by omega, by omega, by omega, by omega, ?_⟩
      exact edW_proper hx hy ps (b + 1) (a + 1) _ (by omega) q5
    · exact edW_proper hx hy ps (b + 1) (a + 1) e (by omega) q5
theorem edsL_proper {xs ys : List D} (hx : xs.length ≤ 1000) (hy : ys.length ≤ 1000) : Proper (-1) (edsL xs ys) :=
  edW_proper hx hy _ 0 0 _ (by decide) (walkP_inc xs ys 0 0 _ _ (by omega) (by omega))
theorem edW_mem {xs ys : List D} : ∀ (ps : List (Nat × Nat)) (i j : Nat) (e : Ed), e ∈ edW xs ys i j ps → (∀ d ∈ e.2.1, d ∈ xs) ∧ ∀ d ∈ e.2.2, d ∈ ys
  | [], _, _, _, h => by cases h
  | (b, a) :: ps, i, j, e, h => by
    rw [edW] at h
    rcases List.mem_append.mp h with h | h
    · split at h
      · rw [List.mem_singleton.mp h]
        exact ⟨fun d => sl_mem, fun d => sl_mem⟩
      · cases h
    · exact edW_mem ps _ _ e h
/-- plain data of small depth -/
def sk (k : Nat) (d : D) : Prop := plainD d = true ∧ depD d ≤ k
theorem sk_int {k : Nat} {i : Int} : sk k (.int i) := ⟨rfl, Nat.zero_le _⟩
theorem sks {k : Nat} : ∀ {ds : List D}, (∀ d ∈ ds, sk k d) → plainDs ds = true ∧ depDs ds ≤ k
  | [], _ => ⟨rfl, Nat.zero_le _⟩
  | d :: ds, h => by
    have h1 := h d List.mem_cons_self
    have h2 := sks fun x hx => h x (List.mem_cons_of_mem _ hx)
    exact ⟨by simp [plainDs, h1.1, h2.1], by simp only [depDs]; exact Nat.max_le.mpr ⟨h1.2, h2.2⟩⟩
theorem sk_lst {k : Nat} {ds : List D} (h : ∀ d ∈ ds, sk k d) : sk (k + 1) (.lst ds) := by
  have := sks h
  exact ⟨by simp [plainD, this.1], by simp only [depD]; omega⟩
theorem sk_tup {k : Nat} {ds : List D} (h : ∀ d ∈ ds, sk k d) : sk (k + 1) (.tup ds) := by
  have := sks h
  exact ⟨by simp [plainD, this.1], by simp only [depD]; omega⟩
theorem sk.mono {k k' : Nat} {d : D} (h : sk k d) (hk : k ≤ k') : sk k' d := ⟨h.1, by have := h.2; omega⟩
theorem sk.sm {k : Nat} {d : D} (h : sk k d) (hk : k ≤ 64) : sm d = true := by
  unfold DL.sm
  rw [h.1]
  simp only [Bool.true_and, decide_eq_true_eq]
  have := h.2
  omega
theorem cmpOk_sk {k : Nat} {xs ys : List D} (hk : k ≤ 64) (hx : ∀ d ∈ xs, sk k d) (hy : ∀ d ∈ ys, sk k d) : cmpOk xs ys = true := by
  unfold cmpOk
  rw [List.all_eq_true]
  intro x h1
  rw [List.all_eq_true]
  intro y h2
  obtain ⟨b, hb, -⟩ := eqD_sm ((hx x h1).sm hk) ((hy y h2).sm hk)
  rw [hb]
  rfl
theorem edD_sk {k : Nat} {e : Ed} (h1 : ∀ d ∈ e.2.1, sk k d) (h2 : ∀ d ∈ e.2.2, sk k d) : sk (k + 2) (edD e) := by
  refine sk_tup fun d hd => ?_
  simp only [List.mem_cons, List.not_mem_nil, or_false] at hd
  rcases hd with rfl | rfl | rfl
  · exact sk_int
  · exact sk_tup h1
  · exact sk_tup h2
theorem eds_sk {k : Nat} {xs ys : List D} (hx : ∀ d ∈ xs, sk k d) (hy : ∀ d ∈ ys, sk k d) : sk (k + 3) (.lst ((edsL xs ys).map edD)) := by
  refine sk_lst fun d hd => ?_
  obtain ⟨e, he, rfl⟩ := List.mem_map.mp hd
  have := edW_mem _ _ _ e he
  exact edD_sk (fun d h => hx d (this.1 d h)) fun d h => hy d (this.2 d h)
theorem row_ok {s : D} {k : Int} (hs : Strm s) (hk : 0 < k) (hk2 : k ≤ 100) : ∃ d s', f_law_row [s, .int k] = some (.rt (.s d) s') ∧ Strm s' ∧ sk 1 d := by
  unfold f_law_row b_law_row
  walk_at "ds"
  obtain ⟨z, s1, e1, h0, h1, hs1⟩ := pick_ok hs hk (by omega)
  rw [e1]
  walk_at "ds"
  by_cases h : z = 0
  · rw [decide_eq_true h]
    walk_at "ds"
    exact ⟨_, _, rfl, hs1, sk_tup fun d hd => by rw [List.mem_singleton.mp hd]; exact sk_int⟩
  · rw [decide_eq_false h]
    walk_at "ds"
    refine ⟨_, _, rfl, hs1, sk_tup fun d hd => ?_⟩
    simp only [List.mem_cons, List.not_mem_nil, or_false] at hd
    rcases hd with rfl | rfl <;> exact sk_int
theorem each_all {p : D → Prop} {ds xs : List D} (h : Each (fun _ e => p e) ds xs) : ∀ x ∈ xs, p x := fun x hx => by
  obtain ⟨d, _, q⟩ := h.mem x hx
  exact q
theorem rows_ok {s : D} {m k : Int} (hs : Strm s) (hm : 0 ≤ m) (hm2 : m ≤ 100) (hk : 0 < k) (hk2 : k ≤ 100) : ∃ rows s', f_law_rows [s, .int m, .int k] = some (.rt (.s (.lst rows)) s') ∧ Strm s' ∧ (rows.length : Int) ≤ m ∧ ∀ d ∈ rows, sk 1 d := by
  unfold f_law_rows b_law_rows
  walk_at "ds"
  obtain ⟨z, s1, e1, h0, h1, hs1⟩ := pick_ok hs (n := m + 1) (by omega) (by omega)
  rw [e1]
  walk_at "ds"
  rw [k_rg1 (by rw [BIG_eq]; omega)]
  walk_at "ds"
  generalize hP : lcD _ _ _ _ _ _ _ = o
  obtain ⟨xs, ω, rfl, ⟨s2, rfl, hs2⟩, r⟩ : ∃ xs ω, o = some (.ok ([] ++ xs) ω) ∧ (∃ s2, ω = [.io s2, .sh (.int m), .sh (.int k), .un] ∧ Strm s2) ∧ Each (fun _ e => sk 1 e) (rngD 0 z.toNat) xs := by
    rw [← hP]
    refine lc_each (P := fun ω => ∃ s2, ω = [.io s2, .sh (.int m), .sh (.int k), .un] ∧ Strm s2) (R := fun _ e => sk 1 e) _ _ _ ?_ ⟨s1, rfl, hs1⟩ (by rw [rngD_length, List.length_nil]; unfold LN; omega)
    rintro d _ _ ⟨s2, rfl, hs2⟩
    obtain ⟨e, s3, e3, hs3, he⟩ := row_ok hs2 hk hk2
    refine ⟨_, _, e, [.io s3, .sh (.int m), .sh (.int k), .sh d], rfl, rfl, ?_, he, s3, rfl, hs3⟩
    walk_at "ds"
    rw [e3]
    walk_at "ds"
  walk_at "ds"
  have hl := r.length
  rw [rngD_length] at hl
  exact ⟨xs, s2, rfl, hs2, by omega, each_all r⟩
theorem varied_ok {s : D} {rows : List D} {k : Int} (hs : Strm s) (hr : ∀ d ∈ rows, sk 1 d) (hl : rows.length ≤ 100) (hk : 0 < k) (hk2 : k ≤ 100) : ∃ out s', f_law_varied [s, .lst rows, .int k] = some (.rt (.s (.lst out)) s') ∧ Strm s' ∧ out.length ≤ 2 * rows.length + 1 ∧ ∀ d ∈ out, sk 1 d := by
  unfold f_law_varied b_law_varied
  walk_at "ds"
  generalize hF : forD _ _ _ _ = o
  obtain ⟨δ', rfl, s1, out, x4, x5, rfl, hs1, -, -, ho, hol, -⟩ : ∃ δ', o = some (.nx δ') ∧ ∃ s1 out x4 x5, δ' = [.io s1, .sh (.lst rows), .sh (.int k), .ow (.lst out), x4, x5] ∧ Strm s1 ∧ freeOf (some x4) = true ∧ freeOf (some x5) = true ∧ (∀ d ∈ out, sk 1 d) ∧ out.length + 2 * ([] : List D).length ≤ 2 * rows.length ∧ ∀ d ∈ ([] : List D), sk 1 d := by
    rw [← hF]
    refine for_list (P := fun r δ' => ∃ s1 out x4 x5, δ' = [.io s1, .sh (.lst rows), .sh (.int k), .ow (.lst out), x4, x5] ∧ Strm s1 ∧ freeOf (some x4) = true ∧ freeOf (some x5) = true ∧ (∀ d ∈ out, sk 1 d) ∧ out.length + 2 * r.length ≤ 2 * rows.length ∧ ∀ d ∈ r, sk 1 d) ?_ rows _ ⟨s, [], .un, .un, rfl, hs, rfl, rfl, fun d h => (by cases h), by rw [List.length_nil]; omega, hr⟩
    rintro d r _ ⟨s1, out, x4, x5, rfl, hs1, l4, l5, ho, hol, hr⟩
    rw [List.length_cons] at hol
    have q0 : gN 4 d [.io s1, .sh (.lst rows), .sh (.int k), .ow (.lst out), x4, x5] = some [.io s1, .sh (.lst rows), .sh (.int k), .ow (.lst out), .sh d, x5] := gN_free l4
    obtain ⟨w, s2, e2, w0, w1, hs2⟩ := pick_ok hs1 (n := 9) (by decide) (by decide)
    obtain ⟨o1, s3, q1, hs3, ho1, hl1⟩ : ∃ o1 s3, (dIf (dTest (dOp fLt (dVar 5) (dC (.int 2)))) (dDrop (dMut "list" fAppend 3 (dCons (dSh (dCall true f_law_row (dCons (dVar 0) (dCons (dVarF 2) dNil)))) dNil))) dNext) [.io s2, .sh (.lst rows), .sh (.int k), .ow (.lst out), .sh d, .sh (.int w)] = some (.nx [.io s3, .sh (.lst rows), .sh (.int k), .ow (.lst o1), .sh d, .sh (.int w)]) ∧ Strm s3 ∧ (∀ d ∈ o1, sk 1 d) ∧ o1.length ≤ out.length + 1 := by
      walk_at "ds"
      by_cases c : w < 2
      · rw [decide_eq_true c]
        walk_at "ds"
        obtain ⟨e, s3, e3, hs3, he⟩ := row_ok hs2 hk hk2
        rw [e3]
        walk_at "ds"
        rw [o_app (by unfold LN; omega)]
        walk_at "ds"
        refine ⟨out ++ [e], s3, rfl, hs3, fun x hx => ?_, by rw [List.length_append, List.length_singleton]; omega⟩
        rcases List.mem_append.mp hx with hx | hx
        · exact ho x hx
        · rw [List.mem_singleton.mp hx]; exact he
      · rw [decide_eq_false c]
        walk_at "ds"
        exact ⟨out, s2, rfl, hs2, ho, Nat.le_succ _⟩
    obtain ⟨o2, q2, ho2, hl2⟩ : ∃ o2, (dIf (dAnd (dTest (dOp fNe (dVar 5) (dC (.int 0)))) (dTest (dOp fNe (dVar 5) (dC (.int 2))))) (dDrop (dMut "list" fAppend 3 (dCons (dVarF 4) dNil))) dNext) [.io s3, .sh (.lst rows), .sh (.int k), .ow (.lst o1), .sh d, .sh (.int w)] = some (.nx [.io s3, .sh (.lst rows), .sh (.int k), .ow (.lst o2), .sh d, .sh (.int w)]) ∧ (∀ d ∈ o2, sk 1 d) ∧ o2.length ≤ o1.length + 1 := by
      walk_at "ds"
      by_cases c : w = 0
      · rw [decide_eq_true c]
        walk_at "ds"
        exact ⟨o1, rfl, ho1, Nat.le_succ _⟩
      · rw [decide_eq_false c]
        walk_at "ds"
        by_cases c2 : w = 2
        · rw [decide_eq_true c2]
          walk_at "ds"
          exact ⟨o1, rfl, ho1, Nat.le_succ _⟩
        · rw [decide_eq_false c2]
          walk_at "ds"
          rw [o_app (by unfold LN; omega)]
          walk_at "ds"
          refine ⟨o1 ++ [d], rfl, fun x hx => ?_, by rw [List.length_append, List.length_singleton]; omega⟩
          rcases List.mem_append.mp hx with hx | hx
          · exact ho1 x hx
          · rw [List.mem_singleton.mp hx]; exact hr d List.mem_cons_self
    have q3 : dSet 5 (dCall true f_law_pick (dCons (dVar 0) (dCons (dC (.int 9)) dNil))) [.io s1, .sh (.lst rows), .sh (.int k), .ow (.lst out), .sh d, x5] = some (.nx [.io s2, .sh (.lst rows), .sh (.int k), .ow (.lst out), .sh d, .sh (.int w)]) := by
      walk_at "ds"
      rw [e2]
      walk_at "ds"
      rw [l5]
      walk_at "ds"
    exact ⟨_, _, q0, .inl (by rw [e_seq, q3, bindB_nx, e_seq, q1, bindB_nx, q2]), s3, o2, _, _, rfl, hs3, rfl, rfl, ho2, by omega, fun x hx => hr x (List.mem_cons_of_mem _ hx)⟩
  walk_at "ds"
  rw [List.length_nil] at hol
  obtain ⟨w, s2, e2, w0, w1, hs2⟩ := pick_ok hs1 (n := 3) (by decide) (by decide)
  rw [e2]
  walk_at "ds"
  by_cases c : w = 0
  · rw [decide_eq_true c]
    walk_at "ds"
    obtain ⟨e, s3, e3, hs3, he⟩ := row_ok hs2 hk hk2
    rw [e3]
    walk_at "ds"
    rw [o_app (by unfold LN; omega)]
    walk_at "ds"
    refine ⟨out ++ [e], s3, rfl, hs3, by rw [List.length_append, List.length_singleton]; omega, fun x hx => ?_⟩
    rcases List.mem_append.mp hx with hx | hx
    · exact ho x hx
    · rw [List.mem_singleton.mp hx]; exact he
  · rw [decide_eq_false c]
    walk_at "ds"
    exact ⟨out, s2, rfl, hs2, by omega, ho⟩
end DL
namespace DL
open PySem PySem.Spec PyProof.Rows L2
section
variable {K : PySem.W.Frag} {mg : Str → Option Value} {X : Cx} {Wx : WX} {F H : Hp}
def enumD : Nat → List D → List D
  | _, [] => []
  | k, d :: ds => .tup [.int k, d] :: enumD (k + 1) ds
theorem enumD_get : ∀ (ds : List D) (k i : Nat), (enumD k ds)[i]? = (ds[i]?).map fun d => D.tup [.int (k + i : Nat), d]
  | [], _, _ => by simp [enumD]
  | d :: ds, k, 0 => by simp [enumD]
  | d :: ds, k, i + 1 => by
    rw [enumD, List.getElem?_cons_succ, List.getElem?_cons_succ, enumD_get ds (k + 1) i, show k + 1 + i = k + (i + 1) by omega]
def iEnumerate (da : DA) : DI := fun δ => bindR (da δ) fun ws δ1 => match ws with
  | [.s (.lst ds)] => some (.ok (enumD 0 ds) δ1)
  | _ => none
theorem goes_enum {a : Addr} {xs : List V} {ds : List D} (h : F a = some (.lst xs)) (q : DRs K mg F xs ds) : Goes K mg (Ite K a) (enumD 0 ds) F := fun c i F' H' σ' δ' e I => by
  have hs : SqL K H' a xs := .inl (.inl (I.fh _ _ (e _ _ h)))
  refine ⟨fun d hd => ?_, fun hd => ⟨xs, hs, ?_⟩⟩
  · rw [enumD_get] at hd
    obtain ⟨d0, h0, rfl⟩ := Option.map_eq_some_iff.mp hd
    obtain ⟨v, hv, r⟩ := q.get h0
    refine ⟨⟨xs, v, hs, hv⟩, fun x H2 ⟨T, y, e1, hT, e2, e3⟩ => ?_⟩
    subst e1 e2
    have := e3 xs hs
    rw [hv] at this
    obtain rfl := Option.some.inj this
    obtain ⟨I', P'⟩ := I.laidS (o := .tup [.int (i : Nat), v]) hT
    refine ⟨_, I', P', .ref upd_same (.tup (.cons ?_ (.cons (DR.mono P'.f (r.mono e)) .nil)))⟩
    rw [Nat.zero_add]
    exact .int _
  · rw [q.length]
    rw [enumD_get] at hd
    exact List.getElem?_eq_none_iff.mp (Option.map_eq_none_iff.mp hd)
theorem d_ienumerate {e : Expr} {da : DA} {p pos tpos : Pos} {elts : List Expr} {kk : Nat} (hK : X.K = K) (hg : Gl X "enumerate") (hm : X.mg "enumerate" = none) (ha : PA X [e] (TAD K mg Wx da)) (hs : starEach [e] X.env = [(false, eval e X.env)] := by rfl) : PI X (.Tuple elts kk tpos) (.Call (.Name "enumerate" p) [e] [] pos) (TID K mg Wx (iEnumerate da)) := by
  subst hK
  refine PI.imp (pi_enum hg hm ha hs) fun σ H Rr h => ?_
  obtain ⟨c, F, δ, r, I, e, k⟩ := h
  refine TAD.seq I e (by intro x δ1 e; subst e; exact k) fun ws δ1 e1 vs F1 H1 I1 P1 ok1 => ?_
  split at e1
  · rename_i ds
    obtain rfl := Option.some.inj e1
    cases ok1 with
    | cons o1 r1 =>
      cases r1
      obtain ⟨a, xs, rfl, h1, q⟩ := DR.lstI o1
      exact ⟨a, xs, rfl, .inl (.inl (I1.fh _ _ h1)), k _ F1 H1 I1 P1 (goes_enum h1 q)⟩
  · cases e1
def flatD : D → Option V
  | .non => some .non
  | .bl b => some (.bl b)
  | .int i => some (.int i)
  | .str s => some (.str s)
  | _ => none
def flatDs : List D → Option (List V)
  | [] => some []
  | d :: ds => match flatD d, flatDs ds with
    | some u, some us => some (u :: us)
    | _, _ => none
theorem flatD_ok {d : D} {v u : V} (h : DR K mg F v d) (e : flatD d = some u) : v = u ∧ flatV u = true := by
  cases d <;> simp [flatD] at e <;> subst e
  · exact ⟨h.nonI, rfl⟩
  · exact ⟨h.blI, rfl⟩
  · exact ⟨h.intI, rfl⟩
  · exact ⟨h.strI, rfl⟩
theorem flatDs_ok : ∀ {ds : List D} {vs us : List V}, DRs K mg F vs ds → flatDs ds = some us → vs = us ∧ us.all flatV = true
  | [], _, _, .nil, e => by
    obtain rfl := Option.some.inj e
    exact ⟨rfl, rfl⟩
  | d :: ds, _, us, .cons h r, e => by
    unfold flatDs at e
    split at e
    · rename_i u us' h1 h2
      obtain rfl := Option.some.inj e
      obtain ⟨rfl, f1⟩ := flatD_ok h h1
      obtain ⟨rfl, f2⟩ := flatDs_ok r h2
      exact ⟨rfl, by rw [List.all_cons, f1, f2]; rfl⟩
    · cases e
def inD (d : D) (es : List D) : Bool := (toPs es).any fun z => PyData.eqv z (toP d)
def fInL (d : D) (es : List D) : Option Bool := if (SeqAt.shaped (toP d) && SeqAt.shaped (toP (.lst es))) = true then some (inD d es) else none
def fInT (d : D) (es : List D) : Option Bool := match flatD d, flatDs es with
  | some u, some us => some (inV u us)
  | _, _ => none
def fInS : Str → Str → Option Bool
  | ⟨⟨[c]⟩⟩, z => some (decide (c ∈ z.cps.toList))
  | _, _ => none
def inOf : D → D → Option Bool
  | d, .lst es => fInL d es
  | d, .tup es => fInT d es
  | .str c, .str z => fInS c z
  | _, _ => none
def fIn (d e : D) : Option RW := match inOf d e with
  | some b => some (.v (.bl b))
  | none => none
def fNotIn (d e : D) : Option RW := match inOf d e with
  | some b => some (.v (.bl (!b)))
  | none => none
def rInC : R2 := fun x y H Q => ∃ (c : Nat) (z : Str), x = .str ⟨#[c]⟩ ∧ y = .str z ∧ Q (.bl (decide (c ∈ z.cps.toList))) H
def rNotInC : R2 := fun x y H Q => ∃ (c : Nat) (z : Str), x = .str ⟨#[c]⟩ ∧ y = .str z ∧ Q (.bl (!decide (c ∈ z.cps.toList))) H
def rInA (K : PySem.W.Frag) : R2 := fun x y H Q => rInD K x y H Q ∨ (rIn K false x y H Q ∨ rInC x y H Q)
theorem op_inA (hu : X.A.units + 65 < cLine) : OpR X (compareOp .In) (rInA X.K) := OpR.or (op_inD hu) (OpR.or op_in_seq op_in_sign)
theorem snd_in : Snd2 K mg (rInA K) fIn := fun F H v1 v2 d1 d2 w Q eF h1 h2 hf q => by
  unfold fIn at hf
  cases hb : inOf d1 d2 with
  | none => rw [hb] at hf; cases hf
  | some b =>
    rw [hb] at hf
    obtain rfl := Option.some.inj hf
    unfold inOf at hb
    split at hb
    · rename_i es
      unfold fInL at hb
      obtain ⟨s, rfl⟩ := if_some hb
      rw [Bool.and_eq_true] at s
      exact .inl ⟨toP d1, toPs es, h1.dp eF (SeqAt.canLay_of_shaped s.1), h2.dp eF (SeqAt.canLay_of_shaped s.2), s.1, s.2, q _ (.bl _)⟩
    · rename_i es
      unfold fInT at hb
      split at hb
      · rename_i u us e1 e2
        obtain rfl := Option.some.inj hb
        obtain ⟨a, xs, rfl, ha, r⟩ := h2.dr rfl |>.tupI
        have hd1 : heavy d1 = false := by cases d1 <;> simp [flatD] at e1 <;> rfl
        obtain ⟨rfl, f1⟩ := flatD_ok (View.dr h1 hd1) e1
        obtain ⟨rfl, f2⟩ := flatDs_ok r e2
        exact .inr (.inl ⟨a, _, rfl, .inr (.inl (.inl (eF _ _ ha))), f1, f2, q _ (.bl _)⟩)
      · cases hb
    · rename_i c z
      unfold fInS at hb
      split at hb
      · rename_i c
        obtain rfl := Option.some.inj hb
        obtain rfl := h1.strI
        obtain rfl := h2.strI
        exact .inr (.inr ⟨c, z, rfl, rfl, q _ (.bl _)⟩)
      · cases hb
    · cases hb
def rNotInA (K : PySem.W.Frag) : R2 := fun x y H Q => rNotInD K x y H Q ∨ (rIn K true x y H Q ∨ rNotInC x y H Q)
theorem op_notInA (hu : X.A.units + 65 < cLine) : OpR X (compareOp .NotIn) (rNotInA X.K) := OpR.or (op_notInD hu) (OpR.or op_notIn_seq op_notIn_sign)
theorem snd_notIn : Snd2 K mg (rNotInA K) fNotIn := fun F H v1 v2 d1 d2 w Q eF h1 h2 hf q => by
  unfold fNotIn at hf
  cases hb : inOf d1 d2 with
  | none => rw [hb] at hf; cases hf
  | some b =>
    rw [hb] at hf
    obtain rfl := Option.some.inj hf
    unfold inOf at hb
    split at hb
    · rename_i es
      unfold fInL at hb
      obtain ⟨s, rfl⟩ := if_some hb
      rw [Bool.and_eq_true] at s
      exact .inl ⟨toP d1, toPs es, h1.dp eF (SeqAt.canLay_of_shaped s.1), h2.dp eF (SeqAt.canLay_of_shaped s.2), s.1, s.2, q _ (.bl _)⟩
    · rename_i es
      unfold fInT at hb
      split at hb
      · rename_i u us e1 e2
        obtain rfl := Option.some.inj hb
        obtain ⟨a, xs, rfl, ha, r⟩ := h2.dr rfl |>.tupI
        have hd1 : heavy d1 = false := by cases d1 <;> simp [flatD] at e1 <;> rfl
        obtain ⟨rfl, f1⟩ := flatD_ok (View.dr h1 hd1) e1
        obtain ⟨rfl, f2⟩ := flatDs_ok r e2
        exact .inr (.inl ⟨a, _, rfl, .inr (.inl (.inl (eF _ _ ha))), f1, f2, q _ (.bl _)⟩)
      · cases hb
    · rename_i c z
      unfold fInS at hb
      split at hb
      · rename_i c
        obtain rfl := Option.some.inj hb
        obtain rfl := h1.strI
        obtain rfl := h2.strI
        exact .inr (.inr ⟨c, z, rfl, rfl, q _ (.bl _)⟩)
      · cases hb
    · cases hb
def findD (d : D) : Nat → List D → Option Nat
  | _, [] => none
  | k, e :: es => if PyData.eqv (toP e) (toP d) = true then some k else findD d (k + 1) es
def fListIndex : D → List D → Option RW
  | .lst es, [d] => if (SeqAt.shaped (toP d) && SeqAt.shaped (toP (.lst es))) = true then (match findD d 0 es with
    | some j => some (.v (.int (j : Nat)))
    | none => none) else none
  | _, _ => none
theorem toPs_get : ∀ (es : List D) (i : Nat), (toPs es)[i]? = (es[i]?).map toP
  | [], _ => by simp [toPs]
  | e :: es, 0 => by simp [toPs]
  | e :: es, i + 1 => by rw [toPs, List.getElem?_cons_succ, List.getElem?_cons_succ, toPs_get es i]
theorem findD_ok {d : D} : ∀ (es : List D) (k j : Nat), findD d k es = some j → ∃ i, j = k + i ∧ (∃ e, es[i]? = some e ∧ PyData.eqv (toP e) (toP d) = true) ∧ ∀ m e, m < i → es[m]? = some e → PyData.eqv (toP e) (toP d) = false
  | [], _, _, h => by cases h
  | e :: es, k, j, h => by
    rw [findD] at h
    split at h
    · rename_i q
      obtain rfl := Option.some.inj h
      exact ⟨0, rfl, ⟨e, rfl, q⟩, fun m e hm => by omega⟩
    · rename_i q
      obtain ⟨i, rfl, ⟨x, hx, qx⟩, hn⟩ := findD_ok es (k + 1) j h
      refine ⟨i + 1, by omega, ⟨x, by rw [List.getElem?_cons_succ]; exact hx, qx⟩, fun m y hm hy => ?_⟩
      cases m with
      | zero =>
        obtain rfl := Option.some.inj hy
        simpa using q
      | succ m => exact hn m y (by omega) (by rw [List.getElem?_cons_succ] at hy; exact hy)
theorem snd_list_index : SndM K mg (rIndexD K) fListIndex := fun F H v d vs ds w Q eF h hs hf q => by
  unfold fListIndex at hf
  split at hf
  · rename_i es x
    obtain ⟨s, hf⟩ := ite_some hf
    rw [Bool.and_eq_true] at s
    split at hf
    · rename_i j hj
      obtain rfl := Option.some.inj hf
      cases hs with
      | cons h1 r1 =>
        cases r1
        have hd := h.dp eF (SeqAt.canLay_of_shaped s.2)
        obtain ⟨i, rfl, ⟨e, he, qe⟩, hn⟩ := findD_ok es 0 j hj
        obtain ⟨a, xs, rfl, ha, r⟩ := View.lstI h
        refine ⟨a, _, toP x, toPs es, i, toP e, rfl, rfl, hd, h1.dp eF (SeqAt.canLay_of_shaped s.1), s.2, s.1, by rw [toPs_get, he]; rfl, qe, fun m z' hm hz => ?_, by rw [Nat.zero_add] at q; exact q _ (.int _)⟩
        rw [toPs_get] at hz
        obtain ⟨y, hy, rfl⟩ := Option.map_eq_some_iff.mp hz
        exact hn m y hm hy
    · cases hf
  · cases hf
theorem hu65 {A : Around} {k : Nat} (hr : Room k A) : A.units + 65 < cLine := by
  have := hr.un
  omega
end
end DL
namespace DL
open PySem PySem.Spec PyProof.Rows L2
section
variable {P : Program} {w : World} {K : PySem.W.Frag} {mg : Str → Option Value} {base h : Heap}
theorem dfn_mk {x : Str} {st : Stmt} {ps : List Str} {f : Addr} {oc : Value} {od an : Option Addr} {osl : Array (Option Value)} {kV doc pm cdv ct : Value} (X : K.In h) (G : h.Ns mainGlobals mg)
    (a : PySem.W.nsIn K mainGlobals x = some (some (.ref f))) (l : K.lookup f = some ⟨oc, od, .func (PySem.W.fnOf x x (defArgs st) (defBody st) (defScope st) .none kV doc pm an cdv ct), osl⟩) (c : PySem.W.codeIn K cdv x = true) (k : PySem.W.keepIn K (.ref f) = true)
    (b : ∀ (kV doc pm : Value) (an : Option Addr) (cdv ct : Value) (us : List Value), us.length = ps.length → bindArgs (PySem.W.fnOf x x (defArgs st) (defBody st) (defScope st) .none kV doc pm an cdv ct) ⟨us, []⟩ = pure (ps.zip us)) : Dfn K mg x st ps :=
  ⟨f, _, fun_mk l c k, PySem.W.mg_of X G a, (fun_mk l c k).binds b⟩
theorem mk_fn {x : Str} {st : Stmt} {N ps : List Str} {k n kk : Nat} {io : Bool} {body : DB} {f : Addr} {fd : FuncData} (F : Fun K x x st f fd) (S : FnScope N ps (defScope st)) (hn : N.length = n) (hp : ps.length = k) (hk : k ≤ n)
    (hb : ∀ (f : Addr) (cdv : Value) (A : Around) (outer : List Env) (s : Shared) (H : Hp) (E : XK), Room kk (A.deeper (envOfC x (defScope st) s.heap.objs.size f cdv)) → PSs (cxOf CX0 P w K mg base N x (defScope st) f cdv A outer s H E).nox (defBody st) (TSD K mg W0 body)) :
    FnOk P w K mg base CX0 (kk + 1) f fd ps (SpD K mg false io (runD false io n k body)) := d_fn F S hn hp hk (hb f)
end
end DL
namespace Law
open PySem PySem.Spec PyProof.Rows L2 DL
def topS (i : Nat) : Stmt := PySem.Challenge.pw_tideland_k02_edits_made_by_hand.main.body.getD i (.Pass ⟨0, 0, 0, 0⟩)
abbrev s_check_edits : Stmt := topS 8
theorem sc_check_edits : FnScope ["edits", "end", "at", "removed", "put"] ["edits"] (defScope s_check_edits) := ⟨rfl, rfl, rfl, by decide +kernel, rfl, by decide +kernel, by decide +kernel⟩
abbrev s_apply_edits : Stmt := topS 9
theorem sc_apply_edits : FnScope ["lines", "edits", "found", "done", "index", "edit", "at", "removed", "put"] ["lines", "edits"] (defScope s_apply_edits) := ⟨rfl, rfl, rfl, by decide +kernel, rfl, by decide +kernel, by decide +kernel⟩
abbrev s_inverted_edits : Stmt := topS 10
theorem sc_inverted_edits : FnScope ["edits", "inverted", "shift", "at", "removed", "put"] ["edits"] (defScope s_inverted_edits) := ⟨rfl, rfl, rfl, by decide +kernel, rfl, by decide +kernel, by decide +kernel⟩
abbrev s_line_after : Stmt := topS 11
theorem sc_line_after : FnScope ["edits", "at", "shift", "start", "removed", "put"] ["edits", "at"] (defScope s_line_after) := ⟨rfl, rfl, rfl, by decide +kernel, rfl, by decide +kernel, by decide +kernel⟩
abbrev s_edit_size : Stmt := topS 12
theorem sc_edit_size : FnScope ["edits", "size", "at", "removed", "put"] ["edits"] (defScope s_edit_size) := ⟨rfl, rfl, rfl, by decide +kernel, rfl, by decide +kernel, by decide +kernel⟩
abbrev s_law_fresh : Stmt := topS 14
theorem sc_law_fresh : FnScope ["stream", "cells", "at", "cell", "prime", "first", "second", "third", "fourth"] ["stream"] (defScope s_law_fresh) := ⟨rfl, rfl, rfl, by decide +kernel, rfl, by decide +kernel, by decide +kernel⟩
abbrev s_law_pick : Stmt := topS 15
theorem sc_law_pick : FnScope ["stream", "many", "digit"] ["stream", "many"] (defScope s_law_pick) := ⟨rfl, rfl, rfl, by decide +kernel, rfl, by decide +kernel, by decide +kernel⟩
abbrev s_law_stream : Stmt := topS 16
theorem sc_law_stream : FnScope ["script", "cell"] ["script"] (defScope s_law_stream) := ⟨rfl, rfl, rfl, by decide +kernel, rfl, by decide +kernel, by decide +kernel⟩
abbrev s_law_drawn : Stmt := topS 17
theorem sc_law_drawn : FnScope ["stream", "lines", "edits", "fresh", "at", "k", "removed", "put", "j"] ["stream", "lines"] (defScope s_law_drawn) := ⟨rfl, rfl, rfl, by decide +kernel, rfl, by decide +kernel, by decide +kernel⟩
abbrev s_law_moved : Stmt := topS 18
theorem sc_law_moved : FnScope ["edits", "before", "after", "at", "due", "found"] ["edits", "before", "after"] (defScope s_law_moved) := ⟨rfl, rfl, rfl, by decide +kernel, rfl, by decide +kernel, by decide +kernel⟩
abbrev s_law : Stmt := topS 19
theorem sc_law : FnScope ["script", "stream", "lines", "edits", "second", "back", "size", "done", "at", "removed", "put", "mine", "handed", "found", "inverted", "k"] ["script"] (defScope s_law) := ⟨rfl, rfl, rfl, by decide +kernel, rfl, by decide +kernel, by decide +kernel⟩
structure Txt (K : PySem.W.Frag) (mg : Str → Option Value) : Prop where
  d_check_edits : Dfn K mg "check_edits" s_check_edits ["edits"]
  d_apply_edits : Dfn K mg "apply_edits" s_apply_edits ["lines", "edits"]
  d_inverted_edits : Dfn K mg "inverted_edits" s_inverted_edits ["edits"]
  d_line_after : Dfn K mg "line_after" s_line_after ["edits", "at"]
  d_edit_size : Dfn K mg "edit_size" s_edit_size ["edits"]
  d_law_fresh : Dfn K mg "_law_fresh" s_law_fresh ["stream"]
  d_law_pick : Dfn K mg "_law_pick" s_law_pick ["stream", "many"]
  d_law_stream : Dfn K mg "_law_stream" s_law_stream ["script"]
  d_law_drawn : Dfn K mg "_law_drawn" s_law_drawn ["stream", "lines"]
  d_law_moved : Dfn K mg "_law_moved" s_law_moved ["edits", "before", "after"]
  d_law : Dfn K mg "law" s_law ["script"]
  n_len : mg "len" = none
  n_enumerate : mg "enumerate" = none
  n_tuple : mg "tuple" = none
  n_list : mg "list" = none
  n_int : mg "int" = none
  n_range : mg "range" = none
  n_isinstance : mg "isinstance" = none
  c_MOST : ∃ u, mg "MOST" = some (.int (999999) u)
set_option maxHeartbeats 4000000 in
theorem ok_check_edits {P : Program} {w : World} {K : PySem.W.Frag} {mg : Str → Option Value} {base : Heap} (T : Txt K mg)  : Cal P w K mg base 1 "check_edits" ["edits"] false f_check_edits := by
  refine mk_cal (kk := 0) T.d_check_edits sc_check_edits rfl rfl (by decide) (fun f cdv A outer s H E hr => ?_)
  have nd := (sc_check_edits).nd
  exact (d_scons (d_set 1 nd (d_un un_neg snd_neg d_int))
 (d_sone (d_for (vs := [2, 3, 4]) PassesOwn.never rfl (d_iseq rfl (dvF 0)) (pg_tup rfl (pgs_cons (pg_name (i := 2) nd rfl (by first | exact .inl rfl | exact .inr rfl)) (pgs_cons (pg_name (i := 3) nd rfl (by first | exact .inl rfl | exact .inr rfl)) (pgs_cons (pg_name (i := 4) nd rfl (by first | exact .inl rfl | exact .inr rfl)) pgs_nil)))) (snd_gT (snd_gsC (snd_gN (by simp)) (snd_gsC (snd_gN (by simp)) (snd_gsC (snd_gN (by simp)) snd_gsN))))
 (d_scons (d_if (PW.pt (d_or (d_tcmp op_le snd_le (dv 2) (dv 1) (nomark _)) (pw_or1 (d_tcmp op_gt snd_gt (dv 2) (d_gint (by rfl) T.c_MOST) (nomark _)))))
 (d_sone d_stuck)
 d_snil)
 (d_scons (d_if (PW.pt (d_or (d_tcmp op_gt snd_gt (d_callB call_lenA snd_len (by rfl) T.n_len (by decide +kernel) (d_cons (dv 3) d_nil)) (d_gint (by rfl) T.c_MOST) (nomark _)) (d_or (d_tcmp op_gt snd_gt (d_callB call_lenA snd_len (by rfl) T.n_len (by decide +kernel) (d_cons (dv 4) d_nil)) (d_gint (by rfl) T.c_MOST) (nomark _)) (pw_or1 (PW.pt (d_and (d_tcmp (op_eqA (hu64 hr)) snd_eq (d_callB call_lenA snd_len (by rfl) T.n_len (by decide +kernel) (d_cons (dv 3) d_nil)) d_int (nomark _)) (pw_and1 (d_tcmp (op_eqA (hu64 hr)) snd_eq (d_callB call_lenA snd_len (by rfl) T.n_len (by decide +kernel) (d_cons (dv 4) d_nil)) d_int (nomark _)))))))))
 (d_sone d_stuck)
 d_snil)
 (d_sone (d_set 1 nd (d_op op_addA snd_add (dv 2) (d_callB call_lenA snd_len (by rfl) T.n_len (by decide +kernel) (d_cons (dv 3) d_nil))))))))))
noncomputable def b_apply_edits : DB := (dSeq (dDrop (dCall false f_check_edits (dCons (dVarF 1) dNil)))
 (dSeq (dSet 2 (dLst dNil))
 (dSeq (dSet 3 (dC (.int 0)))
 (dSeq (dFor (iEnumerate (dCons (dVarF 1) dNil)) (gT 2 (gsC (gN 4) (gsC (gN 5) gsN)))
 (dSeq (dUnp (gT 3 (gsC (gN 6) (gsC (gN 7) (gsC (gN 8) gsN)))) (dVarF 5))
 (dSeq (dIf (dOr (dTest (dOp fGt (dVar 6) (dCB fLen (dCons (dVar 0) dNil)))) (dTest (dOp fNe (dCB fTuple (dCons (dSl fSl (dVar 0) (dPart (dVar 6)) (dPart (dOp fAdd (dVar 6) (dCB fLen (dCons (dVar 7) dNil))))) dNil)) (dCB fTuple (dCons (dVar 7) dNil)))))
 dStuck
 dNext)
 (dSeq (dSet 2 (dOp fAdd (dOp fAdd (dVar 2) (dCB fList (dCons (dSl fSl (dVar 0) (dPart (dVar 3)) (dPart (dVar 6))) dNil))) (dCB fList (dCons (dVar 8) dNil))))
 (dSet 3 (dOp fAdd (dVar 6) (dCB fLen (dCons (dVar 7) dNil))))))))
 (dRet (dSh (dOp fAdd (dVar 2) (dCB fList (dCons (dSl fSl (dVar 0) (dPart (dVar 3)) dNoPart) dNil)))))))))
noncomputable def f_apply_edits : List D → Option FR := runD false false 9 2 b_apply_edits
set_option maxHeartbeats 4000000 in
theorem ok_apply_edits {P : Program} {w : World} {K : PySem.W.Frag} {mg : Str → Option Value} {base : Heap} (T : Txt K mg) (c_check_edits : Cal P w K mg base 1 "check_edits" ["edits"] false f_check_edits) : Cal P w K mg base 2 "apply_edits" ["lines", "edits"] false f_apply_edits := by
  refine mk_cal (kk := 1) T.d_apply_edits sc_apply_edits rfl rfl (by decide) (fun f cdv A outer s H E hr => ?_)
  have nd := (sc_apply_edits).nd
  exact (d_scons (d_expr (d_c c_check_edits hr (by rfl) (d_cons (dvF 1) d_nil)))
 (d_scons (d_set 2 nd (d_lst d_nil))
 (d_scons (d_set 3 nd d_int)
 (d_scons (d_for (vs := [4, 5]) PassesOwn.never rfl (d_ienumerate rfl (by rfl) T.n_enumerate (d_cons (dvF 1) d_nil)) (pg_tup rfl (pgs_cons (pg_name (i := 4) nd rfl (by first | exact .inl rfl | exact .inr rfl)) (pgs_cons (pg_name (i := 5) nd rfl (by first | exact .inl rfl | exact .inr rfl)) pgs_nil))) (snd_gT (snd_gsC (snd_gN (by simp)) (snd_gsC (snd_gN (by simp)) snd_gsN)))
 (d_scons (d_unp (vs := [6, 7, 8]) (dvF 5) (pg_tup rfl (pgs_cons (pg_name (i := 6) nd rfl (by first | exact .inl rfl | exact .inr rfl)) (pgs_cons (pg_name (i := 7) nd rfl (by first | exact .inl rfl | exact .inr rfl)) (pgs_cons (pg_name (i := 8) nd rfl (by first | exact .inl rfl | exact .inr rfl)) pgs_nil)))) (snd_gT (snd_gsC (snd_gN (by simp)) (snd_gsC (snd_gN (by simp)) (snd_gsC (snd_gN (by simp)) snd_gsN)))))
 (d_scons (d_if (PW.pt (d_or (d_tcmp op_gt snd_gt (dv 6) (d_callB call_lenA snd_len (by rfl) T.n_len (by decide +kernel) (d_cons (dv 0) d_nil)) (nomark _)) (pw_or1 (d_tcmp (op_neA (hu64 hr)) snd_ne (d_callT call_tuple_of snd_tuple (by rfl) T.n_tuple (by decide +kernel) (d_cons (d_sl sl_any snd_sl (dv 0) (d_part (dv 6)) (d_part (d_op op_addA snd_add (dv 6) (d_callB call_lenA snd_len (by rfl) T.n_len (by decide +kernel) (d_cons (dv 7) d_nil))))) d_nil)) (d_callT call_tuple_of snd_tuple (by rfl) T.n_tuple (by decide +kernel) (d_cons (dv 7) d_nil)) (nomark _)))))
 (d_sone d_stuck)
 d_snil)
 (d_scons (d_set 2 nd (d_op op_addA snd_add (d_op op_addA snd_add (dv 2) (d_callT call_list_of snd_list (by rfl) T.n_list (by decide +kernel) (d_cons (d_sl sl_any snd_sl (dv 0) (d_part (dv 3)) (d_part (dv 6))) d_nil))) (d_callT call_list_of snd_list (by rfl) T.n_list (by decide +kernel) (d_cons (dv 8) d_nil))))
 (d_sone (d_set 3 nd (d_op op_addA snd_add (dv 6) (d_callB call_lenA snd_len (by rfl) T.n_len (by decide +kernel) (d_cons (dv 7) d_nil)))))))))
 (d_sone (d_ret (d_sh (d_op op_addA snd_add (dv 2) (d_callT call_list_of snd_list (by rfl) T.n_list (by decide +kernel) (d_cons (d_sl sl_any snd_sl (dv 0) (d_part (dv 3)) d_noPart) d_nil))))))))))
noncomputable def b_inverted_edits : DB := (dSeq (dDrop (dCall false f_check_edits (dCons (dVarF 0) dNil)))
 (dSeq (dSet 1 (dLst dNil))
 (dSeq (dSet 2 (dC (.int 0)))
 (dSeq (dFor (iSeq (dVarF 0)) (gT 3 (gsC (gN 3) (gsC (gN 4) (gsC (gN 5) gsN))))
 (dSeq (dDrop (dMut "list" fAppend 1 (dCons (dTup (dCons (dSh (dOp fAdd (dVar 3) (dVar 2))) (dCons (dCB fTuple (dCons (dVar 5) dNil)) (dCons (dCB fTuple (dCons (dVar 4) dNil)) dNil)))) dNil)))
 (dSet 2 (dOp fSub (dOp fAdd (dVar 2) (dCB fLen (dCons (dVar 5) dNil))) (dCB fLen (dCons (dVar 4) dNil))))))
 (dRet (dVarF 1))))))
noncomputable def f_inverted_edits : List D → Option FR := runD false false 6 1 b_inverted_edits
set_option maxHeartbeats 4000000 in
theorem ok_inverted_edits {P : Program} {w : World} {K : PySem.W.Frag} {mg : Str → Option Value} {base : Heap} (T : Txt K mg) (c_check_edits : Cal P w K mg base 1 "check_edits" ["edits"] false f_check_edits) : Cal P w K mg base 2 "inverted_edits" ["edits"] false f_inverted_edits := by
  refine mk_cal (kk := 1) T.d_inverted_edits sc_inverted_edits rfl rfl (by decide) (fun f cdv A outer s H E hr => ?_)
  have nd := (sc_inverted_edits).nd
  exact (d_scons (d_expr (d_c c_check_edits hr (by rfl) (d_cons (dvF 0) d_nil)))
 (d_scons (d_set 1 nd (d_lst d_nil))
 (d_scons (d_set 2 nd d_int)
 (d_scons (d_for (vs := [3, 4, 5]) PassesOwn.never rfl (d_iseq rfl (dvF 0)) (pg_tup rfl (pgs_cons (pg_name (i := 3) nd rfl (by first | exact .inl rfl | exact .inr rfl)) (pgs_cons (pg_name (i := 4) nd rfl (by first | exact .inl rfl | exact .inr rfl)) (pgs_cons (pg_name (i := 5) nd rfl (by first | exact .inl rfl | exact .inr rfl)) pgs_nil)))) (snd_gT (snd_gsC (snd_gN (by simp)) (snd_gsC (snd_gN (by simp)) (snd_gsC (snd_gN (by simp)) snd_gsN))))
 (d_scons (d_expr (d_mut rfl snd_append PySem.F.plainAttrs_list PySem.F.slot_list_append PySem.F.type_list_append mt_append (pv 1) (d_cons (d_tup (d_cons (d_sh (d_op op_addA snd_add (dv 3) (dv 2))) (d_cons (d_callT call_tuple_of snd_tuple (by rfl) T.n_tuple (by decide +kernel) (d_cons (dv 5) d_nil)) (d_cons (d_callT call_tuple_of snd_tuple (by rfl) T.n_tuple (by decide +kernel) (d_cons (dv 4) d_nil)) d_nil)))) d_nil)))
 (d_sone (d_set 2 nd (d_op op_sub snd_sub (d_op op_addA snd_add (dv 2) (d_callB call_lenA snd_len (by rfl) T.n_len (by decide +kernel) (d_cons (dv 5) d_nil))) (d_callB call_lenA snd_len (by rfl) T.n_len (by decide +kernel) (d_cons (dv 4) d_nil)))))))
 (d_sone (d_ret (dvF 1)))))))
noncomputable def b_line_after : DB := (dSeq (dDrop (dCall false f_check_edits (dCons (dVarF 0) dNil)))
 (dSeq (dSet 2 (dC (.int 0)))
 (dSeq (dFor (iSeq (dVarF 0)) (gT 3 (gsC (gN 3) (gsC (gN 4) (gsC (gN 5) gsN))))
 (dSeq (dIf (dTest (dChain fLe fLt (dVar 3) (dVar 1) (dOp fAdd (dVar 3) (dCB fLen (dCons (dVar 4) dNil)))))
 (dRet (dC .non))
 dNext)
 (dIf (dTest (dOp fLe (dOp fAdd (dVar 3) (dCB fLen (dCons (dVar 4) dNil))) (dVar 1)))
 (dSet 2 (dOp fSub (dOp fAdd (dVar 2) (dCB fLen (dCons (dVar 5) dNil))) (dCB fLen (dCons (dVar 4) dNil))))
 dNext)))
 (dRet (dSh (dOp fAdd (dVar 1) (dVar 2)))))))
noncomputable def f_line_after : List D → Option FR := runD false false 6 2 b_line_after
set_option maxHeartbeats 4000000 in
theorem ok_line_after {P : Program} {w : World} {K : PySem.W.Frag} {mg : Str → Option Value} {base : Heap} (T : Txt K mg) (c_check_edits : Cal P w K mg base 1 "check_edits" ["edits"] false f_check_edits) : Cal P w K mg base 2 "line_after" ["edits", "at"] false f_line_after := by
  refine mk_cal (kk := 1) T.d_line_after sc_line_after rfl rfl (by decide) (fun f cdv A outer s H E hr => ?_)
  have nd := (sc_line_after).nd
  exact (d_scons (d_expr (d_c c_check_edits hr (by rfl) (d_cons (dvF 0) d_nil)))
 (d_scons (d_set 2 nd d_int)
 (d_scons (d_for (vs := [3, 4, 5]) PassesOwn.never rfl (d_iseq rfl (dvF 0)) (pg_tup rfl (pgs_cons (pg_name (i := 3) nd rfl (by first | exact .inl rfl | exact .inr rfl)) (pgs_cons (pg_name (i := 4) nd rfl (by first | exact .inl rfl | exact .inr rfl)) (pgs_cons (pg_name (i := 5) nd rfl (by first | exact .inl rfl | exact .inr rfl)) pgs_nil)))) (snd_gT (snd_gsC (snd_gN (by simp)) (snd_gsC (snd_gN (by simp)) (snd_gsC (snd_gN (by simp)) snd_gsN))))
 (d_scons (d_if (d_tchain op_le snd_le op_lt snd_lt (dv 3) (dv 1) (d_op op_addA snd_add (dv 3) (d_callB call_lenA snd_len (by rfl) T.n_len (by decide +kernel) (d_cons (dv 4) d_nil))))
 (d_sone (d_ret d_non))
 d_snil)
 (d_sone (d_if (d_tcmp op_le snd_le (d_op op_addA snd_add (dv 3) (d_callB call_lenA snd_len (by rfl) T.n_len (by decide +kernel) (d_cons (dv 4) d_nil))) (dv 1) (nomark _))
 (d_sone (d_set 2 nd (d_op op_sub snd_sub (d_op op_addA snd_add (dv 2) (d_callB call_lenA snd_len (by rfl) T.n_len (by decide +kernel) (d_cons (dv 5) d_nil))) (d_callB call_lenA snd_len (by rfl) T.n_len (by decide +kernel) (d_cons (dv 4) d_nil)))))
 d_snil))))
 (d_sone (d_ret (d_sh (d_op op_addA snd_add (dv 1) (dv 2))))))))
set_option maxHeartbeats 4000000 in
theorem ok_edit_size {P : Program} {w : World} {K : PySem.W.Frag} {mg : Str → Option Value} {base : Heap} (T : Txt K mg) (c_check_edits : Cal P w K mg base 1 "check_edits" ["edits"] false f_check_edits) : Cal P w K mg base 2 "edit_size" ["edits"] false f_edit_size := by
  refine mk_cal (kk := 1) T.d_edit_size sc_edit_size rfl rfl (by decide) (fun f cdv A outer s H E hr => ?_)
  have nd := (sc_edit_size).nd
  exact (d_scons (d_expr (d_c c_check_edits hr (by rfl) (d_cons (dvF 0) d_nil)))
 (d_scons (d_set 1 nd d_int)
 (d_scons (d_for (vs := [2, 3, 4]) PassesOwn.never rfl (d_iseq rfl (dvF 0)) (pg_tup rfl (pgs_cons (pg_name (i := 2) nd rfl (by first | exact .inl rfl | exact .inr rfl)) (pgs_cons (pg_name (i := 3) nd rfl (by first | exact .inl rfl | exact .inr rfl)) (pgs_cons (pg_name (i := 4) nd rfl (by first | exact .inl rfl | exact .inr rfl)) pgs_nil)))) (snd_gT (snd_gsC (snd_gN (by simp)) (snd_gsC (snd_gN (by simp)) (snd_gsC (snd_gN (by simp)) snd_gsN))))
 (d_sone (d_set 1 nd (d_op op_addA snd_add (d_op op_addA snd_add (dv 1) (d_callB call_lenA snd_len (by rfl) T.n_len (by decide +kernel) (d_cons (dv 3) d_nil))) (d_callB call_lenA snd_len (by rfl) T.n_len (by decide +kernel) (d_cons (dv 4) d_nil))))))
 (d_sone (d_ret (dvF 1))))))
set_option maxHeartbeats 4000000 in
theorem ok_law_fresh {P : Program} {w : World} {K : PySem.W.Frag} {mg : Str → Option Value} {base : Heap} (T : Txt K mg)  : Cal P w K mg base 1 "_law_fresh" ["stream"] true f_law_fresh := by
  refine mk_cal (kk := 0) T.d_law_fresh sc_law_fresh rfl rfl (by decide) (fun f cdv A outer s H E hr => ?_)
  have nd := (sc_law_fresh).nd
  exact (d_scons (d_set 1 nd (d_dget (hu_of hr) (dv 0) d_str (fun _ _ => rfl)))
 (d_scons (d_set 2 nd (d_dget (hu_of hr) (dv 0) d_str (fun _ _ => rfl)))
 (d_scons (d_set 3 nd (dvF 2))
 (d_scons (d_if (d_tcmp op_lt snd_lt (dv 2) (d_callB call_lenA snd_len (by rfl) T.n_len (by decide +kernel) (d_cons (dv 1) d_nil)) (nomark _))
 (d_sone (d_set 3 nd (d_ix ix_seq snd_ix (dv 1) (dv 2) (fun _ _ => rfl))))
 d_snil)
 (d_scons (d_if (d_tcmp op_lt snd_lt (dv 3) d_int (nomark _))
 (d_sone (d_set 3 nd (d_op op_sub snd_sub (d_op op_sub snd_sub d_int (d_op op_mulA snd_mul d_int (dv 3))) d_int)))
 d_snil)
 (d_scons (d_putK (i := 0) (hu_of hr) (d_sh (d_op op_addA snd_add (dv 2) d_int)) d_str (pv 0))
 (d_scons (d_if (d_tcmp op_ge snd_ge (dv 3) d_int (nomark _))
 (d_scons (d_putK (i := 0) (hu_of hr) (dvF 3) d_str (pv 0))
 (d_sone d_retN))
 d_snil)
 (d_scons (d_set 4 nd d_int)
 (d_scons (d_set 5 nd (d_op op_mod snd_mod (d_callT call_int1 snd_int (by rfl) T.n_int (by decide +kernel) (d_cons (d_op op_addA snd_add (d_op op_addA snd_add (d_op op_addA snd_add (d_op op_mulA snd_mul (dv 3) d_int) (d_dget (hu_of hr) (dv 0) d_str (fun _ _ => rfl))) (d_op op_mulA snd_mul (dv 2) d_int)) d_int) d_nil)) (dv 4)))
 (d_scons (d_set 6 nd (d_op op_mod snd_mod (d_callT call_int1 snd_int (by rfl) T.n_int (by decide +kernel) (d_cons (d_op op_addA snd_add (d_op op_addA snd_add (d_op op_mulA snd_mul (dv 5) (dv 5)) (d_op op_mulA snd_mul d_int (dv 5))) (dv 2)) d_nil)) (dv 4)))
 (d_scons (d_set 7 nd (d_op op_mod snd_mod (d_callT call_int1 snd_int (by rfl) T.n_int (by decide +kernel) (d_cons (d_op op_addA snd_add (d_op op_addA snd_add (d_op op_mulA snd_mul (dv 6) d_int) (d_op op_mulA snd_mul (dv 5) d_int)) d_int) d_nil)) (dv 4)))
 (d_scons (d_set 8 nd (d_op op_mod snd_mod (d_callT call_int1 snd_int (by rfl) T.n_int (by decide +kernel) (d_cons (d_op op_addA snd_add (d_op op_mulA snd_mul (dv 7) (dv 7)) (dv 6)) d_nil)) (dv 4)))
 (d_scons (d_putK (i := 0) (hu_of hr) (dvF 7) d_str (pv 0))
 (d_sone (d_putK (i := 0) (hu_of hr) (d_sh (d_op op_addA snd_add (d_op op_mulA snd_mul (d_op op_addA snd_add (d_op op_mulA snd_mul (dv 8) (dv 4)) (dv 7)) (dv 4)) (dv 6))) d_str (pv 0))))))))))))))))
set_option maxHeartbeats 4000000 in
theorem ok_law_pick {P : Program} {w : World} {K : PySem.W.Frag} {mg : Str → Option Value} {base : Heap} (T : Txt K mg) (c_law_fresh : Cal P w K mg base 1 "_law_fresh" ["stream"] true f_law_fresh) : Cal P w K mg base 2 "_law_pick" ["stream", "many"] true f_law_pick := by
  refine mk_cal (kk := 1) T.d_law_pick sc_law_pick rfl rfl (by decide) (fun f cdv A outer s H E hr => ?_)
  have nd := (sc_law_pick).nd
  exact (d_scons (d_if (d_tcmp op_lt snd_lt (d_dget (hu_of hr) (dv 0) d_str (fun _ _ => rfl)) (dv 1) (nomark _))
 (d_sone (d_expr (d_c c_law_fresh hr (by rfl) (d_cons (dv 0) d_nil))))
 d_snil)
 (d_scons (d_set 2 nd (d_op op_mod snd_mod (d_callT call_int1 snd_int (by rfl) T.n_int (by decide +kernel) (d_cons (d_dget (hu_of hr) (dv 0) d_str (fun _ _ => rfl)) d_nil)) (dv 1)))
 (d_scons (d_putK (i := 0) (hu_of hr) (d_op op_fdivW snd_div (d_dget (hu_of hr) (dv 0) d_str (fun _ _ => rfl)) (dv 1)) d_str (pv 0))
 (d_sone (d_ret (dvF 2))))))
set_option maxHeartbeats 4000000 in
theorem ok_law_stream {P : Program} {w : World} {K : PySem.W.Frag} {mg : Str → Option Value} {base : Heap} (T : Txt K mg)  : Cal P w K mg base 1 "_law_stream" ["script"] false f_law_stream := by
  refine mk_cal (kk := 0) T.d_law_stream sc_law_stream rfl rfl (by decide) (fun f cdv A outer s H E hr => ?_)
  have nd := (sc_law_stream).nd
  exact (d_sone (d_ret (d_disp (.cons d_str (d_sh (d_lc (own := [("cell", 1)]) (vs := [1]) (blkOk_by (N := ["script", "cell"]) (sc := defScope s_law_stream) (by decide +kernel)) rfl rfl nd (d_iseq rfl (d_sl sl_any snd_sl (dv 0) d_noPart (d_part d_int))) (snd_gN (by simp)) (fun _ _ _ _ _ => (pg_name (i := 1) nd rfl (by first | exact .inl rfl | exact .inr rfl))) (fun _ _ _ _ _ => d_noIf) (fun _ _ _ _ _ => (d_callT call_int1 snd_int (by rfl) T.n_int (by decide +kernel) (d_cons (dv 1) d_nil))))) (.cons d_str d_int (.cons d_str d_int (.cons d_str d_int Prs.nil)))) rfl rfl (by simp) (by decide))))
noncomputable def b_law_drawn : DB := (dSeq (dSet 2 (dLst dNil))
 (dSeq (dSet 3 (dC (.int 100)))
 (dSeq (dSet 4 (dCall true f_law_pick (dCons (dVar 0) (dCons (dC (.int 4)) dNil))))
 (dSeq (dFor (iRange1 (dCons (dC (.int 9)) dNil)) (gN 5)
 (dSeq (dIf (dOr (dTest (dOp fGt (dVar 4) (dCB fLen (dCons (dVar 1) dNil)))) (dTest (dOp fEq (dCall true f_law_pick (dCons (dVar 0) (dCons (dC (.int 8)) dNil))) (dC (.int 0)))))
 dBreak
 dNext)
 (dSeq (dSet 6 (dCB fTuple (dCons (dSl fSl (dVar 1) (dPart (dVar 4)) (dPart (dOp fAdd (dVar 4) (dCall true f_law_pick (dCons (dVar 0) (dCons (dC (.int 4)) dNil)))))) dNil)))
 (dSeq (dSet 7 (dLc [8] (iRange1 (dCons (dCall true f_law_pick (dCons (dVar 0) (dCons (dC (.int 4)) dNil))) dNil)) (gN 8) dYes (dTup (dCons (dSh (dOp fAdd (dVar 3) (dVar 8))) (dCons (dC (.int 10)) dNil)))))
 (dSeq (dIf (dTest (dOp fEq (dOp fAdd (dCB fLen (dCons (dVar 6) dNil)) (dCB fLen (dCons (dVar 7) dNil))) (dC (.int 0))))
 (dSet 7 (dLst (dCons (dTup (dCons (dVarF 3) (dCons (dC (.int 10)) dNil))) dNil)))
 dNext)
 (dSeq (dSet 3 (dOp fAdd (dVar 3) (dCB fLen (dCons (dVar 7) dNil))))
 (dSeq (dDrop (dMut "list" fAppend 2 (dCons (dTup (dCons (dVarF 4) (dCons (dVarF 6) (dCons (dCB fTuple (dCons (dVar 7) dNil)) dNil)))) dNil)))
 (dSet 4 (dOp fAdd (dOp fAdd (dOp fAdd (dVar 4) (dCB fLen (dCons (dVar 6) dNil))) (dC (.int 1))) (dCall true f_law_pick (dCons (dVar 0) (dCons (dC (.int 4)) dNil))))))))))))
 (dRet (dVarF 2))))))
noncomputable def f_law_drawn : List D → Option FR := runD false true 9 2 b_law_drawn
set_option maxHeartbeats 4000000 in
theorem ok_law_drawn {P : Program} {w : World} {K : PySem.W.Frag} {mg : Str → Option Value} {base : Heap} (T : Txt K mg) (c_law_pick : Cal P w K mg base 2 "_law_pick" ["stream", "many"] true f_law_pick) : Cal P w K mg base 3 "_law_drawn" ["stream", "lines"] true f_law_drawn := by
  refine mk_cal (kk := 2) T.d_law_drawn sc_law_drawn rfl rfl (by decide) (fun f cdv A outer s H E hr => ?_)
  have nd := (sc_law_drawn).nd
  exact (d_scons (d_set 2 nd (d_lst d_nil))
 (d_scons (d_set 3 nd d_int)
 (d_scons (d_set 4 nd (d_c c_law_pick hr (by rfl) (d_cons (dv 0) (d_cons d_int d_nil))))
 (d_scons (d_for (vs := [5]) PassesOwn.never rfl (d_irange1 (by rfl) T.n_range (d_cons d_int d_nil)) (pg_name (i := 5) nd rfl (by first | exact .inl rfl | exact .inr rfl)) (snd_gN (by simp))
 (d_scons (d_if (PW.pt (d_or (d_tcmp op_gt snd_gt (dv 4) (d_callB call_lenA snd_len (by rfl) T.n_len (by decide +kernel) (d_cons (dv 1) d_nil)) (nomark _)) (pw_or1 (d_tcmp (op_eqA (hu64 hr)) snd_eq (d_c c_law_pick hr (by rfl) (d_cons (dv 0) (d_cons d_int d_nil))) d_int (nomark _)))))
 (d_sone d_break)
 d_snil)
 (d_scons (d_set 6 nd (d_callT call_tuple_of snd_tuple (by rfl) T.n_tuple (by decide +kernel) (d_cons (d_sl sl_any snd_sl (dv 1) (d_part (dv 4)) (d_part (d_op op_addA snd_add (dv 4) (d_c c_law_pick hr (by rfl) (d_cons (dv 0) (d_cons d_int d_nil)))))) d_nil)))
 (d_scons (d_setLc (own := [("j", 8)]) (vs := [8]) (blkOk_by (N := ["stream", "lines", "edits", "fresh", "at", "k", "removed", "put", "j"]) (sc := defScope s_law_drawn) (by decide +kernel)) rfl rfl nd (i := 7) rfl (by rfl) (sw_true rfl rfl rfl (by decide +kernel)) (d_irange1 (by rfl) T.n_range (d_cons (d_c c_law_pick hr (by rfl) (d_cons (dv 0) (d_cons d_int d_nil))) d_nil)) (snd_gN (by simp)) (fun _ _ _ _ _ => (pg_name (i := 8) nd rfl (by first | exact .inl rfl | exact .inr rfl))) (fun _ _ _ _ _ => d_noIf) (fun _ _ _ _ _ => (d_tup (d_cons (d_sh (d_op op_addA snd_add (dv 3) (dv 8))) (d_cons d_int d_nil)))))
 (d_scons (d_if (d_tcmp (op_eqA (hu64 hr)) snd_eq (d_op op_addA snd_add (d_callB call_lenA snd_len (by rfl) T.n_len (by decide +kernel) (d_cons (dv 6) d_nil)) (d_callB call_lenA snd_len (by rfl) T.n_len (by decide +kernel) (d_cons (dv 7) d_nil))) d_int (nomark _))
 (d_sone (d_set 7 nd (d_lst (d_cons (d_tup (d_cons (dvF 3) (d_cons d_int d_nil))) d_nil))))
 d_snil)
 (d_scons (d_set 3 nd (d_op op_addA snd_add (dv 3) (d_callB call_lenA snd_len (by rfl) T.n_len (by decide +kernel) (d_cons (dv 7) d_nil))))
 (d_scons (d_expr (d_mut rfl snd_append PySem.F.plainAttrs_list PySem.F.slot_list_append PySem.F.type_list_append mt_append (pv 2) (d_cons (d_tup (d_cons (dvF 4) (d_cons (dvF 6) (d_cons (d_callT call_tuple_of snd_tuple (by rfl) T.n_tuple (by decide +kernel) (d_cons (dv 7) d_nil)) d_nil)))) d_nil)))
 (d_sone (d_set 4 nd (d_op op_addA snd_add (d_op op_addA snd_add (d_op op_addA snd_add (dv 4) (d_callB call_lenA snd_len (by rfl) T.n_len (by decide +kernel) (d_cons (dv 6) d_nil))) d_int) (d_c c_law_pick hr (by rfl) (d_cons (dv 0) (d_cons d_int d_nil)))))))))))))
 (d_sone (d_ret (dvF 2)))))))
noncomputable def b_law_moved : DB := (dSeq (dFor (iRange1 (dCons (dCB fLen (dCons (dVar 1) dNil)) dNil)) (gN 3)
 (dSeq (dSet 4 (dC .non))
 (dSeq (dIf (dTest (dOp fIn (dOp fIx (dVar 1) (dVar 3)) (dVar 2)))
 (dSet 4 (dBM "list" fListIndex (dVar 2) (dCons (dOp fIx (dVar 1) (dVar 3)) dNil)))
 dNext)
 (dSeq (dSet 5 (dCall false f_line_after (dCons (dVarF 0) (dCons (dVarF 3) dNil))))
 (dIf (dOr (dTest (dOp fNe (dOp fIsN (dVar 4) (dC .non)) (dOp fIsN (dVar 5) (dC .non)))) (dTest (dOp fNe (dVar 5) (dVar 4))))
 (dRet (dC (.bl false)))
 dNext)))))
 (dRet (dC (.bl true))))
noncomputable def f_law_moved : List D → Option FR := runD false false 6 3 b_law_moved
set_option maxHeartbeats 4000000 in
theorem ok_law_moved {P : Program} {w : World} {K : PySem.W.Frag} {mg : Str → Option Value} {base : Heap} (T : Txt K mg) (c_line_after : Cal P w K mg base 2 "line_after" ["edits", "at"] false f_line_after) : Cal P w K mg base 3 "_law_moved" ["edits", "before", "after"] false f_law_moved := by
  refine mk_cal (kk := 2) T.d_law_moved sc_law_moved rfl rfl (by decide) (fun f cdv A outer s H E hr => ?_)
  have nd := (sc_law_moved).nd
  exact (d_scons (d_for (vs := [3]) PassesOwn.never rfl (d_irange1 (by rfl) T.n_range (d_cons (d_callB call_lenA snd_len (by rfl) T.n_len (by decide +kernel) (d_cons (dv 1) d_nil)) d_nil)) (pg_name (i := 3) nd rfl (by first | exact .inl rfl | exact .inr rfl)) (snd_gN (by simp))
 (d_scons (d_set 4 nd d_non)
 (d_scons (d_if (d_tcmp (op_inA (hu65 hr)) snd_in (d_ix ix_seq snd_ix (dv 1) (dv 3) (fun _ _ => rfl)) (dv 2) (by rfl))
 (d_sone (d_set 4 nd (d_bm rfl snd_list_index PySem.F.plainAttrs_list PySem.F.slot_list_index PySem.F.type_list_index (mt_indexD (hu65 hr)) (dv 2) (d_cons (d_ix ix_seq snd_ix (dv 1) (dv 3) (fun _ _ => rfl)) d_nil))))
 d_snil)
 (d_scons (d_set 5 nd (d_c c_line_after hr (by rfl) (d_cons (dvF 0) (d_cons (dvF 3) d_nil))))
 (d_sone (d_if (PW.pt (d_or (d_tcmp (op_neA (hu64 hr)) snd_ne (d_cmp op_isN snd_isN (dv 4) d_non (nomark _)) (d_cmp op_isN snd_isN (dv 5) d_non (nomark _)) (nomark _)) (pw_or1 (d_tcmp (op_neA (hu64 hr)) snd_ne (dv 5) (dv 4) (nomark _)))))
 (d_sone (d_ret d_bl))
 d_snil))))))
 (d_sone (d_ret d_bl)))
noncomputable def b_law : DB := (dSeq (dSet 1 (dCall false f_law_stream (dCons (dVarF 0) dNil)))
 (dSeq (dSet 2 (dLc [15] (iRange1 (dCons (dCall true f_law_pick (dCons (dVar 1) (dCons (dC (.int 31)) dNil))) dNil)) (gN 15) dYes (dTup (dCons (dSh (dOp fAdd (dC (.int 11)) (dVar 15))) (dCons (dC (.int 10)) dNil)))))
 (dSeq (dSet 3 (dCall true f_law_drawn (dCons (dVar 1) (dCons (dVarF 2) dNil))))
 (dSeq (dSet 4 (dLst dNil))
 (dSeq (dSet 5 (dLst dNil))
 (dSeq (dSet 6 (dC (.int 0)))
 (dSeq (dSet 7 (dC (.int 0)))
 (dSeq (dFor (iSeq (dVarF 3)) (gT 3 (gsC (gN 8) (gsC (gN 9) (gsC (gN 10) gsN))))
 (dSeq (dSet 4 (dOp fAdd (dVar 4) (dSl fSl (dVar 2) (dPart (dVar 7)) (dPart (dVar 8)))))
 (dSeq (dDrop (dMut "list" fAppend 5 (dCons (dTup (dCons (dCB fLen (dCons (dVar 4) dNil)) (dCons (dVarF 10) (dCons (dVarF 9) dNil)))) dNil)))
 (dSeq (dSet 4 (dOp fAdd (dVar 4) (dCB fList (dCons (dVar 10) dNil))))
 (dSeq (dSet 6 (dOp fAdd (dOp fAdd (dVar 6) (dCB fLen (dCons (dVar 10) dNil))) (dCB fLen (dCons (dVar 9) dNil))))
 (dSet 7 (dOp fAdd (dVar 8) (dCB fLen (dCons (dVar 9) dNil)))))))))
 (dSeq (dSet 4 (dOp fAdd (dVar 4) (dSl fSl (dVar 2) (dPart (dVar 7)) dNoPart)))
 (dSeq (dSet 11 (dCB fList (dCons (dVar 2) dNil)))
 (dSeq (dSet 12 (dCB fList (dCons (dVar 3) dNil)))
 (dSeq (dSet 13 (dCall false f_apply_edits (dCons (dVarF 11) (dCons (dVarF 12) dNil))))
 (dSeq (dIf (dOr (dNot (dTest (dCB fIsi (dCons (dVar 13) (dCons (dC (.ty "list")) dNil))))) (dOr (dTest (dOp fNe (dVar 13) (dVar 4))) (dTest (dOp fNe (dVar 11) (dVar 2)))))
 (dRet (dC (.bl false)))
 dNext)
 (dSeq (dSet 14 (dCall false f_inverted_edits (dCons (dVarF 12) dNil)))
 (dSeq (dIf (dOr (dNot (dTest (dCB fIsi (dCons (dVar 14) (dCons (dC (.ty "list")) dNil))))) (dOr (dTest (dOp fNe (dVar 14) (dVar 5))) (dTest (dOp fNe (dVar 12) (dVar 3)))))
 (dRet (dC (.bl false)))
 dNext)
 (dSeq (dIf (dOr (dTest (dOp fNe (dCall false f_apply_edits (dCons (dVarF 4) (dCons (dVarF 14) dNil))) (dVar 2))) (dTest (dOp fNe (dCall false f_inverted_edits (dCons (dVarF 14) dNil)) (dVar 3))))
 (dRet (dC (.bl false)))
 dNext)
 (dSeq (dIf (dOr (dTest (dOp fNe (dCall false f_edit_size (dCons (dVarF 12) dNil)) (dVar 6))) (dTest (dOp fNe (dCall false f_edit_size (dCons (dVarF 14) dNil)) (dVar 6))))
 (dRet (dC (.bl false)))
 dNext)
 (dRet (dAndV (dCall false f_law_moved (dCons (dVarF 3) (dCons (dVarF 2) (dCons (dVarF 4) dNil)))) (dCall false f_law_moved (dCons (dVarF 5) (dCons (dVarF 4) (dCons (dVarF 2) dNil)))))))))))))))))))))))
noncomputable def f_law : List D → Option FR := runD false false 16 1 b_law
set_option maxHeartbeats 4000000 in
theorem ok_law {P : Program} {w : World} {K : PySem.W.Frag} {mg : Str → Option Value} {base : Heap} {fa : Addr} {fd : FuncData} (T : Txt K mg) (Fl : Fun K "law" "law" s_law fa fd) (c_law_stream : Cal P w K mg base 1 "_law_stream" ["script"] false f_law_stream) (c_law_pick : Cal P w K mg base 2 "_law_pick" ["stream", "many"] true f_law_pick) (c_law_drawn : Cal P w K mg base 3 "_law_drawn" ["stream", "lines"] true f_law_drawn) (c_apply_edits : Cal P w K mg base 2 "apply_edits" ["lines", "edits"] false f_apply_edits) (c_inverted_edits : Cal P w K mg base 2 "inverted_edits" ["edits"] false f_inverted_edits) (c_edit_size : Cal P w K mg base 2 "edit_size" ["edits"] false f_edit_size) (c_law_moved : Cal P w K mg base 3 "_law_moved" ["edits", "before", "after"] false f_law_moved) : FnOk P w K mg base CX0 4 fa fd ["script"] (SpD K mg false false f_law) := by
  refine mk_fn (kk := 3) Fl sc_law rfl rfl (by decide) (fun f cdv A outer s H E hr => ?_)
  have nd := (sc_law).nd
  exact (d_scons (d_set 1 nd (d_c c_law_stream hr (by rfl) (d_cons (dvF 0) d_nil)))
 (d_scons (d_setLc (own := [("k", 15)]) (vs := [15]) (blkOk_by (N := ["script", "stream", "lines", "edits", "second", "back", "size", "done", "at", "removed", "put", "mine", "handed", "found", "inverted", "k"]) (sc := defScope s_law) (by decide +kernel)) rfl rfl nd (i := 2) rfl (by rfl) (sw_true rfl rfl rfl (by decide +kernel)) (d_irange1 (by rfl) T.n_range (d_cons (d_c c_law_pick hr (by rfl) (d_cons (dv 1) (d_cons d_int d_nil))) d_nil)) (snd_gN (by simp)) (fun _ _ _ _ _ => (pg_name (i := 15) nd rfl (by first | exact .inl rfl | exact .inr rfl))) (fun _ _ _ _ _ => d_noIf) (fun _ _ _ _ _ => (d_tup (d_cons (d_sh (d_op op_addA snd_add d_int (dv 15))) (d_cons d_int d_nil)))))
 (d_scons (d_set 3 nd (d_c c_law_drawn hr (by rfl) (d_cons (dv 1) (d_cons (dvF 2) d_nil))))
 (d_scons (d_set 4 nd (d_lst d_nil))
 (d_scons (d_set 5 nd (d_lst d_nil))
 (d_scons (d_set 6 nd d_int)
 (d_scons (d_set 7 nd d_int)
 (d_scons (d_for (vs := [8, 9, 10]) PassesOwn.never rfl (d_iseq rfl (dvF 3)) (pg_tup rfl (pgs_cons (pg_name (i := 8) nd rfl (by first | exact .inl rfl | exact .inr rfl)) (pgs_cons (pg_name (i := 9) nd rfl (by first | exact .inl rfl | exact .inr rfl)) (pgs_cons (pg_name (i := 10) nd rfl (by first | exact .inl rfl | exact .inr rfl)) pgs_nil)))) (snd_gT (snd_gsC (snd_gN (by simp)) (snd_gsC (snd_gN (by simp)) (snd_gsC (snd_gN (by simp)) snd_gsN))))
 (d_scons (d_set 4 nd (d_op op_addA snd_add (dv 4) (d_sl sl_any snd_sl (dv 2) (d_part (dv 7)) (d_part (dv 8)))))
 (d_scons (d_expr (d_mut rfl snd_append PySem.F.plainAttrs_list PySem.F.slot_list_append PySem.F.type_list_append mt_append (pv 5) (d_cons (d_tup (d_cons (d_callB call_lenA snd_len (by rfl) T.n_len (by decide +kernel) (d_cons (dv 4) d_nil)) (d_cons (dvF 10) (d_cons (dvF 9) d_nil)))) d_nil)))
 (d_scons (d_set 4 nd (d_op op_addA snd_add (dv 4) (d_callT call_list_of snd_list (by rfl) T.n_list (by decide +kernel) (d_cons (dv 10) d_nil))))
 (d_scons (d_set 6 nd (d_op op_addA snd_add (d_op op_addA snd_add (dv 6) (d_callB call_lenA snd_len (by rfl) T.n_len (by decide +kernel) (d_cons (dv 10) d_nil))) (d_callB call_lenA snd_len (by rfl) T.n_len (by decide +kernel) (d_cons (dv 9) d_nil))))
 (d_sone (d_set 7 nd (d_op op_addA snd_add (dv 8) (d_callB call_lenA snd_len (by rfl) T.n_len (by decide +kernel) (d_cons (dv 9) d_nil))))))))))
 (d_scons (d_set 4 nd (d_op op_addA snd_add (dv 4) (d_sl sl_any snd_sl (dv 2) (d_part (dv 7)) d_noPart)))
 (d_scons (d_set 11 nd (d_callT call_list_of snd_list (by rfl) T.n_list (by decide +kernel) (d_cons (dv 2) d_nil)))
 (d_scons (d_set 12 nd (d_callT call_list_of snd_list (by rfl) T.n_list (by decide +kernel) (d_cons (dv 3) d_nil)))
 (d_scons (d_set 13 nd (d_c c_apply_edits hr (by rfl) (d_cons (dvF 11) (d_cons (dvF 12) d_nil))))
 (d_scons (d_if (PW.pt (d_or (d_not (d_tval (d_callB call_isi snd_isi (by rfl) T.n_isinstance (by decide +kernel) (d_cons (dv 13) (d_cons (d_bty (by rfl) T.n_list (by decide +kernel)) d_nil))))) (d_or (d_tcmp (op_neA (hu64 hr)) snd_ne (dv 13) (dv 4) (nomark _)) (pw_or1 (d_tcmp (op_neA (hu64 hr)) snd_ne (dv 11) (dv 2) (nomark _))))))
 (d_sone (d_ret d_bl))
 d_snil)
 (d_scons (d_set 14 nd (d_c c_inverted_edits hr (by rfl) (d_cons (dvF 12) d_nil)))
 (d_scons (d_if (PW.pt (d_or (d_not (d_tval (d_callB call_isi snd_isi (by rfl) T.n_isinstance (by decide +kernel) (d_cons (dv 14) (d_cons (d_bty (by rfl) T.n_list (by decide +kernel)) d_nil))))) (d_or (d_tcmp (op_neA (hu64 hr)) snd_ne (dv 14) (dv 5) (nomark _)) (pw_or1 (d_tcmp (op_neA (hu64 hr)) snd_ne (dv 12) (dv 3) (nomark _))))))
 (d_sone (d_ret d_bl))
 d_snil)
 (d_scons (d_if (PW.pt (d_or (d_tcmp (op_neA (hu64 hr)) snd_ne (d_c c_apply_edits hr (by rfl) (d_cons (dvF 4) (d_cons (dvF 14) d_nil))) (dv 2) (nomark _)) (pw_or1 (d_tcmp (op_neA (hu64 hr)) snd_ne (d_c c_inverted_edits hr (by rfl) (d_cons (dvF 14) d_nil)) (dv 3) (nomark _)))))
 (d_sone (d_ret d_bl))
 d_snil)
 (d_scons (d_if (PW.pt (d_or (d_tcmp (op_neA (hu64 hr)) snd_ne (d_c c_edit_size hr (by rfl) (d_cons (dvF 12) d_nil)) (dv 6) (nomark _)) (pw_or1 (d_tcmp (op_neA (hu64 hr)) snd_ne (d_c c_edit_size hr (by rfl) (d_cons (dvF 14) d_nil)) (dv 6) (nomark _)))))
 (d_sone (d_ret d_bl))
 d_snil)
 (d_sone (d_ret (d_andV (d_c c_law_moved hr (by rfl) (d_cons (dvF 3) (d_cons (dvF 2) (d_cons (dvF 4) d_nil)))) (pe_one (d_c c_law_moved hr (by rfl) (d_cons (dvF 5) (d_cons (dvF 4) (d_cons (dvF 2) d_nil)))))))))))))))))))))))))
end Law
namespace DL
open PySem PySem.Spec PyProof.Rows L2
abbrev Sg := List Int × List Int × List Int
def linesS : List Sg → List Int → List Int
  | [], last => last
  | (k, r, p) :: ss, last => k ++ (r ++ linesS ss last)
def swapS : List Sg → List Sg
  | [] => []
  | (k, r, p) :: ss => (k, p, r) :: swapS ss
theorem swap_swap : ∀ ss : List Sg, swapS (swapS ss) = ss
  | [] => rfl
  | (k, r, p) :: ss => by rw [swapS, swapS, swap_swap ss]
abbrev EdI := Nat × List Int × List Int
def edsS : Nat → List Sg → List EdI
  | _, [] => []
  | d, (k, r, p) :: ss => (d + k.length, r, p) :: edsS (d + k.length + r.length) ss
/-- kept rows between two edits; each edit does something; all is small -/
def okS : Bool → List Sg → Prop
  | _, [] => True
  | b, (k, r, p) :: ss => (b = true → 0 < k.length) ∧ ¬ (r.length = 0 ∧ p.length = 0) ∧ okS true ss
theorem okS_swap : ∀ {b : Bool} {ss : List Sg}, okS b ss → okS b (swapS ss)
  | _, [], _ => trivial
  | _, (k, r, p) :: ss, ⟨h1, h2, h3⟩ => ⟨h1, fun h => h2 ⟨h.2, h.1⟩, okS_swap h3⟩
def lenS : List Sg → Nat
  | [] => 0
  | (k, r, p) :: ss => k.length + r.length + p.length + lenS ss
theorem lenS_swap : ∀ ss : List Sg, lenS (swapS ss) = lenS ss
  | [] => rfl
  | (k, r, p) :: ss => by rw [swapS, lenS, lenS, lenS_swap ss]; omega
def row (z : Int) : D := .tup [.int z, .int 10]
def rowsI (zs : List Int) : List D := zs.map row
def edI (e : EdI) : Ed := (e.1, rowsI e.2.1, rowsI e.2.2)
theorem rowsI_app (a b : List Int) : rowsI (a ++ b) = rowsI a ++ rowsI b := List.map_append
theorem rowsI_length (a : List Int) : (rowsI a).length = a.length := List.length_map _
theorem row_sk {k : Nat} {z : Int} : sk (k + 1) (row z) := sk_tup fun d hd => by
  simp only [List.mem_cons, List.not_mem_nil, or_false] at hd
  rcases hd with rfl | rfl <;> exact sk_int
theorem rowsI_sk {zs : List Int} : ∀ d ∈ rowsI zs, sk 1 d := fun d hd => by
  obtain ⟨z, _, rfl⟩ := List.mem_map.mp hd
  exact row_sk
theorem row_inj {a b : Int} (h : row a = row b) : a = b := by
  unfold row at h
  injection h with h
  injection h with h _
  injection h
theorem seg_proper : ∀ (ss : List Sg) (b : Bool) (d : Nat) (e : Int), okS b ss → (b = true → e = d) → (b = false → e < d) → d + lenS ss ≤ 999999 → Proper e ((edsS d ss).map edI)
  | [], _, _, _, _, _, _, _ => trivial
  | (k, r, p) :: ss, b, d, e, ⟨h1, h2, h3⟩, q1, q2, hl => by
    rw [lenS] at hl
    refine ⟨?_, by show d + k.length ≤ _; omega, by show (rowsI r).length ≤ _; rw [rowsI_length]; omega, by show (rowsI p).length ≤ _; rw [rowsI_length]; omega, by show ¬ ((rowsI r).length = 0 ∧ (rowsI p).length = 0); rw [rowsI_length, rowsI_length]; exact h2, ?_⟩
    · show e < ((d + k.length : Nat) : Int)
      cases b with
      | true =>
        have := h1 rfl
        have := q1 rfl
        omega
      | false =>
        have := q2 rfl
        omega
    · refine seg_proper ss true (d + k.length + r.length) _ h3 (fun _ => ?_) (fun h => by cases h) (by omega)
      show ((d + k.length : Nat) : Int) + ((rowsI r).length : Int) = _
      rw [rowsI_length]
      omega
theorem seg_size : ∀ (ss : List Sg) (d d' : Nat), sizeE ((edsS d ss).map edI) = sizeE ((edsS d' (swapS ss)).map edI)
  | [], _, _ => rfl
  | (k, r, p) :: ss, d, d' => by
    show (rowsI r).length + (rowsI p).length + sizeE ((edsS (d + k.length + r.length) ss).map edI) = (rowsI p).length + (rowsI r).length + sizeE ((edsS (d' + k.length + p.length) (swapS ss)).map edI)
    rw [seg_size ss _ (d' + k.length + p.length)]
    omega
theorem sl_mid (a b c : List D) : sl (a ++ (b ++ c)) a.length (a.length + b.length) = b := by
  unfold sl
  rw [List.drop_left, show a.length + b.length - a.length = b.length by omega, List.take_left]
/-- where a place of the lines goes -/
def posS : List Sg → Nat → Option Nat
  | [], t => some t
  | (k, r, p) :: ss, t => if t < k.length then some t else if t < k.length + r.length then none else (posS ss (t - k.length - r.length)).map fun j => k.length + p.length + j
def remsS : List Sg → List Int
  | [] => []
  | (k, r, p) :: ss => r ++ remsS ss
def keepS : List Sg → List Int → List Int
  | [], last => last
  | (k, r, p) :: ss, last => k ++ keepS ss last
theorem pos_some : ∀ (ss : List Sg) (last : List Int) (t j : Nat), posS ss t = some j → (linesS (swapS ss) last)[j]? = (linesS ss last)[t]?
  | [], last, t, j, h => by
    obtain rfl := Option.some.inj h
    rfl
  | (k, r, p) :: ss, last, t, j, h => by
    rw [posS] at h
    rw [swapS, linesS, linesS]
    split at h
    · rename_i c
      obtain rfl := Option.some.inj h
      rw [List.getElem?_append_left c, List.getElem?_append_left c]
    · rename_i c
      split at h
      · cases h
      · rename_i c2
        obtain ⟨i, hi, rfl⟩ := Option.map_eq_some_iff.mp h
        have := pos_some ss last _ i hi
        rw [List.getElem?_append_right (by omega), List.getElem?_append_right (by omega), List.getElem?_append_right (by omega), List.getElem?_append_right (by omega), show k.length + p.length + i - k.length - p.length = i by omega]
        exact this
theorem pos_none : ∀ (ss : List Sg) (last : List Int) (t : Nat) (x : Int), posS ss t = none → (linesS ss last)[t]? = some x → x ∈ remsS ss
  | [], _, _, _, h, _ => by cases h
  | (k, r, p) :: ss, last, t, x, h, hx => by
    rw [posS] at h
    rw [linesS] at hx
    rw [remsS]
    split at h
    · cases h
    · rename_i c
      rw [List.getElem?_append_right (by omega)] at hx
      split at h
      · rename_i c2
        rw [List.getElem?_append_left (by omega)] at hx
        exact List.mem_append_left _ (List.mem_of_getElem? hx)
      · rename_i c2
        rw [List.getElem?_append_right (by omega)] at hx
        exact List.mem_append_right _ (pos_none ss last _ x (Option.map_eq_none_iff.mp h) hx)
theorem lines_perm : ∀ (ss : List Sg) (last : List Int), (linesS ss last).Perm (keepS ss last ++ remsS ss)
  | [], last => by
    rw [linesS, keepS, remsS, List.append_nil]
  | (k, r, p) :: ss, last => by
    rw [linesS, keepS, remsS, List.append_assoc]
    refine List.Perm.append_left k ?_
    refine (List.Perm.append_left r (lines_perm ss last)).trans ?_
    rw [← List.append_assoc, ← List.append_assoc]
    exact List.perm_append_comm.append_right _
theorem keep_swap : ∀ (ss : List Sg) (last : List Int), keepS (swapS ss) last = keepS ss last
  | [], _ => rfl
  | (k, r, p) :: ss, last => by rw [swapS, keepS, keepS, keep_swap ss last]
theorem lines_snoc : ∀ (ss : List Sg) (k r p last : List Int), linesS (ss ++ [(k, r, p)]) last = linesS ss (k ++ (r ++ last))
  | [], _, _, _, _ => rfl
  | (k', r', p') :: ss, k, r, p, last => by rw [List.cons_append, linesS, linesS, lines_snoc ss]
def endS : List Sg → Nat
  | [] => 0
  | (k, r, p) :: ss => k.length + r.length + endS ss
theorem eds_snoc : ∀ (ss : List Sg) (d : Nat) (k r p : List Int), edsS d (ss ++ [(k, r, p)]) = edsS d ss ++ [(d + endS ss + k.length, r, p)]
  | [], d, k, r, p => by rw [List.nil_append, edsS, edsS, edsS, endS]; rfl
  | (k', r', p') :: ss, d, k, r, p => by
    rw [List.cons_append, edsS, edsS, eds_snoc ss, endS, List.cons_append, show d + k'.length + r'.length + endS ss = d + (k'.length + r'.length + endS ss) by omega]
theorem end_snoc : ∀ (ss : List Sg) (k r p : List Int), endS (ss ++ [(k, r, p)]) = endS ss + k.length + r.length
  | [], k, r, p => by rw [List.nil_append, endS, endS, endS]; omega
  | (k', r', p') :: ss, k, r, p => by rw [List.cons_append, endS, endS, end_snoc ss]; omega
theorem ok_snoc : ∀ (ss : List Sg) (b : Bool) (k r p : List Int), okS b ss → (b = true ∨ ss ≠ [] → 0 < k.length) → ¬ (r.length = 0 ∧ p.length = 0) → okS b (ss ++ [(k, r, p)])
  | [], b, k, r, p, _, h, h2 => ⟨fun e => h (.inl e), h2, trivial⟩
  | (k', r', p') :: ss, b, k, r, p, ⟨q1, q2, q3⟩, h, h2 => ⟨q1, q2, ok_snoc ss true k r p q3 (fun _ => h (.inr (List.cons_ne_nil _ _))) h2⟩
def putsS (ss : List Sg) : List Int := remsS (swapS ss)
theorem puts_snoc : ∀ (ss : List Sg) (k r p : List Int), putsS (ss ++ [(k, r, p)]) = putsS ss ++ p
  | [], k, r, p => by simp [putsS, swapS, remsS]
  | (k', r', p') :: ss, k, r, p => by
    show p' ++ putsS (ss ++ [(k, r, p)]) = p' ++ putsS ss ++ p
    rw [puts_snoc ss, List.append_assoc]
theorem len_snoc : ∀ (ss : List Sg) (k r p : List Int), lenS (ss ++ [(k, r, p)]) = lenS ss + k.length + r.length + p.length
  | [], k, r, p => by rw [List.nil_append, lenS, lenS, lenS]; omega
  | (k', r', p') :: ss, k, r, p => by rw [List.cons_append, lenS, lenS, len_snoc ss]; omega
theorem lines_len : ∀ (ss : List Sg) (last : List Int), (linesS ss last).length = endS ss + last.length
  | [], last => by rw [linesS, endS]; omega
  | (k, r, p) :: ss, last => by rw [linesS, endS, List.length_append, List.length_append, lines_len ss]; omega
theorem lines_drop : ∀ (ss : List Sg) (last : List Int), (linesS ss last).drop (endS ss) = last
  | [], last => rfl
  | (k, r, p) :: ss, last => by
    rw [linesS, endS, ← List.append_assoc, show k.length + r.length + endS ss = (k ++ r).length + endS ss by rw [List.length_append], List.drop_append, List.drop_eq_nil_of_le (by omega), List.nil_append, show (k ++ r).length + endS ss - (k ++ r).length = endS ss by omega, lines_drop ss]
end DL
namespace Law
open PySem PySem.Spec PyProof.Rows L2 DL
local macro_rules | `(tactic| walk_at "ds") => `(tactic| simp (config := { maxSteps := 1000000, implicitDefEqProofs := false }) only [e_seq, bindB_nx, bindB_rt, bindB_bk, bindB_ct, bindB_ex, e_next, e_break, e_cont, e_retN, e_drop, k_drop, e_ret, k_ret, e_if, k_ifT, k_ifF, e_set, x_setS, x_setO, x_se1, e_putK, e_putL, e_unp, k_unp, toNx_s, e_c, e_var, v_sh, v_ow, v_io, e_varF, vF_sh, vF_ow, e_sh, k_shS, k_shO, e_op, k_op1, k_op2, an2_s, ans_v, ans_n, ans_t, e_un, k_un, an1_s, c_s, c_o, c_b, cOf_ow, cOf_io, h_lst, h_dk, h_dt, h_ins, e_nil, e_cons, k_cons1, k_cons2, e_cb, k_cb, anN_s, cs_nil, cs_cons, cs2_s, e_tup, e_lst, e_noPart, e_part, k_part, e_sl, k_sl1, k_sl2, k_sl3, anS_s, e_bm, e_test, k_test, e_and, e_or, e_not, k_andT, k_andF, k_orT, k_orF, k_not, e_andV, e_orV, e_notV, k_andVT, k_andVF, k_orVT, k_orVF, k_notV, e_ifE, k_ifET, k_ifEF, e_call, sAll_nil, sAll_s, cs1_s, slotD_ap, slotOf_ow, slotOf_io, wr_ap, wrOf_ow, wrOf_io, free_ap, free_un, free_sh, free_ow, o_add, o_sub, o_neg, o_lt, o_le, o_gt, o_ge, o_int, o_len, o_lenT, o_list, o_listT, o_tuple, o_tupleT, o_eqI, o_neI, o_rev, o_min, o_max, e_run, out_nx, out_rt, fin_0s, fin_0o, fin_1s, fin_1o, st_1, st_0, bindR_ok, bindS_ok, List.length_cons, List.length_nil, List.map_cons, List.map_nil, List.replicate, List.cons_append, List.nil_append, List.getElem?_cons_zero, List.getElem?_cons_succ, List.set_cons_zero, List.set_cons_succ, Nat.reduceAdd, Nat.reduceSub, Nat.reduceEqDiff, reduceIte, Bool.not_true, Bool.not_false, decide_true, decide_false, if_true, if_false, x_mut, x_mutL, x_mutK, x_mut2, x_mut3, x_mut4, x_tup, x_tup0, x_tup1, x_tup2, x_tup3, x_tup4, x_tup5, x_lst, x_lst0, x_lst1, x_lst2, x_lst3, x_lst4, x_pk1, x_pk2, x_pk3, x_pk4, x_pk5, x_pl1, x_pl2, x_pl3, x_pl4, x_call0, x_co0, x_call1, x_co1, x_finS, x_finO, x_finX, x_bm, x_bmS, x_bmL, x_bmK, x_bm2, x_bm3, x_lc, x_lcT, x_lc2, x_liN, x_liC, x_liU, x_liS, x_reN, x_reC, x_wiN, x_wiC, x_for, x_gN, x_gn1, x_gT, x_gsC, x_gs1, x_gsN, x_yes, e_lc, e_for, e_iseq, k_iseq, e_itup, k_itup, e_rg1, e_rg2, Bool.and_true, Bool.true_and, List.getD_cons_zero, List.getD_cons_succ])
def E (d : Nat) (ss : List Sg) : List D := ((edsS d ss).map edI).map edD
abbrev lr (zs : List Int) : D := .lst (rowsI zs)
theorem E_cons {d : Nat} {k r p : List Int} {ss : List Sg} : E d ((k, r, p) :: ss) = .tup [.int (d + k.length : Nat), .tup (rowsI r), .tup (rowsI p)] :: E (d + k.length + r.length) ss := rfl
theorem sl_end (a b : List D) : fSl (.lst (a ++ b)) (some (a.length : Int)) none = some (.n (.lst b)) := by
  show some (RW.n (.lst (DL.cutD (a ++ b) (some (a.length : Int)) none))) = _
  unfold DL.cutD
  rw [HT.sIx_nat, List.length_append, show HT.sIx (a.length + b.length) (a.length + b.length) none = a.length + b.length from rfl, Nat.min_eq_left (by omega), List.drop_left, List.take_of_length_le (by omega)]
theorem sl_mid' (a b c : List D) {z : Int} (h : z = (a.length + b.length : Nat)) : fSl (.lst (a ++ (b ++ c))) (some (a.length : Int)) (some z) = some (.n (.lst b)) := by
  rw [h, sl_nat, sl_mid]
theorem lr_sm {zs : List Int} : sm (lr zs) = true := (sk_lst rowsI_sk).sm (by decide)
def stA (L Ed f d x4 x5 x6 x7 x8 : SV) : DS := [L, Ed, f, d, x4, x5, x6, x7, x8]
theorem apply_ok {ss : List Sg} {last : List Int} (ok : okS false ss) (hl : lenS ss + last.length ≤ 1000) : f_apply_edits [lr (linesS ss last), .lst (E 0 ss)] = some (.rt (.s (lr (linesS (swapS ss) last))) .non) := by
  have hp := seg_proper ss false 0 (-1) ok (fun h => by cases h) (fun _ => by decide) (by omega)
  have hlen : ∀ (ss : List Sg), (linesS (swapS ss) last).length ≤ lenS ss + last.length := by
    intro ss
    induction ss with
    | nil => show last.length ≤ _; omega
    | cons s ss ih =>
      obtain ⟨k, r, p⟩ := s
      rw [swapS, linesS, lenS, List.length_append, List.length_append]
      omega
  have hS := hlen ss
  unfold f_apply_edits b_apply_edits
  walk_at "ds"
  rw [show E 0 ss = ((edsS 0 ss).map edI).map edD from rfl, check_ok hp]
  walk_at "ds"
  unfold iEnumerate
  walk_at "ds"
  rw [show ((edsS 0 ss).map edI).map edD = E 0 ss from rfl]
  generalize hE : D.lst (E 0 ss) = Ed
  generalize hF : forD _ _ _ _ = o
  obtain ⟨δ', rfl, n, d, ss', pre, found, x4, x5, x6, x7, x8, h1, rfl, h2, h3, h4, -⟩ : ∃ δ', o = some (.nx δ') ∧ ∃ n d ss' pre found x4 x5 x6 x7 x8, [] = enumD n (E d ss') ∧ δ' = stA (.sh (lr (linesS ss last))) (.sh Ed) (.ow (lr found)) (.sh (.int d)) x4 x5 x6 x7 x8 ∧ linesS ss last = pre ++ linesS ss' last ∧ d = pre.length ∧ found ++ linesS (swapS ss') last = linesS (swapS ss) last ∧ freeOf (some x4) = true ∧ freeOf (some x5) = true ∧ freeOf (some x6) = true ∧ freeOf (some x7) = true ∧ freeOf (some x8) = true := by
    rw [← hF]
    refine for_list (P := fun rem δ' => ∃ n d ss' pre found x4 x5 x6 x7 x8, rem = enumD n (E d ss') ∧ δ' = stA (.sh (lr (linesS ss last))) (.sh Ed) (.ow (lr found)) (.sh (.int d)) x4 x5 x6 x7 x8 ∧ linesS ss last = pre ++ linesS ss' last ∧ d = pre.length ∧ found ++ linesS (swapS ss') last = linesS (swapS ss) last ∧ freeOf (some x4) = true ∧ freeOf (some x5) = true ∧ freeOf (some x6) = true ∧ freeOf (some x7) = true ∧ freeOf (some x8) = true) ?_ _ _ ⟨0, 0, ss, [], [], .un, .un, .un, .un, .un, rfl, rfl, rfl, rfl, rfl, rfl, rfl, rfl, rfl, rfl⟩
    rintro a as _ ⟨n, d, ss', pre, found, x4, x5, x6, x7, x8, h1, rfl, h2, rfl, h4, l4, l5, l6, l7, l8⟩
    cases ss' with
    | nil => cases h1
    | cons s ss' =>
      obtain ⟨k, r, p⟩ := s
      rw [E_cons, enumD] at h1
      obtain ⟨rfl, rfl⟩ := List.cons.inj h1
      rw [linesS] at h2
      rw [swapS, linesS] at h4
      have hf := congrArg List.length h4
      rw [List.length_append, List.length_append, List.length_append] at hf
      have hL := congrArg List.length h2
      rw [List.length_append, List.length_append, List.length_append] at hL
      have q0 : gT 2 (gsC (gN 4) (gsC (gN 5) gsN)) (.tup [.int n, .tup [.int (pre.length + k.length : Nat), .tup (rowsI r), .tup (rowsI p)]]) (stA (.sh (lr (linesS ss last))) (.sh Ed) (.ow (lr found)) (.sh (.int pre.length)) x4 x5 x6 x7 x8) = some (stA (.sh (lr (linesS ss last))) (.sh Ed) (.ow (lr found)) (.sh (.int pre.length)) (.sh (.int n)) (.sh (.tup [.int (pre.length + k.length : Nat), .tup (rowsI r), .tup (rowsI p)])) x6 x7 x8) := by
        unfold stA
        walk_at "ds"
        rw [l4]
        walk_at "ds"
        rw [l5]
        walk_at "ds"
      refine ⟨_, stA (.sh (lr (linesS ss last))) (.sh Ed) (.ow (lr (found ++ (k ++ p)))) (.sh (.int (pre.length + k.length + r.length : Nat))) (.sh (.int n)) (.sh (.tup [.int (pre.length + k.length : Nat), .tup (rowsI r), .tup (rowsI p)])) (.sh (.int (pre.length + k.length : Nat))) (.sh (.tup (rowsI r))) (.sh (.tup (rowsI p))), q0, .inl ?_, n + 1, _, ss', pre ++ (k ++ r), _, _, _, _, _, _, rfl, rfl, by rw [h2, List.append_assoc, List.append_assoc], by rw [List.length_append, List.length_append]; omega, by rw [← h4, List.append_assoc, List.append_assoc], rfl, rfl, rfl, rfl, rfl⟩
      have e1 : rowsI (linesS ss last) = rowsI (pre ++ k) ++ (rowsI r ++ rowsI (linesS ss' last)) := by rw [h2, rowsI_app, rowsI_app, rowsI_app, rowsI_app, List.append_assoc]
      have e2 : rowsI (linesS ss last) = rowsI pre ++ (rowsI k ++ rowsI (r ++ linesS ss' last)) := by rw [h2, rowsI_app, rowsI_app]
      have s1 : fSl (lr (linesS ss last)) (some ((pre.length + k.length : Nat) : Int)) (some (((pre.length + k.length : Nat) : Int) + ((rowsI r).length : Int))) = some (.n (lr r)) := by
        show fSl (.lst (rowsI (linesS ss last))) _ _ = _
        rw [e1, show ((pre.length + k.length : Nat) : Int) = ((rowsI (pre ++ k)).length : Int) by rw [rowsI_length, List.length_append]]
        exact sl_mid' _ _ _ (by omega)
      have s2 : fSl (lr (linesS ss last)) (some (pre.length : Int)) (some ((pre.length + k.length : Nat) : Int)) = some (.n (lr k)) := by
        show fSl (.lst (rowsI (linesS ss last))) _ _ = _
        rw [e2, show (pre.length : Int) = ((rowsI pre).length : Int) by rw [rowsI_length]]
        exact sl_mid' _ _ _ (by rw [rowsI_length, rowsI_length])
      unfold stA
      walk_at "ds"
      rw [l6]
      walk_at "ds"
      rw [l7]
      walk_at "ds"
      rw [l8]
      walk_at "ds"
      rw [decide_eq_false (by rw [rowsI_length, hL]; omega)]
      walk_at "ds"
      rw [s1]
      walk_at "ds"
      rw [fNe_same ((sk_tup rowsI_sk).sm (by decide))]
      walk_at "ds"
      rw [s2]
      walk_at "ds"
      rw [o_addL (by rw [rowsI_length, rowsI_length]; unfold LN; omega)]
      walk_at "ds"
      rw [o_addL (by rw [List.length_append, rowsI_length, rowsI_length, rowsI_length]; unfold LN; omega)]
      walk_at "ds"
      rw [← rowsI_app, ← rowsI_app, List.append_assoc, rowsI_length]
      rfl
  cases ss' with
  | cons s ss' => cases h1
  | nil =>
    subst h3
    rw [linesS] at h2
    rw [swapS, linesS] at h4
    have hf := congrArg List.length h4
    rw [List.length_append] at hf
    have s3 : fSl (lr (linesS ss last)) (some (pre.length : Int)) none = some (.n (lr last)) := by
      show fSl (.lst (rowsI (linesS ss last))) _ _ = _
      rw [h2, rowsI_app, show (pre.length : Int) = ((rowsI pre).length : Int) by rw [rowsI_length]]
      exact sl_end _ _
    unfold stA
    walk_at "ds"
    rw [s3]
    walk_at "ds"
    rw [o_addL (by rw [rowsI_length, rowsI_length]; unfold LN; omega)]
    walk_at "ds"
    rw [← rowsI_app, h4]
end Law
namespace DL
open PySem PySem.Spec PyProof.Rows L2
section
variable {δ δ1 : DS} {da db dc : DE} {f g : D → D → Option RW} {w w2 : W} {d e : D}
def kCh5 (g : D → D → Option RW) (w2 : W) : W → DS → Option (R W) := fun w3 δ3 => with1 (cont δ3 w2) fun d2 => with1 (cont δ3 w3) fun d3 => ans δ3 (g d2 d3)
def ch4 (g : D → D → Option RW) (dc : DE) (w2 : W) (δ : DS) : Option RW → Option (R W)
  | some (.v (.bl true)) => bindR (dc δ) (kCh5 g w2)
  | some (.v (.bl false)) => some (.ok (.s (.bl false)) δ)
  | _ => none
def ch3 (f g : D → D → Option RW) (dc : DE) (w2 : W) (δ : DS) : Option D → Option D → Option (R W)
  | some a, some b => ch4 g dc w2 δ (f a b)
  | _, _ => none
def kCh2 (f g : D → D → Option RW) (dc : DE) (w1 : W) : W → DS → Option (R W) := fun w2 δ2 => ch3 f g dc w2 δ2 (cont δ2 w1) (cont δ2 w2)
def kCh1 (f g : D → D → Option RW) (db dc : DE) : W → DS → Option (R W) := fun w1 δ1 => bindR (db δ1) (kCh2 f g dc w1)
theorem x_ch0 : dChain f g da db dc δ = bindR (da δ) (kCh1 f g db dc) := by
  unfold dChain kCh1 kCh2 ch3 ch4 kCh5 with1
  congr 1
  funext w1 δ1
  congr 1
  funext w2 δ2
  cases cont δ2 w1 with
  | none => rfl
  | some a =>
    cases cont δ2 w2 with
    | none => rfl
    | some b =>
      dsimp only
      cases f a b with
      | none => rfl
      | some z =>
        cases z with
        | v q =>
          cases q with
          | bl k => cases k <;> rfl
          | _ => rfl
        | _ => rfl
theorem x_ch1 : kCh1 f g db dc w δ = bindR (db δ) (kCh2 f g dc w) := rfl
theorem x_ch2 : kCh2 f g dc w w2 δ = ch3 f g dc w2 δ (cont δ w) (cont δ w2) := rfl
theorem x_ch3 : ch3 f g dc w2 δ (some d) (some e) = ch4 g dc w2 δ (f d e) := rfl
theorem x_ch4T : ch4 g dc w2 δ (some (.v (.bl true))) = bindR (dc δ) (kCh5 g w2) := rfl
theorem x_ch4F : ch4 g dc w2 δ (some (.v (.bl false))) = some (.ok (.s (.bl false)) δ) := rfl
theorem x_ch5 : kCh5 g w w2 δ = an2 g (cont δ w) (cont δ w2) δ := by
  unfold kCh5 an2 with1
  cases cont δ w with
  | none => rfl
  | some a => cases cont δ w2 <;> rfl
theorem for_rt {tg : DG} {body : DB} {ds : List D} {δ2 : DS} (h1 : tg d δ = some δ1) (h2 : body δ1 = some (.rt w δ2)) : forD tg body (d :: ds) δ = some (.rt w δ2) := by
  rw [forD]
  simp only [h1, h2]
end
end DL
namespace Law
open PySem PySem.Spec PyProof.Rows L2 DL
local macro_rules | `(tactic| walk_at "ds") => `(tactic| simp (config := { maxSteps := 1000000, implicitDefEqProofs := false }) only [e_seq, bindB_nx, bindB_rt, bindB_bk, bindB_ct, bindB_ex, e_next, e_break, e_cont, e_retN, e_drop, k_drop, e_ret, k_ret, e_if, k_ifT, k_ifF, e_set, x_setS, x_setO, x_se1, e_putK, e_putL, e_unp, k_unp, toNx_s, e_c, e_var, v_sh, v_ow, v_io, e_varF, vF_sh, vF_ow, e_sh, k_shS, k_shO, e_op, k_op1, k_op2, an2_s, ans_v, ans_n, ans_t, e_un, k_un, an1_s, c_s, c_o, c_b, cOf_ow, cOf_io, h_lst, h_dk, h_dt, h_ins, e_nil, e_cons, k_cons1, k_cons2, e_cb, k_cb, anN_s, cs_nil, cs_cons, cs2_s, e_tup, e_lst, e_noPart, e_part, k_part, e_sl, k_sl1, k_sl2, k_sl3, anS_s, e_bm, e_test, k_test, e_and, e_or, e_not, k_andT, k_andF, k_orT, k_orF, k_not, e_andV, e_orV, e_notV, k_andVT, k_andVF, k_orVT, k_orVF, k_notV, e_ifE, k_ifET, k_ifEF, e_call, sAll_nil, sAll_s, cs1_s, slotD_ap, slotOf_ow, slotOf_io, wr_ap, wrOf_ow, wrOf_io, free_ap, free_un, free_sh, free_ow, o_add, o_sub, o_neg, o_lt, o_le, o_gt, o_ge, o_int, o_len, o_lenT, o_list, o_listT, o_tuple, o_tupleT, o_eqI, o_neI, o_rev, o_min, o_max, e_run, out_nx, out_rt, fin_0s, fin_0o, fin_1s, fin_1o, st_1, st_0, bindR_ok, bindS_ok, List.length_cons, List.length_nil, List.map_cons, List.map_nil, List.replicate, List.cons_append, List.nil_append, List.getElem?_cons_zero, List.getElem?_cons_succ, List.set_cons_zero, List.set_cons_succ, Nat.reduceAdd, Nat.reduceSub, Nat.reduceEqDiff, reduceIte, Bool.not_true, Bool.not_false, decide_true, decide_false, if_true, if_false, x_mut, x_mutL, x_mutK, x_mut2, x_mut3, x_mut4, x_tup, x_tup0, x_tup1, x_tup2, x_tup3, x_tup4, x_tup5, x_lst, x_lst0, x_lst1, x_lst2, x_lst3, x_lst4, x_pk1, x_pk2, x_pk3, x_pk4, x_pk5, x_pl1, x_pl2, x_pl3, x_pl4, x_call0, x_co0, x_call1, x_co1, x_finS, x_finO, x_finX, x_bm, x_bmS, x_bmL, x_bmK, x_bm2, x_bm3, x_lc, x_lcT, x_lc2, x_liN, x_liC, x_liU, x_liS, x_reN, x_reC, x_wiN, x_wiC, x_for, x_gN, x_gn1, x_gT, x_gsC, x_gs1, x_gsN, x_yes, e_lc, e_for, e_iseq, k_iseq, e_itup, k_itup, e_rg1, e_rg2, Bool.and_true, Bool.true_and, List.getD_cons_zero, List.getD_cons_succ, x_ch0, x_ch1, x_ch2, x_ch3, x_ch4T, x_ch4F, x_ch5])
theorem E_length : ∀ (ss : List Sg) (d : Nat), (E d ss).length = ss.length
  | [], _ => rfl
  | (k, r, p) :: ss, d => by rw [E_cons, List.length_cons, E_length ss, List.length_cons]
theorem swap_length : ∀ ss : List Sg, (swapS ss).length = ss.length
  | [] => rfl
  | (k, r, p) :: ss => by rw [swapS, List.length_cons, swap_length ss, List.length_cons]
theorem inverted_ok {ss : List Sg} (ok : okS false ss) (hl : lenS ss ≤ 1000) (hn : ss.length ≤ 1000) : f_inverted_edits [.lst (E 0 ss)] = some (.rt (.s (.lst (E 0 (swapS ss)))) .non) := by
  have hp := seg_proper ss false 0 (-1) ok (fun h => by cases h) (fun _ => by decide) (by omega)
  unfold f_inverted_edits b_inverted_edits
  walk_at "ds"
  rw [show E 0 ss = ((edsS 0 ss).map edI).map edD from rfl, check_ok hp]
  walk_at "ds"
  rw [show ((edsS 0 ss).map edI).map edD = E 0 ss from rfl]
  generalize hE : D.lst (E 0 ss) = Ed
  generalize hF : forD _ _ _ _ = o
  obtain ⟨δ', rfl, d, d2, ss', out, x3, x4, x5, h1, rfl, h2, -⟩ : ∃ δ', o = some (.nx δ') ∧ ∃ (d d2 : Nat) (ss' : List Sg) (out : List D) (x3 x4 x5 : SV), [] = E d ss' ∧ δ' = [.sh Ed, .ow (.lst out), .sh (.int ((d2 : Int) - (d : Int))), x3, x4, x5] ∧ out ++ E d2 (swapS ss') = E 0 (swapS ss) ∧ freeOf (some x3) = true ∧ freeOf (some x4) = true ∧ freeOf (some x5) = true := by
    rw [← hF]
    refine for_list (P := fun rem δ' => ∃ (d d2 : Nat) (ss' : List Sg) (out : List D) (x3 x4 x5 : SV), rem = E d ss' ∧ δ' = [.sh Ed, .ow (.lst out), .sh (.int ((d2 : Int) - (d : Int))), x3, x4, x5] ∧ out ++ E d2 (swapS ss') = E 0 (swapS ss) ∧ freeOf (some x3) = true ∧ freeOf (some x4) = true ∧ freeOf (some x5) = true) ?_ _ _ ⟨0, 0, ss, [], .un, .un, .un, rfl, rfl, rfl, rfl, rfl, rfl⟩
    rintro a as _ ⟨d, d2, ss', out, x3, x4, x5, h1, rfl, h2, l3, l4, l5⟩
    cases ss' with
    | nil => cases h1
    | cons s ss' =>
      obtain ⟨k, r, p⟩ := s
      rw [E_cons] at h1
      obtain ⟨rfl, rfl⟩ := List.cons.inj h1
      rw [swapS, E_cons] at h2
      have hlen := congrArg List.length h2
      rw [List.length_append, E_length, swap_length] at hlen
      have q0 : gT 3 (gsC (gN 3) (gsC (gN 4) (gsC (gN 5) gsN))) (.tup [.int (d + k.length : Nat), .tup (rowsI r), .tup (rowsI p)]) [.sh Ed, .ow (.lst out), .sh (.int ((d2 : Int) - (d : Int))), x3, x4, x5] = some [.sh Ed, .ow (.lst out), .sh (.int ((d2 : Int) - (d : Int))), .sh (.int (d + k.length : Nat)), .sh (.tup (rowsI r)), .sh (.tup (rowsI p))] := by
        walk_at "ds"
        rw [l3]
        walk_at "ds"
        rw [l4]
        walk_at "ds"
        rw [l5]
        walk_at "ds"
      refine ⟨_, _, q0, .inl ?_, d + k.length + r.length, d2 + k.length + p.length, ss', out ++ [.tup [.int (d2 + k.length : Nat), .tup (rowsI p), .tup (rowsI r)]], .sh (.int (d + k.length : Nat)), .sh (.tup (rowsI r)), .sh (.tup (rowsI p)), rfl, rfl, by rw [List.append_assoc]; exact h2, rfl, rfl, rfl⟩
      walk_at "ds"
      rw [o_app (by unfold LN; omega)]
      walk_at "ds"
      rw [rowsI_length, rowsI_length, show ((d + k.length : Nat) : Int) + ((d2 : Int) - (d : Int)) = ((d2 + k.length : Nat) : Int) by omega, show (d2 : Int) - (d : Int) + (p.length : Int) - (r.length : Int) = ((d2 + k.length + p.length : Nat) : Int) - ((d + k.length + r.length : Nat) : Int) by omega]
  cases ss' with
  | cons s ss' => cases h1
  | nil =>
    rw [swapS, show E d2 [] = [] from rfl, List.append_nil] at h2
    walk_at "ds"
    rw [h2]
theorem size_seg {ss : List Sg} (ok : okS false ss) (hl : lenS ss ≤ 1000) : f_edit_size [.lst (E 0 ss)] = some (.rt (.s (.int (sizeE ((edsS 0 ss).map edI)))) .non) :=
  size_ok (seg_proper ss false 0 (-1) ok (fun h => by cases h) (fun _ => by decide) (by omega))
abbrev laBody : DB := dSeq (dIf (dTest (dChain fLe fLt (dVar 3) (dVar 1) (dOp fAdd (dVar 3) (dCB fLen (dCons (dVar 4) dNil)))))
 (dRet (dC .non))
 dNext)
 (dIf (dTest (dOp fLe (dOp fAdd (dVar 3) (dCB fLen (dCons (dVar 4) dNil))) (dVar 1)))
 (dSet 2 (dOp fSub (dOp fAdd (dVar 2) (dCB fLen (dCons (dVar 5) dNil))) (dCB fLen (dCons (dVar 4) dNil))))
 dNext)
abbrev laTg : DG := gT 3 (gsC (gN 3) (gsC (gN 4) (gsC (gN 5) gsN)))
theorem la_loop {Ed : D} {t : Nat} : ∀ (ss : List Sg) (d : Nat) (sh : Int) (x3 x4 x5 : SV), freeOf (some x3) = true → freeOf (some x4) = true → freeOf (some x5) = true →
    (t < d → ∃ y3 y4 y5, forD laTg laBody (E d ss) [.sh Ed, .sh (.int t), .sh (.int sh), x3, x4, x5] = some (.nx [.sh Ed, .sh (.int t), .sh (.int sh), y3, y4, y5])) ∧
    (d ≤ t → posS ss (t - d) = none → ∃ δ', forD laTg laBody (E d ss) [.sh Ed, .sh (.int t), .sh (.int sh), x3, x4, x5] = some (.rt (.s .non) δ')) ∧
    (d ≤ t → ∀ j, posS ss (t - d) = some j → ∃ y3 y4 y5, forD laTg laBody (E d ss) [.sh Ed, .sh (.int t), .sh (.int sh), x3, x4, x5] = some (.nx [.sh Ed, .sh (.int t), .sh (.int (sh + j - (t - d : Int))), y3, y4, y5]))
  | [], d, sh, x3, x4, x5, _, _, _ => by
    refine ⟨fun _ => ⟨x3, x4, x5, rfl⟩, fun _ h => (by cases h), fun h j e => ?_⟩
    obtain rfl := Option.some.inj e
    refine ⟨x3, x4, x5, ?_⟩
    rw [show sh + ((t - d : Nat) : Int) - ((t : Int) - (d : Int)) = sh by omega]
    rfl
  | (k, r, p) :: ss, d, sh, x3, x4, x5, l3, l4, l5 => by
    have q0 : laTg (.tup [.int (d + k.length : Nat), .tup (rowsI r), .tup (rowsI p)]) [.sh Ed, .sh (.int t), .sh (.int sh), x3, x4, x5] = some [.sh Ed, .sh (.int t), .sh (.int sh), .sh (.int (d + k.length : Nat)), .sh (.tup (rowsI r)), .sh (.tup (rowsI p))] := by
      unfold laTg
      walk_at "ds"
      rw [l3]
      walk_at "ds"
      rw [l4]
      walk_at "ds"
      rw [l5]
      walk_at "ds"
    obtain ⟨i1, i2, i3⟩ := la_loop (Ed := Ed) (t := t) ss (d + k.length + r.length) sh (.sh (.int (d + k.length : Nat))) (.sh (.tup (rowsI r))) (.sh (.tup (rowsI p))) rfl rfl rfl
    obtain ⟨-, j2, j3⟩ := la_loop (Ed := Ed) (t := t) ss (d + k.length + r.length) (sh + p.length - r.length) (.sh (.int (d + k.length : Nat))) (.sh (.tup (rowsI r))) (.sh (.tup (rowsI p))) rfl rfl rfl
    have before : t < d + k.length → laBody [.sh Ed, .sh (.int t), .sh (.int sh), .sh (.int (d + k.length : Nat)), .sh (.tup (rowsI r)), .sh (.tup (rowsI p))] = some (.nx [.sh Ed, .sh (.int t), .sh (.int sh), .sh (.int (d + k.length : Nat)), .sh (.tup (rowsI r)), .sh (.tup (rowsI p))]) := by
      intro c
      unfold laBody
      walk_at "ds"
      rw [decide_eq_false (by omega)]
      walk_at "ds"
      rw [decide_eq_false (by omega)]
      walk_at "ds"
    rw [E_cons]
    refine ⟨fun c => ?_, fun c e => ?_, fun c j e => ?_⟩
    · rw [for_nx q0 (.inl (before (by omega)))]
      exact i1 (by omega)
    · rw [posS] at e
      split at e
      · cases e
      · rename_i c1
        split at e
        · rename_i c2
          refine ⟨_, for_rt (δ2 := [.sh Ed, .sh (.int t), .sh (.int sh), .sh (.int (d + k.length : Nat)), .sh (.tup (rowsI r)), .sh (.tup (rowsI p))]) q0 (w := .s .non) ?_⟩
          unfold laBody
          walk_at "ds"
          rw [decide_eq_true (by omega)]
          walk_at "ds"
          rw [decide_eq_true (by rw [rowsI_length]; omega)]
          walk_at "ds"
        · rename_i c2
          have hb : laBody [.sh Ed, .sh (.int t), .sh (.int sh), .sh (.int (d + k.length : Nat)), .sh (.tup (rowsI r)), .sh (.tup (rowsI p))] = some (.nx [.sh Ed, .sh (.int t), .sh (.int (sh + p.length - r.length)), .sh (.int (d + k.length : Nat)), .sh (.tup (rowsI r)), .sh (.tup (rowsI p))]) := by
            unfold laBody
            walk_at "ds"
            rw [decide_eq_true (by omega)]
            walk_at "ds"
            rw [decide_eq_false (by rw [rowsI_length]; omega)]
            walk_at "ds"
            rw [decide_eq_true (by rw [rowsI_length]; omega)]
            walk_at "ds"
            rw [rowsI_length, rowsI_length]
          rw [for_nx q0 (.inl hb)]
          exact j2 (by omega) (by rw [show t - (d + k.length + r.length) = t - d - k.length - r.length by omega]; exact Option.map_eq_none_iff.mp e)
    · rw [posS] at e
      split at e
      · rename_i c1
        obtain rfl := Option.some.inj e
        rw [for_nx q0 (.inl (before (by omega)))]
        obtain ⟨y3, y4, y5, q⟩ := i1 (by omega)
        exact ⟨y3, y4, y5, by rw [q, show sh + ((t - d : Nat) : Int) - ((t : Int) - (d : Int)) = sh by omega]⟩
      · rename_i c1
        split at e
        · cases e
        · rename_i c2
          have hb : laBody [.sh Ed, .sh (.int t), .sh (.int sh), .sh (.int (d + k.length : Nat)), .sh (.tup (rowsI r)), .sh (.tup (rowsI p))] = some (.nx [.sh Ed, .sh (.int t), .sh (.int (sh + p.length - r.length)), .sh (.int (d + k.length : Nat)), .sh (.tup (rowsI r)), .sh (.tup (rowsI p))]) := by
            unfold laBody
            walk_at "ds"
            rw [decide_eq_true (by omega)]
            walk_at "ds"
            rw [decide_eq_false (by rw [rowsI_length]; omega)]
            walk_at "ds"
            rw [decide_eq_true (by rw [rowsI_length]; omega)]
            walk_at "ds"
            rw [rowsI_length, rowsI_length]
          obtain ⟨i, hi, rfl⟩ := Option.map_eq_some_iff.mp e
          rw [for_nx q0 (.inl hb)]
          obtain ⟨y3, y4, y5, q⟩ := j3 (by omega) i (by rw [show t - (d + k.length + r.length) = t - d - k.length - r.length by omega]; exact hi)
          refine ⟨y3, y4, y5, ?_⟩
          rw [q, show sh + (p.length : Int) - (r.length : Int) + (i : Int) - ((t : Int) - ((d + k.length + r.length : Nat) : Int)) = sh + ((k.length + p.length + i : Nat) : Int) - ((t : Int) - (d : Int)) by omega]
theorem line_ok {ss : List Sg} (ok : okS false ss) (hl : lenS ss ≤ 1000) (t : Nat) : f_line_after [.lst (E 0 ss), .int t] = some (.rt (.s (match posS ss t with
    | some j => .int (j : Nat)
    | none => .non)) .non) := by
  have hp := seg_proper ss false 0 (-1) ok (fun h => by cases h) (fun _ => by decide) (by omega)
  obtain ⟨-, i2, i3⟩ := la_loop (Ed := .lst (E 0 ss)) (t := t) ss 0 0 .un .un .un rfl rfl rfl
  unfold f_line_after b_line_after
  walk_at "ds"
  rw [show E 0 ss = ((edsS 0 ss).map edI).map edD from rfl, check_ok hp]
  walk_at "ds"
  rw [show ((edsS 0 ss).map edI).map edD = E 0 ss from rfl]
  cases h : posS ss t with
  | none =>
    obtain ⟨δ', e⟩ := i2 (Nat.zero_le _) h
    unfold laTg laBody at e
    rw [e]
    walk_at "ds"
  | some j =>
    obtain ⟨y3, y4, y5, e⟩ := i3 (Nat.zero_le _) j h
    unfold laTg laBody at e
    rw [e]
    walk_at "ds"
    rw [show (t : Int) + (0 + (j : Int) - ((t : Int) - ((0 : Nat) : Int))) = (j : Int) by omega]
end Law
namespace Law
open PySem PySem.Spec PyProof.Rows L2 DL
local macro_rules | `(tactic| walk_at "ds") => `(tactic| simp (config := { maxSteps := 1000000, implicitDefEqProofs := false }) only [e_seq, bindB_nx, bindB_rt, bindB_bk, bindB_ct, bindB_ex, e_next, e_break, e_cont, e_retN, e_drop, k_drop, e_ret, k_ret, e_if, k_ifT, k_ifF, e_set, x_setS, x_setO, x_se1, e_putK, e_putL, e_unp, k_unp, toNx_s, e_c, e_var, v_sh, v_ow, v_io, e_varF, vF_sh, vF_ow, e_sh, k_shS, k_shO, e_op, k_op1, k_op2, an2_s, ans_v, ans_n, ans_t, e_un, k_un, an1_s, c_s, c_o, c_b, cOf_ow, cOf_io, h_lst, h_dk, h_dt, h_ins, e_nil, e_cons, k_cons1, k_cons2, e_cb, k_cb, anN_s, cs_nil, cs_cons, cs2_s, e_tup, e_lst, e_noPart, e_part, k_part, e_sl, k_sl1, k_sl2, k_sl3, anS_s, e_bm, e_test, k_test, e_and, e_or, e_not, k_andT, k_andF, k_orT, k_orF, k_not, e_andV, e_orV, e_notV, k_andVT, k_andVF, k_orVT, k_orVF, k_notV, e_ifE, k_ifET, k_ifEF, e_call, sAll_nil, sAll_s, cs1_s, slotD_ap, slotOf_ow, slotOf_io, wr_ap, wrOf_ow, wrOf_io, free_ap, free_un, free_sh, free_ow, o_add, o_sub, o_neg, o_lt, o_le, o_gt, o_ge, o_int, o_len, o_lenT, o_list, o_listT, o_tuple, o_tupleT, o_eqI, o_neI, o_rev, o_min, o_max, e_run, out_nx, out_rt, fin_0s, fin_0o, fin_1s, fin_1o, st_1, st_0, bindR_ok, bindS_ok, List.length_cons, List.length_nil, List.map_cons, List.map_nil, List.replicate, List.cons_append, List.nil_append, List.getElem?_cons_zero, List.getElem?_cons_succ, List.set_cons_zero, List.set_cons_succ, Nat.reduceAdd, Nat.reduceSub, Nat.reduceEqDiff, reduceIte, Bool.not_true, Bool.not_false, decide_true, decide_false, if_true, if_false, x_mut, x_mutL, x_mutK, x_mut2, x_mut3, x_mut4, x_tup, x_tup0, x_tup1, x_tup2, x_tup3, x_tup4, x_tup5, x_lst, x_lst0, x_lst1, x_lst2, x_lst3, x_lst4, x_pk1, x_pk2, x_pk3, x_pk4, x_pk5, x_pl1, x_pl2, x_pl3, x_pl4, x_call0, x_co0, x_call1, x_co1, x_finS, x_finO, x_finX, x_bm, x_bmS, x_bmL, x_bmK, x_bm2, x_bm3, x_lc, x_lcT, x_lc2, x_liN, x_liC, x_liU, x_liS, x_reN, x_reC, x_wiN, x_wiC, x_for, x_gN, x_gn1, x_gT, x_gsC, x_gs1, x_gsN, x_yes, e_lc, e_for, e_iseq, k_iseq, e_itup, k_itup, e_rg1, e_rg2, Bool.and_true, Bool.true_and, List.getD_cons_zero, List.getD_cons_succ, x_ch0, x_ch1, x_ch2, x_ch3, x_ch4T, x_ch4F, x_ch5])
theorem shaped_sm {d : D} (h : sm d = true) : SeqAt.shaped (toP d) = true := by
  simp only [sm, Bool.and_eq_true, decide_eq_true_eq] at h
  have h1 := lay_plain d h.1
  unfold SeqAt.shaped
  rw [h1.1, h1.2]
  simp [h.2]
theorem eqv_row {a b : Int} : PyData.eqv (toP (row a)) (toP (row b)) = decide (a = b) := by
  have h := eqv_plain (row a) (row b) (row_sk (k := 0)).1 (row_sk (k := 0)).1
  by_cases e : a = b
  · rw [decide_eq_true e]
    exact h.mpr (by rw [e])
  · rw [decide_eq_false e]
    cases hb : PyData.eqv (toP (row a)) (toP (row b)) with
    | false => rfl
    | true => exact absurd (row_inj (h.mp hb)) e
theorem inD_rows {x : Int} : ∀ zs : List Int, inD (row x) (rowsI zs) = decide (x ∈ zs)
  | [] => by simp [inD, rowsI, toPs]
  | z :: zs => by
    have := inD_rows (x := x) zs
    unfold inD at this ⊢
    show (toPs (row z :: rowsI zs)).any _ = _
    rw [toPs, List.any_cons, this, eqv_row]
    by_cases e : z = x
    · subst e; simp
    · have e' : ¬ x = z := fun h => e h.symm
      simp [e, e']
theorem fIn_rows {x : Int} {zs : List Int} : fIn (row x) (lr zs) = some (.v (.bl (decide (x ∈ zs)))) := by
  unfold fIn inOf fInL
  have h1 := shaped_sm (d := row x) ((row_sk (k := 0)).sm (by decide))
  have h2 := shaped_sm (lr_sm (zs := zs))
  simp only [h1, h2, inD_rows]
  rfl
theorem find_rows {x : Int} : ∀ (zs : List Int) (k j : Nat), zs[j]? = some x → (∀ m, m < j → zs[m]? ≠ some x) → findD (row x) k (rowsI zs) = some (k + j)
  | [], _, _, h, _ => by cases h
  | z :: zs, k, 0, h, _ => by
    obtain rfl := Option.some.inj h
    show findD (row z) k (row z :: rowsI zs) = _
    rw [findD, if_pos (by rw [eqv_row]; simp)]
    rfl
  | z :: zs, k, j + 1, h, hn => by
    have h0 := hn 0 (Nat.zero_lt_succ _)
    show findD (row x) k (row z :: rowsI zs) = _
    rw [findD, if_neg (by rw [eqv_row]; simpa using h0), find_rows zs (k + 1) j h fun m hm => hn (m + 1) (Nat.succ_lt_succ hm), show k + 1 + j = k + (j + 1) by omega]
theorem index_rows {x : Int} {zs : List Int} {j : Nat} (hd : zs.Nodup) (h : zs[j]? = some x) : fListIndex (lr zs) [row x] = some (.v (.int (j : Nat))) := by
  have h1 := shaped_sm (d := row x) ((row_sk (k := 0)).sm (by decide))
  have h2 := shaped_sm (lr_sm (zs := zs))
  have hf := find_rows zs 0 j h fun m hm e => by
    have hl := (List.getElem?_eq_some_iff.mp e).1
    have := (List.getElem?_inj hl hd).mp (e.trans h.symm)
    omega
  rw [Nat.zero_add] at hf
  unfold fListIndex
  simp only [h1, h2, hf]
  rfl
theorem row_ixI {zs : List Int} {t : Nat} {x : Int} (h : zs[t]? = some x) : fIx (lr zs) (.int t) = some (.v (row x)) := by
  refine ix_nat (by omega) ?_
  rw [Int.toNat_natCast]
  unfold rowsI
  rw [List.getElem?_map, h]
  rfl
theorem moved_ok {ss : List Sg} {last : List Int} (ok : okS false ss) (hl : lenS ss + last.length ≤ 1000) (hL : (linesS ss last).length ≤ 1000) (hd : (linesS (swapS ss) last).Nodup) (hr : ∀ x ∈ remsS ss, x ∉ linesS (swapS ss) last) :
    f_law_moved [.lst (E 0 ss), lr (linesS ss last), lr (linesS (swapS ss) last)] = some (.rt (.s (.bl true)) .non) := by
  unfold f_law_moved b_law_moved
  walk_at "ds"
  rw [k_rg1 (by rw [BIG_eq, rowsI_length]; omega)]
  walk_at "ds"
  rw [Int.toNat_natCast, rowsI_length]
  have hpn := pos_none ss last
  have hps := pos_some ss last
  have hlo := line_ok ok (by omega)
  generalize linesS ss last = L at hL hpn hps ⊢
  generalize linesS (swapS ss) last = S at hd hr hps ⊢
  generalize hE : D.lst (E 0 ss) = Ed at hlo ⊢
  generalize hF : forD _ _ _ _ = o
  obtain ⟨δ', rfl, x3, x4, x5, rfl, -⟩ : ∃ δ', o = some (.nx δ') ∧ ∃ x3 x4 x5, δ' = [.sh Ed, .sh (lr L), .sh (lr S), x3, x4, x5] ∧ freeOf (some x3) = true ∧ freeOf (some x4) = true ∧ freeOf (some x5) = true := by
    rw [← hF]
    refine for_rng (P := fun _ δ' => ∃ x3 x4 x5, δ' = [.sh Ed, .sh (lr L), .sh (lr S), x3, x4, x5] ∧ freeOf (some x3) = true ∧ freeOf (some x4) = true ∧ freeOf (some x5) = true) ?_ ⟨.un, .un, .un, rfl, rfl, rfl, rfl⟩
    rintro t _ ht ⟨x3, x4, x5, rfl, l3, l4, l5⟩
    have hx : L[t]? = some L[t] := List.getElem?_eq_getElem ht
    have q0 : gN 3 (.int t) [.sh Ed, .sh (lr L), .sh (lr S), x3, x4, x5] = some [.sh Ed, .sh (lr L), .sh (lr S), .sh (.int t), x4, x5] := gN_free l3
    have hlt := hlo t
    cases hp : posS ss t with
    | some j =>
      rw [hp] at hlt
      have hj : S[j]? = some L[t] := (hps t j hp).trans hx
      refine ⟨_, [.sh Ed, .sh (lr L), .sh (lr S), .sh (.int t), .sh (.int j), .sh (.int j)], q0, .inl ?_, _, _, _, rfl, rfl, rfl, rfl⟩
      walk_at "ds"
      rw [l4]
      walk_at "ds"
      rw [row_ixI hx]
      walk_at "ds"
      rw [fIn_rows, decide_eq_true (List.mem_of_getElem? hj)]
      walk_at "ds"
      rw [row_ixI hx]
      walk_at "ds"
      rw [index_rows hd hj]
      walk_at "ds"
      rw [hlt]
      walk_at "ds"
      rw [l5]
      walk_at "ds"
      rw [show fIsN (.int j) .non = some (.v (.bl false)) from rfl]
      walk_at "ds"
      rw [show fIsN (.int j) .non = some (.v (.bl false)) from rfl]
      walk_at "ds"
      rw [show fNe (.bl false) (.bl false) = some (.v (.bl false)) from rfl]
      walk_at "ds"
      all_goals (rw [decide_eq_true rfl])
      all_goals (walk_at "ds")
    | none =>
      rw [hp] at hlt
      have hj := hr _ (hpn t _ hp hx)
      refine ⟨_, [.sh Ed, .sh (lr L), .sh (lr S), .sh (.int t), .sh .non, .sh .non], q0, .inl ?_, _, _, _, rfl, rfl, rfl, rfl⟩
      walk_at "ds"
      rw [l4]
      walk_at "ds"
      rw [row_ixI hx]
      walk_at "ds"
      rw [fIn_rows, decide_eq_false hj]
      walk_at "ds"
      rw [hlt]
      walk_at "ds"
      rw [l5]
      walk_at "ds"
      rw [show fIsN .non .non = some (.v (.bl true)) from rfl]
      walk_at "ds"
      rw [show fIsN .non .non = some (.v (.bl true)) from rfl]
      walk_at "ds"
      rw [show fNe (.bl true) (.bl true) = some (.v (.bl false)) from rfl]
      walk_at "ds"
      rw [show fNe .non .non = some (.v (.bl false)) from rfl]
      walk_at "ds"
  walk_at "ds"
end Law
namespace Law
open PySem PySem.Spec PyProof.Rows L2 DL
local macro_rules | `(tactic| walk_at "ds") => `(tactic| simp (config := { maxSteps := 1000000, implicitDefEqProofs := false }) only [e_seq, bindB_nx, bindB_rt, bindB_bk, bindB_ct, bindB_ex, e_next, e_break, e_cont, e_retN, e_drop, k_drop, e_ret, k_ret, e_if, k_ifT, k_ifF, e_set, x_setS, x_setO, x_se1, e_putK, e_putL, e_unp, k_unp, toNx_s, e_c, e_var, v_sh, v_ow, v_io, e_varF, vF_sh, vF_ow, e_sh, k_shS, k_shO, e_op, k_op1, k_op2, an2_s, ans_v, ans_n, ans_t, e_un, k_un, an1_s, c_s, c_o, c_b, cOf_ow, cOf_io, h_lst, h_dk, h_dt, h_ins, e_nil, e_cons, k_cons1, k_cons2, e_cb, k_cb, anN_s, cs_nil, cs_cons, cs2_s, e_tup, e_lst, e_noPart, e_part, k_part, e_sl, k_sl1, k_sl2, k_sl3, anS_s, e_bm, e_test, k_test, e_and, e_or, e_not, k_andT, k_andF, k_orT, k_orF, k_not, e_andV, e_orV, e_notV, k_andVT, k_andVF, k_orVT, k_orVF, k_notV, e_ifE, k_ifET, k_ifEF, e_call, sAll_nil, sAll_s, cs1_s, slotD_ap, slotOf_ow, slotOf_io, wr_ap, wrOf_ow, wrOf_io, free_ap, free_un, free_sh, free_ow, o_add, o_sub, o_neg, o_lt, o_le, o_gt, o_ge, o_int, o_len, o_lenT, o_list, o_listT, o_tuple, o_tupleT, o_eqI, o_neI, o_rev, o_min, o_max, e_run, out_nx, out_rt, fin_0s, fin_0o, fin_1s, fin_1o, st_1, st_0, bindR_ok, bindS_ok, List.length_cons, List.length_nil, List.map_cons, List.map_nil, List.replicate, List.cons_append, List.nil_append, List.getElem?_cons_zero, List.getElem?_cons_succ, List.set_cons_zero, List.set_cons_succ, Nat.reduceAdd, Nat.reduceSub, Nat.reduceEqDiff, reduceIte, Bool.not_true, Bool.not_false, decide_true, decide_false, if_true, if_false, x_mut, x_mutL, x_mutK, x_mut2, x_mut3, x_mut4, x_tup, x_tup0, x_tup1, x_tup2, x_tup3, x_tup4, x_tup5, x_lst, x_lst0, x_lst1, x_lst2, x_lst3, x_lst4, x_pk1, x_pk2, x_pk3, x_pk4, x_pk5, x_pl1, x_pl2, x_pl3, x_pl4, x_call0, x_co0, x_call1, x_co1, x_finS, x_finO, x_finX, x_bm, x_bmS, x_bmL, x_bmK, x_bm2, x_bm3, x_lc, x_lcT, x_lc2, x_liN, x_liC, x_liU, x_liS, x_reN, x_reC, x_wiN, x_wiC, x_for, x_gN, x_gn1, x_gT, x_gsC, x_gs1, x_gsN, x_yes, e_lc, e_for, e_iseq, k_iseq, e_itup, k_itup, e_rg1, e_rg2, Bool.and_true, Bool.true_and, List.getD_cons_zero, List.getD_cons_succ, x_ch0, x_ch1, x_ch2, x_ch3, x_ch4T, x_ch4F, x_ch5])
theorem take_len (l : List Int) (c : Nat) : l.take c ++ l.drop (l.take c).length = l := by
  rw [List.length_take]
  by_cases h : c ≤ l.length
  · rw [Nat.min_eq_left h, List.take_append_drop]
  · rw [Nat.min_eq_right (by omega), List.take_of_length_le (by omega), List.drop_length, List.append_nil]
def nums (b : Int) (n : Nat) : List Int := (List.range n).map fun j => b + (j : Nat)
theorem nums_length {b : Int} {n : Nat} : (nums b n).length = n := by simp [nums]
theorem nums_one {b : Int} : nums b 1 = [b] := by simp [nums]
theorem nums_add {b : Int} {n m : Nat} : nums b n ++ nums (b + n) m = nums b (n + m) := by
  unfold nums
  rw [List.range_add, List.map_append, List.map_map]
  congr 1
  refine List.map_congr_left fun j _ => ?_
  show b + (n : Int) + (j : Int) = b + ((n + j : Nat) : Int)
  omega
theorem sl_rows {L : List Int} {a c : Nat} : fSl (lr L) (some (a : Int)) (some ((a : Int) + (c : Int))) = some (.n (lr ((L.drop a).take c))) := by
  show fSl (.lst (rowsI L)) _ _ = _
  rw [show (a : Int) + (c : Int) = ((a + c : Nat) : Int) from rfl, sl_nat]
  unfold sl
  rw [show a + c - a = c by omega]
  show some (RW.n (D.lst (((L.map row).drop a).take c))) = some (RW.n (D.lst (((L.drop a).take c).map row)))
  rw [List.map_take, List.map_drop]
theorem lenS_eq : ∀ ss : List Sg, lenS ss = endS ss + (putsS ss).length
  | [] => rfl
  | (k, r, p) :: ss => by
    show k.length + r.length + p.length + lenS ss = k.length + r.length + endS ss + (p ++ putsS ss).length
    rw [lenS_eq ss, List.length_append]
    omega
theorem E_snoc {ss : List Sg} {k r p : List Int} : E 0 (ss ++ [(k, r, p)]) = E 0 ss ++ [.tup [.int (endS ss + k.length : Nat), .tup (rowsI r), .tup (rowsI p)]] := by
  unfold E
  rw [eds_snoc, List.map_append, List.map_append, Nat.zero_add]
  rfl
/-- what the drawing keeps -/
structure Drawn (L : List Int) (ss : List Sg) (f at_ : Nat) : Prop where
  lines : linesS ss (L.drop (endS ss)) = L
  fits : endS ss ≤ L.length
  gap : endS ss ≤ at_ ∧ (ss ≠ [] → endS ss < at_)
  ok : okS false ss
  puts : putsS ss = nums 100 f
theorem Drawn.step {L : List Int} {ss : List Sg} {f a c m b : Nat} (h : Drawn L ss f a) (ha : a ≤ L.length) (hm : ¬ (((L.drop a).take c).length = 0 ∧ m = 0)) : Drawn L (ss ++ [((L.drop (endS ss)).take (a - endS ss), (L.drop a).take c, nums (100 + f) m)]) (f + m) (a + ((L.drop a).take c).length + 1 + b) := by
  have hk : ((L.drop (endS ss)).take (a - endS ss)).length = a - endS ss := by
    rw [List.length_take, List.length_drop]
    have := h.gap.1
    omega
  have he : endS (ss ++ [((L.drop (endS ss)).take (a - endS ss), (L.drop a).take c, nums (100 + f) m)]) = a + ((L.drop a).take c).length := by
    rw [end_snoc, hk]
    have := h.gap.1
    omega
  refine ⟨?_, ?_, ?_, ?_, ?_⟩
  · rw [he, lines_snoc]
    have e1 : (L.drop a).take c ++ L.drop (a + ((L.drop a).take c).length) = L.drop a := by
      rw [← List.drop_drop]
      exact take_len _ _
    have e2 : (L.drop (endS ss)).take (a - endS ss) ++ L.drop a = L.drop (endS ss) := by
      have : L.drop a = (L.drop (endS ss)).drop (a - endS ss) := by
        rw [List.drop_drop, show endS ss + (a - endS ss) = a by have := h.gap.1; omega]
      rw [this, List.take_append_drop]
    rw [e1, e2]
    exact h.lines
  · rw [he, List.length_take, List.length_drop]
    omega
  · rw [he]
    exact ⟨by omega, fun _ => by omega⟩
  · refine ok_snoc _ _ _ _ _ h.ok (fun hb => ?_) (by rw [nums_length]; exact hm)
    rw [hk]
    rcases hb with hb | hb
    · cases hb
    · have := h.gap.2 hb
      omega
  · rw [puts_snoc, h.puts]
    exact nums_add
def stD (s : D) (L : List Int) (ss : List Sg) (f a : Nat) (x5 x6 x7 : SV) : DS := [.io s, .sh (lr L), .ow (.lst (E 0 ss)), .sh (.int ((100 : Int) + (f : Int))), .sh (.int a), x5, x6, x7, .un]
theorem drawn_ok {s : D} {L : List Int} (hs : Strm s) (hL : L.length ≤ 30) : ∃ ss f s', f_law_drawn [s, lr L] = some (.rt (.s (.lst (E 0 ss))) s') ∧ Strm s' ∧ (∃ a, Drawn L ss f a) ∧ ss.length ≤ 9 ∧ f ≤ 36 := by
  unfold f_law_drawn b_law_drawn
  walk_at "ds"
  obtain ⟨z, s1, e1, z0, z1, hs1⟩ := pick_ok hs (n := 4) (by decide) (by decide)
  rw [e1]
  walk_at "ds"
  rw [k_rg1 (by rw [BIG_eq]; decide)]
  walk_at "ds"
  obtain ⟨a0, rfl⟩ : ∃ a0 : Nat, z = a0 := ⟨z.toNat, by omega⟩
  rw [show Int.toNat 9 = 9 from rfl]
  generalize hF : forD _ _ _ _ = o
  obtain ⟨δ', rfl, s2, ss, f, a, x5, x6, x7, rfl, hs2, hd, hn, hf⟩ : ∃ δ', o = some (.nx δ') ∧ ∃ s2 ss f a x5 x6 x7, δ' = stD s2 L ss f a x5 x6 x7 ∧ Strm s2 ∧ Drawn L ss f a ∧ ss.length ≤ 9 ∧ f ≤ 36 := by
    rw [← hF]
    refine for_rngB (P := fun n δ' => ∃ s2 ss f a x5 x6 x7, δ' = stD s2 L ss f a x5 x6 x7 ∧ Strm s2 ∧ Drawn L ss f a ∧ ss.length ≤ n ∧ f ≤ 4 * n ∧ freeOf (some x5) = true ∧ freeOf (some x6) = true ∧ freeOf (some x7) = true) ?_ ?_ ⟨s1, [], 0, a0, .un, .un, .un, rfl, hs1, ⟨rfl, Nat.zero_le _, ⟨Nat.zero_le _, fun h => absurd rfl h⟩, trivial, rfl⟩, Nat.le_refl _, Nat.le_refl _, rfl, rfl, rfl⟩
    · rintro _ ⟨s2, ss, f, a, x5, x6, x7, rfl, hs2, hd, hn, hf, -⟩
      exact ⟨s2, ss, f, a, x5, x6, x7, rfl, hs2, hd, hn, by omega⟩
    · rintro n _ hn9 ⟨s2, ss, f, a, x5, x6, x7, rfl, hs2, hd, hn, hf, l5, l6, l7⟩
      have q0 : gN 5 (.int n) (stD s2 L ss f a x5 x6 x7) = some (stD s2 L ss f a (.sh (.int n)) x6 x7) := gN_free l5
      by_cases ha : a ≤ L.length
      · obtain ⟨w, s3, e3, w0, w1, hs3⟩ := pick_ok hs2 (n := 8) (by decide) (by decide)
        by_cases hw : w = 0
        · refine ⟨_, stD s3 L ss f a (.sh (.int n)) x6 x7, q0, .inr ⟨?_, s3, ss, f, a, _, _, _, rfl, hs3, hd, by omega, by omega⟩⟩
          unfold stD
          walk_at "ds"
          rw [decide_eq_false (by rw [rowsI_length]; omega)]
          walk_at "ds"
          rw [e3]
          walk_at "ds"
          rw [decide_eq_true hw]
          walk_at "ds"
        · obtain ⟨c, s4, e4, c0, c1, hs4⟩ := pick_ok hs3 (n := 4) (by decide) (by decide)
          obtain ⟨c, rfl⟩ : ∃ k : Nat, c = k := ⟨c.toNat, by omega⟩
          obtain ⟨m, s5, e5, m0, m1, hs5⟩ := pick_ok hs4 (n := 4) (by decide) (by decide)
          obtain ⟨m, rfl⟩ : ∃ k : Nat, m = k := ⟨m.toNat, by omega⟩
          obtain ⟨b, s6, e6, b0, b1, hs6⟩ := pick_ok hs5 (n := 4) (by decide) (by decide)
          obtain ⟨b, rfl⟩ : ∃ k : Nat, b = k := ⟨b.toNat, by omega⟩
          have hr : ((L.drop a).take c).length ≤ c := by rw [List.length_take]; omega
          have lc := lc_pure (vs := [8]) (tg := gN 8) (ct := dYes) (el := dTup (dCons (dSh (dOp fAdd (dVar 3) (dVar 8))) (dCons (dC (.int 10)) dNil))) (ω := [.io s5, .sh (lr L), .ow (.lst (E 0 ss)), .sh (.int ((100 : Int) + (f : Int))), .sh (.int a), .sh (.int n), .sh (.tup (rowsI ((L.drop a).take c))), x7, .un]) (fun d => match d with
            | .int j => row ((100 : Int) + (f : Int) + j)
            | _ => .non) (rngD 0 m) [] [.io s5, .sh (lr L), .ow (.lst (E 0 ss)), .sh (.int ((100 : Int) + (f : Int))), .sh (.int a), .sh (.int n), .sh (.tup (rowsI ((L.drop a).take c))), x7, .un] (fun d hd => by
              obtain ⟨j, _, rfl⟩ := List.mem_map.mp hd
              refine ⟨_, _, [.io s5, .sh (lr L), .ow (.lst (E 0 ss)), .sh (.int ((100 : Int) + (f : Int))), .sh (.int a), .sh (.int n), .sh (.tup (rowsI ((L.drop a).take c))), x7, .sh (.int (0 + (j : Nat)))], rfl, rfl, ?_, rfl⟩
              walk_at "ds"
              rfl) rfl (by rw [rngD_length, List.length_nil]; unfold LN; omega)
          have ep : (rngD 0 m).map (fun d => match d with
            | .int j => row ((100 : Int) + (f : Int) + j)
            | _ => .non) = rowsI (nums ((100 : Int) + (f : Int)) m) := by
            unfold rngD rowsI nums
            rw [List.map_map, List.map_map]
            refine List.map_congr_left fun j _ => ?_
            show row _ = row _
            rw [Int.zero_add]
          rw [List.nil_append, ep] at lc
          have hkl : endS ss + ((L.drop (endS ss)).take (a - endS ss)).length = a := by
            rw [List.length_take, List.length_drop]
            have := hd.gap.1
            omega
          by_cases hz : ((L.drop a).take c).length = 0 ∧ m = 0
          · have hd' := hd.step (c := c) (m := 1) (b := b) ha (by omega)
            refine ⟨_, stD s6 L (ss ++ [((L.drop (endS ss)).take (a - endS ss), (L.drop a).take c, nums (100 + f) 1)]) (f + 1) (a + ((L.drop a).take c).length + 1 + b) (.sh (.int n)) (.sh (.tup (rowsI ((L.drop a).take c)))) (.ow (lr (nums ((100 : Int) + (f : Int)) 1))), q0, .inl ⟨.inl ?_, _, _, _, _, _, _, _, rfl, hs6, hd', by rw [List.length_append, List.length_singleton]; omega, by omega, rfl, rfl, rfl⟩⟩
            unfold stD
            walk_at "ds"
            rw [decide_eq_false (by rw [rowsI_length]; omega)]
            walk_at "ds"
            rw [e3]
            walk_at "ds"
            rw [decide_eq_false hw]
            walk_at "ds"
            rw [e4]
            walk_at "ds"
            rw [sl_rows]
            walk_at "ds"
            rw [l6]
            walk_at "ds"
            rw [e5]
            walk_at "ds"
            rw [k_rg1 (by rw [BIG_eq]; omega)]
            walk_at "ds"
            rw [Int.toNat_natCast, lc]
            walk_at "ds"
            rw [l7]
            walk_at "ds"
            rw [decide_eq_true (by rw [rowsI_length, rowsI_length, nums_length]; omega)]
            walk_at "ds"
            rw [o_app (by rw [E_length]; unfold LN; omega)]
            walk_at "ds"
            rw [e6]
            walk_at "ds"
            rw [E_snoc, hkl]
            have z1 : (100 : Int) + (f : Int) + ((1 : Nat) : Int) = 100 + ((f + 1 : Nat) : Int) := by omega
            have z2 : ∀ x : Nat, (a : Int) + (x : Int) + 1 + (b : Int) = ((a + x + 1 + b : Nat) : Int) := fun x => by omega
            rw [nums_one, rowsI_length, z1, z2]
            rfl
          · have hd' := hd.step (c := c) (m := m) (b := b) ha hz
            refine ⟨_, stD s6 L (ss ++ [((L.drop (endS ss)).take (a - endS ss), (L.drop a).take c, nums (100 + f) m)]) (f + m) (a + ((L.drop a).take c).length + 1 + b) (.sh (.int n)) (.sh (.tup (rowsI ((L.drop a).take c)))) (.ow (lr (nums ((100 : Int) + (f : Int)) m))), q0, .inl ⟨.inl ?_, _, _, _, _, _, _, _, rfl, hs6, hd', by rw [List.length_append, List.length_singleton]; omega, by omega, rfl, rfl, rfl⟩⟩
            unfold stD
            walk_at "ds"
            rw [decide_eq_false (by rw [rowsI_length]; omega)]
            walk_at "ds"
            rw [e3]
            walk_at "ds"
            rw [decide_eq_false hw]
            walk_at "ds"
            rw [e4]
            walk_at "ds"
            rw [sl_rows]
            walk_at "ds"
            rw [l6]
            walk_at "ds"
            rw [e5]
            walk_at "ds"
            rw [k_rg1 (by rw [BIG_eq]; omega)]
            walk_at "ds"
            rw [Int.toNat_natCast, lc]
            walk_at "ds"
            rw [l7]
            walk_at "ds"
            rw [decide_eq_false (by rw [rowsI_length, rowsI_length, nums_length]; omega)]
            walk_at "ds"
            rw [o_app (by rw [E_length]; unfold LN; omega)]
            walk_at "ds"
            rw [e6]
            walk_at "ds"
            rw [E_snoc, hkl]
            have z1 : (100 : Int) + (f : Int) + (m : Int) = 100 + ((f + m : Nat) : Int) := by omega
            have z2 : ∀ x : Nat, (a : Int) + (x : Int) + 1 + (b : Int) = ((a + x + 1 + b : Nat) : Int) := fun x => by omega
            rw [rowsI_length, rowsI_length, nums_length, z1, z2]
      · refine ⟨_, stD s2 L ss f a (.sh (.int n)) x6 x7, q0, .inr ⟨?_, s2, ss, f, a, _, _, _, rfl, hs2, hd, by omega, by omega⟩⟩
        unfold stD
        walk_at "ds"
        rw [decide_eq_true (by rw [rowsI_length]; omega)]
        walk_at "ds"
  unfold stD
  walk_at "ds"
  exact ⟨ss, f, s2, rfl, hs2, ⟨a, hd⟩, hn, hf⟩
end Law
namespace Law
open PySem PySem.Spec PyProof.Rows L2 DL
local macro_rules | `(tactic| walk_at "ds") => `(tactic| simp (config := { maxSteps := 1000000, implicitDefEqProofs := false }) only [e_seq, bindB_nx, bindB_rt, bindB_bk, bindB_ct, bindB_ex, e_next, e_break, e_cont, e_retN, e_drop, k_drop, e_ret, k_ret, e_if, k_ifT, k_ifF, e_set, x_setS, x_setO, x_se1, e_putK, e_putL, e_unp, k_unp, toNx_s, e_c, e_var, v_sh, v_ow, v_io, e_varF, vF_sh, vF_ow, e_sh, k_shS, k_shO, e_op, k_op1, k_op2, an2_s, ans_v, ans_n, ans_t, e_un, k_un, an1_s, c_s, c_o, c_b, cOf_ow, cOf_io, h_lst, h_dk, h_dt, h_ins, e_nil, e_cons, k_cons1, k_cons2, e_cb, k_cb, anN_s, cs_nil, cs_cons, cs2_s, e_tup, e_lst, e_noPart, e_part, k_part, e_sl, k_sl1, k_sl2, k_sl3, anS_s, e_bm, e_test, k_test, e_and, e_or, e_not, k_andT, k_andF, k_orT, k_orF, k_not, e_andV, e_orV, e_notV, k_andVT, k_andVF, k_orVT, k_orVF, k_notV, e_ifE, k_ifET, k_ifEF, e_call, sAll_nil, sAll_s, cs1_s, slotD_ap, slotOf_ow, slotOf_io, wr_ap, wrOf_ow, wrOf_io, free_ap, free_un, free_sh, free_ow, o_add, o_sub, o_neg, o_lt, o_le, o_gt, o_ge, o_int, o_len, o_lenT, o_list, o_listT, o_tuple, o_tupleT, o_eqI, o_neI, o_rev, o_min, o_max, e_run, out_nx, out_rt, fin_0s, fin_0o, fin_1s, fin_1o, st_1, st_0, bindR_ok, bindS_ok, List.length_cons, List.length_nil, List.map_cons, List.map_nil, List.replicate, List.cons_append, List.nil_append, List.getElem?_cons_zero, List.getElem?_cons_succ, List.set_cons_zero, List.set_cons_succ, Nat.reduceAdd, Nat.reduceSub, Nat.reduceEqDiff, reduceIte, Bool.not_true, Bool.not_false, decide_true, decide_false, if_true, if_false, x_mut, x_mutL, x_mutK, x_mut2, x_mut3, x_mut4, x_tup, x_tup0, x_tup1, x_tup2, x_tup3, x_tup4, x_tup5, x_lst, x_lst0, x_lst1, x_lst2, x_lst3, x_lst4, x_pk1, x_pk2, x_pk3, x_pk4, x_pk5, x_pl1, x_pl2, x_pl3, x_pl4, x_call0, x_co0, x_call1, x_co1, x_finS, x_finO, x_finX, x_bm, x_bmS, x_bmL, x_bmK, x_bm2, x_bm3, x_lc, x_lcT, x_lc2, x_liN, x_liC, x_liU, x_liS, x_reN, x_reC, x_wiN, x_wiC, x_for, x_gN, x_gn1, x_gT, x_gsC, x_gs1, x_gsN, x_yes, e_lc, e_for, e_iseq, k_iseq, e_itup, k_itup, e_rg1, e_rg2, Bool.and_true, Bool.true_and, List.getD_cons_zero, List.getD_cons_succ, x_ch0, x_ch1, x_ch2, x_ch3, x_ch4T, x_ch4F, x_ch5])
theorem nums_nodup {b : Int} : ∀ {n : Nat}, (nums b n).Nodup := fun {n} => by
  unfold nums
  rw [List.nodup_iff_pairwise_ne, List.pairwise_map]
  exact (List.nodup_iff_pairwise_ne.mp List.nodup_range).imp fun h e => h (by omega)
theorem nums_mem {b x : Int} {n : Nat} (h : x ∈ nums b n) : b ≤ x ∧ x < b + n := by
  obtain ⟨j, hj, rfl⟩ := List.mem_map.mp h
  have := List.mem_range.mp hj
  omega
theorem E_sm {d : Nat} {ss : List Sg} : sm (.lst (E d ss)) = true := by
  refine (sk_lst (k := 3) fun x hx => ?_).sm (by decide)
  unfold E at hx
  obtain ⟨e, he, rfl⟩ := List.mem_map.mp hx
  obtain ⟨e, _, rfl⟩ := List.mem_map.mp he
  exact edD_sk rowsI_sk rowsI_sk
theorem law_fact : ∀ ns : List Int, ns.length ≤ 63 → ∃ d0, f_law [.scr (ns.map D.int)] = some (.rt (.s (.bl true)) d0) := by
  intro ns _
  obtain ⟨s, e, hs⟩ := stream_ok ns
  obtain ⟨n, s1, e1, n0, n1, hs1⟩ := pick_ok hs (n := 31) (by decide) (by decide)
  obtain ⟨n, rfl⟩ : ∃ k : Nat, n = k := ⟨n.toNat, by omega⟩
  have hn : (nums 11 n).length ≤ 30 := by rw [nums_length]; omega
  obtain ⟨ss, f, s2, e2, hs2, ⟨a, hd⟩, h9, h36⟩ := drawn_ok hs1 hn
  unfold f_law b_law
  walk_at "ds"
  rw [e]
  walk_at "ds"
  rw [e1]
  walk_at "ds"
  rw [k_rg1 (by rw [BIG_eq]; omega)]
  walk_at "ds"
  rw [Int.toNat_natCast]
  have lc := lc_pure (vs := [15]) (tg := gN 15) (ct := dYes) (el := dTup (dCons (dSh (dOp fAdd (dC (.int 11)) (dVar 15))) (dCons (dC (.int 10)) dNil))) (ω := [.sh (.scr (ns.map D.int)), .ow s1, .un, .un, .un, .un, .un, .un, .un, .un, .un, .un, .un, .un, .un, .un]) (fun d => match d with
    | .int j => row ((11 : Int) + j)
    | _ => .non) (rngD 0 n) [] [.sh (.scr (ns.map D.int)), .ow s1, .un, .un, .un, .un, .un, .un, .un, .un, .un, .un, .un, .un, .un, .un] (fun d hd => by
      obtain ⟨j, _, rfl⟩ := List.mem_map.mp hd
      refine ⟨_, _, [.sh (.scr (ns.map D.int)), .ow s1, .un, .un, .un, .un, .un, .un, .un, .un, .un, .un, .un, .un, .un, .sh (.int (0 + (j : Nat)))], rfl, rfl, ?_, rfl⟩
      walk_at "ds"
      rfl) rfl (by rw [rngD_length, List.length_nil]; unfold LN; omega)
  have ep : (rngD 0 n).map (fun d => match d with
    | .int j => row ((11 : Int) + j)
    | _ => .non) = rowsI (nums 11 n) := by
    unfold rngD rowsI nums
    rw [List.map_map, List.map_map]
    refine List.map_congr_left fun j _ => ?_
    show row _ = row _
    rw [Int.zero_add]
  rw [List.nil_append, ep] at lc
  rw [lc]
  walk_at "ds"
  rw [e2]
  walk_at "ds"
  -- the segments
  have hpL := lines_perm ss ((nums 11 n).drop (endS ss))
  have hpS := lines_perm (swapS ss) ((nums 11 n).drop (endS ss))
  rw [hd.lines] at hpL
  rw [keep_swap, show remsS (swapS ss) = nums 100 f from hd.puts] at hpS
  have ndL := hpL.nodup_iff.mp nums_nodup
  obtain ⟨nd1, nd2, nd3⟩ := List.nodup_append.mp ndL
  have inL : ∀ x, x ∈ keepS ss ((nums 11 n).drop (endS ss)) ∨ x ∈ remsS ss → x < 100 := fun x hx => by
    have : x ∈ nums 11 n := hpL.mem_iff.mpr (List.mem_append.mpr hx)
    have := nums_mem this
    omega
  have ndS : (linesS (swapS ss) ((nums 11 n).drop (endS ss))).Nodup := hpS.nodup_iff.mpr (List.nodup_append.mpr ⟨nd1, nums_nodup, fun x hx y hy => by
    have := inL x (.inl hx)
    have := nums_mem hy
    omega⟩)
  have hr1 : ∀ x ∈ remsS ss, x ∉ linesS (swapS ss) ((nums 11 n).drop (endS ss)) := fun x hx hy => by
    rcases List.mem_append.mp (hpS.mem_iff.mp hy) with h | h
    · exact nd3 x h x hx rfl
    · have := inL x (.inr hx)
      have := nums_mem h
      omega
  have hr2 : ∀ x ∈ remsS (swapS ss), x ∉ nums 11 n := fun x hx hy => by
    have hx' : x ∈ nums 100 f := by rw [← hd.puts]; exact hx
    have := nums_mem hx'
    have := nums_mem hy
    omega
  have hlen : lenS ss + ((nums 11 n).drop (endS ss)).length ≤ 100 := by
    rw [lenS_eq, hd.puts, nums_length, List.length_drop]
    have := hd.fits
    omega
  have hlenS : (linesS (swapS ss) ((nums 11 n).drop (endS ss))).length ≤ 100 := by
    rw [lines_len]
    have := lenS_eq (swapS ss)
    have := lenS_swap ss
    omega
  have mv1 := moved_ok hd.ok (by omega) (by rw [hd.lines]; omega) ndS hr1
  have mv2 := moved_ok (ss := swapS ss) (last := (nums 11 n).drop (endS ss)) (okS_swap hd.ok) (by rw [lenS_swap]; omega) (by omega) (by rw [swap_swap, hd.lines]; exact nums_nodup) (by rw [swap_swap, hd.lines]; exact hr2)
  have ap1 := apply_ok (last := (nums 11 n).drop (endS ss)) hd.ok (by omega)
  have ap2 := apply_ok (ss := swapS ss) (last := (nums 11 n).drop (endS ss)) (okS_swap hd.ok) (by rw [lenS_swap]; omega)
  have in1 := inverted_ok hd.ok (by omega) (by omega)
  have in2 := inverted_ok (ss := swapS ss) (okS_swap hd.ok) (by rw [lenS_swap]; omega) (by rw [swap_length]; omega)
  have sz1 := size_seg hd.ok (by omega)
  have sz2 := size_seg (ss := swapS ss) (okS_swap hd.ok) (by rw [lenS_swap]; omega)
  rw [← seg_size ss 0 0] at sz2
  have hlines := hd.lines
  rw [swap_swap, hlines] at mv2 ap2
  rw [swap_swap] at in2
  rw [hlines] at mv1 ap1
  have hS0 : ∀ ss' sec, sec ++ linesS (swapS ss') ((nums 11 n).drop (endS ss)) = linesS (swapS ss) ((nums 11 n).drop (endS ss)) → sec.length ≤ 100 := fun ss' sec h => by
    have := congrArg List.length h
    rw [List.length_append] at this
    omega
  generalize hlast : (nums 11 n).drop (endS ss) = last at *
  generalize hSS : linesS (swapS ss) last = S at *
  generalize hT : sizeE ((edsS 0 ss).map edI) = T at *
  generalize hL0 : nums 11 n = L at *
  generalize hF : forD _ _ _ _ = o
  obtain ⟨δ', rfl, d, ss', pre, sec, back, size, x8, x9, x10, h1, rfl, h2, h3, h4, h5, h6, l8, l9, l10⟩ : ∃ δ', o = some (.nx δ') ∧ ∃ (d : Nat) (ss' : List Sg) (pre sec : List Int) (back : List D) (size : Nat) (x8 x9 x10 : SV), [] = E d ss' ∧ δ' = [.sh (.scr (ns.map D.int)), .ow s2, .sh (lr L), .sh (.lst (E 0 ss)), .ow (lr sec), .ow (.lst back), .sh (.int size), .sh (.int d), x8, x9, x10, .un, .un, .un, .un, .un] ∧ L = pre ++ linesS ss' last ∧ d = pre.length ∧ sec ++ linesS (swapS ss') last = S ∧ back ++ E sec.length (swapS ss') = E 0 (swapS ss) ∧ size + sizeE ((edsS d ss').map edI) = T ∧ freeOf (some x8) = true ∧ freeOf (some x9) = true ∧ freeOf (some x10) = true := by
    rw [← hF]
    refine for_list (P := fun rem δ' => ∃ (d : Nat) (ss' : List Sg) (pre sec : List Int) (back : List D) (size : Nat) (x8 x9 x10 : SV), rem = E d ss' ∧ δ' = [.sh (.scr (ns.map D.int)), .ow s2, .sh (lr L), .sh (.lst (E 0 ss)), .ow (lr sec), .ow (.lst back), .sh (.int size), .sh (.int d), x8, x9, x10, .un, .un, .un, .un, .un] ∧ L = pre ++ linesS ss' last ∧ d = pre.length ∧ sec ++ linesS (swapS ss') last = S ∧ back ++ E sec.length (swapS ss') = E 0 (swapS ss) ∧ size + sizeE ((edsS d ss').map edI) = T ∧ freeOf (some x8) = true ∧ freeOf (some x9) = true ∧ freeOf (some x10) = true) ?_ _ _ ⟨0, ss, [], [], [], 0, .un, .un, .un, rfl, rfl, hlines.symm, rfl, hSS, rfl, by rw [hT]; omega, rfl, rfl, rfl⟩
    rintro ed rem _ ⟨d, ss', pre, sec, back, size, x8, x9, x10, h1, rfl, h2, rfl, h4, h5, h6, l8, l9, l10⟩
    cases ss' with
    | nil => cases h1
    | cons sg ss' =>
      obtain ⟨k, r, p⟩ := sg
      rw [E_cons] at h1
      obtain ⟨rfl, rfl⟩ := List.cons.inj h1
      have hsec := hS0 _ _ h4
      rw [linesS] at h2
      rw [swapS, linesS] at h4
      rw [swapS, E_cons] at h5
      have hb := congrArg List.length h5
      rw [List.length_append, E_length, swap_length] at hb
      have hs4 := congrArg List.length h4
      rw [List.length_append, List.length_append, List.length_append] at hs4
      have q0 : gT 3 (gsC (gN 8) (gsC (gN 9) (gsC (gN 10) gsN))) (.tup [.int (pre.length + k.length : Nat), .tup (rowsI r), .tup (rowsI p)]) [.sh (.scr (ns.map D.int)), .ow s2, .sh (lr L), .sh (.lst (E 0 ss)), .ow (lr sec), .ow (.lst back), .sh (.int size), .sh (.int pre.length), x8, x9, x10, .un, .un, .un, .un, .un] = some [.sh (.scr (ns.map D.int)), .ow s2, .sh (lr L), .sh (.lst (E 0 ss)), .ow (lr sec), .ow (.lst back), .sh (.int size), .sh (.int pre.length), .sh (.int (pre.length + k.length : Nat)), .sh (.tup (rowsI r)), .sh (.tup (rowsI p)), .un, .un, .un, .un, .un] := by
        walk_at "ds"
        rw [l8]
        walk_at "ds"
        rw [l9]
        walk_at "ds"
        rw [l10]
        walk_at "ds"
      have e2' : rowsI L = rowsI pre ++ (rowsI k ++ rowsI (r ++ linesS ss' last)) := by rw [h2, rowsI_app, rowsI_app]
      have sk2 : fSl (lr L) (some (pre.length : Int)) (some ((pre.length + k.length : Nat) : Int)) = some (.n (lr k)) := by
        show fSl (.lst (rowsI L)) _ _ = _
        rw [e2', show (pre.length : Int) = ((rowsI pre).length : Int) by rw [rowsI_length]]
        exact sl_mid' _ _ _ (by rw [rowsI_length, rowsI_length])
      refine ⟨_, [.sh (.scr (ns.map D.int)), .ow s2, .sh (lr L), .sh (.lst (E 0 ss)), .ow (lr (sec ++ k ++ p)), .ow (.lst (back ++ [.tup [.int (sec.length + k.length : Nat), .tup (rowsI p), .tup (rowsI r)]])), .sh (.int (size + p.length + r.length : Nat)), .sh (.int (pre.length + k.length + r.length : Nat)), .sh (.int (pre.length + k.length : Nat)), .sh (.tup (rowsI r)), .sh (.tup (rowsI p)), .un, .un, .un, .un, .un], q0, .inl ?_, _, ss', pre ++ (k ++ r), sec ++ k ++ p, back ++ [.tup [.int (sec.length + k.length : Nat), .tup (rowsI p), .tup (rowsI r)]], size + p.length + r.length, _, _, _, rfl, rfl, by rw [h2, List.append_assoc, List.append_assoc], by rw [List.length_append, List.length_append]; omega, by rw [← h4, List.append_assoc, List.append_assoc], ?_, ?_, rfl, rfl, rfl⟩
      · walk_at "ds"
        rw [sk2]
        walk_at "ds"
        rw [o_addL (by rw [rowsI_length, rowsI_length]; unfold LN; omega)]
        walk_at "ds"
        rw [o_app (by unfold LN; omega)]
        walk_at "ds"
        rw [o_addL (by rw [List.length_append, rowsI_length, rowsI_length, rowsI_length]; unfold LN; omega)]
        walk_at "ds"
        rw [List.length_append, ← rowsI_app, ← rowsI_app]
        simp only [rowsI_length]
        rfl
      · rw [← h5, List.append_assoc, List.length_append, List.length_append]
        rfl
      · have : sizeE ((edsS pre.length ((k, r, p) :: ss')).map edI) = r.length + p.length + sizeE ((edsS (pre.length + k.length + r.length) ss').map edI) := by
          show (rowsI r).length + (rowsI p).length + _ = _
          rw [rowsI_length, rowsI_length]
        omega
  cases ss' with
  | cons sg ss' => cases h1
  | nil =>
    subst h3
    rw [linesS] at h2
    rw [swapS, linesS] at h4
    rw [swapS, show E sec.length [] = [] from rfl, List.append_nil] at h5
    have hsec := hS0 [] sec (by rw [swapS, linesS]; exact h4)
    have h6' : size = T := by
      have : sizeE ((edsS pre.length []).map edI) = 0 := rfl
      omega
    subst h5 h6'
    have s3 : fSl (lr L) (some (pre.length : Int)) none = some (.n (lr last)) := by
      show fSl (.lst (rowsI L)) (some (pre.length : Int)) none = _
      rw [h2, rowsI_app, show (pre.length : Int) = ((rowsI pre).length : Int) by rw [rowsI_length]]
      exact sl_end _ _
    have hlast2 : last.length ≤ 100 := by
      have := congrArg List.length h4
      rw [List.length_append] at this
      omega
    walk_at "ds"
    rw [s3]
    walk_at "ds"
    rw [o_addL (by rw [rowsI_length, rowsI_length]; unfold LN; omega), ← rowsI_app, h4]
    walk_at "ds"
    rw [ap1]
    walk_at "ds"
    rw [show fIsi [lr S, .ty "list"] = some (.v (.bl true)) from rfl]
    walk_at "ds"
    rw [fNe_same lr_sm]
    walk_at "ds"
    rw [fNe_same lr_sm]
    walk_at "ds"
    rw [in1]
    walk_at "ds"
    rw [show fIsi [.lst (E 0 (swapS ss)), .ty "list"] = some (.v (.bl true)) from rfl]
    walk_at "ds"
    rw [fNe_same E_sm]
    walk_at "ds"
    rw [fNe_same E_sm]
    walk_at "ds"
    rw [ap2]
    walk_at "ds"
    rw [fNe_same lr_sm]
    walk_at "ds"
    rw [in2]
    walk_at "ds"
    rw [fNe_same E_sm]
    walk_at "ds"
    rw [sz1]
    walk_at "ds"
    rw [sz2]
    walk_at "ds"
    rw [mv1]
    walk_at "ds"
    rw [mv2]
    walk_at "ds"
    exact ⟨_, rfl⟩
end Law
namespace Law
open PySem PySem.Spec PyProof.Rows L2 DL
theorem walk {P : Program} {w : World} {K : PySem.W.Frag} {mg : Str → Option Value} {base : Heap} {fa : Addr} {fd : FuncData} (T : Txt K mg) (Fl : Fun K "law" "law" s_law fa fd) : FnOk P w K mg base CX0 4 fa fd ["script"] (SpD K mg false false f_law) := by
  have h_check_edits := ok_check_edits (P := P) (w := w) (K := K) (mg := mg) (base := base) T
  have h_apply_edits := ok_apply_edits (P := P) (w := w) (K := K) (mg := mg) (base := base) T h_check_edits
  have h_inverted_edits := ok_inverted_edits (P := P) (w := w) (K := K) (mg := mg) (base := base) T h_check_edits
  have h_line_after := ok_line_after (P := P) (w := w) (K := K) (mg := mg) (base := base) T h_check_edits
  have h_edit_size := ok_edit_size (P := P) (w := w) (K := K) (mg := mg) (base := base) T h_check_edits
  have h_law_fresh := ok_law_fresh (P := P) (w := w) (K := K) (mg := mg) (base := base) T
  have h_law_pick := ok_law_pick (P := P) (w := w) (K := K) (mg := mg) (base := base) T h_law_fresh
  have h_law_stream := ok_law_stream (P := P) (w := w) (K := K) (mg := mg) (base := base) T
  have h_law_drawn := ok_law_drawn (P := P) (w := w) (K := K) (mg := mg) (base := base) T h_law_pick
  have h_law_moved := ok_law_moved (P := P) (w := w) (K := K) (mg := mg) (base := base) T h_line_after
  exact ok_law T Fl h_law_stream h_law_pick h_law_drawn h_apply_edits h_inverted_edits h_edit_size h_law_moved
theorem all_mk {l : PySem.W.OpenLaw} {w : World} {K : PySem.W.Frag} {h : Heap} {mg : Str → Option Value} {fa : Addr} (X : K.In h) (G : h.Ns mainGlobals mg) (hfa : mg "law" = some (.ref fa)) {f0 : Addr} {od0 an0 : Option Addr} {sl0 : Array (Option Value)} {oc0 kV0 dc0 pm0 cd0 ct0 : Value} {f1 : Addr} {od1 an1 : Option Addr} {sl1 : Array (Option Value)} {oc1 kV1 dc1 pm1 cd1 ct1 : Value} {f2 : Addr} {od2 an2 : Option Addr} {sl2 : Array (Option Value)} {oc2 kV2 dc2 pm2 cd2 ct2 : Value} {f3 : Addr} {od3 an3 : Option Addr} {sl3 : Array (Option Value)} {oc3 kV3 dc3 pm3 cd3 ct3 : Value} {f4 : Addr} {od4 an4 : Option Addr} {sl4 : Array (Option Value)} {oc4 kV4 dc4 pm4 cd4 ct4 : Value} {f5 : Addr} {od5 an5 : Option Addr} {sl5 : Array (Option Value)} {oc5 kV5 dc5 pm5 cd5 ct5 : Value} {f6 : Addr} {od6 an6 : Option Addr} {sl6 : Array (Option Value)} {oc6 kV6 dc6 pm6 cd6 ct6 : Value} {f7 : Addr} {od7 an7 : Option Addr} {sl7 : Array (Option Value)} {oc7 kV7 dc7 pm7 cd7 ct7 : Value} {f8 : Addr} {od8 an8 : Option Addr} {sl8 : Array (Option Value)} {oc8 kV8 dc8 pm8 cd8 ct8 : Value} {f9 : Addr} {od9 an9 : Option Addr} {sl9 : Array (Option Value)} {oc9 kV9 dc9 pm9 cd9 ct9 : Value} {f10 : Addr} {od10 an10 : Option Addr} {sl10 : Array (Option Value)} {oc10 kV10 dc10 pm10 cd10 ct10 : Value} {u0 : Tok}
    (a0 : PySem.W.nsIn K mainGlobals "check_edits" = some (some (.ref f0))) (l0 : K.lookup f0 = some ⟨oc0, od0, .func (PySem.W.fnOf "check_edits" "check_edits" (defArgs s_check_edits) (defBody s_check_edits) (defScope s_check_edits) .none kV0 dc0 pm0 an0 cd0 ct0), sl0⟩) (c0 : PySem.W.codeIn K cd0 "check_edits" = true) (k0 : PySem.W.keepIn K (.ref f0) = true)
    (a1 : PySem.W.nsIn K mainGlobals "apply_edits" = some (some (.ref f1))) (l1 : K.lookup f1 = some ⟨oc1, od1, .func (PySem.W.fnOf "apply_edits" "apply_edits" (defArgs s_apply_edits) (defBody s_apply_edits) (defScope s_apply_edits) .none kV1 dc1 pm1 an1 cd1 ct1), sl1⟩) (c1 : PySem.W.codeIn K cd1 "apply_edits" = true) (k1 : PySem.W.keepIn K (.ref f1) = true)
    (a2 : PySem.W.nsIn K mainGlobals "inverted_edits" = some (some (.ref f2))) (l2 : K.lookup f2 = some ⟨oc2, od2, .func (PySem.W.fnOf "inverted_edits" "inverted_edits" (defArgs s_inverted_edits) (defBody s_inverted_edits) (defScope s_inverted_edits) .none kV2 dc2 pm2 an2 cd2 ct2), sl2⟩) (c2 : PySem.W.codeIn K cd2 "inverted_edits" = true) (k2 : PySem.W.keepIn K (.ref f2) = true)
    (a3 : PySem.W.nsIn K mainGlobals "line_after" = some (some (.ref f3))) (l3 : K.lookup f3 = some ⟨oc3, od3, .func (PySem.W.fnOf "line_after" "line_after" (defArgs s_line_after) (defBody s_line_after) (defScope s_line_after) .none kV3 dc3 pm3 an3 cd3 ct3), sl3⟩) (c3 : PySem.W.codeIn K cd3 "line_after" = true) (k3 : PySem.W.keepIn K (.ref f3) = true)
    (a4 : PySem.W.nsIn K mainGlobals "edit_size" = some (some (.ref f4))) (l4 : K.lookup f4 = some ⟨oc4, od4, .func (PySem.W.fnOf "edit_size" "edit_size" (defArgs s_edit_size) (defBody s_edit_size) (defScope s_edit_size) .none kV4 dc4 pm4 an4 cd4 ct4), sl4⟩) (c4 : PySem.W.codeIn K cd4 "edit_size" = true) (k4 : PySem.W.keepIn K (.ref f4) = true)
    (a5 : PySem.W.nsIn K mainGlobals "_law_fresh" = some (some (.ref f5))) (l5 : K.lookup f5 = some ⟨oc5, od5, .func (PySem.W.fnOf "_law_fresh" "_law_fresh" (defArgs s_law_fresh) (defBody s_law_fresh) (defScope s_law_fresh) .none kV5 dc5 pm5 an5 cd5 ct5), sl5⟩) (c5 : PySem.W.codeIn K cd5 "_law_fresh" = true) (k5 : PySem.W.keepIn K (.ref f5) = true)
    (a6 : PySem.W.nsIn K mainGlobals "_law_pick" = some (some (.ref f6))) (l6 : K.lookup f6 = some ⟨oc6, od6, .func (PySem.W.fnOf "_law_pick" "_law_pick" (defArgs s_law_pick) (defBody s_law_pick) (defScope s_law_pick) .none kV6 dc6 pm6 an6 cd6 ct6), sl6⟩) (c6 : PySem.W.codeIn K cd6 "_law_pick" = true) (k6 : PySem.W.keepIn K (.ref f6) = true)
    (a7 : PySem.W.nsIn K mainGlobals "_law_stream" = some (some (.ref f7))) (l7 : K.lookup f7 = some ⟨oc7, od7, .func (PySem.W.fnOf "_law_stream" "_law_stream" (defArgs s_law_stream) (defBody s_law_stream) (defScope s_law_stream) .none kV7 dc7 pm7 an7 cd7 ct7), sl7⟩) (c7 : PySem.W.codeIn K cd7 "_law_stream" = true) (k7 : PySem.W.keepIn K (.ref f7) = true)
    (a8 : PySem.W.nsIn K mainGlobals "_law_drawn" = some (some (.ref f8))) (l8 : K.lookup f8 = some ⟨oc8, od8, .func (PySem.W.fnOf "_law_drawn" "_law_drawn" (defArgs s_law_drawn) (defBody s_law_drawn) (defScope s_law_drawn) .none kV8 dc8 pm8 an8 cd8 ct8), sl8⟩) (c8 : PySem.W.codeIn K cd8 "_law_drawn" = true) (k8 : PySem.W.keepIn K (.ref f8) = true)
    (a9 : PySem.W.nsIn K mainGlobals "_law_moved" = some (some (.ref f9))) (l9 : K.lookup f9 = some ⟨oc9, od9, .func (PySem.W.fnOf "_law_moved" "_law_moved" (defArgs s_law_moved) (defBody s_law_moved) (defScope s_law_moved) .none kV9 dc9 pm9 an9 cd9 ct9), sl9⟩) (c9 : PySem.W.codeIn K cd9 "_law_moved" = true) (k9 : PySem.W.keepIn K (.ref f9) = true)
    (a10 : PySem.W.nsIn K mainGlobals "law" = some (some (.ref f10))) (l10 : K.lookup f10 = some ⟨oc10, od10, .func (PySem.W.fnOf "law" "law" (defArgs s_law) (defBody s_law) (defScope s_law) .none kV10 dc10 pm10 an10 cd10 ct10), sl10⟩) (c10 : PySem.W.codeIn K cd10 "law" = true) (k10 : PySem.W.keepIn K (.ref f10) = true)
    (z0 : PySem.W.nsIn K mainGlobals "len" = some none)
    (z1 : PySem.W.nsIn K mainGlobals "enumerate" = some none)
    (z2 : PySem.W.nsIn K mainGlobals "tuple" = some none)
    (z3 : PySem.W.nsIn K mainGlobals "list" = some none)
    (z4 : PySem.W.nsIn K mainGlobals "int" = some none)
    (z5 : PySem.W.nsIn K mainGlobals "range" = some none)
    (z6 : PySem.W.nsIn K mainGlobals "isinstance" = some none)
    (y0 : PySem.W.nsIn K mainGlobals "MOST" = some (some (.int (999999) u0))) :
    ∃ fd : FuncData, (∀ (s : Shared) (v : Value), BindsTo s fd ⟨[v], []⟩ [("script", v)]) ∧ ∀ base : Heap, K.In base → base.Ns mainGlobals mg → FnOk l.prog w K mg base CX0 4 fa fd ["script"] (spLaw K) := by
  have e := hfa.symm.trans (PySem.W.mg_of X G a10)
  cases e
  have T : Txt K mg := ⟨dfn_mk X G a0 l0 c0 k0 (fun _ _ _ _ _ _ us hl => match us, hl with | [_], _ => rfl),
    dfn_mk X G a1 l1 c1 k1 (fun _ _ _ _ _ _ us hl => match us, hl with | [_, _], _ => rfl),
    dfn_mk X G a2 l2 c2 k2 (fun _ _ _ _ _ _ us hl => match us, hl with | [_], _ => rfl),
    dfn_mk X G a3 l3 c3 k3 (fun _ _ _ _ _ _ us hl => match us, hl with | [_, _], _ => rfl),
    dfn_mk X G a4 l4 c4 k4 (fun _ _ _ _ _ _ us hl => match us, hl with | [_], _ => rfl),
    dfn_mk X G a5 l5 c5 k5 (fun _ _ _ _ _ _ us hl => match us, hl with | [_], _ => rfl),
    dfn_mk X G a6 l6 c6 k6 (fun _ _ _ _ _ _ us hl => match us, hl with | [_, _], _ => rfl),
    dfn_mk X G a7 l7 c7 k7 (fun _ _ _ _ _ _ us hl => match us, hl with | [_], _ => rfl),
    dfn_mk X G a8 l8 c8 k8 (fun _ _ _ _ _ _ us hl => match us, hl with | [_, _], _ => rfl),
    dfn_mk X G a9 l9 c9 k9 (fun _ _ _ _ _ _ us hl => match us, hl with | [_, _, _], _ => rfl),
    dfn_mk X G a10 l10 c10 k10 (fun _ _ _ _ _ _ us hl => match us, hl with | [_], _ => rfl),
    PySem.W.mg_none_of X G z0,
    PySem.W.mg_none_of X G z1,
    PySem.W.mg_none_of X G z2,
    PySem.W.mg_none_of X G z3,
    PySem.W.mg_none_of X G z4,
    PySem.W.mg_none_of X G z5,
    PySem.W.mg_none_of X G z6,
    ⟨_, PySem.W.mg_of X G y0⟩⟩
  exact ⟨_, fun s v => .of_eq rfl, fun base _ _ => law_ok (walk T (fun_mk (st := s_law) l10 c10 k10)) law_fact⟩
end Law
set_option maxHeartbeats 0 in
open PySem PySem.W PyProof.Rows in
theorem PySem.Challenge.cw_tideland_k02_edits_made_by_hand_holds : PySem.Challenge.rw_tideland_k02_edits_made_by_hand.Holds := by
  w_on; o_law; k_head; (case hw => w_witness2)
  k_fill
  refine L2.walk_of (n := 63) (k := 4) (x := "script") (CX := fun _ => L2.CX0) (sp := fun w => DL.spLaw _) rfl (by decide) rfl ⟨rfl, by decide, by decide⟩ (fun w h Y => PySem.W.kIn_of Y) ?F (fun _ _ a ns hl _ hS => ⟨a, ns, rfl, hS, hl, fun _ => rfl⟩) (fun _ _ _ _ _ h => h)
  case F =>
    intro w mg fa h KX G hmg
    refine' Law.all_mk KX G hmg ?a0 ?l0 ?c0 ?k0 ?a1 ?l1 ?c1 ?k1 ?a2 ?l2 ?c2 ?k2 ?a3 ?l3 ?c3 ?k3 ?a4 ?l4 ?c4 ?k4 ?a5 ?l5 ?c5 ?k5 ?a6 ?l6 ?c6 ?k6 ?a7 ?l7 ?c7 ?k7 ?a8 ?l8 ?c8 ?k8 ?a9 ?l9 ?c9 ?k9 ?a10 ?l10 ?c10 ?k10 ?z0 ?z1 ?z2 ?z3 ?z4 ?z5 ?z6 ?y0
    (case a0 => k_is)
    (case l0 => k_is)
    (case c0 => k_is)
    (case k0 => k_is)
    (case a1 => k_is)
    (case l1 => k_is)
    (case c1 => k_is)
    (case k1 => k_is)
    (case a2 => k_is)
    (case l2 => k_is)
    (case c2 => k_is)
    (case k2 => k_is)
    (case a3 => k_is)
    (case l3 => k_is)
    (case c3 => k_is)
    (case k3 => k_is)
    (case a4 => k_is)
    (case l4 => k_is)
    (case c4 => k_is)
    (case k4 => k_is)
    (case a5 => k_is)
    (case l5 => k_is)
    (case c5 => k_is)
    (case k5 => k_is)
    (case a6 => k_is)
    (case l6 => k_is)
    (case c6 => k_is)
    (case k6 => k_is)
    (case a7 => k_is)
    (case l7 => k_is)
    (case c7 => k_is)
    (case k7 => k_is)
    (case a8 => k_is)
    (case l8 => k_is)
    (case c8 => k_is)
    (case k8 => k_is)
    (case a9 => k_is)
    (case l9 => k_is)
    (case c9 => k_is)
    (case k9 => k_is)
    (case a10 => k_is)
    (case l10 => k_is)
    (case c10 => k_is)
    (case k10 => k_is)
    (case z0 => k_is)
    (case z1 => k_is)
    (case z2 => k_is)
    (case z3 => k_is)
    (case z4 => k_is)
    (case z5 => k_is)
    (case z6 => k_is)
    (case y0 => k_is)
