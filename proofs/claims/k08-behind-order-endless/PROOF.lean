import PyProof.Rows.All
import Wide.All
import OpenK.AllK
import Wide.FinOn
import HandS.ForMost
import HandS.ForExc
import HandS.TupAny
import HandS.TupLe
import HandS.HeadHook1
import HandS.Lambda
import HandS.Iter
import HandS.Flow
import HandS.Style
import HandS.Wide
import HandS.Deep
import KE.LtData
import HandS.WideBits
import PyProof.StrBlock2
import HandS.Star
import HandS.More
import HandS.SortInts
import HandS.RaiseMore
import PyProof.StrOps2
import HandS.NoneIn
import HandS.Zip
import HandS.Call
import HandS.Exc
import KE.KStateDown
import HandS.Base
import HandS.Ends
import HandS.Words
import HandS.WordsExc
import HandS.Defaults
import HandS.Head0
import HandS.Head1
import HandS.Head2
import HandS.HeadEnd
import HandS.HeadHook2
import HandS.EndBits
import KE.GoesEnum
import KE.GoesMore
import PyProof.Draws
import HandS.Dict
import KE.KExcSuper
import HandS.ExcInit
import HandS.ExcField
import KE.GoesRaise
import HandS.Comp
import HandS.ExcIs
import HandS.HeadHook4
import HandS.NestedK
import PyProof.ReprReads
import PyProof.ReprLoop
import PyProof.StrLawsRepr
import PyProof.Rows.RegStrFacts
import PyProof.P3Eq
import PySem.Challenge.RW_wordsbeyond_k08_behind_order_endless
set_option Elab.async false
set_option linter.all false
set_option maxRecDepth 100000
set_option maxHeartbeats 4000000
/-! MP: values as plain data, a store of what changes, each def a plain function over both. -/
namespace MP
open PySem PySem.Spec PyProof.Rows L2

/-- a value as plain data: tuples by what they hold, what may change by its number in the store -/
inductive D where
  | non | bl (b : Bool) | int (i : Int) | str (x : Str) | tup (xs : List D) | ref (r : Nat) | obj (a : Addr) | err (a d : Addr) (fs : List (Str × D))
  deriving Inhabited
/-- what may change -/
inductive O where
  | lst (xs : List D) | ro (xs : List D) | dict (kvs : List (Key × D)) | tab (P : Addr) (q : Str)
  deriving Inhabited
abbrev Store := List O
/-- an error: its class, its attributes -/
structure Exc where
  cls : Str
  fs : List (Str × D)
inductive Res (α : Type) where
  | ok (a : α) (S : Store) | exc (x : Exc) (S : Store) | bad
abbrev M (α : Type) := Store → Res α
def ret {α : Type} (a : α) : M α := fun S => .ok a S
def bind {α β : Type} (f : M α) (g : α → M β) : M β := fun S => match f S with
  | .ok a S' => g a S'
  | .exc x S' => .exc x S'
  | .bad => .bad
def fail {α : Type} : M α := fun _ => .bad
abbrev Env := List (Option D)
/-- a statement's end -/
inductive SRes where
  | next (ρ : Env) (S : Store) | ret (d : D) (S : Store) | brk (ρ : Env) (S : Store) | cont (ρ : Env) (S : Store) | exc (x : Exc) (ρ : Env) (S : Store) | bad
abbrev F := Env → M D
abbrev T := Env → M Bool
abbrev A := Env → M (List D)
abbrev G := Env → Store → SRes
abbrev P := D → Env → Store → Option Env

/-! ### the relation -/
variable {K : PySem.W.Frag}
mutual
inductive RD (K : PySem.W.Frag) (m : List Addr) (H : Hp) : D → V → Prop
  | non : RD K m H .non .non
  | bl (b : Bool) : RD K m H (.bl b) (.bl b)
  | int (i : Int) : RD K m H (.int i) (.int i)
  | str (x : Str) : RD K m H (.str x) (.str x)
  | tup {a : Addr} {xs : List V} {ds : List D} : SqT K H a xs → RDs K m H ds xs → RD K m H (.tup ds) (.ref a)
  | ref {a : Addr} {r : Nat} : m[r]? = some a → RD K m H (.ref r) (.ref a)
  | obj {a : Addr} : RD K m H (.obj a) (.ref a)
  /-- a caught error at a, its attributes at d -/
  | err {a d : Addr} {fs : List (Str × D)} {gs : List (Str × V)} : H d = some (.xd gs) → RFs K m H fs gs → RD K m H (.err a d fs) (.ref a)
/-- attributes by name -/
inductive RFs (K : PySem.W.Frag) (m : List Addr) (H : Hp) : List (Str × D) → List (Str × V) → Prop
  | nil : RFs K m H [] []
  | cons {f : Str} {d : D} {v : V} {ds : List (Str × D)} {vs : List (Str × V)} : RD K m H d v → RFs K m H ds vs → RFs K m H ((f, d) :: ds) ((f, v) :: vs)
inductive RDs (K : PySem.W.Frag) (m : List Addr) (H : Hp) : List D → List V → Prop
  | nil : RDs K m H [] []
  | cons {d : D} {v : V} {ds : List D} {vs : List V} : RD K m H d v → RDs K m H ds vs → RDs K m H (d :: ds) (v :: vs)
end
def RKV (K : PySem.W.Frag) (m : List Addr) (H : Hp) : List (Key × D) → List (Key × V) → Prop
  | [], [] => True
  | (k, d) :: r, (k', v) :: r' => k = k' ∧ RD K m H d v ∧ RKV K m H r r'
  | _, _ => False
/-- what may be another one behind a step -/
def Mu : Option HO → Prop
  | some (.tbl _) => True
  | o => Mut o
/-- the code object cv bears the name q -/
def CodeF (H : Hp) (q : Str) (cv : Value) : Prop := ∃ (c : Addr) (oc : Obj), cv = .ref c ∧ H c = some (.frz oc (LamX.CodeO c q))
/-- P is a table whose code objects all bear the name q -/
def TabF (H : Hp) (P : Addr) (q : Str) : Prop := ∃ ps : Array Value, H P = some (.tbl ps) ∧ TriplesOk ps.toList ∧ ∀ (pos : Pos) (cv : Value), codeAmong pos ps.toList = some cv → CodeF H q cv
def OR (K : PySem.W.Frag) (m : List Addr) (H : Hp) (a : Addr) : O → Prop
  | .lst ds => ∃ xs, H a = some (.lst xs) ∧ RDs K m H ds xs
  | .ro ds => ∃ xs, (∃ o, H a = some (.frz o (.lst xs))) ∧ RDs K m H ds xs
  | .dict kvs => ∃ ps, H a = some (.dK ps) ∧ RKV K m H kvs ps
  | .tab P q => a = P ∧ TabF H P q
structure Rel (K : PySem.W.Frag) (m : List Addr) (S : Store) (H : Hp) : Prop where
  len : m.length = S.length
  nd : m.Nodup
  ob : ∀ (r : Nat) (o : O) (a : Addr), S[r]? = some o → m[r]? = some a → OR K m H a o
/-- behind a step: more of the store, what is not of it kept -/
structure Aft (m : List Addr) (H : Hp) (m' : List Addr) (H' : Hp) : Prop where
  pre : ∃ t, m' = m ++ t
  new : ∀ a ∈ m', a ∈ m ∨ H a = none
  keep : ∀ b o, H b = some o → (b ∉ m ∨ ¬ Mu (some o)) → H' b = some o
def RE (K : PySem.W.Frag) (m : List Addr) (H : Hp) (ρ : Env) (σ : L2.St) : Prop :=
  ρ.length = σ.length ∧ ∀ (i : Nat) (d : D), ρ[i]? = some (some d) → ∃ v, σ[i]? = some (some v) ∧ RD K m H d v
def ExR (K : PySem.W.Frag) (m : List Addr) (H : Hp) (x : Exc) (cls : Value) (dd : Option Addr) : Prop :=
  cls = .ref (He.ga K x.cls) ∧ ∃ d gs, dd = some d ∧ H d = some (.xd gs) ∧ RFs K m H x.fs gs

section
variable {m m1 m2 : List Addr} {H H1 H2 : Hp} {S S1 : Store} {a b p : Addr} {d : D} {v : V} {ds : List D} {vs : List V} {o : O} {ho : HO}
theorem Aft.refl : Aft m H m H := ⟨⟨[], by simp⟩, fun a h => .inl h, fun _ _ h _ => h⟩
theorem Aft.sub (e : Aft m H m1 H1) (h : a ∈ m) : a ∈ m1 := by
  obtain ⟨t, rfl⟩ := e.pre
  exact List.mem_append_left _ h
theorem Aft.at (e : Aft m H m1 H1) {r : Nat} (h : m[r]? = some a) : m1[r]? = some a := by
  obtain ⟨t, rfl⟩ := e.pre
  rw [List.getElem?_append_left (List.getElem?_eq_some_iff.mp h).1]
  exact h
theorem Aft.trans (e : Aft m H m1 H1) (f : Aft m1 H1 m2 H2) : Aft m H m2 H2 := by
  refine ⟨?_, fun a h => ?_, fun b o h n => ?_⟩
  · obtain ⟨t, rfl⟩ := e.pre
    obtain ⟨u, rfl⟩ := f.pre
    exact ⟨t ++ u, by simp⟩
  · rcases f.new a h with h1 | h1
    · exact e.new a h1
    · cases q : H a with
      | none => exact .inr rfl
      | some o =>
        by_cases hm : a ∈ m
        · exact .inl hm
        · rw [e.keep a o q (.inl hm)] at h1
          cases h1
  · refine f.keep b o (e.keep b o h n) ?_
    rcases n with n | n
    · by_cases hm : b ∈ m1
      · rcases e.new b hm with h1 | h1
        · exact absurd h1 n
        · rw [h] at h1; cases h1
      · exact .inl hm
    · exact .inr n
theorem nm_tup {xs : List V} : ¬ Mu (some (.tup xs)) := fun h => h
theorem nm_frz {o : Obj} {u : HO} : ¬ Mu (some (.frz o u)) := fun h => h
theorem Aft.rd (e : Aft m H m1 H1) {xs : List V} (h : Rd H a (.tup xs)) : Rd H1 a (.tup xs) := by
  rcases h with h | ⟨o, h⟩
  · exact .inl (e.keep _ _ h (.inr nm_tup))
  · exact .inr ⟨o, e.keep _ _ h (.inr nm_frz)⟩
theorem Aft.sqt (e : Aft m H m1 H1) {xs : List V} (h : SqT K H a xs) : SqT K H1 a xs := by
  rcases h with h | h
  · exact .inl (e.rd h)
  · exact .inr h
mutual
theorem RD.mono (e : Aft m H m1 H1) : ∀ {d : D} {v : V}, RD K m H d v → RD K m1 H1 d v
  | _, _, .non => .non
  | _, _, .bl b => .bl b
  | _, _, .int i => .int i
  | _, _, .str x => .str x
  | _, _, .tup h r => .tup (e.sqt h) (RDs.mono e r)
  | _, _, .ref h => .ref (e.at h)
  | _, _, .obj => .obj
  | _, _, .err h r => .err (e.keep _ _ h (.inr fun z => z)) (RFs.mono e r)
theorem RFs.mono (e : Aft m H m1 H1) : ∀ {ds : List (Str × D)} {vs : List (Str × V)}, RFs K m H ds vs → RFs K m1 H1 ds vs
  | _, _, .nil => .nil
  | _, _, .cons h r => .cons (RD.mono e h) (RFs.mono e r)
theorem RDs.mono (e : Aft m H m1 H1) : ∀ {ds : List D} {vs : List V}, RDs K m H ds vs → RDs K m1 H1 ds vs
  | _, _, .nil => .nil
  | _, _, .cons h r => .cons (RD.mono e h) (RDs.mono e r)
end
theorem RKV.mono (e : Aft m H m1 H1) : ∀ {kvs : List (Key × D)} {ps : List (Key × V)}, RKV K m H kvs ps → RKV K m1 H1 kvs ps
  | [], [], _ => trivial
  | _ :: _, _ :: _, h => ⟨h.1, h.2.1.mono e, RKV.mono e h.2.2⟩
  | [], _ :: _, h => h.elim
  | _ :: _, [], h => h.elim
theorem RE.mono (e : Aft m H m1 H1) {ρ : Env} {σ : L2.St} (h : RE K m H ρ σ) : RE K m1 H1 ρ σ :=
  ⟨h.1, fun i d q => let ⟨v, h1, h2⟩ := h.2 i d q; ⟨v, h1, h2.mono e⟩⟩
theorem RDs.length : ∀ {ds : List D} {vs : List V}, RDs K m H ds vs → ds.length = vs.length
  | _, _, .nil => rfl
  | _, _, .cons _ r => by simp [RDs.length r]
theorem RDs.get : ∀ {ds : List D} {vs : List V} {i : Nat} {d : D}, RDs K m H ds vs → ds[i]? = some d → ∃ v, vs[i]? = some v ∧ RD K m H d v
  | _, _, _, _, .nil, h => by simp at h
  | _, _, 0, _, .cons h _, e => by simp at e; subst e; exact ⟨_, rfl, h⟩
  | _, _, i + 1, _, .cons _ r, e => by
    obtain ⟨v, h1, h2⟩ := RDs.get (i := i) r (by simpa using e)
    exact ⟨v, by simpa using h1, h2⟩
theorem RDs.get' : ∀ {ds : List D} {vs : List V} {i : Nat} {v : V}, RDs K m H ds vs → vs[i]? = some v → ∃ d, ds[i]? = some d ∧ RD K m H d v
  | _, _, _, _, .nil, h => by simp at h
  | _, _, 0, _, .cons h _, e => by simp at e; subst e; exact ⟨_, rfl, h⟩
  | _, _, i + 1, _, .cons _ r, e => by
    obtain ⟨v, h1, h2⟩ := RDs.get' (i := i) r (by simpa using e)
    exact ⟨v, by simpa using h1, h2⟩
theorem RDs.append : ∀ {ds es : List D} {vs ws : List V}, RDs K m H ds vs → RDs K m H es ws → RDs K m H (ds ++ es) (vs ++ ws)
  | _, _, _, _, .nil, s => s
  | _, _, _, _, .cons h r, s => .cons h (RDs.append r s)
theorem RDs.take : ∀ {ds : List D} {vs : List V} (n : Nat), RDs K m H ds vs → RDs K m H (ds.take n) (vs.take n)
  | _, _, 0, _ => .nil
  | _, _, _ + 1, .nil => .nil
  | _, _, n + 1, .cons h r => .cons h (RDs.take n r)
theorem RDs.drop : ∀ {ds : List D} {vs : List V} (n : Nat), RDs K m H ds vs → RDs K m H (ds.drop n) (vs.drop n)
  | _, _, 0, r => r
  | _, _, _ + 1, .nil => .nil
  | _, _, n + 1, .cons _ r => RDs.drop n r
theorem RDs.rev : ∀ {ds : List D} {vs : List V}, RDs K m H ds vs → RDs K m H ds.reverse vs.reverse
  | _, _, .nil => .nil
  | _, _, .cons h r => by rw [List.reverse_cons, List.reverse_cons]; exact (RDs.rev r).append (.cons h .nil)
theorem RDs.set {d : D} {v : V} (q : RD K m H d v) : ∀ {ds : List D} {vs : List V} (i : Nat), RDs K m H ds vs → RDs K m H (ds.set i d) (vs.set i v)
  | _, _, _, .nil => .nil
  | _, _, 0, .cons _ r => .cons q r
  | _, _, i + 1, .cons h r => .cons h (RDs.set q i r)
theorem RDs.ints : ∀ {ns : List Int} {vs : List V}, RDs K m H (ns.map D.int) vs → vs = ns.map V.int
  | [], _, .nil => rfl
  | _ :: _, _, .cons (.int _) r => by rw [RDs.ints r]; rfl
theorem RDs.of_ints : ∀ (ns : List Int), RDs K m H (ns.map D.int) (ns.map V.int)
  | [] => .nil
  | n :: r => .cons (.int n) (RDs.of_ints r)

theorem CodeF.mono {q : Str} {cv : Value} (h : CodeF H q cv) (k : ∀ b o u, H b = some (.frz o u) → H1 b = some (.frz o u)) : CodeF H1 q cv := by
  obtain ⟨c, oc, e1, e2⟩ := h
  exact ⟨c, oc, e1, k _ _ _ e2⟩
theorem TabF.mono {P : Addr} {q : Str} (h : TabF H P q) (k : ∀ b o u, H b = some (.frz o u) → H1 b = some (.frz o u)) (kt : ∀ ps, H P = some (.tbl ps) → H1 P = some (.tbl ps)) : TabF H1 P q := by
  obtain ⟨ps, h1, h2, h3⟩ := h
  exact ⟨ps, kt _ h1, h2, fun pos cv e => (h3 pos cv e).mono k⟩
/-- a new object beside the store: a tuple .. -/
theorem Aft.fresh (h : H p = none) : Aft m H m (upd H p ho) :=
  ⟨⟨[], by simp⟩, fun a h => .inl h, fun b o hb _ => by rw [upd_ne (ne_of_none hb h)]; exact hb⟩
theorem OR.has (h : OR K m H a o) : ∃ u, H a = some u := by
  cases o with
  | lst ds => obtain ⟨xs, h1, _⟩ := h; exact ⟨_, h1⟩
  | ro ds => obtain ⟨xs, ⟨o, h1⟩, _⟩ := h; exact ⟨_, h1⟩
  | dict ds => obtain ⟨xs, h1, _⟩ := h; exact ⟨_, h1⟩
  | tab P q => obtain ⟨rfl, ps, h1, _⟩ := h; exact ⟨_, h1⟩
theorem Rel.lt (R : Rel K m S H) {r : Nat} (h : m[r]? = some a) : ∃ o, S[r]? = some o ∧ OR K m H a o := by
  have hl : r < S.length := by rw [← R.len]; exact (List.getElem?_eq_some_iff.mp h).1
  exact ⟨S[r], by simp [hl], R.ob r _ a (by simp [hl]) h⟩
theorem Rel.get (R : Rel K m S H) {r : Nat} (h : S[r]? = some o) : ∃ a, m[r]? = some a ∧ OR K m H a o := by
  have hl : r < m.length := by rw [R.len]; exact (List.getElem?_eq_some_iff.mp h).1
  exact ⟨m[r], by simp [hl], R.ob r _ _ h (by simp [hl])⟩
theorem Rel.out (R : Rel K m S H) (h : H p = none) : p ∉ m := fun hm => by
  obtain ⟨r, hr⟩ := List.getElem?_of_mem hm
  obtain ⟨o, _, h2⟩ := R.lt hr
  obtain ⟨u, hu⟩ := h2.has
  rw [h] at hu; cases hu
theorem OR.mono (e : Aft m H m1 H1) (h : OR K m H a o) (q : ∀ u, H a = some u → Mu (some u) → H1 a = some u) : OR K m1 H1 a o := by
  cases o with
  | lst ds =>
    obtain ⟨xs, h1, h2⟩ := h
    exact ⟨xs, q _ h1 trivial, h2.mono e⟩
  | ro ds =>
    obtain ⟨xs, h1, h2⟩ := h
    refine ⟨xs, ?_, h2.mono e⟩
    obtain ⟨o, h1⟩ := h1
    exact ⟨o, e.keep _ _ h1 (.inr nm_frz)⟩
  | dict kvs =>
    obtain ⟨xs, h1, h2⟩ := h
    exact ⟨xs, q _ h1 trivial, h2.mono e⟩
  | tab P q' =>
    obtain ⟨rfl, t⟩ := h
    exact ⟨rfl, t.mono (fun b o u z => e.keep b _ z (.inr nm_frz)) fun ps z => q _ z trivial⟩
theorem Rel.fresh (R : Rel K m S H) (h : H p = none) : Rel K m S (upd H p ho) :=
  ⟨R.len, R.nd, fun (r : Nat) o a h1 h2 => OR.mono (Aft.fresh h) (R.ob r o a h1 h2) fun u hu _ => by rw [upd_ne (ne_of_none hu h)]; exact hu⟩
/-- .. of it -/
theorem Aft.alloc (h : H p = none) : Aft m H (m ++ [p]) (upd H p ho) :=
  ⟨⟨[p], rfl⟩, fun a ha => by
    rcases List.mem_append.mp ha with ha | ha
    · exact .inl ha
    · rw [List.mem_singleton.mp ha]; exact .inr h, fun b o hb _ => by rw [upd_ne (ne_of_none hb h)]; exact hb⟩
theorem Rel.alloc (R : Rel K m S H) (h : H p = none) (q : OR K (m ++ [p]) (upd H p ho) p o) : Rel K (m ++ [p]) (S ++ [o]) (upd H p ho) := by
  refine ⟨by simp [R.len], ?_, fun (r : Nat) u a h1 h2 => ?_⟩
  · rw [List.nodup_append]
    refine ⟨R.nd, by simp, fun x hx y hy e => ?_⟩
    rw [List.mem_singleton.mp hy] at e
    subst e
    exact R.out h hx
  · by_cases hr : r < m.length
    · rw [List.getElem?_append_left hr] at h2
      rw [List.getElem?_append_left (by rw [← R.len]; exact hr)] at h1
      exact OR.mono (Aft.alloc h) (R.ob r u a h1 h2) fun w hw _ => by rw [upd_ne (ne_of_none hw h)]; exact hw
    · have e : r = m.length := by
        have := (List.getElem?_eq_some_iff.mp h2).1
        simp at this
        omega
      subst e
      rw [List.getElem?_append_right (Nat.le_refl _)] at h2
      rw [R.len, List.getElem?_append_right (Nat.le_refl _)] at h1
      simp at h1 h2
      subst h1 h2
      exact q
theorem Rel.last (R : Rel K m S H) : (m ++ [p])[S.length]? = some p := by
  rw [← R.len]
  simp
/-- a thing of the store is changed -/
theorem Aft.write (R : Rel K m S H) {r : Nat} (h : m[r]? = some a) (mu : Mu (H a)) : Aft m H m (upd H a ho) :=
  ⟨⟨[], by simp⟩, fun a h => .inl h, fun b o hb n => by
    have : b ≠ a := fun e => by
      subst e
      rcases n with n | n
      · exact n (List.mem_of_getElem? h)
      · rw [hb] at mu; exact n mu
    rw [upd_ne this]; exact hb⟩
theorem Rel.write (R : Rel K m S H) {r : Nat} (h : m[r]? = some a) (mu : Mu (H a)) (q : OR K m (upd H a ho) a o) : Rel K m (S.set r o) (upd H a ho) := by
  refine ⟨by simp [R.len], R.nd, fun (i : Nat) u b h1 h2 => ?_⟩
  have hr : r < S.length := by rw [← R.len]; exact (List.getElem?_eq_some_iff.mp h).1
  by_cases hi : i = r
  · subst hi
    rw [h] at h2; cases h2
    rw [List.getElem?_set_self hr] at h1
    cases h1
    exact q
  · rw [List.getElem?_set_ne (Ne.symm hi)] at h1
    refine OR.mono (Aft.write R h mu) (R.ob i u b h1 h2) fun w hw _ => ?_
    have : b ≠ a := fun e => by
      subst e
      obtain ⟨h3, e3⟩ := List.getElem?_eq_some_iff.mp h
      obtain ⟨h4, e4⟩ := List.getElem?_eq_some_iff.mp h2
      exact hi ((List.getElem_inj R.nd).mp (e4.trans e3.symm))
    rw [upd_ne this]; exact hw
end
end MP
set_option Elab.async false
set_option linter.all false
set_option maxRecDepth 100000
set_option maxHeartbeats 4000000
namespace MP
open PySem PySem.Spec PyProof.Rows L2

/-! ### what a result asks -/
section
variable {α β γ δ : Type} {K : PySem.W.Frag} {m m1 : List Addr} {H H1 : Hp}
def EndM (K : PySem.W.Frag) (m : List Addr) (H : Hp) (R : List Addr → Hp → α → β → Prop) (W : Value → Option Addr → Hp → Prop) (r : Res α) (Q : β → Hp → Prop) : Prop := match r with
  | .ok d S => ∀ m' v H', Aft m H m' H' → Rel K m' S H' → R m' H' d v → Q v H'
  | .exc x S => ∀ m' H' cls dd, Aft m H m' H' → Rel K m' S H' → ExR K m' H' x cls dd → W cls dd H'
  | .bad => False
variable {R : List Addr → Hp → α → β → Prop} {R2 : List Addr → Hp → γ → δ → Prop} {W W' : Value → Option Addr → Hp → Prop} {r : Res α} {Q Q' : β → Hp → Prop} {Q2 : δ → Hp → Prop}
theorem EndM.mono (h : EndM K m H R W r Q) (hq : ∀ v H, Q v H → Q' v H) : EndM K m H R W r Q' := by
  cases r with
  | ok d S => exact fun m' v H' a b c => hq _ _ (h m' v H' a b c)
  | exc x S => exact h
  | bad => exact h
theorem EndM.wish (h : EndM K m H R W r Q) (hw : ∀ c d H, W c d H → W' c d H) : EndM K m H R W' r Q := by
  cases r with
  | ok d S => exact h
  | exc x S => exact fun m' H' c d a b e => hw _ _ _ (h m' H' c d a b e)
  | bad => exact h
theorem EndM.back (e : Aft m H m1 H1) (h : EndM K m H R W r Q) : EndM K m1 H1 R W r Q := by
  cases r with
  | ok d S => exact fun m' v H' a b c => h m' v H' (e.trans a) b c
  | exc x S => exact fun m' H' c d a b f => h m' H' c d (e.trans a) b f
  | bad => exact h
/-- the first of two steps -/
theorem EndM.step {f : M α} {g : α → M γ} {S : Store} (h : EndM K m H R2 W (bind f g S) Q2) :
    EndM K m H R W (f S) fun v H1 => ∃ d S1 m1, R m1 H1 d v ∧ Aft m H m1 H1 ∧ Rel K m1 S1 H1 ∧ EndM K m1 H1 R2 W (g d S1) Q2 := by
  unfold bind at h
  cases e : f S with
  | ok d S1 =>
    rw [e] at h
    exact fun m' v H' a b c => ⟨d, S1, m', c, a, b, EndM.back a h⟩
  | exc x S1 => rw [e] at h; exact h
  | bad => rw [e] at h; exact h
theorem EndM.ret {S : Store} {a : α} (R0 : Rel K m S H) {v : β} (r : R m H a v) (h : EndM K m H R W (ret a S) Q) : Q v H := h m v H Aft.refl R0 r
theorem EndM.ok {S : Store} {a : α} (h : EndM K m H R W (.ok a S) Q) {v : β} {m' : List Addr} {H' : Hp} (e : Aft m H m' H') (R0 : Rel K m' S H') (r : R m' H' a v) : Q v H' := h m' v H' e R0 r
end

def RBool (_ : List Addr) (_ : Hp) (a b : Bool) : Prop := a = b
/-- an expression's, a test's, an argument list's reading by a function over data -/
def tM (K : PySem.W.Frag) (W : WX) (f : F) : TE := fun σ H Q => ∃ m ρ S, RE K m H ρ σ ∧ Rel K m S H ∧ EndM K m H (RD K) (fun c d H' => W c d σ H') (f ρ S) Q
def tT (K : PySem.W.Frag) (W : WX) (f : T) : TT := fun σ H Q => ∃ m ρ S, RE K m H ρ σ ∧ Rel K m S H ∧ EndM K m H RBool (fun c d H' => W c d σ H') (f ρ S) Q
def tA (K : PySem.W.Frag) (W : WX) (f : A) : TA := fun σ H Q => ∃ m ρ S, RE K m H ρ σ ∧ Rel K m S H ∧ EndM K m H (RDs K) (fun c d H' => W c d σ H') (f ρ S) Q

abbrev ME (X : Cx) (W : WX) (e : Expr) (f : F) : Prop := PE X e (tM X.K W f)
abbrev MT (X : Cx) (W : WX) (e : Expr) (f : T) : Prop := PT X e (tT X.K W f)
abbrev MW (X : Cx) (W : WX) (e : Expr) (f : T) : Prop := PW X e (tT X.K W f)
abbrev MA (X : Cx) (W : WX) (es : List Expr) (f : A) : Prop := PA X es (tA X.K W f)

theorem PE.imp {X : Cx} {e : Expr} {t t' : TE} (h : PE X e t) (i : ∀ σ H Q, t' σ H Q → t σ H Q) : PE X e t' := ⟨fun pins s σ H Q I q => h.run pins s σ H Q I (i σ H Q q)⟩
theorem PT.imp {X : Cx} {e : Expr} {t t' : TT} (h : PT X e t) (i : ∀ σ H Q, t' σ H Q → t σ H Q) : PT X e t' := ⟨fun pins s σ H Q I q => h.run pins s σ H Q I (i σ H Q q)⟩
theorem PW.imp {X : Cx} {e : Expr} {t t' : TT} (h : PW X e t) (i : ∀ σ H Q, t' σ H Q → t σ H Q) : PW X e t' := ⟨fun w pins s σ H Q I q => h.run w pins s σ H Q I (i σ H Q q)⟩
theorem PA.imp {X : Cx} {e : List Expr} {t t' : TA} (h : PA X e t) (i : ∀ σ H Q, t' σ H Q → t σ H Q) : PA X e t' := ⟨fun pos pins s σ H Q I q => h.run pos pins s σ H Q I (i σ H Q q)⟩
theorem PS.imp {X : Cx} {e : Stmt} {t t' : TS} (h : PS X e t) (i : ∀ D σ H, t' D σ H → t D σ H) : PS X e t' := ⟨fun pins s σ H D I q => h.run pins s σ H D I (i D σ H q)⟩
theorem PSs.imp {X : Cx} {e : List Stmt} {t t' : TS} (h : PSs X e t) (i : ∀ D σ H, t' D σ H → t D σ H) : PSs X e t' := ⟨fun pins s σ H D I q => h.run pins s σ H D I (i D σ H q)⟩
theorem OpR.imp {X : Cx} {f : Value → Value → Sem Value} {t t' : R2} (h : OpR X f t) (i : ∀ x y H Q, t' x y H Q → t x y H Q) : OpR X f t' := fun pins s σ H x y v u Q I a b q => h pins s σ H x y v u Q I a b (i x y H Q q)

/-! ### plain operations: a value and the store behind, or nothing -/
abbrev Op1 := D → Store → Option (D × Store)
abbrev Op2 := D → D → Store → Option (D × Store)
abbrev OpN := List D → Store → Option (D × Store)
def lift {α : Type} (o : Store → Option (α × Store)) : M α := fun S => match o S with
  | some (d, S') => .ok d S'
  | none => .bad
/-- one that leaves the store as it is -/
def pureO {α : Type} (o : Option α) : Store → Option (α × Store) := fun S => o.map fun a => (a, S)

/-- what a plain operation asks -/
def EndO (K : PySem.W.Frag) (m : List Addr) (H : Hp) (o : Option (D × Store)) (Q : VK) : Prop := ∃ d S, o = some (d, S) ∧ ∀ m' v H', Aft m H m' H' → Rel K m' S H' → RD K m' H' d v → Q v H'
theorem EndM.lift {K : PySem.W.Frag} {m : List Addr} {H : Hp} {W : Value → Option Addr → Hp → Prop} {o : Store → Option (D × Store)} {S : Store} {Q : VK} (h : EndM K m H (RD K) W (lift o S) Q) : EndO K m H (o S) Q := by
  unfold MP.lift at h
  split at h
  · rename_i d S' e
    exact ⟨d, S', e, h⟩
  · exact h.elim
def r1 (K : PySem.W.Frag) (g : Op1) : V → Hp → VK → Prop := fun x H Q => ∃ m S d, Rel K m S H ∧ RD K m H d x ∧ EndO K m H (g d S) Q
def r2 (K : PySem.W.Frag) (g : Op2) : R2 := fun x y H Q => ∃ m S d e, Rel K m S H ∧ RD K m H d x ∧ RD K m H e y ∧ EndO K m H (g d e S) Q
def rN (K : PySem.W.Frag) (g : OpN) : List V → Hp → VK → Prop := fun xs H Q => ∃ m S ds, Rel K m S H ∧ RDs K m H ds xs ∧ EndO K m H (g ds S) Q

/-! ### expressions -/
section
variable {X : Cx} {W : WX} {a b c e : Expr} {es : List Expr} {fa fb fc fe : F} {ft fu : T} {fs : A} {pos : Pos}
def eVar (i : Nat) : F := fun ρ => match ρ[i]? with
  | some (some d) => ret d
  | _ => fail
theorem me_var (i : Nat) {x : Str} (hN : X.N[i]? = some x := by rfl) (hv : Vis X.env.scope x := by first | exact Or.inl rfl | exact Or.inr (Or.inl rfl) | exact Or.inr (Or.inr rfl)) (hd : (x == ("__debug__" : Str)) = false := by decide)
    (hcd : (x == ("__classdict__" : Str)) = false := by decide) : ME X W (.Name x pos) (eVar i) := by
  refine PE.imp (pe_var (i := i) hN hv hd hcd) fun σ H Q h => ?_
  obtain ⟨m, ρ, S, hr, R, q⟩ := h
  cases e : ρ[i]? with
  | none => simp only [eVar, e] at q; exact q.elim
  | some o =>
    cases o with
    | none => simp only [eVar, e] at q; exact q.elim
    | some d =>
      simp only [eVar, e] at q
      obtain ⟨v, h1, h2⟩ := hr.2 i d e
      exact ⟨v, h1, q m v H Aft.refl R h2⟩
def eC (d : D) : F := fun _ => ret d
/-- a value that needs no store -/
def flat : D → V → Prop
  | .non, v => v = .non
  | .bl b, v => v = .bl b
  | .int i, v => v = .int i
  | .str x, v => v = .str x
  | .obj a, v => v = .ref a
  | _, _ => False
theorem flat.rd {K : PySem.W.Frag} {m : List Addr} {H : Hp} : ∀ {d : D} {v : V}, flat d v → RD K m H d v
  | .non, _, h => by cases h; exact .non
  | .bl _, _, h => by cases h; exact .bl _
  | .int _, _, h => by cases h; exact .int _
  | .str _, _, h => by cases h; exact .str _
  | .obj _, _, h => by cases h; exact .obj
  | .tup _, _, h => h.elim
  | .ref _, _, h => h.elim
theorem me_c {d : D} {v : V} (h : PE X e (tC v)) (f : flat d v) : ME X W e (eC d) := PE.imp h fun σ H Q ⟨m, ρ, S, hr, R, q⟩ => q m v H Aft.refl R f.rd
theorem me_int {i : Int} {j : Nat} : ME X W (.Constant (.int i) j pos) (eC (.int i)) := me_c pe_int rfl
theorem me_bl {i : Bool} {j : Nat} : ME X W (.Constant (.bool i) j pos) (eC (.bl i)) := me_c pe_bl rfl
theorem me_non {j : Nat} : ME X W (.Constant .none j pos) (eC .non) := me_c pe_non rfl
theorem me_str {i : Str} {j : Nat} : ME X W (.Constant (.str i) j pos) (eC (.str i)) := me_c pe_str rfl
/-- a constant of the module -/
theorem me_glob {x : Str} {d : D} {v : V} {u : Value} (hm : X.mg x = some u) (r : RelV v u) (f : flat d v) (hg : Gl X x := by rfl) (hd : (x == ("__debug__" : Str)) = false := by decide) : ME X W (.Name x pos) (eC d) := me_c (pe_glob hg hm r hd) f
theorem me_globI {x : Str} {i : Int} {t : Tok} (hm : X.mg x = some (.int i t)) (hg : Gl X x := by rfl) (hd : (x == ("__debug__" : Str)) = false := by decide) : ME X W (.Name x pos) (eC (.int i)) := me_glob (v := .int i) hm ⟨t, rfl⟩ rfl hg hd
theorem me_globS {x y : Str} {t : Tok} (hm : X.mg x = some (.str y t)) (hg : Gl X x := by rfl) (hd : (x == ("__debug__" : Str)) = false := by decide) : ME X W (.Name x pos) (eC (.str y)) := me_glob (v := .str y) hm ⟨t, rfl⟩ rfl hg hd

def eBin (g : Op2) (fa fb : F) : F := fun ρ => bind (fa ρ) fun x => bind (fb ρ) fun y => lift (g x y)
theorem tM_step {σ : L2.St} {H : Hp} {Q : VK} {m : List Addr} {ρ : Env} {S : Store} {γ δ : Type} {R2 : List Addr → Hp → γ → δ → Prop} {f : F} {g : D → M γ} {Q2 : δ → Hp → Prop} (hr : RE X.K m H ρ σ) (R : Rel X.K m S H)
    (h : EndM X.K m H R2 (fun c d H' => W c d σ H') (bind (f ρ) g S) Q2)
    (k : ∀ v H1 d S1 m1, RD X.K m1 H1 d v → Aft m H m1 H1 → Rel X.K m1 S1 H1 → EndM X.K m1 H1 R2 (fun c d H' => W c d σ H') (g d S1) Q2 → Q v H1) : tM X.K W f σ H Q :=
  ⟨m, ρ, S, hr, R, (EndM.step (R := RD X.K) h).mono fun v H1 ⟨d, S1, m1, a, b, c, e⟩ => k v H1 d S1 m1 a b c e⟩
theorem tT_step {σ : L2.St} {H : Hp} {Q : Bool → Hp → Prop} {m : List Addr} {ρ : Env} {S : Store} {γ δ : Type} {R2 : List Addr → Hp → γ → δ → Prop} {f : T} {g : Bool → M γ} {Q2 : δ → Hp → Prop} (hr : RE X.K m H ρ σ) (R : Rel X.K m S H)
    (h : EndM X.K m H R2 (fun c d H' => W c d σ H') (bind (f ρ) g S) Q2)
    (k : ∀ v H1 S1 m1, Aft m H m1 H1 → Rel X.K m1 S1 H1 → EndM X.K m1 H1 R2 (fun c d H' => W c d σ H') (g v S1) Q2 → Q v H1) : tT X.K W f σ H Q :=
  ⟨m, ρ, S, hr, R, (EndM.step (R := RBool) h).mono fun v H1 ⟨d, S1, m1, a, b, c, e⟩ => by cases a; exact k _ H1 S1 m1 b c e⟩
theorem tA_step {σ : L2.St} {H : Hp} {Q : List V → Hp → Prop} {m : List Addr} {ρ : Env} {S : Store} {γ δ : Type} {R2 : List Addr → Hp → γ → δ → Prop} {f : A} {g : List D → M γ} {Q2 : δ → Hp → Prop} (hr : RE X.K m H ρ σ) (R : Rel X.K m S H)
    (h : EndM X.K m H R2 (fun c d H' => W c d σ H') (bind (f ρ) g S) Q2)
    (k : ∀ v H1 d S1 m1, RDs X.K m1 H1 d v → Aft m H m1 H1 → Rel X.K m1 S1 H1 → EndM X.K m1 H1 R2 (fun c d H' => W c d σ H') (g d S1) Q2 → Q v H1) : tA X.K W f σ H Q :=
  ⟨m, ρ, S, hr, R, (EndM.step (R := RDs X.K) h).mono fun v H1 ⟨d, S1, m1, a, b, c, e⟩ => k v H1 d S1 m1 a b c e⟩
theorem tOp_of {g : Op2} {σ : L2.St} {H : Hp} {Q : VK} (h : tM X.K W (eBin g fa fb) σ H Q) : tOp (r2 X.K g) (tM X.K W fa) (tM X.K W fb) σ H Q := by
  obtain ⟨m, ρ, S, hr, R, q⟩ := h
  refine tM_step hr R q fun x H1 d1 S1 m1 rd1 e1 R1 q1 => ?_
  refine tM_step (hr.mono e1) R1 q1 fun y H2 d2 S2 m2 rd2 e2 R2 q2 => ?_
  exact ⟨m2, S2, d1, d2, R2, rd1.mono e2, rd2, q2.lift⟩
theorem me_bin {op : Operator} {g : Op2} (ho : OpR X (binaryOp op) (r2 X.K g)) (ha : ME X W a fa) (hb : ME X W b fb) : ME X W (.BinOp a op b pos) (eBin g fa fb) :=
  PE.imp (pe_op ho ha hb) fun _ _ _ h => tOp_of h
theorem me_cmp {op : CmpOp} {g : Op2} (ho : OpR X (compareOp op) (r2 X.K g)) (ha : ME X W a fa) (hb : ME X W b fb) (hm : behindInMarks op b = false := by first | exact nobehind _ (by decide) (by decide) | rfl) : ME X W (.Compare a [op] [b] pos) (eBin g fa fb) :=
  PE.imp (pe_cmpR ho ha hb hm) fun _ _ _ h => tOp_of h
def eUn (g : Op1) (fa : F) : F := fun ρ => bind (fa ρ) fun x => lift (g x)
theorem me_un {op : UnaryOp} {g : Op1} (ho : UnR X (unaryOp op) (r1 X.K g)) (ha : ME X W a fa) : ME X W (.UnaryOp op a pos) (eUn g fa) :=
  PE.imp (pe_un ho ha) fun σ H Q h => by
    obtain ⟨m, ρ, S, hr, R, q⟩ := h
    exact tM_step hr R q fun x H1 d1 S1 m1 rd1 e1 R1 q1 => ⟨m1, S1, d1, R1, rd1, q1.lift⟩
/-! ### tests -/
def asB : D → M Bool
  | .bl b => ret b
  | _ => fail
def tOf (f : F) : T := fun ρ => bind (f ρ) asB
theorem tB_of {σ : L2.St} {H : Hp} {Q : Bool → Hp → Prop} (h : tT X.K W (tOf fa) σ H Q) : tB (tM X.K W fa) σ H Q := by
  obtain ⟨m, ρ, S, hr, R, q⟩ := h
  refine tM_step hr R q fun x H1 d S1 m1 rd e1 R1 q1 => ?_
  cases rd with
  | bl b => exact ⟨b, rfl, q1 m1 b H1 Aft.refl R1 rfl⟩
  | _ => exact q1.elim
theorem mt_cmp {op : CmpOp} {g : Op2} (ho : OpR X (compareOp op) (r2 X.K g)) (ha : ME X W a fa) (hb : ME X W b fb) (hm : behindInMarks op b = false := by first | exact nobehind _ (by decide) (by decide) | rfl) : MT X W (.Compare a [op] [b] pos) (tOf (eBin g fa fb)) :=
  PT.imp (pt_cmpR ho ha hb hm) fun σ H Q h => by
    obtain ⟨m, ρ, S, hr, R, q⟩ := h
    have q' : EndM X.K m H RBool (fun c d H' => W c d σ H') (bind (bind (fa ρ) fun x => bind (fb ρ) fun y => lift (g x y)) asB S) Q := q
    refine tM_step hr R (EndM.step (R := RD X.K) q') fun x H1 d1 S1 m1 rd1 e1 R1 q1 => ?_
    refine tM_step (hr.mono e1) R1 q1 fun y H2 d2 S2 m2 rd2 e2 R2 q2 => ?_
    refine ⟨m2, S2, d1, d2, R2, rd1.mono e2, rd2, ?_⟩
    obtain ⟨d, S', e, k⟩ := q2.lift
    refine ⟨d, S', e, fun m' v H' a' R' rd' => ?_⟩
    obtain ⟨d3, S3, m3, rd3, a3, R3, q3⟩ := k m' v H' a' R' rd'
    cases rd3 with
    | bl b => exact ⟨b, rfl, q3 m3 b H' Aft.refl R3 rfl⟩
    | _ => exact q3.elim
end
end MP
set_option Elab.async false
set_option linter.all false
set_option maxRecDepth 100000
set_option maxHeartbeats 4000000
namespace MP
open PySem PySem.Spec PyProof.Rows L2

/-! ### ends of plain operations -/
section
variable {K : PySem.W.Frag} {m : List Addr} {H : Hp} {S S' : Store} {d : D} {ds : List D} {Q : VK} {v : V} {xs : List V} {o : Option (D × Store)}
theorem EndO.here (h : EndO K m H (some (d, S)) Q) (R : Rel K m S H) (r : RD K m H d v) : Q v H := by
  obtain ⟨d', S', e, k⟩ := h
  cases e
  exact k m v H Aft.refl R r
theorem EndO.tup (h : EndO K m H (some (.tup ds, S)) Q) (R : Rel K m S H) (r : RDs K m H ds xs) {p : Addr} (hp : H p = none) : Q (.ref p) (upd H p (.tup xs)) := by
  obtain ⟨d', S', e, k⟩ := h
  cases e
  exact k m _ _ (Aft.fresh hp) (R.fresh hp) (.tup (SqT.of upd_same) (r.mono (Aft.fresh hp)))
theorem EndO.lst (h : EndO K m H (some (.ref S.length, S ++ [.lst ds])) Q) (R : Rel K m S H) (r : RDs K m H ds xs) {p : Addr} (hp : H p = none) : Q (.ref p) (upd H p (.lst xs)) := by
  obtain ⟨d', S', e, k⟩ := h
  cases e
  exact k _ _ _ (Aft.alloc hp) (R.alloc hp ⟨xs, upd_same, r.mono (Aft.alloc hp)⟩) (.ref R.last)
theorem EndO.dict {kvs : List (Key × D)} {ps : List (Key × V)} (h : EndO K m H (some (.ref S.length, S ++ [.dict kvs])) Q) (R : Rel K m S H) (r : RKV K m H kvs ps) {p : Addr} (hp : H p = none) : Q (.ref p) (upd H p (.dK ps)) := by
  obtain ⟨d', S', e, k⟩ := h
  cases e
  exact k _ _ _ (Aft.alloc hp) (R.alloc hp ⟨ps, upd_same, r.mono (Aft.alloc hp)⟩) (.ref R.last)
/-- a list of the store becomes another one -/
theorem EndO.wlst {r : Nat} {a : Addr} (h : EndO K m H (some (d, S.set r (.lst ds))) Q) (R : Rel K m S H) (hr : m[r]? = some a) (mu : Mu (H a)) (q : RDs K m H ds xs) (rv : RD K m H d v) : Q v (upd H a (.lst xs)) := by
  obtain ⟨d', S', e, k⟩ := h
  cases e
  exact k _ _ _ (Aft.write R hr mu) (R.write hr mu ⟨xs, upd_same, q.mono (Aft.write R hr mu)⟩) (rv.mono (Aft.write R hr mu))
theorem EndO.wdict {r : Nat} {a : Addr} {kvs : List (Key × D)} {ps : List (Key × V)} (h : EndO K m H (some (d, S.set r (.dict kvs))) Q) (R : Rel K m S H) (hr : m[r]? = some a) (mu : Mu (H a)) (q : RKV K m H kvs ps) (rv : RD K m H d v) : Q v (upd H a (.dK ps)) := by
  obtain ⟨d', S', e, k⟩ := h
  cases e
  exact k _ _ _ (Aft.write R hr mu) (R.write hr mu ⟨ps, upd_same, q.mono (Aft.write R hr mu)⟩) (rv.mono (Aft.write R hr mu))
theorem EndO.bad (h : EndO K m H none Q) : False := by
  obtain ⟨d', S', e, k⟩ := h
  cases e
end

/-- what is read as a list: of the store -/
def listOf (S : Store) : D → Option (List D)
  | .ref r => match S[r]? with
    | some (.lst xs) => some xs
    | some (.ro xs) => some xs
    | _ => none
  | _ => none
/-- a list or a tuple -/
def seqOf (S : Store) : D → Option (List D)
  | .tup xs => some xs
  | d => listOf S d
section
variable {K : PySem.W.Frag} {m : List Addr} {H : Hp} {S : Store} {d : D} {ds : List D} {v : V}
theorem listOf_ok (R : Rel K m S H) (r : RD K m H d v) (h : listOf S d = some ds) : ∃ a xs, v = .ref a ∧ SqL K H a xs ∧ RDs K m H ds xs := by
  cases r with
  | ref hr =>
    rename_i a r
    obtain ⟨o, ho, q⟩ := R.lt hr
    simp only [listOf, ho] at h
    cases o with
    | lst ys => cases h; obtain ⟨xs, h1, h2⟩ := q; exact ⟨_, xs, rfl, SqL.of h1, h2⟩
    | ro ys => cases h; obtain ⟨xs, ⟨o, h1⟩, h2⟩ := q; exact ⟨_, xs, rfl, .inl (.inr ⟨o, h1⟩), h2⟩
    | dict ys => cases h
    | tab _ _ => cases h
  | _ => cases h
theorem seqOf_ok (R : Rel K m S H) (r : RD K m H d v) (h : seqOf S d = some ds) : ∃ a xs, v = .ref a ∧ (SqL K H a xs ∨ SqT K H a xs) ∧ RDs K m H ds xs := by
  cases r with
  | tup h1 h2 => cases h; exact ⟨_, _, rfl, .inr h1, h2⟩
  | ref hr =>
    obtain ⟨a, xs, e, h1, h2⟩ := listOf_ok R (.ref hr) (by simpa [seqOf] using h)
    exact ⟨a, xs, e, .inl h1, h2⟩
  | _ => cases h
/-- one that may be written -/
theorem lst_ok (R : Rel K m S H) {r : Nat} {a : Addr} (hr : m[r]? = some a) (h : S[r]? = some (.lst ds)) : ∃ xs, H a = some (.lst xs) ∧ RDs K m H ds xs := R.ob r _ a h hr
theorem dict_ok (R : Rel K m S H) {r : Nat} {a : Addr} {kvs : List (Key × D)} (hr : m[r]? = some a) (h : S[r]? = some (.dict kvs)) : ∃ ps, H a = some (.dK ps) ∧ RKV K m H kvs ps := R.ob r _ a h hr
end

/-! ### truth -/
def trueD : D → Store → Option Bool
  | .non, _ => some false
  | .bl b, _ => some b
  | .int i, _ => some (i != 0)
  | .str y, _ => if y.length ≤ sizeLine then some ((y.length : Int) != 0) else none
  | .tup ds, _ => some (!ds.isEmpty)
  | .ref r, S => match S[r]? with
    | some (.lst xs) => some (!xs.isEmpty)
    | some (.ro xs) => some (!xs.isEmpty)
    | some (.dict kvs) => some (!kvs.isEmpty)
    | some (.tab _ _) => none
    | none => none
  | .obj _, _ => none
  | .err _ _ _, _ => none
theorem RDs.isEmpty {K : PySem.W.Frag} {m : List Addr} {H : Hp} {ds : List D} {xs : List V} (r : RDs K m H ds xs) : ds.isEmpty = xs.isEmpty := by
  cases r <;> rfl
theorem RKV.isEmpty {K : PySem.W.Frag} {m : List Addr} {H : Hp} {ds : List (Key × D)} {xs : List (Key × V)} (r : RKV K m H ds xs) : ds.isEmpty = xs.isEmpty := by
  cases ds with
  | nil => cases xs with
    | nil => rfl
    | cons _ _ => exact r.elim
  | cons _ _ => cases xs with
    | nil => exact r.elim
    | cons _ _ => rfl
theorem trueD_ok {K : PySem.W.Frag} {m : List Addr} {H : Hp} {S : Store} {d : D} {v : V} {k : Bool} (R : Rel K m S H) (r : RD K m H d v) (h : trueD d S = some k) : TruV K v H k := by
  cases r with
  | non => cases h; rfl
  | bl b => cases h; rfl
  | int i => cases h; rfl
  | str x =>
    by_cases hl : x.length ≤ sizeLine
    · simp only [trueD, hl, if_true] at h; cases h; exact ⟨hl, rfl⟩
    · simp only [trueD, hl, if_false] at h; cases h
  | tup h1 h2 => cases h; exact .inr (.inl ⟨_, h1, by rw [h2.isEmpty]⟩)
  | ref hr =>
    obtain ⟨o, ho, q⟩ := R.lt hr
    simp only [trueD, ho] at h
    cases o with
    | lst ys => cases h; obtain ⟨xs, h1, h2⟩ := q; exact .inl ⟨xs, SqL.of h1, by rw [h2.isEmpty]⟩
    | ro ys => cases h; obtain ⟨xs, ⟨o, h1⟩, h2⟩ := q; exact .inl ⟨xs, .inl (.inr ⟨o, h1⟩), by rw [h2.isEmpty]⟩
    | dict ys => cases h; obtain ⟨xs, h1, h2⟩ := q; exact .inr (.inr ⟨xs, h1, by rw [h2.isEmpty]⟩)
    | tab _ _ => cases h
  | obj => cases h
  | err _ _ => cases h
def truth (d : D) : M Bool := fun S => match trueD d S with
  | some k => .ok k S
  | none => .bad

section
variable {X : Cx} {W : WX} {a b c e : Expr} {es rest : List Expr} {fa fb fc fe : F} {ft fu fv : T} {fs : A} {pos : Pos}
theorem truth_step {σ : L2.St} {m : List Addr} {H : Hp} {S : Store} {d : D} {v : V} {γ δ : Type} {R2 : List Addr → Hp → γ → δ → Prop} {g : Bool → M γ} {Q2 : δ → Hp → Prop} (R : Rel X.K m S H) (r : RD X.K m H d v)
    (h : EndM X.K m H R2 (fun c d H' => W c d σ H') (bind (truth d) g S) Q2) : ∃ k, TruV X.K v H k ∧ EndM X.K m H R2 (fun c d H' => W c d σ H') (g k S) Q2 := by
  unfold bind truth at h
  cases e : trueD d S with
  | none => rw [e] at h; exact h.elim
  | some k => rw [e] at h; exact ⟨k, trueD_ok R r e, h⟩
/-- by its truth -/
def tTr (f : F) : T := fun ρ => bind (f ρ) truth
theorem tTru_of {σ : L2.St} {H : Hp} {Q : Bool → Hp → Prop} (h : tT X.K W (tTr fa) σ H Q) : tM X.K W fa σ H (fun x H' => ∃ k, TruV X.K x H' k ∧ Q k H') := by
  obtain ⟨m, ρ, S, hr, R, q⟩ := h
  refine tM_step hr R q fun x H1 d S1 m1 rd e1 R1 q1 => ?_
  have q1' : EndM X.K m1 H1 RBool (fun c d H' => W c d σ H') (truth d S1) Q := q1
  unfold truth at q1'
  cases e : trueD d S1 with
  | none => rw [e] at q1'; exact q1'.elim
  | some k => rw [e] at q1'; exact ⟨k, trueD_ok R1 rd e, q1' m1 k H1 Aft.refl R1 rfl⟩
theorem mt_val (ha : ME X W a fa) (he : ∀ whole, isTrue a X.env whole = (do let v ← whole; standAt a.pos; holding [v] (truthy v)) := by intro _; rfl) : MT X W a (tTr fa) :=
  PT.imp (pt_truth ha he) fun _ _ _ h => tTru_of h
def tAnd' (ft fu : T) : T := fun ρ => bind (ft ρ) fun k => if k = true then fu ρ else ret false
def tOr' (ft fu : T) : T := fun ρ => bind (ft ρ) fun k => if k = true then ret true else fu ρ
def tNot' (ft : T) : T := fun ρ => bind (ft ρ) fun k => ret (!k)
theorem mw_and1 (ha : MT X W a ft) : MW X W (.BoolOp .And [a] pos) ft := pw_and1 ha
theorem mw_or1 (ha : MT X W a ft) : MW X W (.BoolOp .Or [a] pos) ft := pw_or1 ha
theorem mw_and (ha : MT X W a ft) (hb : MW X W (.BoolOp .And (b :: rest) pos) fu) : MW X W (.BoolOp .And (a :: b :: rest) pos) (tAnd' ft fu) :=
  PW.imp (pw_and ha hb) fun σ H Q h => by
    obtain ⟨m, ρ, S, hr, R, q⟩ := h
    refine tT_step hr R q fun k H1 S1 m1 e1 R1 q1 => ?_
    cases k with
    | true =>
      simp only [if_true] at q1 ⊢
      exact ⟨m1, ρ, S1, hr.mono e1, R1, q1⟩
    | false =>
      simp only [Bool.false_eq_true, if_false] at q1 ⊢
      exact q1 m1 false H1 Aft.refl R1 rfl
theorem mw_or (ha : MT X W a ft) (hb : MW X W (.BoolOp .Or (b :: rest) pos) fu) : MW X W (.BoolOp .Or (a :: b :: rest) pos) (tOr' ft fu) :=
  PW.imp (pw_or ha hb) fun σ H Q h => by
    obtain ⟨m, ρ, S, hr, R, q⟩ := h
    refine tT_step hr R q fun k H1 S1 m1 e1 R1 q1 => ?_
    cases k with
    | false =>
      simp only [Bool.false_eq_true, if_false] at q1 ⊢
      exact ⟨m1, ρ, S1, hr.mono e1, R1, q1⟩
    | true =>
      simp only [if_true] at q1 ⊢
      exact q1 m1 true H1 Aft.refl R1 rfl
theorem mt_and (h : MW X W (.BoolOp .And es pos) ft) : MT X W (.BoolOp .And es pos) ft := h.pt
theorem mt_or (h : MW X W (.BoolOp .Or es pos) ft) : MT X W (.BoolOp .Or es pos) ft := h.pt
theorem mt_not (ha : MT X W a ft) : MT X W (.UnaryOp .Not a pos) (tNot' ft) :=
  PT.imp (pt_not ha) fun σ H Q h => by
    obtain ⟨m, ρ, S, hr, R, q⟩ := h
    refine tT_step hr R q fun k H1 S1 m1 e1 R1 q1 => ?_
    exact q1 m1 (!k) H1 Aft.refl R1 rfl
/-! ### and, or, not as values -/
def eAnd (fa fb : F) : F := fun ρ => bind (fa ρ) fun x => bind (truth x) fun k => if k = true then fb ρ else ret x
def eOr (fa fb : F) : F := fun ρ => bind (fa ρ) fun x => bind (truth x) fun k => if k = true then ret x else fb ρ
def eNot (fa : F) : F := fun ρ => bind (fa ρ) fun x => bind (truth x) fun k => ret (.bl (!k))
theorem me_one {op : PySem.BoolOp} (ha : ME X W a fa) : ME X W (.BoolOp op [a] pos) fa := pe_one ha
theorem me_and (ha : ME X W a fa) (hb : ME X W (.BoolOp .And (b :: rest) pos) fb) : ME X W (.BoolOp .And (a :: b :: rest) pos) (eAnd fa fb) :=
  PE.imp (pe_andT ha hb) fun σ H Q h => by
    obtain ⟨m, ρ, S, hr, R, q⟩ := h
    refine tM_step hr R q fun x H1 d S1 m1 rd e1 R1 q1 => ?_
    obtain ⟨k, tv, q2⟩ := truth_step R1 rd q1
    refine ⟨k, tv, ?_⟩
    cases k with
    | true =>
      simp only [if_true] at q2 ⊢
      exact ⟨m1, ρ, S1, hr.mono e1, R1, q2⟩
    | false =>
      simp only [Bool.false_eq_true, if_false] at q2 ⊢
      exact q2 m1 _ H1 Aft.refl R1 rd
theorem me_or (ha : ME X W a fa) (hb : ME X W (.BoolOp .Or (b :: rest) pos) fb) : ME X W (.BoolOp .Or (a :: b :: rest) pos) (eOr fa fb) :=
  PE.imp (pe_orT ha hb) fun σ H Q h => by
    obtain ⟨m, ρ, S, hr, R, q⟩ := h
    refine tM_step hr R q fun x H1 d S1 m1 rd e1 R1 q1 => ?_
    obtain ⟨k, tv, q2⟩ := truth_step R1 rd q1
    refine ⟨k, tv, ?_⟩
    cases k with
    | false =>
      simp only [Bool.false_eq_true, if_false] at q2 ⊢
      exact ⟨m1, ρ, S1, hr.mono e1, R1, q2⟩
    | true =>
      simp only [if_true] at q2 ⊢
      exact q2 m1 _ H1 Aft.refl R1 rd
theorem me_not (ha : ME X W a fa) : ME X W (.UnaryOp .Not a pos) (eNot fa) :=
  PE.imp (pe_notT ha) fun σ H Q h => by
    obtain ⟨m, ρ, S, hr, R, q⟩ := h
    refine tM_step hr R q fun x H1 d S1 m1 rd e1 R1 q1 => ?_
    obtain ⟨k, tv, q2⟩ := truth_step R1 rd q1
    exact ⟨k, tv, q2 m1 _ H1 Aft.refl R1 (.bl _)⟩
def eIf (ft : T) (fa fb : F) : F := fun ρ => bind (ft ρ) fun k => if k = true then fa ρ else fb ρ
theorem me_ifExp (hc : MT X W c ft) (ha : ME X W a fa) (hb : ME X W b fb) : ME X W (.IfExp c a b pos) (eIf ft fa fb) :=
  PE.imp (pe_ifExp hc ha hb) fun σ H Q h => by
    obtain ⟨m, ρ, S, hr, R, q⟩ := h
    refine tT_step hr R q fun k H1 S1 m1 e1 R1 q1 => ?_
    cases k with
    | true => simp only [if_true] at q1 ⊢; exact ⟨m1, ρ, S1, hr.mono e1, R1, q1⟩
    | false => simp only [Bool.false_eq_true, if_false] at q1 ⊢; exact ⟨m1, ρ, S1, hr.mono e1, R1, q1⟩

/-! ### chains a op b op' c -/
def eChain (g g' : Op2) (fa fb fc : F) : F := fun ρ => bind (fa ρ) fun x => bind (fb ρ) fun y => bind (lift (g x y)) fun z => bind (asB z) fun k => if k = true then bind (fc ρ) fun w => lift (g' y w) else ret (.bl false)
theorem chain_of {g g' : Op2} {σ : L2.St} {H : Hp} {Q : VK} (h : tM X.K W (eChain g g' fa fb fc) σ H Q) : tChain (r2 X.K g) (r2 X.K g') (tM X.K W fa) (tM X.K W fb) (tM X.K W fc) σ H Q := by
  obtain ⟨m, ρ, S, hr, R, q⟩ := h
  refine tM_step hr R q fun x H1 d1 S1 m1 rd1 e1 R1 q1 => ?_
  refine tM_step (hr.mono e1) R1 q1 fun y H2 d2 S2 m2 rd2 e2 R2 q2 => ?_
  refine ⟨m2, S2, d1, d2, R2, rd1.mono e2, rd2, ?_⟩
  obtain ⟨d, S', e, k⟩ := (EndM.step (R := RD X.K) q2).lift
  refine ⟨d, S', e, fun m' v H' a' R' rd' => ?_⟩
  obtain ⟨d3, S3, m3, rd3, a3, R3, q3⟩ := k m' v H' a' R' rd'
  cases rd3 with
  | bl b =>
    refine ⟨b, rfl, ?_⟩
    have q3' : EndM X.K m3 H' (RD X.K) (fun c d H' => W c d σ H') ((if b = true then bind (fc ρ) fun w => lift (g' d2 w) else MP.ret (.bl false)) S3) Q := q3
    cases b with
    | true =>
      simp only [if_true] at q3' ⊢
      refine tM_step ((hr.mono e1).mono (e2.trans a3)) R3 q3' fun w H4 d4 S4 m4 rd4 e4 R4 q4 => ?_
      exact ⟨m4, S4, d2, d4, R4, (rd2.mono a3).mono e4, rd4, q4.lift⟩
    | false =>
      simp only [Bool.false_eq_true, if_false] at q3' ⊢
      exact q3' m3 _ H' Aft.refl R3 (.bl _)
  | _ => exact q3.elim
theorem me_chain {op op' : CmpOp} {g g' : Op2} (ho : OpR X (compareOp op) (r2 X.K g)) (ho' : OpR X (compareOp op') (r2 X.K g')) (ha : ME X W a fa) (hb : ME X W b fb) (hc : ME X W c fc) (hm : lastMarks [op, op'] [b, c] = false := by with_unfolding_all rfl) :
    ME X W (.Compare a [op, op'] [b, c] pos) (eChain g g' fa fb fc) := PE.imp (pe_chain ho ho' ha hb hc hm) fun _ _ _ h => chain_of h
theorem mt_chain {op op' : CmpOp} {g g' : Op2} (ho : OpR X (compareOp op) (r2 X.K g)) (ho' : OpR X (compareOp op') (r2 X.K g')) (ha : ME X W a fa) (hb : ME X W b fb) (hc : ME X W c fc) (hm : lastMarks [op, op'] [b, c] = false := by with_unfolding_all rfl) :
    MT X W (.Compare a [op, op'] [b, c] pos) (tOf (eChain g g' fa fb fc)) := PT.imp (pt_chain ho ho' ha hb hc hm) fun σ H Q h => by
  refine chain_of ?_
  obtain ⟨m, ρ, S, hr, R, q⟩ := h
  refine ⟨m, ρ, S, hr, R, (EndM.step (R := RD X.K) q).mono fun v H1 ⟨d, S1, m1, rd, a1, R1, q1⟩ => ?_⟩
  cases rd with
  | bl b => exact ⟨b, rfl, q1 m1 b H1 Aft.refl R1 rfl⟩
  | _ => exact q1.elim

/-! ### argument lists, displays -/
def aNil : A := fun _ => ret []
def aCons (fa : F) (fs : A) : A := fun ρ => bind (fa ρ) fun x => bind (fs ρ) fun xs => ret (x :: xs)
theorem ma_nil : MA X W [] aNil := PA.imp pa_nil fun σ H Q ⟨m, ρ, S, hr, R, q⟩ => q m [] H Aft.refl R .nil
theorem ma_cons (ha : ME X W e fa) (hs : MA X W es fs) (h : starEach (e :: es) X.env = (false, eval e X.env) :: starEach es X.env := by rfl) : MA X W (e :: es) (aCons fa fs) :=
  PA.imp (pa_cons ha hs h) fun σ H Q ⟨m, ρ, S, hr, R, q⟩ => by
    refine tM_step hr R q fun x H1 d1 S1 m1 rd1 e1 R1 q1 => ?_
    refine tA_step (hr.mono e1) R1 q1 fun y H2 d2 S2 m2 rd2 e2 R2 q2 => ?_
    exact q2 m2 _ H2 Aft.refl R2 (.cons (rd1.mono e2) rd2)
def mkTup (ds : List D) : Store → Option (D × Store) := fun S => if ds.length ≤ sizeLine then some (.tup ds, S) else none
def mkLst (ds : List D) : Store → Option (D × Store) := fun S => if ds.length ≤ sizeLine then some (.ref S.length, S ++ [.lst ds]) else none
def eTup (fs : A) : F := fun ρ => bind (fs ρ) fun ds => lift (mkTup ds)
def eLst (fs : A) : F := fun ρ => bind (fs ρ) fun ds => lift (mkLst ds)
theorem mkTup_ok {m : List Addr} {H : Hp} {S : Store} {ds : List D} {xs : List V} {Q : VK} (R : Rel X.K m S H) (r : RDs X.K m H ds xs) (h : EndO X.K m H (mkTup ds S) Q) : xs.length ≤ sizeLine ∧ ∀ p, H p = none → Q (.ref p) (upd H p (.tup xs)) := by
  unfold mkTup at h
  split at h
  · rename_i hl
    exact ⟨by rw [← r.length]; exact hl, fun p hp => h.tup R r hp⟩
  · exact h.bad.elim
theorem mkLst_ok {m : List Addr} {H : Hp} {S : Store} {ds : List D} {xs : List V} {Q : VK} (R : Rel X.K m S H) (r : RDs X.K m H ds xs) (h : EndO X.K m H (mkLst ds S) Q) : xs.length ≤ sizeLine ∧ ∀ p, H p = none → Q (.ref p) (upd H p (.lst xs)) := by
  unfold mkLst at h
  split at h
  · rename_i hl
    exact ⟨by rw [← r.length]; exact hl, fun p hp => h.lst R r hp⟩
  · exact h.bad.elim
theorem me_tup {k : Nat} (h : MA X W es fs) : ME X W (.Tuple es k pos) (eTup fs) :=
  PE.imp (pe_tup h) fun σ H Q ⟨m, ρ, S, hr, R, q⟩ => tA_step hr R q fun x H1 d1 S1 m1 rd1 e1 R1 q1 => mkTup_ok R1 rd1 q1.lift
theorem me_lst (h : MA X W es fs) : ME X W (.List es pos) (eLst fs) :=
  PE.imp (pe_lst h) fun σ H Q ⟨m, ρ, S, hr, R, q⟩ => tA_step hr R q fun x H1 d1 S1 m1 rd1 e1 R1 q1 => mkLst_ok R1 rd1 q1.lift

/-! ### built-ins by name -/
def eCall (g : OpN) (fs : A) : F := fun ρ => bind (fs ρ) fun ds => lift (g ds)
theorem tCB_of {g : OpN} {σ : L2.St} {H : Hp} {Q : VK} (h : tM X.K W (eCall g fs) σ H Q) : tCB (rN X.K g) (tA X.K W fs) σ H Q := by
  obtain ⟨m, ρ, S, hr, R, q⟩ := h
  exact tA_step hr R q fun x H1 d1 S1 m1 rd1 e1 R1 q1 => ⟨m1, S1, d1, R1, rd1, q1.lift⟩
theorem me_blt {g : OpN} {x : Str} {id : String} {p : Pos} (hc : CallR X (.builtin id) (rN X.K g)) (hm : X.mg x = none) (hv : bootBuiltins x = some (.builtin id)) (ha : MA X W (e :: es) fs) (hg : Gl X x := by rfl) (hn : x ≠ "__name__" := by decide) (hdb : (x == ("__debug__" : Str)) = false := by decide)
    (he : starEach (e :: es) X.env = (false, eval e X.env) :: starEach es X.env := by rfl) (hpl : (backTo pos (starEach es X.env)).any (·.1) = false := by rfl) : ME X W (.Call (.Name x p) (e :: es) [] pos) (eCall g fs) :=
  PE.imp (pe_callB hc hg hm hv ha hn hdb he hpl) fun _ _ _ h => tCB_of h
theorem me_ty {g : OpN} {x : Str} {T : String} {p : Pos} (hc : CallR X (.type T) (rN X.K g)) (hm : X.mg x = none) (hv : bootBuiltins x = some (.type T)) (ha : MA X W (e :: es) fs) (hg : Gl X x := by rfl) (hn : x ≠ "__name__" := by decide) (hdb : (x == ("__debug__" : Str)) = false := by decide)
    (he : starEach (e :: es) X.env = (false, eval e X.env) :: starEach es X.env := by rfl) (hpl : (backTo pos (starEach es X.env)).any (·.1) = false := by rfl) : ME X W (.Call (.Name x p) (e :: es) [] pos) (eCall g fs) :=
  PE.imp (pe_callTy hc hg hm hv ha hn hdb he hpl) fun _ _ _ h => tCB_of h

/-! ### items, slices, methods -/
theorem me_ix {g : Op2} (hr : IxR X (r2 X.K g)) (ha : ME X W a fa) (hb : ME X W b fb) (hs : PlainIx b := by exact fun _ _ => rfl) : ME X W (.Subscript a b pos) (eBin g fa fb) :=
  PE.imp (pe_ix hr ha hb hs) fun _ _ _ h => tOp_of h
abbrev FO := Env → M (Option Int)
abbrev OpS := D → Option Int → Option Int → Store → Option (D × Store)
def RInt (_ : List Addr) (_ : Hp) (a b : Option Int) : Prop := a = b
def tMO (K : PySem.W.Frag) (W : WX) (f : FO) : TO := fun σ H Q => ∃ m ρ S, RE K m H ρ σ ∧ Rel K m S H ∧ EndM K m H RInt (fun c d H' => W c d σ H') (f ρ S) Q
theorem tMO_step {σ : L2.St} {H : Hp} {Q : Option Int → Hp → Prop} {m : List Addr} {ρ : Env} {S : Store} {γ δ : Type} {R2 : List Addr → Hp → γ → δ → Prop} {f : FO} {g : Option Int → M γ} {Q2 : δ → Hp → Prop} (hr : RE X.K m H ρ σ) (R : Rel X.K m S H)
    (h : EndM X.K m H R2 (fun c d H' => W c d σ H') (bind (f ρ) g S) Q2)
    (k : ∀ v H1 S1 m1, Aft m H m1 H1 → Rel X.K m1 S1 H1 → EndM X.K m1 H1 R2 (fun c d H' => W c d σ H') (g v S1) Q2 → Q v H1) : tMO X.K W f σ H Q :=
  ⟨m, ρ, S, hr, R, (EndM.step (R := RInt) h).mono fun v H1 ⟨d, S1, m1, a, b, c, e⟩ => by cases a; exact k _ H1 S1 m1 b c e⟩
abbrev MO (X : Cx) (W : WX) (e : Option Expr) (f : FO) : Prop := PO X e (tMO X.K W f)
theorem PO.imp {X : Cx} {e : Option Expr} {t t' : TO} (h : PO X e t) (i : ∀ σ H Q, t' σ H Q → t σ H Q) : PO X e t' := ⟨fun pins s σ H Q I q => h.run pins s σ H Q I (i σ H Q q)⟩
def oNone : FO := fun _ => ret none
def asI : D → M (Option Int)
  | .int i => ret (some i)
  | _ => fail
def oSome (f : F) : FO := fun ρ => bind (f ρ) asI
theorem mo_none : MO X W none oNone := PO.imp po_none fun σ H Q ⟨m, ρ, S, hr, R, q⟩ => q m none H Aft.refl R rfl
theorem mo_some (ha : ME X W e fe) : MO X W (some e) (oSome fe) := PO.imp (po_some ha) fun σ H Q ⟨m, ρ, S, hr, R, q⟩ => by
  refine tM_step hr R q fun x H1 d S1 m1 rd e1 R1 q1 => ?_
  cases rd with
  | int i => exact ⟨i, rfl, q1 m1 (some i) H1 Aft.refl R1 rfl⟩
  | _ => exact q1.elim
def rS (K : PySem.W.Frag) (g : OpS) : V → Option Int → Option Int → Hp → VK → Prop := fun x lo hi H Q => ∃ m S d, Rel K m S H ∧ RD K m H d x ∧ EndO K m H (g d lo hi S) Q
def eSl (g : OpS) (fa : F) (fl fh : FO) : F := fun ρ => bind (fa ρ) fun x => bind (fl ρ) fun l => bind (fh ρ) fun h => lift (g x l h)
theorem me_slice {g : OpS} {lo hi : Option Expr} {fl fh : FO} {p2 : Pos} (hr : SlR X (rS X.K g)) (ha : ME X W a fa) (hl : MO X W lo fl) (hh : MO X W hi fh) : ME X W (.Subscript a (.Slice lo hi none p2) pos) (eSl g fa fl fh) :=
  PE.imp (pe_slice hr ha hl hh) fun σ H Q ⟨m, ρ, S, hr, R, q⟩ => by
    refine tM_step hr R q fun x H1 d S1 m1 rd e1 R1 q1 => ?_
    refine tMO_step (hr.mono e1) R1 q1 fun l H2 S2 m2 e2 R2 q2 => ?_
    refine tMO_step ((hr.mono e1).mono e2) R2 q2 fun h H3 S3 m3 e3 R3 q3 => ?_
    exact ⟨m3, S3, d, R3, (rd.mono e2).mono e3, q3.lift⟩
/-- a method of a built-in type: its receiver, its arguments -/
abbrev OpM := D → List D → Store → Option (D × Store)
def rMt (K : PySem.W.Frag) (g : OpM) : V → List V → Hp → VK → Prop := fun x xs H Q => ∃ m S d ds, Rel K m S H ∧ RD K m H d x ∧ RDs K m H ds xs ∧ EndO K m H (g d ds S) Q
def isTy (T : String) : D → Store → Bool
  | .str _, _ => T = "str"
  | .int _, _ => T = "int"
  | .ref r, S => match S[r]? with
    | some (.lst _) => T = "list"
    | some (.ro _) => T = "list"
    | some (.dict _) => T = "dict"
    | some (.tab _ _) => false
    | none => false
  | _, _ => false
def chk (b : Store → Bool) : M Unit := fun S => if b S = true then .ok () S else .bad
def eMt (T : String) (g : OpM) (fo : F) (fs : A) : F := fun ρ => bind (fo ρ) fun x => bind (chk (isTy T x)) fun _ => bind (fs ρ) fun xs => lift (g x xs)
theorem isTy_ok {K : PySem.W.Frag} {m : List Addr} {H : Hp} {S : Store} {T : String} {d : D} {v : V} (R : Rel K m S H) (r : RD K m H d v) (h : isTy T d S = true) : tyV K T v H := by
  cases r with
  | str x => exact (show T = "str" by simpa [isTy] using h)
  | int x => exact (show T = "int" by simpa [isTy] using h)
  | ref hr =>
    obtain ⟨o, ho, q⟩ := R.lt hr
    simp only [isTy, ho] at h
    cases o with
    | lst ys => obtain ⟨xs, h1, h2⟩ := q; exact .inl ⟨by simpa using h, xs, SqL.of h1⟩
    | ro ys => obtain ⟨xs, ⟨o, h1⟩, h2⟩ := q; exact .inl ⟨by simpa using h, xs, .inl (.inr ⟨o, h1⟩)⟩
    | dict ys => obtain ⟨xs, h1, h2⟩ := q; exact .inr (.inr (.inl ⟨by simpa using h, .inl ⟨xs, h1⟩⟩))
    | tab _ _ => cases h
  | _ => cases h
theorem chk_step {σ : L2.St} {m : List Addr} {H : Hp} {S : Store} {b : Store → Bool} {γ δ : Type} {R2 : List Addr → Hp → γ → δ → Prop} {g : Unit → M γ} {Q2 : δ → Hp → Prop}
    (h : EndM X.K m H R2 (fun c d H' => W c d σ H') (bind (chk b) g S) Q2) : b S = true ∧ EndM X.K m H R2 (fun c d H' => W c d σ H') (g () S) Q2 := by
  unfold bind chk at h
  cases e : b S with
  | false => simp only [e, Bool.false_eq_true, if_false] at h; exact h.elim
  | true => simp only [e, if_true] at h; exact ⟨rfl, h⟩
theorem me_mt {g : OpM} {T id : String} {name : Str} {o : Expr} {fo : F} {apos : Pos} (pa : PlainAttrs T) (slot : Slot T name id) (hty : typeOf (.builtin id) = pure (.type "method_descriptor")) (hm : MtR X id (rMt X.K g)) (ho : ME X W o fo) (ha : MA X W (e :: es) fs)
    (hbase : attributeBase o name X.env (eval o X.env) = eval o X.env := by rfl)
    (hfew : ((backTo pos (starEach (e :: es) X.env)).all (fun x => !x.1) && (backToKw pos (keywordEach [] X.env)).all (fun x => x.1.isSome)
      && decide ((e :: es).length + ([] : List Keyword).length + (if ([] : List Keyword).isEmpty then 0 else 1) < 30)) = true := by rfl)
    (hline : (apos.endLine == pos.line) = true := by rfl) (hs : starEach (e :: es) X.env = (false, eval e X.env) :: starEach es X.env := by rfl) (hplain : (backTo pos (starEach es X.env)).any (·.1) = false := by rfl) :
    ME X W (.Call (.Attribute o name apos) (e :: es) [] pos) (eMt T g fo fs) :=
  PE.imp (pe_bm pa slot hty hm ho ha hbase hfew hline hs hplain) fun σ H Q ⟨m, ρ, S, hr, R, q⟩ => by
    refine tM_step hr R q fun x H1 d S1 m1 rd e1 R1 q1 => ?_
    obtain ⟨b, q2⟩ := chk_step q1
    refine ⟨isTy_ok R1 rd b, ?_⟩
    refine tA_step (hr.mono e1) R1 q2 fun y H2 d2 S2 m2 rd2 e2 R2 q3 => ?_
    exact ⟨m2, S2, d, d2, R2, rd.mono e2, rd2, q3.lift⟩
theorem me_mt0 {g : OpM} {T id : String} {name : Str} {o : Expr} {fo : F} {apos : Pos} (pa : PlainAttrs T) (slot : Slot T name id) (hty : typeOf (.builtin id) = pure (.type "method_descriptor")) (hm : MtR X id (rMt X.K g)) (ho : ME X W o fo)
    (hbase : attributeBase o name X.env (eval o X.env) = eval o X.env := by rfl) (hline : (apos.endLine == pos.line) = true := by rfl) : ME X W (.Call (.Attribute o name apos) [] [] pos) (eMt T g fo aNil) :=
  PE.imp (pe_bm0 pa slot hty hm ho hbase hline) fun σ H Q ⟨m, ρ, S, hr, R, q⟩ => by
    refine tM_step hr R q fun x H1 d S1 m1 rd e1 R1 q1 => ?_
    obtain ⟨b, q2⟩ := chk_step q1
    exact ⟨isTy_ok R1 rd b, m1, S1, d, [], R1, rd, .nil, q2.lift⟩
end
end MP
set_option Elab.async false
set_option linter.all false
set_option maxRecDepth 100000
set_option maxHeartbeats 4000000
namespace MP
open PySem PySem.Spec PyProof.Rows L2

/-! ### data of any depth -/
def optAll {α β : Type} (f : α → Option β) : List α → Option (List β)
  | [] => some []
  | x :: xs => match f x, optAll f xs with
    | some y, some ys => some (y :: ys)
    | _, _ => none
def toPy : Nat → Store → D → Option PyData
  | _, _, .non => some .none
  | _, _, .bl b => some (.bool b)
  | _, _, .int i => some (.int i)
  | _, _, .str x => if PyData.strOk x = true then some (.str x) else none
  | n + 1, S, .tup ds => (optAll (toPy n S) ds).map .tuple
  | n + 1, S, .ref r => match listOf S (.ref r) with
    | some ds => (optAll (toPy n S) ds).map .list
    | none => none
  | _, _, _ => none
section
variable {K : PySem.W.Frag} {m : List Addr} {H : Hp} {S : Store}
theorem dps_of {f : D → Option PyData} (hf : ∀ d v p, RD K m H d v → f d = some p → Dp K H v p) : ∀ {ds : List D} {vs : List V} {ps : List PyData}, RDs K m H ds vs → optAll f ds = some ps → DpAll K H vs ps
  | _, _, _, .nil, h => by cases h; exact .nil
  | _, _, _, .cons (d := d) (ds := ds) r rs, h => by
    unfold optAll at h
    cases e1 : f d with
    | none => simp only [e1] at h; cases h
    | some y =>
      cases e2 : optAll f ds with
      | none => simp only [e1, e2] at h; cases h
      | some ys =>
        simp only [e1, e2] at h
        cases h
        exact .cons (hf _ _ _ r e1) (dps_of hf rs e2)
theorem dp_of (R : Rel K m S H) : ∀ (n : Nat) (d : D) (v : V) (p : PyData), RD K m H d v → toPy n S d = some p → Dp K H v p
  | n, _, _, _, .non, h => by cases n <;> (cases h; exact .non)
  | n, _, _, _, .bl b, h => by cases n <;> (cases h; exact .bl b)
  | n, _, _, _, .int b, h => by cases n <;> (cases h; exact .int b)
  | n, _, _, p, .str b, h => by
    have h' : (if PyData.strOk b = true then some (PyData.str b) else none) = some p := by cases n <;> exact h
    split at h'
    · cases h'; exact .str b
    · cases h'
  | 0, _, _, _, .tup _ _, h => by cases h
  | n + 1, _, _, _, .tup (ds := ds) h1 h2, h => by
    have h' : (optAll (toPy n S) ds).map PyData.tuple = some _ := h
    cases e : optAll (toPy n S) ds with
    | none => rw [e] at h'; cases h'
    | some ps => rw [e] at h'; cases h'; exact .tup h1 (dps_of (fun d v p => dp_of R n d v p) h2 e)
  | 0, _, _, _, .ref _, h => by cases h
  | n + 1, _, _, _, .ref (r := r) hr, h => by
    cases e0 : listOf S (.ref r) with
    | none => simp only [toPy, e0] at h; cases h
    | some ds =>
      simp only [toPy, e0] at h
      obtain ⟨a, xs, ea, h1, h2⟩ := listOf_ok R (.ref hr) e0
      cases ea
      cases e : optAll (toPy n S) ds with
      | none => rw [e] at h; cases h
      | some ps => rw [e] at h; cases h; exact .lst h1 (dps_of (fun d v p => dp_of R n d v p) h2 e)
  | n, _, _, _, .obj, h => by cases n <;> cases h
  | n, _, _, _, .err _ _, h => by cases n <;> cases h
/-- deep at most n, and of a form that == and repr take -/
def Lays (n : Nat) (p : PyData) : Prop := p.canLay0 = true ∧ p.depth ≤ n ∧ p.hasDict = false
theorem lays_all {n : Nat} {f : D → Option PyData} (hf : ∀ d p, f d = some p → Lays n p) : ∀ {ds : List D} {ps : List PyData}, optAll f ds = some ps → PyData.canLayAll0 ps = true ∧ PyData.depthAll ps ≤ n ∧ PyData.hasDictAll ps = false
  | [], _, h => by cases h; exact ⟨by simp [PyData.canLayAll0], by simp [PyData.depthAll], by simp [PyData.hasDictAll]⟩
  | d :: ds, _, h => by
    unfold optAll at h
    cases e1 : f d with
    | none => simp only [e1] at h; cases h
    | some y =>
      cases e2 : optAll f ds with
      | none => simp only [e1, e2] at h; cases h
      | some ys =>
        simp only [e1, e2] at h
        cases h
        obtain ⟨a1, a2, a3⟩ := hf _ _ e1
        obtain ⟨b1, b2, b3⟩ := lays_all hf e2
        refine ⟨by simp [PyData.canLayAll0, a1, b1], ?_, by simp [PyData.hasDictAll, a3, b3]⟩
        rw [PyData.depthAll]; omega
theorem toPy_lays : ∀ (n : Nat) (d : D) (p : PyData), toPy n S d = some p → Lays n p
  | n, .non, _, h => by cases n <;> (cases h; exact ⟨by simp [PyData.canLay0], by simp [PyData.depth], by simp [PyData.hasDict]⟩)
  | n, .bl _, _, h => by cases n <;> (cases h; exact ⟨by simp [PyData.canLay0], by simp [PyData.depth], by simp [PyData.hasDict]⟩)
  | n, .int _, _, h => by cases n <;> (cases h; exact ⟨by simp [PyData.canLay0], by simp [PyData.depth], by simp [PyData.hasDict]⟩)
  | n, .str b, p, h => by
    have h' : (if PyData.strOk b = true then some (PyData.str b) else none) = some p := by cases n <;> exact h
    split at h'
    · rename_i hs
      cases h'; exact ⟨by simpa [PyData.canLay0] using hs, by simp [PyData.depth], by simp [PyData.hasDict]⟩
    · cases h'
  | 0, .tup _, _, h => by cases h
  | n + 1, .tup ds, _, h => by
    have h' : (optAll (toPy n S) ds).map PyData.tuple = some _ := h
    cases e : optAll (toPy n S) ds with
    | none => rw [e] at h'; cases h'
    | some ps =>
      rw [e] at h'; cases h'
      obtain ⟨a, b, c⟩ := lays_all (fun d p => toPy_lays n d p) e
      refine ⟨by simpa [PyData.canLay0] using a, ?_, by simpa [PyData.hasDict] using c⟩
      rw [PyData.depth]; omega
  | 0, .ref _, _, h => by cases h
  | n + 1, .ref r, _, h => by
    cases e0 : listOf S (.ref r) with
    | none => simp only [toPy, e0] at h; cases h
    | some ds =>
      simp only [toPy, e0] at h
      cases e : optAll (toPy n S) ds with
      | none => rw [e] at h; cases h
      | some ps =>
        rw [e] at h; cases h
        obtain ⟨a, b, c⟩ := lays_all (fun d p => toPy_lays n d p) e
        refine ⟨by simpa [PyData.canLay0] using a, ?_, by simpa [PyData.hasDict] using c⟩
        rw [PyData.depth]; omega
  | n, .obj _, _, h => by cases n <;> cases h
  | n, .err _ _ _, _, h => by cases n <;> cases h
theorem Lays.shaped {p : PyData} (h : Lays 64 p) : SeqAt.shaped p = true := by
  unfold SeqAt.shaped
  rw [h.1, decide_eq_true h.2.1]
  rfl
end
def cap : Nat := 64

/-! ### operators -/
def dAdd : Op2 := fun x y S => match x, y with
  | .int i, .int j => some (.int (i + j), S)
  | .int i, .bl k => some (.int (i + b2i k), S)
  | .str a, .str b => if a.length + b.length ≤ sizeLine then some (.str (a ++ b), S) else none
  | .tup a, .tup b => if a.length + b.length ≤ sizeLine then some (.tup (a ++ b), S) else none
  | .ref a, .ref b => match S[a]?, S[b]? with
    | some (.lst xs), some (.lst ys) => if xs.length + ys.length ≤ sizeLine then some (.ref S.length, S ++ [.lst (xs ++ ys)]) else none
    | _, _ => none
  | _, _ => none
def dSub : Op2 := fun x y S => match x, y with
  | .int i, .int j => some (.int (i - j), S)
  | .bl i, .bl j => some (.int (b2i i - b2i j), S)
  | _, _ => none
def dMul : Op2 := fun x y S => match x, y with
  | .int i, .int j => if i.natAbs.log2 + j.natAbs.log2 < 130000000 ∨ j.natAbs < 2 ^ 64 then some (.int (i * j), S) else none
  | .str a, .int k => if -(2 ^ 63) ≤ k ∧ k < 2 ^ 63 ∧ a.length * k.toNat ≤ sizeLine then some (.str (Txt.mul a k), S) else none
  | .ref a, .int k => match S[a]? with
    | some (.lst xs) => if -(2 ^ 63) ≤ k ∧ k < 2 ^ 63 ∧ xs.length * k.toNat ≤ sizeLine then some (.ref S.length, S ++ [.lst (List.replicate k.toNat xs).flatten]) else none
    | _ => none
  | _, _ => none
def dDiv : Op2 := fun x y S => match x, y with
  | .int i, .int j => if 0 < j ∧ j.natAbs.log2 < 9000 then some (.int (i / j), S) else none
  | _, _ => none
def dMod : Op2 := fun x y S => match x, y with
  | .int i, .int j => if 0 < j then some (.int (i % j), S) else none
  | _, _ => none
def dPow : Op2 := fun x y S => match x, y with
  | .int i, .int j => if 0 ≤ j ∧ j ≤ 1000000 ∧ i.natAbs < 2 ^ 64 then some (.int (i ^ j.toNat), S) else none
  | _, _ => none
def dNeg : Op1 := fun x S => match x with
  | .int i => some (.int (-i), S)
  | _ => none
def eqD (x y : D) (S : Store) : Option Bool := match x, y with
  | .str a, .str b => some (a == b)
  | x, y => match toPy cap S x, toPy cap S y with
    | some p, some q => some (PyData.eqv p q)
    | _, _ => none
def dEq : Op2 := fun x y S => (eqD x y S).map fun b => (.bl b, S)
def dNe : Op2 := fun x y S => (eqD x y S).map fun b => (.bl (!b), S)
mutual
/-- less (g: greater) of data: whole numbers, texts, tuples of such; none of what is not so compared -/
def ordP (g : Bool) : PyData → PyData → Option Bool
  | .int i, .int j => some (if g = true then decide (j < i) else decide (i < j))
  | .str i, .str j => some (if g = true then decide (j.cps.toList < i.cps.toList) else decide (i.cps.toList < j.cps.toList))
  | .tuple xs, .tuple ys => ordPs g xs ys
  | _, _ => none
def ordPs (g : Bool) : List PyData → List PyData → Option Bool
  | [], [] => some false
  | [], _ :: _ => some (!g)
  | _ :: _, [] => some g
  | x :: xs, y :: ys => match ordPs g xs ys with
    | none => none
    | some r => if PyData.eqv x y = true then some r else ordP g x y
end
def dOrd (g : Bool) : Op2 := fun x y S => match toPy cap S x, toPy cap S y with
  | some p, some q => match ordP g p q with
    | some b => some (.bl b, S)
    | none => none
  | _, _ => none
def dLe : Op2 := fun x y S => match x, y with
  | .int i, .int j => some (.bl (decide (i ≤ j)), S)
  | .str i, .str j => some (.bl (!decide (j.cps.toList < i.cps.toList)), S)
  | _, _ => none
def dGe : Op2 := fun x y S => match x, y with
  | .int i, .int j => some (.bl (decide (j ≤ i)), S)
  | .str i, .str j => some (.bl (!decide (i.cps.toList < j.cps.toList)), S)
  | _, _ => none
def isNon : D → Bool
  | .non => true
  | _ => false
/-- is None, is True, is False -/
def dIs : Op2 := fun x y S => match y with
  | .non => some (.bl (isNon x), S)
  | .bl b => match x with
    | .bl a => some (.bl (decide (a = b)), S)
    | _ => none
  | _ => none
def dIsNot : Op2 := fun x y S => match y with
  | .non => some (.bl (!isNon x), S)
  | .bl b => match x with
    | .bl a => some (.bl (!decide (a = b)), S)
    | _ => none
  | _ => none

/-! ### order of data -/
abbrev ordOp (g : Bool) : CmpOp := if g = true then .Gt else .Lt
/-- the first unequal places decide -/
theorem ordPs_lex (g : Bool) : ∀ (xs ys : List PyData) (b : Bool), ordPs g xs ys = some b →
    Ob.lexAt (fun j => PyData.eqv (xs.getD j .none) (ys.getD j .none)) (fun j => (ordP g (xs.getD j .none) (ys.getD j .none)).getD false) (if g = true then decide (xs.length > ys.length) else decide (xs.length < ys.length)) 0 (min xs.length ys.length) = b := by
  have key : ∀ (xs ys : List PyData) (b : Bool) (pre pre' : List PyData), pre.length = pre'.length → ordPs g xs ys = some b →
      Ob.lexAt (fun j => PyData.eqv ((pre ++ xs).getD j .none) ((pre' ++ ys).getD j .none)) (fun j => (ordP g ((pre ++ xs).getD j .none) ((pre' ++ ys).getD j .none)).getD false)
        (if g = true then decide (xs.length > ys.length) else decide (xs.length < ys.length)) pre.length (min xs.length ys.length) = b := by
    intro xs
    induction xs with
    | nil =>
      intro ys b pre pre' _ h
      cases ys with
      | nil => rw [ordPs] at h; cases h; cases g <;> rfl
      | cons y ys => rw [ordPs] at h; cases h; cases g <;> simp [Ob.lexAt]
    | cons x xs ih =>
      intro ys b pre pre' hl h
      cases ys with
      | nil => rw [ordPs] at h; cases h; cases g <;> simp [Ob.lexAt]
      | cons y ys =>
        rw [ordPs] at h
        have e1 : (pre ++ x :: xs).getD pre.length .none = x := by simp
        have e2 : (pre' ++ y :: ys).getD pre.length .none = y := by rw [hl]; simp
        rw [show min (x :: xs).length (y :: ys).length = min xs.length ys.length + 1 by simp, Ob.lexAt_succ]
        rw [e1, e2]
        cases er : ordPs g xs ys with
        | none => rw [er] at h; cases h
        | some r =>
          rw [er] at h
          simp only at h
          split at h
          · rename_i he
            rw [if_pos he]
            have := ih ys b (pre ++ [x]) (pre' ++ [y]) (by simp [hl]) (er.trans h)
            rw [List.append_assoc, List.append_assoc] at this
            simpa using this
          · rename_i he
            rw [if_neg he, h]
            rfl
  intro xs ys b h
  have := key xs ys b [] [] rfl h
  simpa using this
theorem reads_nth {h : Heap} : ∀ {vs : List Value} {ds : List PyData} {as : List Addr}, ReadsAll h vs ds as → ∀ j (hj : j < vs.length), ∃ bs, Reads h vs[j] (ds.getD j .none) bs ∧ j < ds.length
  | _, _, _, .nil, j, hj => absurd hj (Nat.not_lt_zero _)
  | _, _, _, .cons r rs, 0, _ => ⟨_, r, by simp⟩
  | _, _, _, .cons r rs, j + 1, hj => by
    obtain ⟨bs, h1, h2⟩ := reads_nth rs j (Nat.lt_of_succ_lt_succ hj)
    exact ⟨bs, by simpa using h1, by simpa using h2⟩
theorem canLay_nth : ∀ {ds : List PyData} (j : Nat), PyData.canLayAll0 ds = true → j < ds.length → (ds.getD j .none).canLay0 = true
  | [], j, _, h => absurd h (Nat.not_lt_zero _)
  | d :: ds, 0, h, _ => by simp [PyData.canLayAll0] at h; simpa using h.1
  | d :: ds, j + 1, h, hj => by simp [PyData.canLayAll0] at h; simpa using canLay_nth j h.2 (Nat.lt_of_succ_lt_succ hj)
theorem depth_nth : ∀ {ds : List PyData} (j : Nat), j < ds.length → (ds.getD j .none).depth ≤ PyData.depthAll ds
  | [], j, h => absurd h (Nat.not_lt_zero _)
  | d :: ds, 0, _ => by rw [PyData.depthAll]; simp; omega
  | d :: ds, j + 1, hj => by
    have := depth_nth (ds := ds) j (Nat.lt_of_succ_lt_succ hj)
    rw [PyData.depthAll]; simp at this ⊢; omega
theorem ordPs_nth (g : Bool) : ∀ (xs ys : List PyData) (b : Bool), ordPs g xs ys = some b → ∀ j, j < xs.length → j < ys.length → PyData.eqv (xs.getD j .none) (ys.getD j .none) = false → ∃ c, ordP g (xs.getD j .none) (ys.getD j .none) = some c
  | [], _, _, _, j, h, _, _ => absurd h (Nat.not_lt_zero _)
  | _ :: _, [], _, _, j, _, h, _ => absurd h (Nat.not_lt_zero _)
  | x :: xs, y :: ys, b, h, j, h1, h2, he => by
    rw [ordPs] at h
    cases er : ordPs g xs ys with
    | none => rw [er] at h; cases h
    | some r =>
      rw [er] at h
      cases j with
      | zero =>
        have he' : PyData.eqv x y = false := by simpa using he
        rw [he'] at h
        exact ⟨b, by simpa using h⟩
      | succ j =>
        have := ordPs_nth g xs ys r er j (Nat.lt_of_succ_lt_succ h1) (Nat.lt_of_succ_lt_succ h2) (by simpa using he)
        simpa using this
theorem rcOrd (g : Bool) : ∀ (p1 p2 : PyData) (A : Around) (s : Shared) (a c : Value) (as bs : List Addr) (b : Bool), Reads s.heap a p1 as → Reads s.heap c p2 bs → p1.canLay0 = true → p2.canLay0 = true → A.units + p1.depth < cLine → ordP g p1 p2 = some b → Ob.RcOp (if g = true then .Gt else .Lt) A s a c b
  | .none, p2, _, _, _, _, _, _, _, _, _, _, _, _, h => by cases p2 <;> simp [ordP] at h
  | .bool _, p2, _, _, _, _, _, _, _, _, _, _, _, _, h => by cases p2 <;> simp [ordP] at h
  | .list _, p2, _, _, _, _, _, _, _, _, _, _, _, _, h => by cases p2 <;> simp [ordP] at h
  | .dict _, p2, _, _, _, _, _, _, _, _, _, _, _, _, h => by cases p2 <;> simp [ordP] at h
  | .int i, p2, A, s, a, c, as, bs, b, r1, r2, _, _, _, h => by
    cases p2 with
    | int j =>
      rw [ordP] at h
      cases h
      cases r1; cases r2
      cases g with
      | true => exact Ob.RcOp.gt_int _ _ _ _
      | false => exact Ob.RcOp.lt_int _ _ _ _
    | _ => simp [ordP] at h
  | .str i, p2, A, s, a, c, as, bs, b, r1, r2, _, _, _, h => by
    cases p2 with
    | str j =>
      rw [ordP] at h
      cases h
      cases r1; cases r2
      cases g with
      | true => exact fun prog w E Q q => PySem.P.gt_str q
      | false => exact fun prog w E Q q => PySem.P.lt_str q
    | _ => simp [ordP] at h
  | .tuple xs, p2, A, s, a, c, as, bs, b, r1, r2, l1, l2, hu, h => by
    cases p2 with
    | tuple ys =>
      rw [ordP] at h
      cases r1 with
      | tuple h1 h2 h3 h4 =>
        cases r2 with
        | tuple k1 k2 k3 k4 =>
          rename_i a1 o1 vs n1 a2 o2 ws n2
          have z1 : vs.size = xs.length := by simpa using SeqAt.ReadsAll.length _ _ _ h4
          have z2 : ws.size = ys.length := by simpa using SeqAt.ReadsAll.length _ _ _ k4
          have la : PyData.canLayAll0 xs = true := by simpa [PyData.canLay0] using l1
          have lb : PyData.canLayAll0 ys = true := by simpa [PyData.canLay0] using l2
          have hd : A.units + 1 + PyData.depthAll xs < cLine := by rw [PyData.depth] at hu; omega
          have hin : A.in1.units = A.units + 1 := rfl
          have he : ∀ j (j1 : j < vs.size) (j2 : j < ws.size), SeqAt.EqAt A.in1 s vs[j] ws[j] (PyData.eqv (xs.getD j .none) (ys.getD j .none)) := fun j j1 j2 => by
            obtain ⟨as', q1, q2⟩ := reads_nth h4 j (by simpa using j1)
            obtain ⟨bs', q3, q4⟩ := reads_nth k4 j (by simpa using j2)
            have d1 := depth_nth (ds := xs) j q2
            have := SeqAt.eqAt_reads _ _ A.in1 s _ _ as' bs' q1 q3 (canLay_nth j la q2) (canLay_nth j lb q4) (by rw [hin]; omega)
            simpa using this
          have hr : ∀ j (j1 : j < vs.size) (j2 : j < ws.size), PyData.eqv (xs.getD j .none) (ys.getD j .none) = false → Ob.RcOp (if g = true then .Gt else .Lt) A.in1 s vs[j] ws[j] ((ordP g (xs.getD j .none) (ys.getD j .none)).getD false) := fun j j1 j2 hj => by
            obtain ⟨as', q1, q2⟩ := reads_nth h4 j (by simpa using j1)
            obtain ⟨bs', q3, q4⟩ := reads_nth k4 j (by simpa using j2)
            have d1 := depth_nth (ds := xs) j q2
            obtain ⟨c, hc⟩ := ordPs_nth g xs ys b h j q2 q4 hj
            have := rcOrd g _ _ A.in1 s _ _ as' bs' c q1 q3 (canLay_nth j la q2) (canLay_nth j lb q4) (by rw [hin]; omega) hc
            rw [hc]
            simpa using this
          have fin := ordPs_lex g xs ys b h
          rw [← z1, ← z2] at fin
          cases g with
          | true =>
            have := Ob.RcOp.tuples_gt (A := A) (s := s) ⟨_, h1, h2, _, h3⟩ ⟨_, k1, k2, _, k3⟩ (by omega) he hr
            simp only [if_true] at fin ⊢
            rw [fin] at this
            exact this
          | false =>
            have := Ob.RcOp.tuples_lt (A := A) (s := s) ⟨_, h1, h2, _, h3⟩ ⟨_, k1, k2, _, k3⟩ (by omega) he hr
            simp only [Bool.false_eq_true, if_false] at fin ⊢
            rw [fin] at this
            exact this
    | _ => simp [ordP] at h
termination_by p1 => sizeOf p1
decreasing_by
  simp_wf
  have : sizeOf (xs[j]?.getD PyData.none) < sizeOf xs := by
    rw [List.getElem?_eq_getElem q2]
    exact List.sizeOf_lt_of_mem (List.getElem_mem q2)
  omega
section
variable {X : Cx}
theorem op_addD : OpR X (binaryOp .Add) (r2 X.K dAdd) := by
  intro pins s σ H x y v u Q I rx ry h
  obtain ⟨m, S, d, e, R, rd, re, q⟩ := h
  unfold dAdd at q
  split at q
  · cases rd; cases re
    exact op_add pins s σ H _ _ v u Q I rx ry ⟨_, _, rfl, rfl, q.here R (.int _)⟩
  · cases rd; cases re
    exact op_add_ib pins s σ H _ _ v u Q I rx ry ⟨_, _, rfl, rfl, q.here R (.int _)⟩
  · cases rd; cases re
    split at q
    · rename_i hl
      exact op_add_str pins s σ H _ _ v u Q I rx ry ⟨_, _, rfl, rfl, hl, q.here R (.str _)⟩
    · exact q.bad.elim
  · cases rd with
    | tup h1 h2 =>
      cases re with
      | tup g1 g2 =>
        split at q
        · rename_i hl
          have hh : EndO X.K m H (some (.tup (_ ++ _), S)) Q := q
          refine op_catA pins s σ H _ _ v u Q I rx ry ⟨_, _, _, _, rfl, rfl, h1, g1, by rw [← h2.length, ← g2.length]; exact hl, fun e => ?_, fun _ e => ?_, fun _ _ p hp => q.tup R (h2.append g2) hp⟩
          · subst e
            cases h2
            exact hh.here R (.tup g1 g2)
          · subst e
            cases g2
            rw [List.append_nil] at hh
            exact hh.here R (.tup h1 h2)
        · exact q.bad.elim
  · cases rd with
    | ref hr =>
      cases re with
      | ref hs =>
        split at q
        · rename_i e1 e2
          obtain ⟨zs, h1, h2⟩ := lst_ok R hr e1
          obtain ⟨ws, g1, g2⟩ := lst_ok R hs e2
          split at q
          · rename_i hl
            exact op_cat pins s σ H _ _ v u Q I rx ry ⟨_, _, _, _, rfl, rfl, h1, g1, by rw [← h2.length, ← g2.length]; exact hl, fun p hp => q.lst R (h2.append g2) hp⟩
          · exact q.bad.elim
        · exact q.bad.elim
  · exact q.bad.elim
theorem op_subD : OpR X (binaryOp .Sub) (r2 X.K dSub) := by
  intro pins s σ H x y v u Q I rx ry h
  obtain ⟨m, S, d, e, R, rd, re, q⟩ := h
  unfold dSub at q
  split at q
  · cases rd; cases re
    exact op_sub pins s σ H _ _ v u Q I rx ry ⟨_, _, rfl, rfl, q.here R (.int _)⟩
  · cases rd; cases re
    cases (show v = Value.bool _ from rx)
    cases (show u = Value.bool _ from ry)
    exact sub_bool ⟨.int _, H, I.tok _, ⟨_, rfl⟩, q.here R (.int _)⟩
  · exact q.bad.elim
theorem mulOk {a : Str} {k : Int} (h1 : -(2 ^ 63) ≤ k) (h2 : k < 2 ^ 63) (h3 : a.length * k.toNat ≤ sizeLine) : MulOk a k := by
  refine ⟨?_, fun h _ => ?_, fun h _ => ?_⟩
  · have e1 : ¬ k < -(2 ^ 63 : Int) := by omega
    have e2 : ¬ k ≥ 2 ^ 63 := by omega
    rw [decide_eq_false e1, decide_eq_false e2]; rfl
  · have hk : 0 < k := by omega
    have z : sizeLine ≤ 16777216 := by decide
    have e : (a.length : Int) * k ≤ 2 ^ 63 - 1 := by
      have e1 : (a.length : Int) * k = ((a.length * k.toNat : Nat) : Int) := by
        rw [Int.natCast_mul, Int.toNat_of_nonneg (by omega)]
      rw [e1]
      omega
    have := Int.le_ediv_of_mul_le hk e
    omega
  · unfold Builtin.Str.tooLong
    simp only [decide_eq_false_iff_not]
    omega
theorem mulX_ok {i j : Int} (h : i.natAbs.log2 + j.natAbs.log2 < 130000000) : CMulX i j := by
  have b : ∀ x : Int, Builtin.Int.intBits x ≤ x.natAbs.log2 + 1 := fun x => by
    unfold Builtin.Int.intBits
    split <;> omega
  have h1 := b i
  have h2 := b j
  unfold CMulX
  omega
theorem op_mulD : OpR X (binaryOp .Mult) (r2 X.K dMul) := by
  intro pins s σ H x y v u Q I rx ry h
  obtain ⟨m, S, d, e, R, rd, re, q⟩ := h
  unfold dMul at q
  split at q
  · cases rd; cases re
    split at q
    · rename_i hl
      rcases hl with hl | hl
      · exact op_mulX pins s σ H _ _ v u Q I rx ry ⟨_, _, rfl, rfl, mulX_ok hl, q.here R (.int _)⟩
      · exact op_mul pins s σ H _ _ v u Q I rx ry ⟨_, _, rfl, rfl, .inr ⟨by omega, by omega⟩, q.here R (.int _)⟩
    · exact q.bad.elim
  · cases rd; cases re
    split at q
    · rename_i hl
      obtain ⟨t, rfl⟩ := rx
      obtain ⟨t', rfl⟩ := ry
      exact SB.mul (mulOk hl.1 hl.2.1 hl.2.2) fun t' k => ⟨.str _, _, I.tok k, ⟨t', rfl⟩, q.here R (.str _)⟩
    · exact q.bad.elim
  · cases rd with
    | ref hr =>
      cases re
      split at q
      · rename_i e1
        obtain ⟨zs, h1, h2⟩ := lst_ok R hr e1
        split at q
        · rename_i hl
          refine op_rep pins s σ H _ _ v u Q I rx ry ⟨_, _, _, rfl, rfl, h1, hl.1, hl.2.1, by rw [← h2.length]; exact hl.2.2, fun p hp => q.lst R ?_ hp⟩
          have : ∀ n : Nat, RDs X.K m H (List.replicate n _).flatten (List.replicate n zs).flatten := fun n => by
            induction n with
            | zero => exact .nil
            | succ n ih => rw [List.replicate_succ, List.replicate_succ, List.flatten_cons, List.flatten_cons]; exact h2.append ih
          exact this _
        · exact q.bad.elim
      · exact q.bad.elim
  · exact q.bad.elim
theorem op_divD : OpR X (binaryOp .FloorDiv) (r2 X.K dDiv) := by
  intro pins s σ H x y v u Q I rx ry h
  obtain ⟨m, S, d, e, R, rd, re, q⟩ := h
  unfold dDiv at q
  split at q
  · cases rd; cases re
    split at q
    · rename_i hl
      exact op_fdivW pins s σ H _ _ v u Q I rx ry ⟨_, _, rfl, rfl, hl, q.here R (.int _)⟩
    · exact q.bad.elim
  · exact q.bad.elim
theorem op_modD : OpR X (binaryOp .Mod) (r2 X.K dMod) := by
  intro pins s σ H x y v u Q I rx ry h
  obtain ⟨m, S, d, e, R, rd, re, q⟩ := h
  unfold dMod at q
  split at q
  · cases rd; cases re
    split at q
    · rename_i hl
      exact op_mod pins s σ H _ _ v u Q I rx ry ⟨_, _, rfl, rfl, hl, q.here R (.int _)⟩
    · exact q.bad.elim
  · exact q.bad.elim
theorem op_powD : OpR X (binaryOp .Pow) (r2 X.K dPow) := by
  intro pins s σ H x y v u Q I rx ry h
  obtain ⟨m, S, d, e, R, rd, re, q⟩ := h
  unfold dPow at q
  split at q
  · cases rd; cases re
    split at q
    · rename_i hl
      exact op_pow pins s σ H _ _ v u Q I rx ry ⟨_, _, rfl, rfl, hl, q.here R (.int _)⟩
    · exact q.bad.elim
  · exact q.bad.elim
theorem un_negD : UnR X (unaryOp .USub) (r1 X.K dNeg) := by
  intro pins s σ H x v Q I rx h
  obtain ⟨m, S, d, R, rd, q⟩ := h
  unfold dNeg at q
  split at q
  · cases rd
    exact un_neg pins s σ H _ v Q I rx ⟨_, rfl, q.here R (.int _)⟩
  · exact q.bad.elim
theorem op_eqDD (hu : X.A.units + 64 < cLine) : OpR X (compareOp .Eq) (r2 X.K dEq) := by
  intro pins s σ H x y v u Q I rx ry h
  obtain ⟨m, S, d, e, R, rd, re, q⟩ := h
  unfold dEq eqD at q
  split at q
  · cases rd; cases re
    refine op_eq pins s σ H _ _ v u Q I rx ry ⟨rfl, ?_⟩
    rw [dec_str]
    exact q.here R (.bl _)
  · split at q
    · rename_i p1 p2 e1 e2
      exact op_eqD hu pins s σ H _ _ v u Q I rx ry ⟨_, _, dp_of R _ _ _ _ rd e1, dp_of R _ _ _ _ re e2, (toPy_lays _ _ _ e1).shaped, (toPy_lays _ _ _ e2).shaped, q.here R (.bl _)⟩
    · exact q.bad.elim
theorem op_neDD (hu : X.A.units + 64 < cLine) : OpR X (compareOp .NotEq) (r2 X.K dNe) := by
  intro pins s σ H x y v u Q I rx ry h
  obtain ⟨m, S, d, e, R, rd, re, q⟩ := h
  unfold dNe eqD at q
  split at q
  · cases rd; cases re
    refine op_ne pins s σ H _ _ v u Q I rx ry ⟨rfl, ?_⟩
    rw [dec_str]
    exact q.here R (.bl _)
  · split at q
    · rename_i p1 p2 e1 e2
      exact op_neD hu pins s σ H _ _ v u Q I rx ry ⟨_, _, dp_of R _ _ _ _ rd e1, dp_of R _ _ _ _ re e2, (toPy_lays _ _ _ e1).shaped, (toPy_lays _ _ _ e2).shaped, q.here R (.bl _)⟩
    · exact q.bad.elim
theorem op_leD : OpR X (compareOp .LtE) (r2 X.K dLe) := by
  intro pins s σ H x y v u Q I rx ry h
  obtain ⟨m, S, d, e, R, rd, re, q⟩ := h
  unfold dLe at q
  split at q
  · cases rd; cases re
    exact op_le pins s σ H _ _ v u Q I rx ry ⟨_, _, rfl, rfl, q.here R (.bl _)⟩
  · cases rd; cases re
    exact op_le_str pins s σ H _ _ v u Q I rx ry ⟨_, _, rfl, rfl, q.here R (.bl _)⟩
  · exact q.bad.elim
theorem op_geD : OpR X (compareOp .GtE) (r2 X.K dGe) := by
  intro pins s σ H x y v u Q I rx ry h
  obtain ⟨m, S, d, e, R, rd, re, q⟩ := h
  unfold dGe at q
  split at q
  · cases rd; cases re
    exact op_ge pins s σ H _ _ v u Q I rx ry ⟨_, _, rfl, rfl, q.here R (.bl _)⟩
  · cases rd; cases re
    exact op_ge_str pins s σ H _ _ v u Q I rx ry ⟨_, _, rfl, rfl, q.here R (.bl _)⟩
  · exact q.bad.elim
theorem op_ordD (g : Bool) (hu : X.A.units + 64 < cLine) : OpR X (compareOp (if g = true then .Gt else .Lt)) (r2 X.K (dOrd g)) := by
  intro pins s σ H x y v u Q I rx ry h
  obtain ⟨m, S, d, e, R, rd, re, q⟩ := h
  unfold dOrd at q
  split at q
  · rename_i p1 p2 e1 e2
    split at q
    · rename_i b hb
      obtain ⟨as, r1⟩ := Dp.reads I _ x v (dp_of R _ _ _ _ rd e1) rx
      obtain ⟨bs, r2⟩ := Dp.reads I _ y u (dp_of R _ _ _ _ re e2) ry
      have l1 := toPy_lays _ _ _ e1
      have l2 := toPy_lays _ _ _ e2
      have w := rcOrd g p1 p2 X.A s v u as bs b r1 r2 l1.1 l2.1 (by have := l1.2.1; unfold cap at this; omega) hb
      have : compareOp (if g = true then .Gt else .Lt) v u = richCompare (if g = true then .Gt else .Lt) v u := by cases g <;> rfl
      rw [this]
      exact w X.prog X.w X.xe _ ⟨.bl _, H, I, rfl, q.here R (.bl _)⟩
    · exact q.bad.elim
  · exact q.bad.elim
theorem op_ltD (hu : X.A.units + 64 < cLine) : OpR X (compareOp .Lt) (r2 X.K (dOrd false)) := op_ordD false hu
theorem op_gtD (hu : X.A.units + 64 < cLine) : OpR X (compareOp .Gt) (r2 X.K (dOrd true)) := op_ordD true hu
theorem RD.non_iff {K : PySem.W.Frag} {m : List Addr} {H : Hp} {d : D} {v : V} (r : RD K m H d v) : decide (v = .non) = isNon d := by
  cases r <;> simp [isNon]
theorem op_isD : OpR X (compareOp .Is) (r2 X.K dIs) := by
  intro pins s σ H x y v u Q I rx ry h
  obtain ⟨m, S, d, e, R, rd, re, q⟩ := h
  unfold dIs at q
  split at q
  · cases re
    exact op_isN pins s σ H _ _ v u Q I rx ry ⟨rfl, by rw [rd.non_iff]; exact q.here R (.bl _)⟩
  · cases re
    split at q
    · cases rd
      exact op_isBl pins s σ H _ _ v u Q I rx ry ⟨_, _, rfl, rfl, q.here R (.bl _)⟩
    · exact q.bad.elim
  · exact q.bad.elim
theorem op_isNotD : OpR X (compareOp .IsNot) (r2 X.K dIsNot) := by
  intro pins s σ H x y v u Q I rx ry h
  obtain ⟨m, S, d, e, R, rd, re, q⟩ := h
  unfold dIsNot at q
  split at q
  · cases re
    exact op_notN pins s σ H _ _ v u Q I rx ry ⟨rfl, by rw [rd.non_iff]; exact q.here R (.bl _)⟩
  · cases re
    split at q
    · cases rd
      exact op_notBl pins s σ H _ _ v u Q I rx ry ⟨_, _, rfl, rfl, q.here R (.bl _)⟩
    · exact q.bad.elim
  · exact q.bad.elim
end
end MP
set_option Elab.async false
set_option linter.all false
set_option maxRecDepth 100000
set_option maxHeartbeats 4000000
namespace MP
open PySem PySem.Spec PyProof.Rows L2

/-! ### dicts by keys -/
def keyOf : D → Option Key
  | .int i => some (.inl i)
  | .str x => some (.inr x)
  | _ => none
def kD : Key → D
  | .inl i => .int i
  | .inr x => .str x
def getK (kvs : List (Key × D)) (k : Key) : Option D := (kvs.find? fun kv => decide (kv.1 = k)).map (·.2)
def setK (kvs : List (Key × D)) (k : Key) (v : D) : List (Key × D) :=
  if (kvs.any fun kv => decide (kv.1 = k)) = true then kvs.map (fun kv => if kv.1 = k then (kv.1, v) else kv) else kvs ++ [(k, v)]
section
variable {K : PySem.W.Frag} {m : List Addr} {H : Hp} {S : Store} {d : D} {v : V} {k : Key}
theorem keyOf_ok (r : RD K m H d v) (h : keyOf d = some k) : v = kV k := by
  cases r <;> (cases h; try rfl)
theorem rkv_get : ∀ {kvs : List (Key × D)} {ps : List (Key × V)}, RKV K m H kvs ps → (getK kvs k = none ∧ valV ps k = none) ∨ ∃ d v, getK kvs k = some d ∧ valV ps k = some v ∧ RD K m H d v
  | [], [], _ => .inl ⟨rfl, rfl⟩
  | [], _ :: _, h => h.elim
  | _ :: _, [], h => h.elim
  | (k', d) :: r, (k2, v) :: r', h => by
    obtain ⟨rfl, h1, h2⟩ := h
    by_cases e : k' = k
    · exact .inr ⟨d, v, by simp [getK, List.find?_cons, e], by simp [valV, List.find?_cons, e], h1⟩
    · have := rkv_get h2
      simpa [getK, valV, List.find?_cons, e] using this
theorem rkv_length : ∀ {kvs : List (Key × D)} {ps : List (Key × V)}, RKV K m H kvs ps → kvs.length = ps.length
  | [], [], _ => rfl
  | [], _ :: _, h => h.elim
  | _ :: _, [], h => h.elim
  | _ :: _, _ :: _, h => by simp [rkv_length h.2.2]
theorem rkv_any : ∀ {kvs : List (Key × D)} {ps : List (Key × V)}, RKV K m H kvs ps → (kvs.any fun kv => decide (kv.1 = k)) = ps.any fun kv => decide (kv.1 = k)
  | [], [], _ => rfl
  | [], _ :: _, h => h.elim
  | _ :: _, [], h => h.elim
  | _ :: _, _ :: _, h => by simp only [List.any_cons]; rw [h.1, rkv_any h.2.2]
theorem rkv_map (q : RD K m H d v) : ∀ {kvs : List (Key × D)} {ps : List (Key × V)}, RKV K m H kvs ps → RKV K m H (kvs.map fun kv => if kv.1 = k then (kv.1, d) else kv) (ps.map fun kv => if kv.1 = k then (kv.1, v) else kv)
  | [], [], _ => trivial
  | [], _ :: _, h => h.elim
  | _ :: _, [], h => h.elim
  | (k', d') :: _, (k2, v') :: _, h => by
    obtain ⟨rfl, h1, h2⟩ := h
    by_cases e : k' = k
    · simp only [List.map_cons, e, if_true]; exact ⟨rfl, q, rkv_map q h2⟩
    · simp only [List.map_cons, e, if_false]; exact ⟨rfl, h1, rkv_map q h2⟩
theorem rkv_snoc (q : RD K m H d v) : ∀ {kvs : List (Key × D)} {ps : List (Key × V)}, RKV K m H kvs ps → RKV K m H (kvs ++ [(k, d)]) (ps ++ [(k, v)])
  | [], [], _ => ⟨rfl, q, trivial⟩
  | [], _ :: _, h => h.elim
  | _ :: _, [], h => h.elim
  | _ :: _, _ :: _, h => ⟨h.1, h.2.1, rkv_snoc q h.2.2⟩
theorem rkv_set (q : RD K m H d v) {kvs : List (Key × D)} {ps : List (Key × V)} (h : RKV K m H kvs ps) : RKV K m H (setK kvs k d) (putK ps k v) := by
  unfold setK putK
  rw [rkv_any h]
  split
  · exact rkv_map q h
  · exact rkv_snoc q h
theorem rkv_keys : ∀ {kvs : List (Key × D)} {ps : List (Key × V)}, RKV K m H kvs ps → RDs K m H (kvs.map fun kv => kD kv.1) (ps.map fun kv => kV kv.1)
  | [], [], _ => .nil
  | [], _ :: _, h => h.elim
  | _ :: _, [], h => h.elim
  | (k', _) :: _, (_, _) :: _, h => by
    obtain ⟨rfl, h1, h2⟩ := h
    refine .cons ?_ (rkv_keys h2)
    cases k' with
    | inl i => exact .int i
    | inr x => exact .str x
def dictOf (S : Store) : D → Option (List (Key × D))
  | .ref r => match S[r]? with
    | some (.dict kvs) => some kvs
    | _ => none
  | _ => none
theorem dictOf_ok (R : Rel K m S H) (r : RD K m H d v) {kvs : List (Key × D)} (h : dictOf S d = some kvs) : ∃ a ps r, d = .ref r ∧ m[r]? = some a ∧ v = .ref a ∧ H a = some (.dK ps) ∧ RKV K m H kvs ps := by
  cases r with
  | ref hr =>
    obtain ⟨o, ho, q⟩ := R.lt hr
    simp only [dictOf, ho] at h
    cases o with
    | dict ys => cases h; obtain ⟨xs, h1, h2⟩ := q; exact ⟨_, xs, _, rfl, hr, rfl, h1, h2⟩
    | _ => cases h
  | _ => cases h
end

/-! ### items -/
theorem RDs.atI {K : PySem.W.Frag} {m : List Addr} {H : Hp} {ds : List D} {xs : List V} {i : Int} {d : D} (r : RDs K m H ds xs) (h : atI ds i = some d) : ∃ v, L2.atI xs i = some v ∧ RD K m H d v := by
  unfold L2.atI at h ⊢
  rw [← r.length]
  cases e : ixN ds.length i with
  | none => rw [e] at h; cases h
  | some j => rw [e] at h; obtain ⟨v, h1, h2⟩ := r.get h; exact ⟨v, h1, h2⟩
def dIx : Op2 := fun x y S => match x with
  | .str z => match y with
    | .int i => if z.length ≤ sizeLine then match atI z.cps.toList i with
        | some c => some (.str ⟨#[c]⟩, S)
        | none => none
      else none
    | _ => none
  | x => match dictOf S x with
    | some kvs => match keyOf y with
      | some k => match getK kvs k with
        | some d => some (d, S)
        | none => none
      | none => none
    | none => match seqOf S x, y with
      | some ds, .int i => match atI ds i with
        | some d => some (d, S)
        | none => none
      | _, _ => none
theorem ix_D {X : Cx} (hu : X.A.units + 1 < cLine) : IxR X (r2 X.K dIx) := by
  intro value slice pins s σ H x y v u Q I rx ry h hs
  obtain ⟨m, S, d, e, R, rd, re, q⟩ := h
  unfold dIx at q
  split at q
  · rename_i z
    cases rd
    split at q
    · rename_i i
      cases re
      split at q
      · rename_i hz
        split at q
        · rename_i c hc
          exact ix_str value slice pins s σ H _ _ v u Q I rx ry ⟨z, i, c, rfl, rfl, hz, hc, q.here R (.str _)⟩ hs
        · exact q.bad.elim
      · exact q.bad.elim
    · exact q.bad.elim
  · split at q
    · rename_i kvs hk
      split at q
      · rename_i k ek
        split at q
        · rename_i d' ed
          obtain ⟨a, ps, r, _, hr, rfl, h1, h2⟩ := dictOf_ok R rd hk
          rcases rkv_get (k := k) h2 with ⟨z, _⟩ | ⟨d2, v2, z1, z2, z3⟩
          · rw [ed] at z; cases z
          · rw [ed] at z1; cases z1
            have g : DGet H a y (some v2) := by
              have := DGet.k (k := k) h1
              rw [z2, ← keyOf_ok re ek] at this
              exact this
            obtain rfl : v = Value.ref a := rx
            exact tail_any (dict_typeIs I g) PySem.F.slot_dict_getitem.lookup (d_getItem hu I g ry fun w' s3 I3 rw' => ⟨v2, H, I3, rw', q.here R z3⟩) hs
        · exact q.bad.elim
      · exact q.bad.elim
    · split at q
      · rename_i ds i e1
        split at q
        · rename_i d' ed
          cases re
          obtain ⟨a, xs, rfl, h1, h2⟩ := seqOf_ok R rd e1
          obtain ⟨w', z1, z2⟩ := h2.atI ed
          rcases h1 with h1 | h1
          · exact ix_list value slice pins s σ H _ _ v u Q I rx ry ⟨a, xs, i, w', rfl, rfl, h1, z1, q.here R z2⟩ hs
          · exact ix_tup value slice pins s σ H _ _ v u Q I rx ry ⟨a, xs, i, w', rfl, rfl, h1, z1, q.here R z2⟩ hs
        · exact q.bad.elim
      · exact q.bad.elim

/-! ### slices -/
def cutD (ds : List D) (lo hi : Option Int) : List D := (ds.drop (HT.sIx ds.length 0 lo)).take (HT.sIx ds.length ds.length hi - HT.sIx ds.length 0 lo)
theorem RDs.cut {K : PySem.W.Frag} {m : List Addr} {H : Hp} {ds : List D} {xs : List V} (r : RDs K m H ds xs) (lo hi : Option Int) : RDs K m H (cutD ds lo hi) (cutV xs lo hi) := by
  unfold cutD cutV
  rw [← r.length]
  exact (r.drop _).take _
def dSl : OpS := fun x lo hi S => match x with
  | .str z => if z.length ≤ sizeLine then some (.str (cutS z lo hi), S) else none
  | .tup ds => some (.tup (cutD ds lo hi), S)
  | x => match listOf S x with
    | some ds => some (.ref S.length, S ++ [.lst (cutD ds lo hi)])
    | none => none
theorem cutD_whole {ds : List D} {lo hi : Option Int} (h : HT.sIx ds.length 0 lo = 0 ∧ HT.sIx ds.length ds.length hi = ds.length) : cutD ds lo hi = ds := by
  unfold cutD
  rw [h.1, h.2]
  simp
theorem sl_D {X : Cx} : SlR X (rS X.K dSl) := by
  intro pins s σ H x v vl vu lo hi sl Q I rx hs pl pu h
  obtain ⟨m, S, d, R, rd, q⟩ := h
  unfold dSl at q
  split at q
  · cases rd
    split at q
    · rename_i hz
      exact sl_str pins s σ H _ v vl vu lo hi sl Q I rx hs pl pu ⟨_, rfl, hz, q.here R (.str _)⟩
    · exact q.bad.elim
  · cases rd with
    | tup h1 h2 =>
      refine sl_tupA pins s σ H _ v vl vu lo hi sl Q I rx hs pl pu ⟨_, _, rfl, h1, fun hw => ?_, fun _ p hp => q.tup R (h2.cut lo hi) hp⟩
      rw [← h2.length] at hw
      rw [cutD_whole hw] at q
      exact q.here R (.tup h1 h2)
  · split at q
    · rename_i ds e
      obtain ⟨a, xs, rfl, h1, h2⟩ := listOf_ok R rd e
      exact sl_list pins s σ H _ v vl vu lo hi sl Q I rx hs pl pu ⟨a, xs, rfl, h1, fun p hp => q.lst R (h2.cut lo hi) hp⟩
    · exact q.bad.elim

/-! ### in -/
def flatD : D → Bool
  | .non | .bl _ | .int _ | .str _ => true
  | _ => false
def eqF : D → D → Bool
  | .non, .non => true
  | .bl a, .bl b => a == b
  | .bl a, .int b => (if a then 1 else 0) == b
  | .int a, .bl b => a == (if b then 1 else 0)
  | .int a, .int b => a == b
  | .str a, .str b => a == b
  | _, _ => false
/-- x in y -/
def inD (x y : D) (S : Store) : Option Bool := match y with
  | .str z => match x with
    | .str i => if i.cps.size = 1 then some (decide (i.cps.getD 0 0 ∈ z.cps.toList)) else some (!(Builtin.Str.occurrences z i 0 z.length 1).isEmpty)
    | _ => none
  | .tup ds => if flatD x = true ∧ ds.all flatD = true then some (ds.any fun y => eqF y x) else none
  | y => match dictOf S y with
    | some kvs => match keyOf x with
      | some k => some (getK kvs k).isSome
      | none => none
    | none => match toPy cap S x, toPy cap S y with
      | some d, some (.list ds) => some (ds.any fun z => PyData.eqv z d)
      | _, _ => none
def dIn : Op2 := fun x y S => (inD x y S).map fun b => (.bl b, S)
def dNotIn : Op2 := fun x y S => (inD x y S).map fun b => (.bl (!b), S)
section
variable {K : PySem.W.Frag} {m : List Addr} {H : Hp} {S : Store}
theorem flat_V {d : D} {v : V} (r : RD K m H d v) : flatV v = flatD d ∨ flatD d = false := by
  cases r <;> first | exact .inl rfl | exact .inr rfl
theorem flat_all : ∀ {ds : List D} {xs : List V}, RDs K m H ds xs → ds.all flatD = true → xs.all flatV = true
  | _, _, .nil, _ => rfl
  | _, _, .cons r rs, h => by
    simp only [List.all_cons, Bool.and_eq_true] at h ⊢
    refine ⟨?_, flat_all rs h.2⟩
    rcases flat_V r with e | e
    · rw [e]; exact h.1
    · rw [e] at h; exact absurd h.1 Bool.false_ne_true
theorem eqF_V {d e : D} {v w : V} (r : RD K m H d v) (q : RD K m H e w) (h : flatD d = true) (h' : flatD e = true) : eqV v w = eqF d e := by
  cases r <;> first | exact absurd h Bool.false_ne_true | (cases q <;> first | exact absurd h' Bool.false_ne_true | rfl)
theorem any_V {x : D} {v : V} (q : RD K m H x v) (hx : flatD x = true) : ∀ {ds : List D} {xs : List V}, RDs K m H ds xs → ds.all flatD = true → inV v xs = ds.any fun y => eqF y x
  | _, _, .nil, _ => rfl
  | _, _, .cons r rs, h => by
    simp only [List.all_cons, Bool.and_eq_true] at h
    have := any_V q hx rs h.2
    unfold inV at this ⊢
    rw [List.any_cons, List.any_cons, this, eqF_V r q h.1 hx]
theorem one_sign {i : Str} (h : i.cps.size = 1) : i = ⟨#[i.cps.getD 0 0]⟩ := by
  obtain ⟨⟨l⟩⟩ := i
  match l, h with
  | [c], _ => rfl
theorem inD_ok {X : Cx} (hu : X.A.units + 65 < cLine) (neg : Bool) : OpR X (compareOp (if neg = true then .NotIn else .In)) (r2 X.K (fun x y S => (inD x y S).map fun b => (.bl (if neg = true then !b else b), S))) := by
  intro pins s σ H x y v u Q I rx ry h
  obtain ⟨m, S, d, e, R, rd, re, q⟩ := h
  dsimp only at q
  cases eb : inD d e S with
  | none => rw [eb] at q; exact q.bad.elim
  | some b =>
    rw [eb] at q
    have qq : ∀ c, c = (if neg = true then !b else b) → Q (.bl c) H := fun c hc => by rw [hc]; exact q.here R (.bl _)
    unfold inD at eb
    split at eb
    · rename_i z
      cases re
      split at eb
      · rename_i i
        cases rd
        split at eb
        · rename_i hs
          cases eb
          have e1 := one_sign hs
          cases neg with
          | true => exact op_notIn_sign pins s σ H _ _ v u Q I rx ry ⟨_, z, by rw [← e1], rfl, qq _ rfl⟩
          | false => exact op_in_sign pins s σ H _ _ v u Q I rx ry ⟨_, z, by rw [← e1], rfl, qq _ rfl⟩
        · cases eb
          cases neg with
          | true => exact op_notIn_str pins s σ H _ _ v u Q I rx ry ⟨i, z, rfl, rfl, qq _ rfl⟩
          | false => exact op_in_str pins s σ H _ _ v u Q I rx ry ⟨i, z, rfl, rfl, qq _ rfl⟩
      · cases eb
    · rename_i ds
      split at eb
      · rename_i hf
        cases eb
        cases re with
        | tup h1 h2 =>
          have f1 : flatV x = true := by
            rcases flat_V rd with z | z
            · rw [z]; exact hf.1
            · rw [z] at hf; exact absurd hf.1 Bool.false_ne_true
          have f2 := flat_all h2 hf.2
          have f3 := any_V rd hf.1 h2 hf.2
          cases neg with
          | true => exact op_notIn_seq pins s σ H _ _ v u Q I rx ry ⟨_, _, rfl, .inr h1, f1, f2, qq _ (by rw [f3] <;> rfl)⟩
          | false => exact op_in_seq pins s σ H _ _ v u Q I rx ry ⟨_, _, rfl, .inr h1, f1, f2, qq _ (by rw [f3] <;> rfl)⟩
      · cases eb
    · split at eb
      · rename_i kvs hk
        split at eb
        · rename_i k ek
          cases eb
          obtain ⟨a, ps, r, _, hr, rfl, h1, h2⟩ := dictOf_ok R re hk
          have g : DGet H a x (valV ps k) := by
            have := DGet.k (k := k) h1
            rw [← keyOf_ok rd ek] at this
            exact this
          have e2 : (valV ps k).isSome = (getK kvs k).isSome := by
            rcases rkv_get (k := k) h2 with ⟨z1, z2⟩ | ⟨d2, v2, z1, z2, z3⟩ <;> rw [z1, z2] <;> rfl
          obtain rfl : u = Value.ref a := ry
          cases neg with
          | true => exact d_notIn (by omega) I g rx fun s3 I3 => ⟨.bl _, H, I3, rfl, qq _ (by rw [e2]; rfl)⟩
          | false => exact d_in (by omega) I g rx fun s3 I3 => ⟨.bl _, H, I3, rfl, qq _ (by rw [e2]; rfl)⟩
        · cases eb
      · split at eb
        · rename_i p1 ps e1 e2
          cases eb
          have l1 := (toPy_lays _ _ _ e1).shaped
          have l2 := (toPy_lays _ _ _ e2).shaped
          cases neg with
          | true => exact op_notInD hu pins s σ H _ _ v u Q I rx ry ⟨_, _, dp_of R _ _ _ _ rd e1, dp_of R _ _ _ _ re e2, l1, l2, qq _ rfl⟩
          | false => exact op_inD hu pins s σ H _ _ v u Q I rx ry ⟨_, _, dp_of R _ _ _ _ rd e1, dp_of R _ _ _ _ re e2, l1, l2, qq _ rfl⟩
        · cases eb
end
theorem op_inDD {X : Cx} (hu : X.A.units + 65 < cLine) : OpR X (compareOp .In) (r2 X.K dIn) := inD_ok hu false
theorem op_notInDD {X : Cx} (hu : X.A.units + 65 < cLine) : OpR X (compareOp .NotIn) (r2 X.K dNotIn) := inD_ok hu true

/-! ### methods of lists -/
def mAppend : OpM := fun x xs S => match x, xs with
  | .ref r, [d] => match S[r]? with
    | some (.lst ds) => if ds.length < sizeLine then some (.non, S.set r (.lst (ds ++ [d]))) else none
    | _ => none
  | _, _ => none
def mPop : OpM := fun x xs S => match x, xs with
  | .ref r, [] => match S[r]? with
    | some (.lst ds) => match ds[ds.length - 1]? with
      | some d => some (d, S.set r (.lst ds.dropLast))
      | none => none
    | _ => none
  | .ref r, [.int i] => match S[r]? with
    | some (.lst ds) => if -(2 ^ 63) ≤ i ∧ i < 2 ^ 63 then match seqIndex? i ds.length with
        | some k => match ds[k]? with
          | some d => some (d, S.set r (.lst (ds.eraseIdx k)))
          | none => none
        | none => none
      else none
    | _ => none
  | _, _ => none
def mExtend : OpM := fun x xs S => match x, xs with
  | .ref r, [.ref t] => match S[r]?, S[t]? with
    | some (.lst ds), some (.lst es) => if ds.length + es.length ≤ sizeLine then some (.non, S.set r (.lst (ds ++ es))) else none
    | _, _ => none
  | _, _ => none
section
variable {X : Cx}
theorem RDs.dropLast {K : PySem.W.Frag} {m : List Addr} {H : Hp} {ds : List D} {xs : List V} (r : RDs K m H ds xs) : RDs K m H ds.dropLast xs.dropLast := by
  rw [List.dropLast_eq_take, List.dropLast_eq_take, r.length]
  exact r.take _
theorem RDs.eraseIdx {K : PySem.W.Frag} {m : List Addr} {H : Hp} : ∀ {ds : List D} {xs : List V} (i : Nat), RDs K m H ds xs → RDs K m H (ds.eraseIdx i) (xs.eraseIdx i)
  | _, _, _, .nil => .nil
  | _, _, 0, .cons _ r => r
  | _, _, i + 1, .cons h r => .cons h (RDs.eraseIdx i r)
theorem RDs.one {K : PySem.W.Frag} {m : List Addr} {H : Hp} {d : D} {xs : List V} (r : RDs K m H [d] xs) : ∃ v, xs = [v] ∧ RD K m H d v := by
  cases r with
  | cons h t => cases t; exact ⟨_, rfl, h⟩
theorem RDs.two {K : PySem.W.Frag} {m : List Addr} {H : Hp} {d e : D} {xs : List V} (r : RDs K m H [d, e] xs) : ∃ v w, xs = [v, w] ∧ RD K m H d v ∧ RD K m H e w := by
  cases r with
  | cons h t => cases t with
    | cons h' t' => cases t'; exact ⟨_, _, rfl, h, h'⟩
theorem RDs.zero {K : PySem.W.Frag} {m : List Addr} {H : Hp} {xs : List V} (r : RDs K m H [] xs) : xs = [] := by
  cases r; rfl
theorem mt_appendD : MtR X "list.append" (rMt X.K mAppend) := by
  intro pins s σ H x xs v us Q I rx rv h
  obtain ⟨m, S, d, ds, R, rd, rds, q⟩ := h
  unfold mAppend at q
  split at q
  · cases rd with
    | ref hr =>
      obtain ⟨y, rfl, ry⟩ := rds.one
      split at q
      · rename_i zs e
        obtain ⟨ys, h1, h2⟩ := lst_ok R hr e
        split at q
        · rename_i hl
          exact mt_append pins s σ H _ _ v us Q I rx rv ⟨_, ys, y, rfl, rfl, h1, by rw [← h2.length]; exact hl, q.wlst R hr (by rw [h1]; trivial) (h2.append (.cons ry .nil)) .non⟩
        · exact q.bad.elim
      · exact q.bad.elim
  · exact q.bad.elim
theorem mt_popD : MtR X "list.pop" (rMt X.K mPop) := by
  intro pins s σ H x xs v us Q I rx rv h
  obtain ⟨m, S, d, ds, R, rd, rds, q⟩ := h
  unfold mPop at q
  split at q
  · cases rd with
    | ref hr =>
      cases rds.zero
      split at q
      · rename_i zs e
        obtain ⟨ys, h1, h2⟩ := lst_ok R hr e
        split at q
        · rename_i d' ed
          rw [h2.length] at ed
          obtain ⟨y, g1, g2⟩ := h2.get ed
          exact mt_pop pins s σ H _ _ v us Q I rx rv ⟨_, ys, y, rfl, rfl, h1, g1, q.wlst R hr (by rw [h1]; trivial) h2.dropLast g2⟩
        · exact q.bad.elim
      · exact q.bad.elim
  · cases rd with
    | ref hr =>
      obtain ⟨y, rfl, ry⟩ := rds.one
      cases ry
      split at q
      · rename_i zs e
        obtain ⟨ys, h1, h2⟩ := lst_ok R hr e
        split at q
        · rename_i hl
          split at q
          · rename_i k ek
            split at q
            · rename_i d' ed
              obtain ⟨y, g1, g2⟩ := h2.get ed
              exact mt_popAt pins s σ H _ _ v us Q I rx rv ⟨_, ys, _, k, y, rfl, rfl, h1, hl.1, hl.2, by rw [← h2.length]; exact ek, g1, q.wlst R hr (by rw [h1]; trivial) (h2.eraseIdx k) g2⟩
            · exact q.bad.elim
          · exact q.bad.elim
        · exact q.bad.elim
      · exact q.bad.elim
  · exact q.bad.elim
theorem mt_extendD : MtR X "list.extend" (rMt X.K mExtend) := by
  intro pins s σ H x xs v us Q I rx rv h
  obtain ⟨m, S, d, ds, R, rd, rds, q⟩ := h
  unfold mExtend at q
  split at q
  · cases rd with
    | ref hr =>
      obtain ⟨y, rfl, ry⟩ := rds.one
      cases ry with
      | ref ht =>
        split at q
        · rename_i zs ws e1 e2
          obtain ⟨ys, h1, h2⟩ := lst_ok R hr e1
          obtain ⟨us', g1, g2⟩ := lst_ok R ht e2
          split at q
          · rename_i hl
            exact mt_extend pins s σ H _ _ v us Q I rx rv ⟨_, _, ys, us', rfl, rfl, h1, g1, by rw [← h2.length, ← g2.length]; exact hl, q.wlst R hr (by rw [h1]; trivial) (h2.append g2) .non⟩
          · exact q.bad.elim
        · exact q.bad.elim
  · exact q.bad.elim
end

/-! ### built-ins -/
def bLen : OpN := fun xs S => match xs with
  | [.str z] => if z.length ≤ sizeLine then some (.int z.length, S) else none
  | [x] => match dictOf S x with
    | some kvs => some (.int kvs.length, S)
    | none => match seqOf S x with
      | some ds => some (.int ds.length, S)
      | none => none
  | _ => none
def bAbs : OpN := fun xs S => match xs with
  | [.int i] => some (.int (if i < 0 then -i else i), S)
  | _ => none
def bMax : OpN := fun xs S => match xs with
  | [.int i, .int j] => some (.int (if j > i then j else i), S)
  | _ => none
def bMin : OpN := fun xs S => match xs with
  | [.int i, .int j] => some (.int (if j < i then j else i), S)
  | _ => none
def bInt : OpN := fun xs S => match xs with
  | [.int i] => some (.int i, S)
  | [.bl k] => some (.int (if k then 1 else 0), S)
  | [.str a] => if a.length ≤ 640 then match PySem.intText? a with
      | some n => some (.int n, S)
      | none => none
    else none
  | _ => none
def bStr : OpN := fun xs S => match xs with
  | [.int i] => if i.natAbs.log2 < 1920 then some (.str (toString i), S) else none
  | [.str a] => some (.str a, S)
  | _ => none
def bTuple : OpN := fun xs S => match xs with
  | [.tup ds] => some (.tup ds, S)
  | [x] => match listOf S x with
    | some ds => some (.tup ds, S)
    | none => none
  | _ => none
def bList : OpN := fun xs S => match xs with
  | [x] => match seqOf S x with
    | some ds => some (.ref S.length, S ++ [.lst ds])
    | none => none
  | _ => none
/-- repr of data -/
def bRepr : OpN := fun xs S => match xs with
  | [x] => match toPy cap S x with
    | some p => match p with
      | .list _ => if p.showable = true ∧ p.shown.length ≤ sizeLine then some (.str p.shown, S) else none
      | .tuple _ => if p.showable = true ∧ p.shown.length ≤ sizeLine then some (.str p.shown, S) else none
      | .int i => if i.natAbs.log2 < 1920 then some (.str p.shown, S) else none
      | .none => some (.str "None", S)
      | _ => none
    | none => none
  | _ => none
/-- all of a list as whole numbers -/
def intsOf : List D → Option (List Int)
  | [] => some []
  | .int i :: r => (intsOf r).map (i :: ·)
  | _ :: _ => none
theorem intsOf_eq : ∀ {ds : List D} {ns : List Int}, intsOf ds = some ns → ds = ns.map D.int
  | [], _, h => by cases h; rfl
  | .int i :: r, _, h => by
    unfold intsOf at h
    cases e : intsOf r with
    | none => rw [e] at h; cases h
    | some ns => rw [e] at h; cases h; rw [intsOf_eq e]; rfl
  | .non :: _, _, h => by cases h
  | .bl _ :: _, _, h => by cases h
  | .str _ :: _, _, h => by cases h
  | .tup _ :: _, _, h => by cases h
  | .ref _ :: _, _, h => by cases h
  | .obj _ :: _, _, h => by cases h
def bSum : OpN := fun xs S => match xs with
  | [x] => match listOf S x with
    | some ds => match intsOf ds with
      | some ns => some (.int ns.sum, S)
      | none => none
    | none => none
  | _ => none
/-- ascending -/
def sortI (ns : List Int) : List Int := ns.mergeSort (· ≤ ·)
/-- all of the keys as whole numbers -/
def keysI : List (Key × D) → Option (List Int)
  | [] => some []
  | (.inl i, _) :: r => (keysI r).map (i :: ·)
  | _ :: _ => none
theorem keysI_ok {K : PySem.W.Frag} {m : List Addr} {H : Hp} : ∀ {kvs : List (Key × D)} {ps : List (Key × V)} {ns : List Int}, RKV K m H kvs ps → keysI kvs = some ns → ps.map (·.1) = ns.map Sum.inl
  | [], [], _, _, h => by cases h; rfl
  | (.inl i, _) :: r, (k', _) :: r', _, ⟨e, _, q⟩, h => by
    subst e
    unfold keysI at h
    cases e : keysI r with
    | none => rw [e] at h; cases h
    | some ms =>
      rw [e] at h
      cases h
      simp only [List.map_cons]
      rw [keysI_ok q e]
  | (.inr _, _) :: _, _ :: _, _, _, h => by cases h
  | [], _ :: _, _, h, _ => h.elim
  | _ :: _, [], _, h, _ => h.elim
def bSorted : OpN := fun xs S => match xs with
  | [x] => match listOf S x with
    | some ds => match intsOf ds with
      | some ns => some (.ref S.length, S ++ [.lst ((sortI ns).map D.int)])
      | none => none
    | none => match dictOf S x with
      | some kvs => match keysI kvs with
        | some ns => if ns.length < 64 then some (.ref S.length, S ++ [.lst ((sortI ns).map D.int)]) else none
        | none => none
      | none => none
  | _ => none
section
variable {X : Cx}
theorem call_lenM : CallR X (.builtin "len") (rN X.K bLen) := by
  intro pins s σ H xs us Q I r h
  obtain ⟨m, S, ds, R, rds, q⟩ := h
  unfold bLen at q
  split at q
  · obtain ⟨y, rfl, ry⟩ := rds.one
    cases ry
    split at q
    · rename_i hz
      exact call_len_str pins s σ H _ us Q I r ⟨_, rfl, hz, q.here R (.int _)⟩
    · exact q.bad.elim
  · obtain ⟨y, rfl, ry⟩ := rds.one
    split at q
    · rename_i kvs hk
      obtain ⟨a, ps, r0, _, hr, rfl, h1, h2⟩ := dictOf_ok R ry hk
      exact call_lenD pins s σ H _ us Q I r ⟨a, ps, rfl, h1, by rw [← rkv_length h2]; exact q.here R (.int _)⟩
    · split at q
      · rename_i es e
        obtain ⟨a, zs, rfl, h1, h2⟩ := seqOf_ok R ry e
        exact call_len_seq pins s σ H _ us Q I r ⟨a, zs, rfl, h1, by rw [← h2.length]; exact q.here R (.int _)⟩
      · exact q.bad.elim
  · exact q.bad.elim
theorem call_absM : CallR X (.builtin "abs") (rN X.K bAbs) := by
  intro pins s σ H xs us Q I r h
  obtain ⟨m, S, ds, R, rds, q⟩ := h
  unfold bAbs at q
  split at q
  · obtain ⟨y, rfl, ry⟩ := rds.one
    cases ry
    exact call_abs pins s σ H _ us Q I r ⟨_, rfl, q.here R (.int _)⟩
  · exact q.bad.elim
theorem call_maxM (hc : X.calm = true) : CallR X (.builtin "max") (rN X.K bMax) := by
  intro pins s σ H xs us Q I r h
  obtain ⟨m, S, ds, R, rds, q⟩ := h
  unfold bMax at q
  split at q
  · obtain ⟨y, z, rfl, ry, rz⟩ := rds.two
    cases ry; cases rz
    exact call_max2 hc pins s σ H _ us Q I r ⟨_, _, rfl, q.here R (.int _)⟩
  · exact q.bad.elim
theorem call_minM (hc : X.calm = true) : CallR X (.builtin "min") (rN X.K bMin) := by
  intro pins s σ H xs us Q I r h
  obtain ⟨m, S, ds, R, rds, q⟩ := h
  unfold bMin at q
  split at q
  · obtain ⟨y, z, rfl, ry, rz⟩ := rds.two
    cases ry; cases rz
    exact call_min2 hc pins s σ H _ us Q I r ⟨_, _, rfl, q.here R (.int _)⟩
  · exact q.bad.elim
theorem call_intM : CallR X (.type "int") (rN X.K bInt) := by
  intro pins s σ H xs us Q I r h
  obtain ⟨m, S, ds, R, rds, q⟩ := h
  unfold bInt at q
  split at q
  · obtain ⟨y, rfl, ry⟩ := rds.one
    cases ry
    exact call_int1 pins s σ H _ us Q I r (.inl ⟨_, rfl, q.here R (.int _)⟩)
  · obtain ⟨y, rfl, ry⟩ := rds.one
    cases ry
    exact call_int1 pins s σ H _ us Q I r (.inr ⟨_, rfl, q.here R (.int _)⟩)
  · obtain ⟨y, rfl, ry⟩ := rds.one
    cases ry
    split at q
    · rename_i hz
      split at q
      · rename_i n hn
        exact call_int_str pins s σ H _ us Q I r ⟨_, n, rfl, hn, hz, q.here R (.int _)⟩
      · exact q.bad.elim
    · exact q.bad.elim
  · exact q.bad.elim
theorem call_strM : CallR X (.type "str") (rN X.K bStr) := by
  intro pins s σ H xs us Q I r h
  obtain ⟨m, S, ds, R, rds, q⟩ := h
  unfold bStr at q
  split at q
  · obtain ⟨y, rfl, ry⟩ := rds.one
    cases ry
    split at q
    · rename_i hz
      exact call_str_int pins s σ H _ us Q I r ⟨_, rfl, hz, q.here R (.str _)⟩
    · exact q.bad.elim
  · obtain ⟨y, rfl, ry⟩ := rds.one
    cases ry
    exact SkE.call_str_str pins s σ H _ us Q I r ⟨_, rfl, q.here R (.str _)⟩
  · exact q.bad.elim
theorem call_tupleM : CallR X (.type "tuple") (rN X.K bTuple) := by
  intro pins s σ H xs us Q I r h
  obtain ⟨m, S, ds, R, rds, q⟩ := h
  unfold bTuple at q
  split at q
  · obtain ⟨y, rfl, ry⟩ := rds.one
    cases ry with
    | tup h1 h2 => exact call_tuple_of pins s σ H _ us Q I r ⟨_, _, rfl, .inr ⟨h1, q.here R (.tup h1 h2)⟩⟩
  · obtain ⟨y, rfl, ry⟩ := rds.one
    split at q
    · rename_i es e
      obtain ⟨a, zs, rfl, h1, h2⟩ := listOf_ok R ry e
      exact call_tuple_of pins s σ H _ us Q I r ⟨a, zs, rfl, .inl ⟨h1, fun p hp => q.tup R h2 hp⟩⟩
    · exact q.bad.elim
  · exact q.bad.elim
theorem call_listM : CallR X (.type "list") (rN X.K bList) := by
  intro pins s σ H xs us Q I r h
  obtain ⟨m, S, ds, R, rds, q⟩ := h
  unfold bList at q
  split at q
  · obtain ⟨y, rfl, ry⟩ := rds.one
    split at q
    · rename_i es e
      obtain ⟨a, zs, rfl, h1, h2⟩ := seqOf_ok R ry e
      exact call_list_of pins s σ H _ us Q I r ⟨a, zs, rfl, h1, fun p hp => q.lst R h2 hp⟩
    · exact q.bad.elim
  · exact q.bad.elim
theorem call_sumM (hc : X.calm = true) : CallR X (.builtin "sum") (rN X.K bSum) := by
  intro pins s σ H xs us Q I r h
  obtain ⟨m, S, ds, R, rds, q⟩ := h
  unfold bSum at q
  split at q
  · obtain ⟨y, rfl, ry⟩ := rds.one
    split at q
    · rename_i es e
      split at q
      · rename_i ns en
        obtain ⟨a, zs, rfl, h1, h2⟩ := listOf_ok R ry e
        rw [intsOf_eq en] at h2
        have := h2.ints
        subst this
        exact cr_sum hc pins s σ H _ us Q I r ⟨a, ns, rfl, h1, q.here R (.int _)⟩
      · exact q.bad.elim
    · exact q.bad.elim
  · exact q.bad.elim
theorem call_sortedM (hc : X.calm = true) : CallR X (.builtin "sorted") (rN X.K bSorted) := by
  intro pins s σ H xs us Q I r h
  obtain ⟨m, S, ds, R, rds, q⟩ := h
  unfold bSorted at q
  split at q
  · obtain ⟨y, rfl, ry⟩ := rds.one
    split at q
    · rename_i es e
      split at q
      · rename_i ns en
        obtain ⟨a, zs, rfl, h1, h2⟩ := listOf_ok R ry e
        rw [intsOf_eq en] at h2
        have := h2.ints
        subst this
        refine cr_sortedI pins s σ H _ us Q I r ⟨a, ns, rfl, h1, fun ns' p pm pw hp => ?_⟩
        have e' : ns' = sortI ns := by
          unfold sortI
          refine (pm.trans (List.mergeSort_perm ns _).symm).eq_of_pairwise (fun x y _ _ h1 h2 => Int.le_antisymm h1 h2) pw ?_
          · have := List.pairwise_mergeSort (le := fun a b : Int => decide (a ≤ b)) (by intro a b c h1 h2; simp at *; omega) (by intro a b; simp; omega) ns
            exact this.imp (by intro a b h; simpa using h)
        rw [e']
        exact q.lst R (RDs.of_ints _) hp
      · exact q.bad.elim
    · split at q
      · rename_i kvs ed
        split at q
        · rename_i ns en
          split at q
          · rename_i hl
            obtain ⟨a, ps, r0, _, _, rfl, h1, h2⟩ := dictOf_ok R ry ed
            refine call_sortedDI hc pins s σ H _ us Q I r ⟨a, ps, ns, rfl, .inl h1, keysI_ok h2 en, hl, fun ns' p pm pw hp => ?_⟩
            have e' : ns' = sortI ns := by
              unfold sortI
              refine (pm.trans (List.mergeSort_perm ns _).symm).eq_of_pairwise (fun x y _ _ h1 h2 => Int.le_antisymm h1 h2) pw ?_
              · have := List.pairwise_mergeSort (le := fun a b : Int => decide (a ≤ b)) (by intro a b c h1 h2; simp at *; omega) (by intro a b; simp; omega) ns
                exact this.imp (by intro a b h; simpa using h)
            rw [e']
            exact q.lst R (RDs.of_ints _) hp
          · exact q.bad.elim
        · exact q.bad.elim
      · exact q.bad.elim
  · exact q.bad.elim
theorem call_reprM (hg : X.A.guards = some []) (hu : X.A.units + 65 < cLine) : CallR X (.builtin "repr") (rN X.K bRepr) := by
  intro pins s σ H xs us Q I r h
  obtain ⟨m, S, ds, R, rds, q⟩ := h
  unfold bRepr at q
  split at q
  · obtain ⟨y, rfl, ry⟩ := rds.one
    cases r with
    | cons rv rn =>
      rename_i u us'
      cases rn
      split at q
      · rename_i p ep
        have L := toPy_lays _ _ _ ep
        obtain ⟨as, rr⟩ := Dp.reads I _ _ _ (dp_of R _ _ _ _ ry ep) rv
        have hd : X.A.units + (p.depth + 1) < cLine := by have := L.2.1; unfold cap at this; omega
        split at q
        · split at q
          · rename_i hs
            have rr' := rr
            cases rr' with
            | list a1 a2 a3 a4 =>
              exact PySem.repr_of_reads' rr hs.1 (PyData.noDict_hsm L.2.2) hg hd (fun _ _ e => e) (fun h' u' tk hk => ⟨.str _, H, I.kept hk, ⟨_, rfl⟩, q.here R (.str _)⟩) hs.2
          · exact q.bad.elim
        · split at q
          · rename_i hs
            have rr' := rr
            cases rr' with
            | tuple a1 a2 a3 a4 =>
              exact PySem.repr_of_reads' rr hs.1 (PyData.noDict_hsm L.2.2) hg hd (fun _ _ e => e) (fun h' u' tk hk => ⟨.str _, H, I.kept hk, ⟨_, rfl⟩, q.here R (.str _)⟩) hs.2
          · exact q.bad.elim
        · split at q
          · rename_i hs
            cases rr
            have q' : EndO X.K m H (some (.str (toString _), S)) Q := q
            have w : V.int _ = y := RelV.inj (u := .int _ _) ⟨_, rfl⟩ rv
            subst w
            exact SkE.call_repr_int pins s σ H _ _ Q I (.cons rv .nil) ⟨_, rfl, hs, q'.here R (.str _)⟩
          · exact q.bad.elim
        · cases rr
          exact PySem.P.repr_of_none ⟨.str _, H, I.kept (t' := s.toks + 1) (fun _ _ e => e), ⟨_, rfl⟩, q.here R (.str _)⟩
        · exact q.bad.elim
      · exact q.bad.elim
  · exact q.bad.elim
end
end MP
set_option Elab.async false
set_option linter.all false
set_option maxRecDepth 100000
set_option maxHeartbeats 4000000
namespace MP
open PySem PySem.Spec PyProof.Rows L2

/-! ### statements -/
def EndS (K : PySem.W.Frag) (m : List Addr) (H : Hp) (W : WX) (E : Ends) (r : SRes) : Prop := match r with
  | .next ρ S => ∀ m' σ' H', Aft m H m' H' → Rel K m' S H' → RE K m' H' ρ σ' → E.nx σ' H'
  | .ret d S => ∀ m' v H', Aft m H m' H' → Rel K m' S H' → RD K m' H' d v → E.rt v H'
  | .brk ρ S => ∀ m' σ' H', Aft m H m' H' → Rel K m' S H' → RE K m' H' ρ σ' → E.bk σ' H'
  | .cont ρ S => ∀ m' σ' H', Aft m H m' H' → Rel K m' S H' → RE K m' H' ρ σ' → E.ct σ' H'
  | .exc x ρ S => ∀ m' σ' H' cls dd, Aft m H m' H' → Rel K m' S H' → RE K m' H' ρ σ' → ExR K m' H' x cls dd → W cls dd σ' H'
  | .bad => False
def tMS (K : PySem.W.Frag) (W : WX) (g : G) : TS := fun E σ H => ∃ m ρ S, RE K m H ρ σ ∧ Rel K m S H ∧ EndS K m H W E (g ρ S)
abbrev MS (X : Cx) (W : WX) (st : Stmt) (g : G) : Prop := PS X st (tMS X.K W g)
abbrev MSs (X : Cx) (W : WX) (st : List Stmt) (g : G) : Prop := PSs X st (tMS X.K W g)
def sBind {α : Type} (r : Res α) (ρ : Env) (k : α → Store → SRes) : SRes := match r with
  | .ok a S => k a S
  | .exc x S => .exc x ρ S
  | .bad => .bad
section
variable {K : PySem.W.Frag} {m m1 : List Addr} {H H1 : Hp} {W : WX} {E E' : Ends} {r : SRes}
theorem EndS.back (e : Aft m H m1 H1) (h : EndS K m H W E r) : EndS K m1 H1 W E r := by
  cases r with
  | next ρ S => exact fun m' σ' H' a b c => h m' σ' H' (e.trans a) b c
  | ret d S => exact fun m' σ' H' a b c => h m' σ' H' (e.trans a) b c
  | brk ρ S => exact fun m' σ' H' a b c => h m' σ' H' (e.trans a) b c
  | cont ρ S => exact fun m' σ' H' a b c => h m' σ' H' (e.trans a) b c
  | exc x ρ S => exact fun m' σ' H' c d a b f g => h m' σ' H' c d (e.trans a) b f g
  | bad => exact h
theorem EndS.step {α β : Type} {R : List Addr → Hp → α → β → Prop} {ρ : Env} {σ : L2.St} {a : Res α} {k : α → Store → SRes} (hr : RE K m H ρ σ) (h : EndS K m H W E (sBind a ρ k)) :
    EndM K m H R (fun c d H' => W c d σ H') a fun v H1 => ∃ d S1 m1, R m1 H1 d v ∧ Aft m H m1 H1 ∧ Rel K m1 S1 H1 ∧ EndS K m1 H1 W E (k d S1) := by
  cases a with
  | ok d S => exact fun m' v H' a b c => ⟨d, S, m', c, a, b, EndS.back a h⟩
  | exc x S => exact fun m' H' c d a b e => h m' σ H' c d a b (hr.mono a) e
  | bad => exact h
end
section
variable {X : Cx} {W : WX} {a b c e : Expr} {es : List Expr} {fa fb fc fe : F} {ft fu : T} {fs : A} {g g1 g2 : G} {st : Stmt} {sts rest : List Stmt} {pos : Pos}
theorem sM_step {E : Ends} {σ : L2.St} {H : Hp} {Q : VK} {m : List Addr} {ρ : Env} {S : Store} {f : F} {k : D → Store → SRes} (hr : RE X.K m H ρ σ) (R : Rel X.K m S H) (h : EndS X.K m H W E (sBind (f ρ S) ρ k))
    (kk : ∀ v H1 d S1 m1, RD X.K m1 H1 d v → Aft m H m1 H1 → Rel X.K m1 S1 H1 → EndS X.K m1 H1 W E (k d S1) → Q v H1) : tM X.K W f σ H Q :=
  ⟨m, ρ, S, hr, R, (EndS.step (R := RD X.K) hr h).mono fun v H1 ⟨d, S1, m1, a, b, c, e⟩ => kk v H1 d S1 m1 a b c e⟩
theorem sT_step {E : Ends} {σ : L2.St} {H : Hp} {Q : Bool → Hp → Prop} {m : List Addr} {ρ : Env} {S : Store} {f : T} {k : Bool → Store → SRes} (hr : RE X.K m H ρ σ) (R : Rel X.K m S H) (h : EndS X.K m H W E (sBind (f ρ S) ρ k))
    (kk : ∀ v H1 S1 m1, Aft m H m1 H1 → Rel X.K m1 S1 H1 → EndS X.K m1 H1 W E (k v S1) → Q v H1) : tT X.K W f σ H Q :=
  ⟨m, ρ, S, hr, R, (EndS.step (R := RBool) hr h).mono fun v H1 ⟨d, S1, m1, a, b, c, e⟩ => by cases a; exact kk _ H1 S1 m1 b c e⟩
theorem sA_step {E : Ends} {σ : L2.St} {H : Hp} {Q : List V → Hp → Prop} {m : List Addr} {ρ : Env} {S : Store} {f : A} {k : List D → Store → SRes} (hr : RE X.K m H ρ σ) (R : Rel X.K m S H) (h : EndS X.K m H W E (sBind (f ρ S) ρ k))
    (kk : ∀ v H1 d S1 m1, RDs X.K m1 H1 d v → Aft m H m1 H1 → Rel X.K m1 S1 H1 → EndS X.K m1 H1 W E (k d S1) → Q v H1) : tA X.K W f σ H Q :=
  ⟨m, ρ, S, hr, R, (EndS.step (R := RDs X.K) hr h).mono fun v H1 ⟨d, S1, m1, a, b, c, e⟩ => kk v H1 d S1 m1 a b c e⟩

def gNext : G := fun ρ S => .next ρ S
def gSeq (g1 g2 : G) : G := fun ρ S => match g1 ρ S with
  | .next ρ' S' => g2 ρ' S'
  | r => r
theorem mss_nil : MSs X W [] gNext := PSs.imp pss_nil fun E σ H ⟨m, ρ, S, hr, R, q⟩ => q m σ H Aft.refl R hr
theorem mss_cons (h1 : MS X W st g1) (h2 : MSs X W rest g2) : MSs X W (st :: rest) (gSeq g1 g2) :=
  PSs.imp (pss_cons h1 h2) fun E σ H ⟨m, ρ, S, hr, R, q⟩ => by
    refine ⟨m, ρ, S, hr, R, ?_⟩
    unfold gSeq at q
    cases e : g1 ρ S with
    | next ρ' S' => rw [e] at q; exact fun m' σ' H' a b c => ⟨m', ρ', S', c, b, q.back a⟩
    | ret d S' => rw [e] at q; exact q
    | brk d S' => rw [e] at q; exact q
    | cont d S' => rw [e] at q; exact q
    | exc x d S' => rw [e] at q; exact q
    | bad => rw [e] at q; exact q
theorem mss_one (h1 : MS X W st g1) : MSs X W [st] g1 := pss_one h1
theorem ms_pass : MS X W (.Pass pos) gNext := PS.imp ps_pass fun E σ H ⟨m, ρ, S, hr, R, q⟩ => q m σ H Aft.refl R hr
def gBrk : G := fun ρ S => .brk ρ S
def gCont : G := fun ρ S => .cont ρ S
theorem ms_break : MS X W (.Break pos) gBrk := PS.imp ps_break fun E σ H ⟨m, ρ, S, hr, R, q⟩ => q m σ H Aft.refl R hr
theorem ms_continue : MS X W (.Continue pos) gCont := PS.imp ps_continue fun E σ H ⟨m, ρ, S, hr, R, q⟩ => q m σ H Aft.refl R hr
def gExpr (f : F) : G := fun ρ S => sBind (f ρ S) ρ fun _ S' => .next ρ S'
theorem ms_expr (he : ME X W e fe) (hs : swapsWith e none pos.line X.env = pure false := by rfl) : MS X W (.Expr e pos) (gExpr fe) :=
  PS.imp (ps_expr he hs) fun E σ H ⟨m, ρ, S, hr, R, q⟩ => sM_step hr R q fun v H1 d S1 m1 rd a b q1 => q1 m1 σ H1 Aft.refl b (hr.mono a)
def gRet (f : F) : G := fun ρ S => sBind (f ρ S) ρ fun d S' => .ret d S'
theorem ms_ret (he : ME X W e fe) : MS X W (.Return (some e) pos) (gRet fe) :=
  PS.imp (ps_ret he) fun E σ H ⟨m, ρ, S, hr, R, q⟩ => sM_step hr R q fun v H1 d S1 m1 rd a b q1 => q1 m1 v H1 Aft.refl b rd
def gRetN : G := fun ρ S => .ret .non S
theorem ms_retN : MS X W (.Return none pos) gRetN := PS.imp ps_retN fun E σ H ⟨m, ρ, S, hr, R, q⟩ => q m .non H Aft.refl R .non
def gIf (ft : T) (g1 g2 : G) : G := fun ρ S => sBind (ft ρ S) ρ fun k S' => if k = true then g1 ρ S' else g2 ρ S'
theorem ms_if {c : Expr} {p q : List Stmt} (hc : MT X W c ft) (ha : MSs X W p g1) (hb : MSs X W q g2) : MS X W (.If c p q pos) (gIf ft g1 g2) :=
  PS.imp (ps_if hc ha hb) fun E σ H ⟨m, ρ, S, hr, R, q⟩ => sT_step hr R q fun k H1 S1 m1 a b q1 => by
    cases k with
    | true => simp only [if_true] at q1 ⊢; exact ⟨m1, ρ, S1, hr.mono a, b, q1⟩
    | false => simp only [Bool.false_eq_true, if_false] at q1 ⊢; exact ⟨m1, ρ, S1, hr.mono a, b, q1⟩

/-! ### targets -/
theorem RE.set {K : PySem.W.Frag} {m : List Addr} {H : Hp} {ρ : Env} {σ : L2.St} {i : Nat} {d : D} {v : V} (h : RE K m H ρ σ) (r : RD K m H d v) : RE K m H (ρ.set i (some d)) (σ.set i (some v)) := by
  refine ⟨by simp [h.1], fun j e q => ?_⟩
  by_cases hj : i = j
  · subst hj
    by_cases hl : i < ρ.length
    · rw [List.getElem?_set_self hl] at q
      cases q
      exact ⟨v, by rw [List.getElem?_set_self (by rw [← h.1]; exact hl)], r⟩
    · rw [List.getElem?_eq_none (by simpa using hl)] at q; cases q
  · rw [List.getElem?_set_ne hj] at q
    obtain ⟨w, h1, h2⟩ := h.2 j e q
    exact ⟨w, by rw [List.getElem?_set_ne hj]; exact h1, h2⟩
theorem RE.clear {K : PySem.W.Frag} {m : List Addr} {H : Hp} {ρ : Env} {σ : L2.St} {i : Nat} {o : Option V} (h : RE K m H ρ σ) : RE K m H (ρ.set i none) (σ.set i o) := by
  refine ⟨by simp [h.1], fun j e q => ?_⟩
  by_cases hj : i = j
  · subst hj
    by_cases hl : i < ρ.length
    · rw [List.getElem?_set_self hl] at q; cases q
    · rw [List.getElem?_eq_none (by simpa using hl)] at q; cases q
  · rw [List.getElem?_set_ne hj] at q
    obtain ⟨w, h1, h2⟩ := h.2 j e q
    exact ⟨w, by rw [List.getElem?_set_ne hj]; exact h1, h2⟩
/-- a target: what is stored, the slots that may change -/
abbrev Pat := D → Env → Store → Option (Env × Store)
def tG (K : PySem.W.Frag) (p : Pat) (vs : List Nat) : TG := fun v σ H Q => ∃ m ρ S d, RE K m H ρ σ ∧ Rel K m S H ∧ RD K m H d v ∧ ∃ ρ' S', p d ρ S = some (ρ', S') ∧
  ∀ m' σ' H', Aft m H m' H' → Rel K m' S' H' → RE K m' H' ρ' σ' → σ'.length = σ.length → (∀ i, i ∉ vs → σ'[i]? = σ[i]?) → Q σ' H'
def tGs (K : PySem.W.Frag) (p : List D → Env → Store → Option (Env × Store)) (vs : List Nat) : TGs := fun xs σ H Q => ∃ m ρ S ds, RE K m H ρ σ ∧ Rel K m S H ∧ RDs K m H ds xs ∧ ∃ ρ' S', p ds ρ S = some (ρ', S') ∧
  ∀ m' σ' H', Aft m H m' H' → Rel K m' S' H' → RE K m' H' ρ' σ' → σ'.length = σ.length → (∀ i, i ∉ vs → σ'[i]? = σ[i]?) → Q σ' H'
abbrev MG (X : Cx) (tg : Expr) (p : Pat) (vs : List Nat) : Prop := PG X tg (tG X.K p vs)
abbrev MGs (X : Cx) (tgs : List Expr) (p : List D → Env → Store → Option (Env × Store)) (vs : List Nat) : Prop := PGs X tgs (tGs X.K p vs)
theorem PG.imp {e : Expr} {t t' : TG} (h : PG X e t) (i : ∀ v σ H Q, t' v σ H Q → t v σ H Q) : PG X e t' := ⟨fun pins s σ H v u Q I r q => h.run pins s σ H v u Q I r (i v σ H Q q)⟩
theorem PGs.imp {e : List Expr} {t t' : TGs} (h : PGs X e t) (i : ∀ v σ H Q, t' v σ H Q → t v σ H Q) : PGs X e t' := ⟨fun pins s σ H v u Q I r q => h.run pins s σ H v u Q I r (i v σ H Q q)⟩
def pName (i : Nat) : Pat := fun d ρ S => some (ρ.set i (some d), S)
theorem mg_name {i : Nat} {x : Str} (hN : X.N.Nodup) (hi : X.N[i]? = some x := by rfl) (hx : Loc X.env.scope x := by first | exact Or.inl rfl | exact Or.inr rfl) (hf : X.fn x = true ∨ X.env.scope.names.lookup x = some .local := by first | exact .inl rfl | exact .inr rfl | assumption) : MG X (.Name x pos) (pName i) [i] :=
  PG.imp (pg_name hN hi hx hf) fun v σ H Q ⟨m, ρ, S, d, hr, R, rd, ρ', S', e, k⟩ => by
    cases e
    exact k m _ H Aft.refl R (hr.set rd) (by simp) fun j hj => by rw [List.getElem?_set_ne (by simpa using fun h => hj (by simp [h]))]
def psNil : List D → Env → Store → Option (Env × Store) := fun ds ρ S => match ds with
  | [] => some (ρ, S)
  | _ => none
def psCons (p : Pat) (q : List D → Env → Store → Option (Env × Store)) : List D → Env → Store → Option (Env × Store) := fun ds ρ S => match ds with
  | d :: r => match p d ρ S with
    | some (ρ', S') => q r ρ' S'
    | none => none
  | [] => none
theorem mgs_nil : MGs X [] psNil [] := PGs.imp pgs_nil fun xs σ H Q ⟨m, ρ, S, ds, hr, R, rd, ρ', S', e, k⟩ => by
  cases ds with
  | nil => cases rd; cases e; exact ⟨rfl, k m σ H Aft.refl R hr rfl fun _ _ => rfl⟩
  | cons _ _ => cases e
theorem mgs_cons {e : Expr} {es : List Expr} {p : Pat} {q : List D → Env → Store → Option (Env × Store)} {vs ws : List Nat} (h1 : MG X e p vs) (h2 : MGs X es q ws)
    (hs : (assignEach (e :: es) X.env).map (·.2) = assign e X.env :: (assignEach es X.env).map (·.2) := by rfl) : MGs X (e :: es) (psCons p q) (vs ++ ws) :=
  PGs.imp (pgs_cons h1 h2 hs) fun xs σ H Q ⟨m, ρ, S, ds, hr, R, rd, ρ', S', e, k⟩ => by
    cases ds with
    | nil => cases e
    | cons d r =>
      cases rd with
      | cons r1 r2 =>
        simp only [psCons] at e
        cases e1 : p d ρ S with
        | none => rw [e1] at e; cases e
        | some w =>
          obtain ⟨ρ1, S1⟩ := w
          rw [e1] at e
          refine ⟨_, _, rfl, m, ρ, S, d, hr, R, r1, ρ1, S1, e1, fun m1 σ1 H1 a1 R1 hr1 l1 k1 => ?_⟩
          refine ⟨m1, ρ1, S1, r, hr1, R1, r2.mono a1, ρ', S', e, fun m2 σ2 H2 a2 R2 hr2 l2 k2 => ?_⟩
          refine k m2 σ2 H2 (a1.trans a2) R2 hr2 (l2.trans l1) fun i hi => ?_
          rw [k2 i (fun h => hi (List.mem_append_right _ h)), k1 i (fun h => hi (List.mem_append_left _ h))]
def pTup (n : Nat) (q : List D → Env → Store → Option (Env × Store)) : Pat := fun d ρ S => match d with
  | .tup ds => if ds.length = n then q ds ρ S else none
  | _ => none
theorem mg_tup {es : List Expr} {k n : Nat} {q : List D → Env → Store → Option (Env × Store)} {vs : List Nat} (hc : X.calm = true) (h : MGs X es q vs)
    (hn : (assignEach es X.env).length = n := by rfl) (hst : (assignEach es X.env).findIdx? (·.1) = none := by rfl) : MG X (.Tuple es k pos) (pTup n q) vs :=
  PG.imp (pg_tup hc h hn hst) fun v σ H Q ⟨m, ρ, S, d, hr, R, rd, ρ', S', e, k⟩ => by
    cases rd with
    | tup h1 h2 =>
      simp only [pTup] at e
      split at e
      · rename_i hl
        exact ⟨_, _, rfl, h1, by rw [← h2.length]; exact hl, m, ρ, S, _, hr, R, h2, ρ', S', e, k⟩
      · cases e
    | _ => cases e
/-- a list unpacked -/
def pLst (n : Nat) (q : List D → Env → Store → Option (Env × Store)) : Pat := fun d ρ S => match d with
  | .tup _ => none
  | d => match listOf S d with
    | some ds => if ds.length = n then q ds ρ S else none
    | none => none
theorem mg_lst {es : List Expr} {k n : Nat} {q : List D → Env → Store → Option (Env × Store)} {vs : List Nat} (hc : X.calm = true) (h : MGs X es q vs)
    (hn : (assignEach es X.env).length = n := by rfl) (hst : (assignEach es X.env).findIdx? (·.1) = none := by rfl) : MG X (.Tuple es k pos) (pLst n q) vs :=
  PG.imp (pg_unl hc h hn hst) fun v σ H Q ⟨m, ρ, S, d, hr, R, rd, ρ', S', e, k⟩ => by
    have go : ∀ ds, listOf S d = some ds → (if ds.length = n then q ds ρ S else none) = some (ρ', S') → gUnl X.K n (tGs X.K q vs) v σ H Q := fun ds el e => by
      obtain ⟨a, xs, rfl, h1, h2⟩ := listOf_ok R rd el
      split at e
      · rename_i hl
        exact ⟨a, xs, rfl, h1, by rw [← h2.length]; exact hl, m, ρ, S, ds, hr, R, h2, ρ', S', e, k⟩
      · cases e
    unfold pLst at e
    split at e
    · cases e
    · split at e
      · rename_i ds el
        exact go ds el e
      · cases e
/-- target = e -/
def gAsg (f : F) (p : Pat) : G := fun ρ S => sBind (f ρ S) ρ fun d S' => match p d ρ S' with
  | some (ρ', S2) => .next ρ' S2
  | none => .bad
theorem asg_of {E : Ends} {σ : L2.St} {H : Hp} {p : Pat} {vs : List Nat} (h : tMS X.K W (gAsg fe p) E σ H) : tAsg (tM X.K W fe) (tG X.K p vs) E σ H := by
  obtain ⟨m, ρ, S, hr, R, q⟩ := h
  refine sM_step hr R q fun v H1 d S1 m1 rd a b q1 => ?_
  cases e1 : p d ρ S1 with
  | none => simp only [e1] at q1; exact q1.elim
  | some w =>
    obtain ⟨ρ', S2⟩ := w
    simp only [e1] at q1
    exact ⟨m1, ρ, S1, d, hr.mono a, b, rd, ρ', S2, e1, fun m' σ' H' a' R' hr' _ _ => q1 m' σ' H' a' R' hr'⟩
theorem ms_set {i : Nat} {x : Str} {pos' : Pos} (hN : X.N.Nodup) (he : ME X W e fe) (hi : X.N[i]? = some x := by rfl) (hx : Loc X.env.scope x := by first | exact Or.inl rfl | exact Or.inr rfl) (hs : swapsWith e (some (.Name x pos')) pos.line X.env = pure false := by rfl) (hf : X.fn x = true ∨ X.env.scope.names.lookup x = some .local := by first | exact .inl rfl | exact .inr rfl | assumption) :
    MS X W (.Assign [.Name x pos'] e pos) (gAsg fe (pName i)) :=
  PS.imp (ps_set hN hi hx he hs hf) fun E σ H h => by
    obtain ⟨m, ρ, S, hr, R, q⟩ := h
    refine sM_step hr R q fun v H1 d S1 m1 rd a b q1 => ?_
    exact q1 m1 _ H1 Aft.refl b ((hr.mono a).set rd)
theorem ms_asg {tg : Expr} {p : Pat} {vs : List Nat} (he : ME X W e fe) (hg : MG X tg p vs) (hs : swapsWithSole [tg] e pos.line X.env = pure false := by rfl) (hw : swappedStores [tg] e X.env = pure none := by rfl)
    (h1 : (assignEach [tg] X.env).map (·.2) = [assign tg X.env] := by rfl) : MS X W (.Assign [tg] e pos) (gAsg fe p) :=
  PS.imp (ps_asg he hg hs hw h1) fun E σ H h => asg_of h
/-- a, b = e1, e2 with plain local names -/
def gPar (i j : Nat) (fs : A) : G := fun ρ S => sBind (fs ρ S) ρ fun ds S' => match ds with
  | [d, e] => .next ((ρ.set i (some d)).set j (some e)) S'
  | _ => .bad
theorem ms_par {i j : Nat} {x y : Str} {px py pt : Pos} {kt k2 pt2} (hc : X.calm = true) (hN : X.N.Nodup) (ha : MA X W [a, b] fs) (hi : X.N[i]? = some x := by rfl) (hj : X.N[j]? = some y := by rfl) (hij : i ≠ j := by decide)
    (hx : X.env.scope.names.lookup x = some .local := by rfl) (hy : X.env.scope.names.lookup y = some .local := by rfl)
    (hw : swappedStores [.Tuple [.Name x px, .Name y py] kt pt] (.Tuple [a, b] k2 pt2) X.env = pure (some [x, y]) := by rfl)
    (hs : swapsWithSole [.Tuple [.Name x px, .Name y py] kt pt] (.Tuple [a, b] k2 pt2) pos.line X.env = pure false := by rfl) :
    MS X W (.Assign [.Tuple [.Name x px, .Name y py] kt pt] (.Tuple [a, b] k2 pt2) pos) (gPar i j fs) :=
  PS.imp (ps_par hc hN hi hj hij hx hy ha hw hs) fun E σ H ⟨m, ρ, S, hr, R, q⟩ => sA_step hr R q fun v H1 d S1 m1 rd a b q1 => by
    match d, rd, q1 with
    | [d1, d2], .cons r1 (.cons r2 .nil), q1 => exact ⟨_, _, rfl, q1 m1 _ H1 Aft.refl b (((hr.mono a).set r1).set r2)⟩
    | [], _, q1 => exact q1.elim
    | [_], _, q1 => exact q1.elim
    | _ :: _ :: _ :: _, _, q1 => exact q1.elim
def gPar3 (i j l : Nat) (fs : A) : G := fun ρ S => sBind (fs ρ S) ρ fun ds S' => match ds with
  | [d, e, f] => .next (((ρ.set i (some d)).set j (some e)).set l (some f)) S'
  | _ => .bad
theorem ms_par3 {i j l : Nat} {x y z : Str} {px py pz pt : Pos} {kt k2 pt2} (hc : X.calm = true) (hN : X.N.Nodup) (ha : MA X W [a, b, c] fs) (hi : X.N[i]? = some x := by rfl) (hj : X.N[j]? = some y := by rfl) (hl : X.N[l]? = some z := by rfl) (hij : i ≠ j := by decide) (hil : i ≠ l := by decide) (hjl : j ≠ l := by decide)
    (hx : X.env.scope.names.lookup x = some .local := by rfl) (hy : X.env.scope.names.lookup y = some .local := by rfl) (hz : X.env.scope.names.lookup z = some .local := by rfl)
    (hw : swappedStores [.Tuple [.Name x px, .Name y py, .Name z pz] kt pt] (.Tuple [a, b, c] k2 pt2) X.env = pure (some [x, y, z]) := by rfl)
    (hs : swapsWithSole [.Tuple [.Name x px, .Name y py, .Name z pz] kt pt] (.Tuple [a, b, c] k2 pt2) pos.line X.env = pure false := by rfl) :
    MS X W (.Assign [.Tuple [.Name x px, .Name y py, .Name z pz] kt pt] (.Tuple [a, b, c] k2 pt2) pos) (gPar3 i j l fs) :=
  PS.imp (ps_par3 hc hN hi hj hl hij hil hjl hx hy hz ha hw hs) fun E σ H ⟨m, ρ, S, hr, R, q⟩ => sA_step hr R q fun v H1 d S1 m1 rd a b q1 => by
    match d, rd, q1 with
    | [d1, d2, d3], .cons r1 (.cons r2 (.cons r3 .nil)), q1 => exact ⟨_, _, _, rfl, q1 m1 _ H1 Aft.refl b ((((hr.mono a).set r1).set r2).set r3)⟩
    | [], _, q1 => exact q1.elim
    | [_], _, q1 => exact q1.elim
    | [_, _], _, q1 => exact q1.elim
    | _ :: _ :: _ :: _ :: _, _, q1 => exact q1.elim
/-! ### o[i] = e, name op= e -/
abbrev Op3 := D → D → D → Store → Option Store
def r3 (K : PySem.W.Frag) (g : Op3) : TSet := fun o i v H Q => ∃ m S a b c, Rel K m S H ∧ RD K m H a o ∧ RD K m H b i ∧ RD K m H c v ∧ ∃ S', g a b c S = some S' ∧ ∀ m' H', Aft m H m' H' → Rel K m' S' H' → Q H'
def dSet : Op3 := fun o i v S => match o with
  | .ref r => match S[r]? with
    | some (.lst ds) => match i with
      | .int k => match ixN ds.length k with
        | some j => some (S.set r (.lst (ds.set j v)))
        | none => none
      | _ => none
    | some (.dict kvs) => match keyOf i with
      | some k => if kvs.length < sizeLine then some (S.set r (.dict (setK kvs k v))) else none
      | none => none
    | _ => none
  | _ => none
theorem set_D (hu : X.A.units + 1 < cLine) : PSet X (r3 X.K dSet) := by
  intro pins s σ H o i v ov iv u Q I ro ri rv h
  obtain ⟨m, S, a, b, c, R, ra, rb, rc, S', e, k⟩ := h
  unfold dSet at e
  split at e
  · rename_i r
    cases ra with
    | @ref aa _ hr =>
      split at e
      · rename_i ds es
        obtain ⟨xs, h1, h2⟩ := lst_ok R hr es
        split at e
        · rename_i z
          cases rb
          split at e
          · rename_i j ej
            cases e
            exact set_list pins s σ H _ _ v ov iv u Q I ro ri rv ⟨_, xs, z, j, rfl, rfl, h1, by rw [← h2.length]; exact ej, k m _ (Aft.write R hr (by rw [h1]; trivial)) (R.write hr (by rw [h1]; trivial) ⟨_, upd_same, (h2.mono (Aft.write R hr (by rw [h1]; trivial))).set (rc.mono (Aft.write R hr (by rw [h1]; trivial))) j⟩)⟩
          · cases e
        · cases e
      · rename_i kvs es
        obtain ⟨ps, h1, h2⟩ := dict_ok R hr es
        split at e
        · rename_i key ek
          split at e
          · rename_i hl
            cases e
            have ei := keyOf_ok rb ek
            obtain rfl : ov = Value.ref aa := ro
            have g : DPut H aa i v (upd H aa (.dK (putK ps key v))) := by
              rw [ei]; exact DPut.k h1 (by rw [← rkv_length h2]; exact hl)
            refine d_setItem hu I g ri rv fun s4 I4 => ⟨_, I4, k m _ (Aft.write R hr (by rw [h1]; trivial)) (R.write hr (by rw [h1]; trivial) ⟨_, upd_same, rkv_set (rc.mono (Aft.write R hr (by rw [h1]; trivial))) (h2.mono (Aft.write R hr (by rw [h1]; trivial)))⟩)⟩
          · cases e
        · cases e
      · cases e
  · cases e
def pSub (g : Op3) (fo fi : F) : Pat := fun d ρ S => match fo ρ S with
  | .ok o S1 => match fi ρ S1 with
    | .ok i S2 => match g o i d S2 with
      | some S3 => some (ρ, S3)
      | none => none
    | _ => none
  | _ => none
theorem mg_sub {o i : Expr} {fo fi : F} {g : Op3} (hs : PSet X (r3 X.K g)) (ho : ME X W o fo) (hi : ME X W i fi)
    (ha : ∀ v, assign (.Subscript o i pos) X.env v = (do
      let ov ← holding [v] (eval o X.env)
      let iv ← holding [v, ov] (eval i X.env)
      standAt pos
      holding [v, ov, iv] (setItem ov iv v)
      release [v, ov, iv] []) := by intro _; rfl) : MG X (.Subscript o i pos) (pSub g fo fi) [] :=
  PG.imp (pg_sub ho hi hs ha) fun v σ H Q ⟨m, ρ, S, d, hr, R, rd, ρ', S', e, k⟩ => by
    unfold pSub at e
    cases e1 : fo ρ S with
    | exc x S1 => rw [e1] at e; cases e
    | bad => rw [e1] at e; cases e
    | ok o' S1 =>
      rw [e1] at e
      refine ⟨m, ρ, S, hr, R, ?_⟩
      rw [e1]
      intro m1 vo H1 a1 R1 rd1
      simp only at e
      cases e2 : fi ρ S1 with
      | exc x S1 => rw [e2] at e; cases e
      | bad => rw [e2] at e; cases e
      | ok i' S2 =>
        rw [e2] at e
        refine ⟨m1, ρ, S1, hr.mono a1, R1, ?_⟩
        rw [e2]
        intro m2 vi H2 a2 R2 rd2
        simp only at e
        cases e3 : g o' i' d S2 with
        | none => rw [e3] at e; cases e
        | some S3 =>
          rw [e3] at e
          cases e
          exact ⟨m2, S2, o', i', d, R2, rd1.mono a2, rd2, (rd.mono a1).mono a2, _, e3, fun m3 H3 a3 R3 => k m3 σ H3 ((a1.trans a2).trans a3) R3 (((hr.mono a1).mono a2).mono a3) rfl fun _ _ => rfl⟩
def gAug (i : Nat) (g : Op2) (f : F) : G := fun ρ S => match ρ[i]? with
  | some (some x) => sBind (f ρ S) ρ fun y S' => match g x y S' with
    | some (z, S2) => .next (ρ.set i (some z)) S2
    | none => .bad
  | _ => .bad
theorem ms_aug {i : Nat} {x : Str} {op : Operator} {g : Op2} {pos' : Pos} (hN : X.N.Nodup) (ho : PIp X op (r2 X.K g)) (he : ME X W e fe) (hi : X.N[i]? = some x := by rfl) (hx : Loc X.env.scope x := by first | exact Or.inl rfl | exact Or.inr rfl) (hf : X.fn x = true ∨ X.env.scope.names.lookup x = some .local := by first | exact .inl rfl | exact .inr rfl | assumption) :
    MS X W (.AugAssign (.Name x pos') op e pos) (gAug i g fe) :=
  PS.imp (ps_aug hN hi hx he ho hf) fun E σ H ⟨m, ρ, S, hr, R, q⟩ => by
    cases ex : ρ[i]? with
    | none => simp only [gAug, ex] at q; exact q.elim
    | some o =>
      cases o with
      | none => simp only [gAug, ex] at q; exact q.elim
      | some dx =>
        simp only [gAug, ex] at q
        obtain ⟨vx, h1, h2⟩ := hr.2 i dx ex
        refine ⟨vx, h1, ?_⟩
        refine sM_step hr R q fun v H1 d S1 m1 rd a b q1 => ?_
        cases eg : g dx d S1 with
        | none => simp only [eg] at q1; exact q1.elim
        | some w =>
          obtain ⟨z, S2⟩ := w
          simp only [eg] at q1
          exact ⟨m1, S1, dx, d, b, h2.mono a, rd, z, S2, eg, fun m' v' H' a' R' rd' => q1 m' _ H' a' R' (((hr.mono a).mono a').set rd')⟩
def dIAdd : Op2 := fun x y S => match x, y with
  | .int i, .int j => some (.int (i + j), S)
  | .str a, .str b => if a.length + b.length ≤ sizeLine then some (.str (a ++ b), S) else none
  | _, _ => none
theorem ip_addD : PIp X .Add (r2 X.K dIAdd) := by
  intro pins s σ H x y v u Q I rx ry h
  obtain ⟨m, S, d, e, R, rd, re, q⟩ := h
  unfold dIAdd at q
  split at q
  · cases rd; cases re
    exact ip_add pins s σ H _ _ v u Q I rx ry ⟨_, _, rfl, rfl, q.here R (.int _)⟩
  · cases rd; cases re
    split at q
    · rename_i hl
      exact iop_add_str pins s σ H _ _ v u Q I rx ry ⟨_, _, rfl, rfl, hl, q.here R (.str _)⟩
    · exact q.bad.elim
  · exact q.bad.elim

/-! ### while -/
def whileN (t : T) (b : G) : Nat → Env → Store → SRes
  | 0, _, _ => .bad
  | n + 1, ρ, S => sBind (t ρ S) ρ fun k S1 => if k = true then match b ρ S1 with
      | .next ρ' S' => whileN t b n ρ' S'
      | .cont ρ' S' => whileN t b n ρ' S'
      | .brk ρ' S' => .next ρ' S'
      | r => r
    else .next ρ S1
open Classical in
/-- as many laps as it takes -/
noncomputable def gWhile (t : T) (b : G) : G := fun ρ S => if h : ∃ n, whileN t b n ρ S ≠ .bad then whileN t b (Classical.choose h) ρ S else .bad
theorem ms_while {c : Expr} {body : List Stmt} (hp : PassesOwn (model X.prog X.w) X.A X.env X.xe) (hc : MT X W c ft) (hb : MSs X W body g) : MS X W (.While c body [] pos) (gWhile ft g) :=
  PS.imp (ps_while hp hc hb) fun E σ H ⟨m, ρ, S, hr, R, q⟩ => by
    unfold gWhile at q
    split at q
    · rename_i hn
      generalize Classical.choose hn = n at q
      refine ⟨fun n σ' H' => ∃ m' ρ' S', Aft m H m' H' ∧ Rel X.K m' S' H' ∧ RE X.K m' H' ρ' σ' ∧ EndS X.K m' H' W E (whileN ft g n ρ' S'), ⟨n, m, ρ, S, Aft.refl, R, hr, q⟩, ?_⟩
      rintro k σ1 H1 ⟨m1, ρ1, S1, a1, R1, hr1, q1⟩
      cases k with
      | zero => exact q1.elim
      | succ k =>
        refine sT_step hr1 R1 q1 fun t H2 S2 m2 a2 R2 q2 => ?_
        cases t with
        | false => simp only [Bool.false_eq_true, if_false] at q2 ⊢; exact q2 m2 σ1 H2 Aft.refl R2 (hr1.mono a2)
        | true =>
          simp only [if_true] at q2 ⊢
          refine ⟨fun σ' H' => ∃ m', m' < k + 1 ∧ ∃ m3 ρ' S', Aft m H m3 H' ∧ Rel X.K m3 S' H' ∧ RE X.K m3 H' ρ' σ' ∧ EndS X.K m3 H' W E (whileN ft g m' ρ' S'), fun σ' H' h => h, ?_⟩
          refine ⟨m2, ρ1, S2, hr1.mono a2, R2, ?_⟩
          cases e : g ρ1 S2 with
          | next ρ' S' => rw [e] at q2; exact fun m3 σ3 H3 a3 R3 hr3 => ⟨k, Nat.lt_succ_self _, m3, ρ', S', (a1.trans a2).trans a3, R3, hr3, q2.back a3⟩
          | cont ρ' S' => rw [e] at q2; exact fun m3 σ3 H3 a3 R3 hr3 => ⟨k, Nat.lt_succ_self _, m3, ρ', S', (a1.trans a2).trans a3, R3, hr3, q2.back a3⟩
          | brk ρ' S' => rw [e] at q2; exact q2
          | ret d S' => rw [e] at q2; exact q2
          | exc x ρ' S' => rw [e] at q2; exact q2
          | bad => rw [e] at q2; exact q2
    · exact q.elim

/-! ### what is walked -/
abbrev Src := Env → M (List D × (Store → Prop))
def Feeds (K : PySem.W.Frag) (m0 : List Addr) (H0 : Hp) (J : It) (items : List D) (ok : Store → Prop) : Prop :=
  ∀ m S H, Aft m0 H0 m H → Rel K m S H → ok S → ∀ i, (items.length ≤ i → J.stop i H) ∧ ∀ d, items[i]? = some d → J.go i H ∧ ∀ x H', J.yld i H x H' → Aft m H m H' ∧ Rel K m S H' ∧ RD K m H' d x
theorem Feeds.back {K : PySem.W.Frag} {m0 m1 : List Addr} {H0 H1 : Hp} {J : It} {items : List D} {ok : Store → Prop} (h : Feeds K m0 H0 J items ok) (e : Aft m0 H0 m1 H1) : Feeds K m1 H1 J items ok := fun m S H a R o => h m S H (e.trans a) R o
def RIt (K : PySem.W.Frag) (m : List Addr) (H : Hp) (a : List D × (Store → Prop)) (J : It) : Prop := Feeds K m H J a.1 a.2
def tI (K : PySem.W.Frag) (W : WX) (f : Src) : TI := fun σ H R => ∃ m ρ S, RE K m H ρ σ ∧ Rel K m S H ∧ EndM K m H (RIt K) (fun c d H' => W c d σ H') (f ρ S) R
abbrev MI (X : Cx) (W : WX) (tg iter : Expr) (f : Src) : Prop := PI X tg iter (tI X.K W f)
theorem PI.imp {tg e : Expr} {t t' : TI} (h : PI X tg e t) (i : ∀ σ H Q, t' σ H Q → t σ H Q) : PI X tg e t' := ⟨fun pins s σ H Q I q => h.run pins s σ H Q I (i σ H Q q)⟩
/-- the list at r is ds -/
def holds (r : Nat) (ds : List D) : Store → Prop := fun S => S[r]? = some (.lst ds) ∨ S[r]? = some (.ro ds)
theorem holds_at {K : PySem.W.Frag} {m : List Addr} {S : Store} {H : Hp} {r : Nat} {a : Addr} {ds : List D} (R : Rel K m S H) (hr : m[r]? = some a) (h : holds r ds S) : ∃ xs, SqL K H a xs ∧ RDs K m H ds xs := by
  rcases h with h | h
  · obtain ⟨xs, h1, h2⟩ := R.ob r _ a h hr
    exact ⟨xs, SqL.of h1, h2⟩
  · obtain ⟨xs, ⟨o, h1⟩, h2⟩ := R.ob r _ a h hr
    exact ⟨xs, .inl (.inr ⟨o, h1⟩), h2⟩
/-- over a list or a tuple -/
def sSeq (f : F) : Src := fun ρ => bind (f ρ) fun x => fun S => match x with
  | .tup ds => .ok (ds, fun _ => True) S
  | .ref r => match S[r]? with
    | some (.lst ds) => .ok (ds, holds r ds) S
    | some (.ro ds) => .ok (ds, holds r ds) S
    | _ => .bad
  | _ => .bad
def iSeqA (K : PySem.W.Frag) (tl : TE) : TI := fun σ H R => tl σ H fun x H1 => ∃ a, x = .ref a ∧ (((∃ xs, SqL K H1 a xs) ∧ R (Itl K a) H1) ∨ ((∃ xs, SqT K H1 a xs) ∧ R (Itt K a) H1))
theorem pi_seqA {tg l : Expr} {tl : TE} (hl : PE X l tl) : PI X tg l (iSeqA X.K tl) := by
  refine ⟨fun pins s σ H R I h => ?_⟩
  refine thn (hl.run pins s σ H _ I h) fun v s1 ⟨x, H1, I1, r1, q1⟩ => ?_
  obtain ⟨a, e, q⟩ := q1
  subst e
  cases r1
  rcases q with ⟨⟨xs, hq⟩, q⟩ | ⟨⟨xs, hq⟩, q⟩
  · obtain ⟨its, rv, p, hz⟩ := I1.list hq
    refine wpAny_pyIter_list p.isList ?_
    refine ⟨s1.heap.objs.size, [s1.heap.objs.size], _, _, H1, rfl, I1.kept (t' := s1.toks) fun b o e => Heap.get?_push_of_some _ e, turn_list a _, ⟨_, Heap.get?_push_size _ rfl, rfl, rfl⟩, fun b hb => ?_, q⟩
    have e : b = s1.heap.objs.size := by simpa using hb
    subst e
    exact I1.fpOk (Nat.le_refl _) (I1.hok.fresh (Nat.le_refl _))
  · obtain ⟨its, rv, p, hz⟩ := I1.tuple hq
    refine wpAny_pyIter_tuple (show s1.heap.IsTuple a its.toArray from p) ?_
    refine ⟨s1.heap.objs.size, [s1.heap.objs.size], _, _, H1, rfl, I1.kept (t' := s1.toks) fun b o e => Heap.get?_push_of_some _ e, turn_tuple a _, ⟨_, Heap.get?_push_size _ rfl, rfl, rfl⟩, fun b hb => ?_, q⟩
    have e : b = s1.heap.objs.size := by simpa using hb
    subst e
    exact I1.fpOk (Nat.le_refl _) (I1.hok.fresh (Nat.le_refl _))
theorem feeds_list {K : PySem.W.Frag} {m : List Addr} {H : Hp} {r : Nat} {a : Addr} {ds : List D} (hr : m[r]? = some a) : Feeds K m H (Itl K a) ds (holds r ds) := fun m1 S H1 e R o i => by
  obtain ⟨xs, h1, h2⟩ := holds_at R (e.at hr) o
  refine ⟨fun h => ⟨xs, h1, by rw [← h2.length]; exact h⟩, fun d hd => ?_⟩
  obtain ⟨v, g1, g2⟩ := h2.get hd
  refine ⟨⟨xs, v, h1, g1⟩, fun x H' y => ?_⟩
  obtain ⟨rfl, y⟩ := y
  have := y xs h1
  rw [g1] at this
  cases this
  exact ⟨Aft.refl, R, g2⟩
theorem feeds_tup {K : PySem.W.Frag} {m : List Addr} {H : Hp} {a : Addr} {ds : List D} {xs : List V} (h1 : SqT K H a xs) (h2 : RDs K m H ds xs) : Feeds K m H (Itt K a) ds (fun _ => True) := fun m1 S H1 e R o i => by
  have h1 := e.sqt h1
  have h2 := h2.mono e
  refine ⟨fun h => ⟨xs, h1, by rw [← h2.length]; exact h⟩, fun d hd => ?_⟩
  obtain ⟨v, g1, g2⟩ := h2.get hd
  refine ⟨⟨xs, v, h1, g1⟩, fun x H' y => ?_⟩
  obtain ⟨rfl, y⟩ := y
  have := y xs h1
  rw [g1] at this
  cases this
  exact ⟨Aft.refl, R, g2⟩
theorem mi_seq {tg : Expr} (ha : ME X W a fa) : MI X W tg a (sSeq fa) :=
  PI.imp (pi_seqA ha) fun σ H Q ⟨m, ρ, S, hr, R, q⟩ => by
    refine tM_step hr R q fun v H1 d S1 m1 rd a b q1 => ?_
    cases rd with
    | tup h1 h2 => exact ⟨_, rfl, .inr ⟨⟨_, h1⟩, q1 m1 _ H1 Aft.refl b (feeds_tup h1 h2)⟩⟩
    | @ref aa r hr1 =>
      have q1' : EndM X.K m1 H1 (RIt X.K) (fun c d H' => W c d σ H') (match S1[r]? with
        | some (.lst ds) => .ok (ds, holds r ds) S1
        | some (.ro ds) => .ok (ds, holds r ds) S1
        | _ => .bad) Q := q1
      cases e : S1[r]? with
      | none => rw [e] at q1'; exact q1'.elim
      | some o =>
        rw [e] at q1'
        cases o with
        | dict _ => exact q1'.elim
        | tab _ _ => exact q1'.elim
        | lst ds =>
          obtain ⟨xs, g1, _⟩ := holds_at b hr1 (.inl e)
          exact ⟨_, rfl, .inl ⟨⟨xs, g1⟩, q1' m1 _ H1 Aft.refl b (feeds_list hr1)⟩⟩
        | ro ds =>
          obtain ⟨xs, g1, _⟩ := holds_at b hr1 (.inr e)
          exact ⟨_, rfl, .inl ⟨⟨xs, g1⟩, q1' m1 _ H1 Aft.refl b (feeds_list hr1)⟩⟩
    | _ => exact q1.elim
def rangeD (lo : Int) (n : Nat) : List D := (List.range n).map fun i => .int (lo + (i : Nat))
theorem feeds_range {K : PySem.W.Frag} {m : List Addr} {H : Hp} {lo : Int} {n : Nat} : Feeds K m H (Itr lo n) (rangeD lo n) (fun _ => True) := fun m1 S H1 e R o i => by
  refine ⟨fun h => (show n ≤ i by simpa [rangeD] using h), fun d hd => ?_⟩
  unfold rangeD at hd
  rw [List.getElem?_map] at hd
  by_cases hi : i < n
  · rw [List.getElem?_range hi] at hd
    cases hd
    refine ⟨hi, fun x H' y => ?_⟩
    obtain ⟨rfl, rfl⟩ := y
    exact ⟨Aft.refl, R, .int _⟩
  · rw [List.getElem?_eq_none (by simpa using hi)] at hd; cases hd
def sRng1 (fs : A) : Src := fun ρ => bind (fs ρ) fun xs => fun S => match xs with
  | [.int j] => if -(2 ^ 62) ≤ j ∧ j < 2 ^ 62 then .ok (rangeD 0 j.toNat, fun _ => True) S else .bad
  | _ => .bad
def sRng2 (fs : A) : Src := fun ρ => bind (fs ρ) fun xs => fun S => match xs with
  | [.int i, .int j] => if -(2 ^ 62) ≤ i ∧ i < 2 ^ 62 ∧ -(2 ^ 62) ≤ j ∧ j < 2 ^ 62 then .ok (rangeD i (j - i).toNat, fun _ => True) S else .bad
  | _ => .bad
theorem mi_range1 {tg : Expr} {p pos : Pos} (hm : X.mg "range" = none) (ha : MA X W [a] fs) (hg : Gl X "range" := by rfl) (hs : starEach [a] X.env = [(false, eval a X.env)] := by rfl) : MI X W tg (.Call (.Name "range" p) [a] [] pos) (sRng1 fs) :=
  PI.imp (pi_range1 hg hm ha hs) fun σ H Q ⟨m, ρ, S, hr, R, q⟩ => by
    refine tA_step hr R q fun v H1 d S1 m1 rd a b q1 => ?_
    have q1' : EndM X.K m1 H1 (RIt X.K) (fun c d H' => W c d σ H') (match (generalizing := false) d with
      | [.int j] => if -(2 ^ 62) ≤ j ∧ j < 2 ^ 62 then .ok (rangeD 0 j.toNat, fun _ => True) S1 else .bad
      | _ => .bad) Q := q1
    split at q1'
    · rename_i j
      cases rd with
      | cons r1 r2 =>
        cases r1; cases r2
        split at q1'
        · rename_i hj
          exact ⟨j, rfl, hj.1, hj.2, q1' m1 _ H1 Aft.refl b feeds_range⟩
        · exact q1'.elim
    · exact q1'.elim
theorem mi_range2 {tg : Expr} {p pos : Pos} (hm : X.mg "range" = none) (ha : MA X W [a, b] fs) (hg : Gl X "range" := by rfl) (hs : starEach [a, b] X.env = [(false, eval a X.env), (false, eval b X.env)] := by rfl) (hs2 : starEach [b] X.env = [(false, eval b X.env)] := by rfl) : MI X W tg (.Call (.Name "range" p) [a, b] [] pos) (sRng2 fs) :=
  PI.imp (pi_range2 hg hm ha hs hs2) fun σ H Q ⟨m, ρ, S, hr, R, q⟩ => by
    refine tA_step hr R q fun v H1 d S1 m1 rd a b q1 => ?_
    have q1' : EndM X.K m1 H1 (RIt X.K) (fun c d H' => W c d σ H') (match (generalizing := false) d with
      | [.int i, .int j] => if -(2 ^ 62) ≤ i ∧ i < 2 ^ 62 ∧ -(2 ^ 62) ≤ j ∧ j < 2 ^ 62 then .ok (rangeD i (j - i).toNat, fun _ => True) S1 else .bad
      | _ => .bad) Q := q1
    split at q1'
    · rename_i i j
      cases rd with
      | cons r1 r2 =>
        cases r1
        cases r2 with
        | cons r2 r3 =>
          cases r2; cases r3
          split at q1'
          · rename_i hj
            exact ⟨i, j, rfl, ⟨hj.1, hj.2.1, hj.2.2.1, hj.2.2.2⟩, q1' m1 _ H1 Aft.refl b feeds_range⟩
          · exact q1'.elim
    · exact q1'.elim
end
end MP
set_option Elab.async false
set_option linter.all false
set_option maxRecDepth 100000
set_option maxHeartbeats 4000000
namespace MP
open PySem PySem.Spec PyProof.Rows L2

/-! ### what does not hang on the heap at one address -/
section
variable {K : PySem.W.Frag} {m m1 : List Addr} {H H1 : Hp} {S : Store} {a p : Addr} {ho ho' : HO}
mutual
theorem RD.mono2 (hs : ∀ a xs, SqT K H a xs → SqT K H1 a xs) (hx : ∀ a gs, H a = some (.xd gs) → H1 a = some (.xd gs)) (hm : ∀ (r : Nat) a, m[r]? = some a → m1[r]? = some a) : ∀ {d : D} {v : V}, RD K m H d v → RD K m1 H1 d v
  | _, _, .non => .non
  | _, _, .bl b => .bl b
  | _, _, .int i => .int i
  | _, _, .str x => .str x
  | _, _, .tup h r => .tup (hs _ _ h) (RDs.mono2 hs hx hm r)
  | _, _, .err h r => .err (hx _ _ h) (RFs.mono2 hs hx hm r)
  | _, _, .ref h => .ref (hm _ _ h)
  | _, _, .obj => .obj
theorem RFs.mono2 (hs : ∀ a xs, SqT K H a xs → SqT K H1 a xs) (hx : ∀ a gs, H a = some (.xd gs) → H1 a = some (.xd gs)) (hm : ∀ (r : Nat) a, m[r]? = some a → m1[r]? = some a) : ∀ {ds : List (Str × D)} {vs : List (Str × V)}, RFs K m H ds vs → RFs K m1 H1 ds vs
  | _, _, .nil => .nil
  | _, _, .cons h r => .cons (RD.mono2 hs hx hm h) (RFs.mono2 hs hx hm r)
theorem RDs.mono2 (hs : ∀ a xs, SqT K H a xs → SqT K H1 a xs) (hx : ∀ a gs, H a = some (.xd gs) → H1 a = some (.xd gs)) (hm : ∀ (r : Nat) a, m[r]? = some a → m1[r]? = some a) : ∀ {ds : List D} {vs : List V}, RDs K m H ds vs → RDs K m1 H1 ds vs
  | _, _, .nil => .nil
  | _, _, .cons h r => .cons (RD.mono2 hs hx hm h) (RDs.mono2 hs hx hm r)
end
theorem RKV.mono2 (hs : ∀ a xs, SqT K H a xs → SqT K H1 a xs) (hx : ∀ a gs, H a = some (.xd gs) → H1 a = some (.xd gs)) (hm : ∀ (r : Nat) a, m[r]? = some a → m1[r]? = some a) : ∀ {kvs : List (Key × D)} {ps : List (Key × V)}, RKV K m H kvs ps → RKV K m1 H1 kvs ps
  | [], [], _ => trivial
  | _ :: _, _ :: _, h => ⟨h.1, h.2.1.mono2 hs hx hm, RKV.mono2 hs hx hm h.2.2⟩
  | [], _ :: _, h => h.elim
  | _ :: _, [], h => h.elim
theorem sqt_upd (h : H p = some ho) (mu : Mu (some ho)) : ∀ a xs, SqT K H a xs → SqT K (upd H p ho') a xs := fun a xs q => by
  rcases q with (q | ⟨o, q⟩) | q
  · refine .inl (.inl ?_)
    rw [upd_ne (fun e => by subst e; rw [h] at q; cases q; exact nm_tup mu)]; exact q
  · refine .inl (.inr ⟨o, ?_⟩)
    rw [upd_ne (fun e => by subst e; rw [h] at q; cases q; exact nm_frz mu)]; exact q
  · exact .inr q
theorem xd_upd (h : H p = some ho) (mu : Mu (some ho)) : ∀ a gs, H a = some (.xd gs) → upd H p ho' a = some (.xd gs) := fun a gs q => by
  rw [upd_ne (fun e => by subst e; rw [h] at q; cases q; exact mu)]; exact q
theorem frz_upd (h : H p = some ho) (mu : Mu (some ho)) : ∀ b o u, H b = some (.frz o u) → upd H p ho' b = some (.frz o u) := fun b o u q => by
  rw [upd_ne (fun e => by subst e; rw [h] at q; cases q; exact mu)]; exact q
theorem OR.side {o : O} (h : H p = some ho) (mu : Mu (some ho)) (ne : a ≠ p) (q : OR K m H a o) : OR K m (upd H p ho') a o := by
  cases o with
  | lst ds => obtain ⟨xs, h1, h2⟩ := q; exact ⟨xs, by rw [upd_ne ne]; exact h1, h2.mono2 (sqt_upd h mu) (xd_upd h mu) fun _ _ e => e⟩
  | ro ds => obtain ⟨xs, ⟨o, h1⟩, h2⟩ := q; exact ⟨xs, ⟨o, by rw [upd_ne ne]; exact h1⟩, h2.mono2 (sqt_upd h mu) (xd_upd h mu) fun _ _ e => e⟩
  | dict ds => obtain ⟨xs, h1, h2⟩ := q; exact ⟨xs, by rw [upd_ne ne]; exact h1, h2.mono2 (sqt_upd h mu) (xd_upd h mu) fun _ _ e => e⟩
  | tab P q' => obtain ⟨rfl, t⟩ := q; exact ⟨rfl, t.mono (frz_upd h mu) fun ps z => by rw [upd_ne ne]; exact z⟩
/-- an object that is not of the store is written -/
theorem Rel.side (R : Rel K m S H) (hp : p ∉ m) (h : H p = some ho) (mu : Mu (some ho)) : Rel K m S (upd H p ho') :=
  ⟨R.len, R.nd, fun r o a h1 h2 => OR.side h mu (fun e => by subst e; exact hp (List.mem_of_getElem? h2)) (R.ob r o a h1 h2)⟩
theorem Aft.side (e : Aft m H m1 H1) (h : H p = none) : Aft m H m1 (upd H1 p ho) :=
  ⟨e.pre, e.new, fun b o hb n => by rw [upd_ne (ne_of_none hb h)]; exact e.keep b o hb n⟩
theorem at_app {r : Nat} (h : m[r]? = some a) : (m ++ [p])[r]? = some a := by
  rw [List.getElem?_append_left (List.getElem?_eq_some_iff.mp h).1]; exact h
/-- .. and comes into it -/
theorem Rel.track (R : Rel K m S H) (hp : p ∉ m) {o : O} (q : OR K (m ++ [p]) H p o) : Rel K (m ++ [p]) (S ++ [o]) H := by
  refine ⟨by simp [R.len], ?_, fun (r : Nat) u a h1 h2 => ?_⟩
  · rw [List.nodup_append]
    refine ⟨R.nd, by simp, fun x hx y hy e => ?_⟩
    rw [List.mem_singleton.mp hy] at e
    subst e
    exact hp hx
  · by_cases hr : r < m.length
    · rw [List.getElem?_append_left hr] at h2
      rw [List.getElem?_append_left (by rw [← R.len]; exact hr)] at h1
      have z := R.ob r u a h1 h2
      cases u with
      | lst ds => obtain ⟨xs, h1, h2⟩ := z; exact ⟨xs, h1, h2.mono2 (fun _ _ e => e) (fun _ _ e => e) fun _ _ e => at_app e⟩
      | ro ds => obtain ⟨xs, h1, h2⟩ := z; exact ⟨xs, h1, h2.mono2 (fun _ _ e => e) (fun _ _ e => e) fun _ _ e => at_app e⟩
      | dict ds => obtain ⟨xs, h1, h2⟩ := z; exact ⟨xs, h1, h2.mono2 (fun _ _ e => e) (fun _ _ e => e) fun _ _ e => at_app e⟩
      | tab P q' => exact z
    · have e : r = m.length := by
        have := (List.getElem?_eq_some_iff.mp h2).1
        simp at this
        omega
      subst e
      rw [List.getElem?_append_right (Nat.le_refl _)] at h2
      rw [R.len, List.getElem?_append_right (Nat.le_refl _)] at h1
      simp at h1 h2
      subst h1 h2
      exact q
theorem Aft.track (e : Aft m H m1 H1) (h : H p = none) : Aft m H (m1 ++ [p]) H1 := by
  refine ⟨?_, fun a ha => ?_, e.keep⟩
  · obtain ⟨t, rfl⟩ := e.pre
    exact ⟨t ++ [p], by simp⟩
  · rcases List.mem_append.mp ha with ha | ha
    · exact e.new a ha
    · rw [List.mem_singleton.mp ha]; exact .inr h
theorem Aft.out (e : Aft m H m1 H1) (hp : p ∉ m) (h : H p = some ho) : p ∉ m1 := fun hm => by
  rcases e.new p hm with z | z
  · exact hp z
  · rw [h] at z; cases z
end

/-! ### for -/
open Classical in
/-- over what is walked, turn by turn -/
noncomputable def forS (p : Pat) (b : G) (ok : Store → Prop) : List D → G
  | [], ρ, S => if ok S then .next ρ S else .bad
  | d :: ds, ρ, S => if ok S then match p d ρ S with
      | some (ρ1, S1) => match b ρ1 S1 with
        | .next ρ' S' => forS p b ok ds ρ' S'
        | .cont ρ' S' => forS p b ok ds ρ' S'
        | .brk ρ' S' => .next ρ' S'
        | r => r
      | none => .bad
    else .bad
noncomputable def gFor (src : Src) (p : Pat) (b : G) : G := fun ρ S => sBind (src ρ S) ρ fun it S' => forS p b it.2 it.1 ρ S'
section
variable {X : Cx} {W : WX} {a b c e : Expr} {es : List Expr} {fa fb fc fe : F} {ft fu : T} {fs : A} {g g1 g2 : G} {st : Stmt} {sts rest : List Stmt} {pos : Pos}
theorem ms_for {tg iter : Expr} {body : List Stmt} {src : Src} {p : Pat} {vs : List Nat} (hp : PassesOwn (model X.prog X.w) X.A X.env X.xe) (hc : X.calm = true) (hi : MI X W tg iter src) (hg : MG X tg p vs) (hb : MSs X W body g)
    (hs : ∀ x, foldedSetIterable iter X.env x = pure x := by intro _; rfl) : MS X W (.For tg iter body [] pos) (gFor src p g) :=
  PS.imp (ps_for hp hc hi hg hb hs) fun E σ H ⟨m, ρ, S, hr, R, q⟩ => by
    refine ⟨m, ρ, S, hr, R, (EndS.step (R := RIt X.K) hr q).mono fun J H1 ⟨it, S1, m1, fd, a1, R1, q1⟩ => ?_⟩
    obtain ⟨items, ok⟩ := it
    simp only at q1 fd
    refine ⟨fun i n σ' H' => n = items.length - i ∧ i ≤ items.length ∧ ∃ m' ρ' S', Aft m1 H1 m' H' ∧ Rel X.K m' S' H' ∧ RE X.K m' H' ρ' σ' ∧ EndS X.K m' H' W E (forS p g ok (items.drop i) ρ' S'), ⟨_, rfl, Nat.zero_le _, m1, ρ, S1, Aft.refl, R1, hr.mono a1, q1⟩, ?_⟩
    rintro i n σ2 H2 ⟨rfl, hi, m2, ρ2, S2, a2, R2, hr2, q2⟩
    by_cases hlt : i < items.length
    · rw [List.drop_eq_getElem_cons hlt] at q2
      unfold forS at q2
      split at q2
      · rename_i hok
        obtain ⟨go, y⟩ := (fd m2 S2 H2 a2 R2 hok i).2 items[i] (by simp [hlt])
        refine .inr ⟨go, fun σ' H' => ∃ m' ρ' S', Aft m1 H1 m' H' ∧ Rel X.K m' S' H' ∧ RE X.K m' H' ρ' σ' ∧ EndS X.K m' H' W E (forS p g ok (items.drop (i + 1)) ρ' S'), fun σ' H' z => ⟨_, by omega, rfl, hlt, z⟩, fun x H3 hy => ?_⟩
        obtain ⟨a3, R3, rd3⟩ := y x H3 hy
        cases e1 : p items[i] ρ2 S2 with
        | none => simp only [e1] at q2; exact q2.elim
        | some w =>
          obtain ⟨ρ4, S4⟩ := w
          simp only [e1] at q2
          refine ⟨m2, ρ2, S2, _, hr2.mono a3, R3, rd3, ρ4, S4, e1, fun m4 σ4 H4 a4 R4 hr4 _ _ => ?_⟩
          refine ⟨m4, ρ4, S4, hr4, R4, ?_⟩
          have q2 := q2.back (a3.trans a4)
          cases e2 : g ρ4 S4 with
          | next ρ5 S5 => simp only [e2] at q2; exact fun m5 σ5 H5 a5 R5 hr5 => ⟨m5, ρ5, S5, ((a2.trans a3).trans a4).trans a5, R5, hr5, q2.back a5⟩
          | cont ρ5 S5 => simp only [e2] at q2; exact fun m5 σ5 H5 a5 R5 hr5 => ⟨m5, ρ5, S5, ((a2.trans a3).trans a4).trans a5, R5, hr5, q2.back a5⟩
          | brk ρ5 S5 => simp only [e2] at q2; exact q2
          | ret d S5 => simp only [e2] at q2; exact q2
          | exc x ρ5 S5 => simp only [e2] at q2; exact q2
          | bad => simp only [e2] at q2; exact q2
      · exact q2.elim
    · have e : i = items.length := by omega
      subst e
      rw [List.drop_length] at q2
      unfold forS at q2
      split at q2
      · rename_i hok
        exact .inl ⟨(fd m2 S2 H2 a2 R2 hok _).1 (Nat.le_refl _), q2 m2 σ2 H2 Aft.refl R2 hr2⟩
      · exact q2.elim

/-! ### [.. for .. in .. if ..] -/
abbrev WF : WX := fun _ _ _ _ => False
def wipeE (ρ : Env) : List Nat → Env
  | [] => ρ
  | v :: vs => (wipeE ρ vs).set v none
theorem RE.wipe {K : PySem.W.Frag} {m : List Addr} {H : Hp} {ρ : Env} {σ : L2.St} (h : RE K m H ρ σ) : ∀ vs, RE K m H (wipeE ρ vs) (wipe σ vs)
  | [] => h
  | v :: vs => (RE.wipe h vs).clear
theorem wipe_get {σ : L2.St} {i : Nat} : ∀ {vs : List Nat}, i ∉ vs → (wipe σ vs)[i]? = σ[i]?
  | [], _ => rfl
  | v :: vs, h => by
    unfold wipe
    rw [List.getElem?_set_ne (fun e => h (by simp [e])), wipe_get fun q => h (List.mem_cons_of_mem _ q)]
theorem wipe_in {σ : L2.St} {i : Nat} (hl : i < σ.length) : ∀ {vs : List Nat}, i ∈ vs → (wipe σ vs)[i]? = some none
  | v :: vs, h => by
    unfold wipe
    by_cases e : v = i
    · subst e
      rw [List.getElem?_set_self (by rw [wipe_length]; exact hl)]
    · rw [List.getElem?_set_ne e]
      exact wipe_in hl (by rcases List.mem_cons.mp h with z | z; exact absurd z.symm e; exact z)
theorem wipe_eq {σ σ2 : L2.St} {vs ws : List Nat} (hl : σ2.length = σ.length) (h : ∀ i, i ∉ ws → σ2[i]? = (wipe σ vs)[i]?) (hv : ∀ i ∈ ws, i ∈ vs) : wipe σ2 vs = wipe σ vs := by
  refine List.ext_getElem? fun i => ?_
  by_cases hi : i ∈ vs
  · by_cases hn : i < σ.length
    · rw [wipe_in (by rw [hl]; exact hn) hi, wipe_in hn hi]
    · rw [List.getElem?_eq_none (by rw [wipe_length, hl]; omega), List.getElem?_eq_none (by rw [wipe_length]; omega)]
  · rw [wipe_get hi, h i fun z => hi (hv i z), wipe_get hi]
abbrev MTs (X : Cx) (W : WX) (ifs : List Expr) (f : T) : Prop := PTs X ifs (tT X.K W f)
def tYes' : T := fun _ => ret true
theorem mts_nil : MTs X W [] tYes' := ⟨fun pins s σ H Q I ⟨m, ρ, S, hr, R, q⟩ => pts_nil.run pins s σ H Q I (q m true H Aft.refl R rfl)⟩
theorem mts_one (h : MT X W c ft) : MTs X W [c] ft := pts_one h
open Classical in
noncomputable def lcS (p : Pat) (tt : T) (te : F) (ok : Store → Prop) (ρ : Env) : List D → M (List D)
  | [], S => if ok S then .ok [] S else .bad
  | d :: ds, S => if ok S then match p d ρ S with
      | some (ρ1, S1) => bind (tt ρ1) (fun k => if k = true then bind (te ρ1) fun y => bind (lcS p tt te ok ρ ds) fun ys => ret (y :: ys) else lcS p tt te ok ρ ds) S1
      | none => .bad
    else .bad
noncomputable def eLc (src : Src) (p : Pat) (tt : T) (te : F) (own : List Nat) : F := fun ρ => bind (src ρ) fun it S => if it.1.length ≤ sizeLine then match lcS p tt te it.2 (wipeE ρ own) it.1 S with
    | .ok ys S' => .ok (.ref S'.length) (S' ++ [.lst ys])
    | _ => .bad
  else .bad
theorem bind_ok {α β : Type} {f : M α} {g : α → M β} {S S' : Store} {b : β} (h : bind f g S = .ok b S') : ∃ a S1, f S = .ok a S1 ∧ g a S1 = .ok b S' := by
  unfold bind at h
  cases e : f S with
  | ok a S1 => rw [e] at h; exact ⟨a, S1, rfl, h⟩
  | exc x S1 => rw [e] at h; cases h
  | bad => rw [e] at h; cases h
theorem lc_of {src : Src} {p : Pat} {vs ws : List Nat} (hv : ∀ i ∈ vs, i ∈ ws) {σ : L2.St} {H : Hp} {Q : VK} (h : tM X.K W (eLc src p ft fe ws) σ H Q) : tLc (tI X.K W src) (tG X.K p vs) (tT X.K WF ft) (tM X.K WF fe) ws σ H Q := by
  obtain ⟨m, ρ, S, hr, R, q⟩ := h
  refine ⟨m, ρ, S, hr, R, (EndM.step (R := RIt X.K) q).mono fun J H1 ⟨it, S1, m1, fd, a1, R1, q1⟩ D hD => ?_⟩
  obtain ⟨items, ok⟩ := it
  simp only at q1 fd
  split at q1
  rotate_left
  · exact q1.elim
  rename_i hsz
  cases el : lcS p ft fe ok (wipeE ρ ws) items S1 with
  | bad => rw [el] at q1; exact q1.elim
  | exc x S2 => rw [el] at q1; exact q1.elim
  | ok Ys Sf =>
    rw [el] at q1
    simp only at q1
    refine ⟨fun i n H' => n = items.length - i ∧ i ≤ items.length ∧ ∃ m' S' xs ys zs, Aft m1 H1 m' H' ∧ Rel X.K m' S' H' ∧ D ∉ m' ∧ H' D = some (.lst xs) ∧ RDs X.K m' H' ys xs ∧ ys.length ≤ i ∧ lcS p ft fe ok (wipeE ρ ws) (items.drop i) S' = .ok zs Sf ∧ Ys = ys ++ zs,
      ⟨_, rfl, Nat.zero_le _, m1, S1, [], [], Ys, Aft.refl.side hD, R1.fresh hD, R1.out hD, upd_same, .nil, Nat.le_refl _, el, rfl⟩, ?_⟩
    rintro i n H2 ⟨rfl, hi, m2, S2, xs, ys, zs, a2, R2, o2, d2, rd2, l2, e2, eY⟩
    by_cases hlt : i < items.length
    · rw [List.drop_eq_getElem_cons hlt] at e2
      unfold lcS at e2
      split at e2
      rotate_left
      · cases e2
      rename_i hok
      obtain ⟨go, y⟩ := (fd m2 S2 H2 a2 R2 hok i).2 items[i] (by simp [hlt])
      refine .inr ⟨go, fun H' => i + 1 ≤ items.length ∧ ∃ m' S' xs ys zs, Aft m1 H1 m' H' ∧ Rel X.K m' S' H' ∧ D ∉ m' ∧ H' D = some (.lst xs) ∧ RDs X.K m' H' ys xs ∧ ys.length ≤ i + 1 ∧ lcS p ft fe ok (wipeE ρ ws) (items.drop (i + 1)) S' = .ok zs Sf ∧ Ys = ys ++ zs,
        fun H' z => ⟨_, by omega, rfl, z⟩, fun x H3 hy => ?_⟩
      obtain ⟨a3, R3, rd3⟩ := y x H3 hy
      cases e1 : p items[i] (wipeE ρ ws) S2 with
      | none => rw [e1] at e2; cases e2
      | some w =>
        obtain ⟨ρ4, S4⟩ := w
        rw [e1] at e2
        simp only at e2
        have hrw : RE X.K m2 H3 (wipeE ρ ws) (wipe σ ws) := (((hr.mono a1).mono a2).mono a3).wipe ws
        refine ⟨m2, _, S2, _, hrw, R3, rd3, ρ4, S4, e1, fun m4 σ4 H4 a4 R4 hr4 l4 k4 => ?_⟩
        refine ⟨wipe_eq (l4.trans (wipe_length _ _)) k4 hv, ?_⟩
        obtain ⟨k, S5, e5, e6⟩ := bind_ok e2
        refine ⟨m4, ρ4, S4, hr4, R4, ?_⟩
        rw [e5]
        intro m5 b5 H5 a5 R5 eb
        cases eb
        have o5 : D ∉ m5 := (((a3.trans a4).trans a5)).out o2 d2
        have d5 : H5 D = some (.lst xs) := ((a3.trans a4).trans a5).keep D _ d2 (.inl o2)
        cases k with
        | false =>
          simp only [Bool.false_eq_true, if_false] at e6 ⊢
          exact ⟨hlt, m5, S5, xs, ys, zs, ((a2.trans a3).trans a4).trans a5, R5, o5, d5, ((rd2.mono a3).mono a4).mono a5, by omega, e6, eY⟩
        | true =>
          simp only [if_true] at e6 ⊢
          obtain ⟨y1, S6, e7, e8⟩ := bind_ok e6
          refine ⟨m5, ρ4, S5, hr4.mono a5, R5, ?_⟩
          rw [e7]
          intro m6 v6 H6 a6 R6 rd6
          obtain ⟨zs', S7, e9, e10⟩ := bind_ok e8
          cases e10
          have o6 : D ∉ m6 := a6.out o5 d5
          have d6 : H6 D = some (.lst xs) := a6.keep D _ d5 (.inl o5)
          have mu : Mu (some (HO.lst xs)) := trivial
          have rd2' : RDs X.K m6 H6 ys xs := (((rd2.mono a3).mono a4).mono a5).mono a6
          refine ⟨xs, d6, by rw [← rd2'.length]; omega, hlt, m6, S6, xs ++ [v6], ys ++ [y1], zs', ((((a2.trans a3).trans a4).trans a5).trans a6).side hD, R6.side o6 d6 mu, o6, upd_same, ?_, by simp; omega, e9, by rw [eY, List.append_assoc]; rfl⟩
          exact (rd2'.mono2 (sqt_upd d6 mu) (xd_upd d6 mu) fun _ _ e => e).append (.cons (rd6.mono2 (sqt_upd d6 mu) (xd_upd d6 mu) fun _ _ e => e) .nil)
    · have e : i = items.length := by omega
      subst e
      rw [List.drop_length] at e2
      unfold lcS at e2
      split at e2
      rotate_left
      · cases e2
      rename_i hok
      cases e2
      simp only [List.append_nil] at eY
      subst eY
      refine .inl ⟨(fd m2 _ H2 a2 R2 hok _).1 (Nat.le_refl _), ?_⟩
      exact q1 (m2 ++ [D]) _ H2 (a2.track hD) (R2.track o2 ⟨xs, d2, rd2.mono2 (fun _ _ e => e) (fun _ _ e => e) fun _ _ e => at_app e⟩) (.ref R2.last)
theorem me_lc {elt tg iter : Expr} {ifs : List Expr} {scope : Scope} {own : List (Str × Nat)} {src : Src} {p : Pat} {vs : List Nat} (hc : X.calm = true) (hN : X.N.Nodup) (ok : BlkOk X.N X.env.scope scope own) (hv : ∀ i ∈ vs, i ∈ own.map (·.2)) (hi : MI X W tg iter src)
    (hg : ∀ (s : Shared) (H : Hp) (C : Addr) (cl : List (Str × Addr)) (fp : List Addr), MG (X.blk s H scope (compEnvC scope cl C X.env) fp) tg p vs)
    (ht : ∀ (s : Shared) (H : Hp) (C : Addr) (cl : List (Str × Addr)) (fp : List Addr), MTs (X.blk s H scope (compEnvC scope cl C X.env) fp) WF ifs ft)
    (he : ∀ (s : Shared) (H : Hp) (C : Addr) (cl : List (Str × Addr)) (fp : List Addr), ME (X.blk s H scope (compEnvC scope cl C X.env) fp) WF elt fe)
    (hs : ∀ x, foldedSetIterable iter X.env x = pure x := by intro _; rfl) : ME X W (.ListComp elt [⟨tg, iter, ifs, 0⟩] scope pos) (eLc src p ft fe (own.map (·.2))) :=
  PE.imp (pe_lc hc hN hi ok hg ht he hs) fun _ _ _ h => lc_of hv h
theorem ms_setLc {i : Nat} {y : Str} {py spos : Pos} {elt tg iter : Expr} {ifs : List Expr} {scope : Scope} {own : List (Str × Nat)} {src : Src} {p : Pat} {vs : List Nat} (hc : X.calm = true) (hN : X.N.Nodup) (ok : BlkOk X.N X.env.scope scope own) (hv : ∀ i ∈ vs, i ∈ own.map (·.2)) (hi : MI X W tg iter src)
    (hg : ∀ (s : Shared) (H : Hp) (C : Addr) (cl : List (Str × Addr)) (fp : List Addr), MG (X.blk s H scope (compEnvC scope cl C X.env) fp) tg p vs)
    (ht : ∀ (s : Shared) (H : Hp) (C : Addr) (cl : List (Str × Addr)) (fp : List Addr), MTs (X.blk s H scope (compEnvC scope cl C X.env) fp) WF ifs ft)
    (he : ∀ (s : Shared) (H : Hp) (C : Addr) (cl : List (Str × Addr)) (fp : List Addr), ME (X.blk s H scope (compEnvC scope cl C X.env) fp) WF elt fe)
    (hy : X.N[i]? = some y := by rfl) (hyl : X.env.scope.names.lookup y = some .local := by rfl)
    (hsw : swapsWith (.ListComp elt [⟨tg, iter, ifs, 0⟩] scope pos) (some (.Name y py)) spos.line X.env = pure true := by exact sw_true rfl rfl rfl rfl)
    (hs : ∀ x, foldedSetIterable iter X.env x = pure x := by intro _; rfl) : MS X W (.Assign [.Name y py] (.ListComp elt [⟨tg, iter, ifs, 0⟩] scope pos) spos) (gAsg (eLc src p ft fe (own.map (·.2))) (pName i)) :=
  PS.imp (ps_setLc hc hN hy hyl hsw hi ok hg ht he hs) fun E σ H h => by
    obtain ⟨m, ρ, S, hr, R, q⟩ := h
    refine lc_of hv (sM_step hr R q fun v H1 d S1 m1 rd a b q1 => ?_)
    exact q1 m1 _ H1 Aft.refl b ((hr.mono a).set rd)
end
end MP
set_option Elab.async false
set_option linter.all false
set_option maxRecDepth 100000
set_option maxHeartbeats 4000000
namespace MP
open PySem PySem.Spec PyProof.Rows L2

/-- what a context gives -/
structure Cc (X : Cx) (W : WX) (k : Nat) : Prop where
  tk : Takes X W
  room : Room k X.A
  gd : X.A.guards = some []
  calm : X.calm = true
  nd : X.N.Nodup
theorem Cc.un {X : Cx} {W : WX} {k : Nat} (c : Cc X W k) : X.A.units + 65 < cLine := by have := c.room.un; omega
theorem Cc.un1 {X : Cx} {W : WX} {k : Nat} (c : Cc X W k) : X.A.units + 1 < cLine := by have := c.room.un; omega
theorem Cc.un64 {X : Cx} {W : WX} {k : Nat} (c : Cc X W k) : X.A.units + 64 < cLine := by have := c.room.un; omega
theorem Cc.un0 {X : Cx} {W : WX} {k : Nat} (c : Cc X W k) : X.A.units < cLine := by have := c.room.un; omega
theorem Cc.mono {X : Cx} {W : WX} {j k : Nat} (c : Cc X W k) (h : j ≤ k) : Cc X W j := ⟨c.tk, c.room.mono h, c.gd, c.calm, c.nd⟩
theorem takesF {X : Cx} : Takes X WF := fun _ _ x => by
  obtain ⟨a, B, sI, pins, σ, H, cls, d, _, _, _, _, _, _, _, _, w⟩ := x
  exact w.elim
/-- a block's -/
theorem Cc.blk {X : Cx} {W : WX} {k : Nat} (c : Cc X W k) (s : Shared) (H : Hp) (scope : Scope) (cenv : PySem.Env) (fp : List Addr) : Cc (X.blk s H scope cenv fp) WF k := ⟨takesF, c.room, c.gd, c.calm, c.nd⟩
/-- a try's body's -/
theorem Cc.tr {X : Cx} {W W' : WX} {k : Nat} (c : Cc X W k) {pn : List (Addr × Obj)} {xe : Value → Shared → Prop} (t : Takes (X.tr pn xe) W') : Cc (X.tr pn xe) W' k := ⟨t, c.room, c.gd, c.calm, c.nd⟩

/-! ### defs -/
structure FnG (P : Program) (w : World) (K : PySem.W.Frag) (mg : Str → Option Value) (base : Heap) (k : Nat) (f : Addr) (fd : FuncData) (ps : List Str) (sp : Sp) : Prop where
  len : ∀ vs H Q E, sp vs H Q E → vs.length = ps.length
  run : ∀ (A : Around) (outer : List PySem.Env) (s : Shared) (H : Hp) (args : Args) (us : List Value) (vs : List V) (Q : VK) (E : XK), Room k A → A.guards = some [] → Env0 P w K mg base A outer s H → BindsTo s fd args (ps.zip us) → Vals vs us → sp vs H Q E →
    codeAny (model P w) A (.call (.ref f) args) (CR (CX P w) outer P w H s Q E) s
theorem FnG.mono {P : Program} {w : World} {K : PySem.W.Frag} {mg : Str → Option Value} {base : Heap} {j k : Nat} {f : Addr} {fd : FuncData} {ps : List Str} {sp : Sp} (F : FnG P w K mg base j f fd ps sp) (h : j ≤ k) :
    FnG P w K mg base k f fd ps sp := ⟨F.len, fun A outer s H args us vs Q E hr => F.run A outer s H args us vs Q E (hr.mono h)⟩
def spM (K : PySem.W.Frag) (sem : List D → M D) (n : Nat) : Sp := fun vs H Q E => vs.length = n ∧ ∃ m S ds, Rel K m S H ∧ RDs K m H ds vs ∧ EndM K m H (RD K) E (sem ds S) Q
theorem spM_len {K : PySem.W.Frag} {sem : List D → M D} {n : Nat} : ∀ vs H Q E, spM K sem n vs H Q E → vs.length = n := fun _ _ _ _ h => h.1

section
variable {X : Cx} {W : WX} {k : Nat} {f : Addr} {fd : FuncData} {ps : List Str} {sp : Sp} {sem : List D → M D} {dvs : List V} {ds : List Value} {x : Str} {p pos : Pos} {e : Expr} {es : List Expr} {fs : A} {dd : List D}
theorem run_fnG {pins : List (Addr × Obj)} {σ : L2.St} {H : Hp} {s : Shared} {Q : VK} {us : List Value} {vs : List V} (F : FnG X.prog X.w X.K X.mg X.base k f fd ps sp) (c : Cc X W k) (hb : Binds X.K fd ps ds) (hd : Vals dvs ds)
    (I : Inv X pins σ H s) (r : Vals vs us) (h : sp (vs ++ dvs) H Q fun c d H' => W c d σ H') : wpAny (model X.prog X.w) X.A (call (.ref f) us) (EP X pins σ Q) X.xe s := by
  have r2 : Vals (vs ++ dvs) (us ++ ds) := r.append hd
  have hl : (us ++ ds).length = ps.length := by rw [← r2.length]; exact F.len _ _ _ _ h
  refine wpAny_call (codeAny_mono (F.run X.A X.stack s H ⟨us, []⟩ (us ++ ds) (vs ++ dvs) Q _ c.room c.gd I.env0 (hb s us I.kIn hl) r2 h) fun r s' hq => ?_)
  cases r with
  | error e => exact c.tk e s' (XE.of_call I (fun _ _ _ h => h) hq)
  | ok fl =>
    cases fl with
    | ret u => exact I.after hq
    | next => exact False.elim hq
    | brk => exact False.elim hq
    | cont => exact False.elim hq
/-- the defaults as plain data -/
def FlatL : List D → List V → Prop
  | [], vs => vs = []
  | d :: ds, vs => ∃ v r, vs = v :: r ∧ flat d v ∧ FlatL ds r
theorem FlatL.rd {K : PySem.W.Frag} {m : List Addr} {H : Hp} : ∀ {ds : List D} {vs : List V}, FlatL ds vs → RDs K m H ds vs
  | [], _, h => by cases h; exact .nil
  | _ :: _, _, ⟨v, r, e, h1, h2⟩ => by subst e; exact .cons h1.rd (FlatL.rd h2)
def eFn (sem : List D → M D) (dd : List D) (fs : A) : F := fun ρ => bind (fs ρ) fun ds => sem (ds ++ dd)
theorem me_call (F : FnG X.prog X.w X.K X.mg X.base k f fd ps (spM X.K sem ps.length)) (c : Cc X W k) (hm : X.mg x = some (.ref f)) (hk : PySem.W.keepIn X.K (.ref f) = true) (hb : Binds X.K fd ps ds) (hd : Vals dvs ds) (hD : FlatL dd dvs)
    (hn : (e :: es).length + dvs.length = ps.length) (ha : MA X W (e :: es) fs) (hfl : ∀ ρ S ds' S', fs ρ S = .ok ds' S' → ds'.length = (e :: es).length) (hg : Gl X x := by rfl)
    (hdb : (x == ("__debug__" : Str)) = false := by decide) (he : starEach (e :: es) X.env = (false, eval e X.env) :: starEach es X.env := by rfl) (hpl : (backTo pos (starEach es X.env)).any (·.1) = false := by rfl) :
    ME X W (.Call (.Name x p) (e :: es) [] pos) (eFn sem dd fs) := by
  refine ⟨fun pins s σ H Q I ⟨m, ρ, S, hr, R, q⟩ => ?_⟩
  refine wpAny_Call_Name_kw (ld_glob I hg hm ?_ hdb)
  have q' : tA X.K W fs σ H fun vs H1 => (vs ++ dvs).length = ps.length ∧ ∃ d S1 m1, RDs X.K m1 H1 d vs ∧ Aft m H m1 H1 ∧ Rel X.K m1 S1 H1 ∧ EndM X.K m1 H1 (RD X.K) (fun c d H' => W c d σ H') (sem (d ++ dd) S1) Q := by
    refine ⟨m, ρ, S, hr, R, ?_⟩
    have z := EndM.step (R := RDs X.K) (f := fs ρ) (g := fun ds => sem (ds ++ dd)) q
    cases e1 : fs ρ S with
    | ok d S1 =>
      rw [e1] at z
      have hl := hfl ρ S d S1 e1
      intro m' v H' a b c'
      obtain ⟨d0, S0, m0, h1, h2, h3, h4⟩ := z m' v H' a b c'
      exact ⟨by rw [List.length_append, ← c'.length, hl]; exact hn, d0, S0, m0, h1, h2, h3, h4⟩
    | exc x S1 => rw [e1] at z; exact z
    | bad => rw [e1] at z; exact z
  refine PySem.W.callWith_K (h₀ := X.base) I.ok.mod.kin hk (thn (ha.run pos pins s σ H _ I q') fun us s1 ⟨vs, H1, I1, r, hl, d, S1, m1, rd, a1, R1, q1⟩ => ⟨I1.kIn, ?_⟩) he hpl
  exact run_fnG F c hb hd I1 r ⟨hl, m1, S1, d ++ dd, R1, rd.append hD.rd, q1⟩
theorem me_call0 (F : FnG X.prog X.w X.K X.mg X.base k f fd ps (spM X.K sem ps.length)) (c : Cc X W k) (hm : X.mg x = some (.ref f)) (hk : PySem.W.keepIn X.K (.ref f) = true) (hb : Binds X.K fd ps ds) (hd : Vals dvs ds) (hD : FlatL dd dvs)
    (hn : dvs.length = ps.length) (hg : Gl X x := by rfl) (hdb : (x == ("__debug__" : Str)) = false := by decide) : ME X W (.Call (.Name x p) [] [] pos) (fun _ => sem dd) := by
  refine ⟨fun pins s σ H Q I ⟨m, ρ, S, hr, R, q⟩ => ?_⟩
  refine wpAny_Call_Name_kw (ld_glob I hg hm ?_ hdb)
  exact PySem.W.callWith_K0 I.kIn hk (run_fnG (us := []) (vs := []) F c hb hd I .nil ⟨hn, m, S, dd, R, hD.rd, q⟩)
end

/-- as many values as expressions -/
theorem len_nil : ∀ ρ S ds' S', aNil ρ S = .ok ds' S' → ds'.length = 0 := fun ρ S ds' S' h => by
  cases h; rfl
theorem len_cons {fa : F} {fs : A} {n : Nat} (h : ∀ ρ S ds' S', fs ρ S = .ok ds' S' → ds'.length = n) : ∀ ρ S ds' S', aCons fa fs ρ S = .ok ds' S' → ds'.length = n + 1 := fun ρ S ds' S' q => by
  obtain ⟨a, S1, e1, q1⟩ := bind_ok q
  obtain ⟨b, S2, e2, q2⟩ := bind_ok q1
  cases q2
  rw [List.length_cons, h _ _ _ _ e2]

/-! ### a def by its body -/
def startE (n : Nat) (ds : List D) : Env := ds.map some ++ List.replicate (n - ds.length) none
def semOf (n : Nat) (g : G) : List D → M D := fun ds S => match g (startE n ds) S with
  | .next _ S' => .ok .non S'
  | .ret d S' => .ok d S'
  | .exc x _ S' => .exc x S'
  | _ => .bad
theorem RE.start {K : PySem.W.Frag} {m : List Addr} {H : Hp} {N : List Str} {ds : List D} {vs : List V} (h : RDs K m H ds vs) : RE K m H (startE N.length ds) (L2.start N vs) := by
  unfold startE L2.start
  refine ⟨by simp [h.length], fun i d q => ?_⟩
  by_cases hi : i < ds.length
  · rw [List.getElem?_append_left (by simpa using hi), List.getElem?_map] at q
    cases e : ds[i]? with
    | none => rw [e] at q; cases q
    | some d' =>
      rw [e] at q
      cases q
      obtain ⟨v, h1, h2⟩ := h.get e
      refine ⟨v, ?_, h2⟩
      rw [List.getElem?_append_left (by simp [← h.length]; exact hi), List.getElem?_map, h1]
      rfl
  · rw [List.getElem?_append_right (by simpa using Nat.le_of_not_lt hi), List.getElem?_replicate] at q
    split at q <;> cases q
theorem fn_M {P : Program} {w : World} {K : PySem.W.Frag} {mg : Str → Option Value} {base : Heap} {k : Nat} {f : Addr} {name qual : Str} {params : Arguments} {body : List Stmt} {scope : Scope} {dV kV doc pm cdv ct oc : Value} {an od : Option Addr}
    {osl : Array (Option Value)} {N ps : List Str} {g : G} (lk : K.lookup f = some ⟨oc, od, .func (PySem.W.fnOf name qual params body scope dV kV doc pm an cdv ct), osl⟩) (hcd : PySem.W.codeIn K cdv qual = true) (S : FnScope N ps scope)
    (hbody : ∀ (A : Around) (outer : List PySem.Env) (s : Shared) (H : Hp) (E : XK), Cc (cxOf (CX P w) P w K mg base N qual scope f cdv A outer s H E) (fun c d _ H' => E c d H') k →
      PassesOwn (model P w) (A.deeper (envOfC qual scope s.heap.objs.size f cdv)) (envOfC qual scope s.heap.objs.size f cdv) (cxOf (CX P w) P w K mg base N qual scope f cdv A outer s H E).xe →
      MSs (cxOf (CX P w) P w K mg base N qual scope f cdv A outer s H E) (fun c d _ H' => E c d H') body g) :
    FnG P w K mg base (k + 1) f (PySem.W.fnOf name qual params body scope dV kV doc pm an cdv ct) ps (spM K (semOf N.length g) ps.length) := by
  refine ⟨spM_len, fun A outer s H args us vs Q E hr hgd e0 hb r hsp => ?_⟩
  have hl := spM_len _ _ _ _ hsp
  have KX : K.In s.heap := e0.mod.kin.keeps fun b o e => (e0.bs b o e).1
  have lim : s.heap.NoLimit := e0.mod.nolimit.keeps fun b o e => (e0.bs b o e).1
  have hkind : ∀ y ∈ ps.zip us, scope.names.lookup y.1 = some .local ∨ (scope.names.lookup y.1 = some .cell ∧ ((cellsFrom (s.heap.objs.size + 1) scope.names []).lookup y.1).isSome = true) := fun ⟨n, v⟩ hy => by
    rcases S.par n (List.of_mem_zip hy).1 with q | q
    · exact .inl q
    · exact .inr ⟨q, PySem.W.cellsFrom_some _ _ _ (.inl q)⟩
  refine codeAny_call_function hr.depth (KX _ _ lk) rfl S.co S.gen rfl (PySem.W.codeRec_of KX hcd) (hb _ _ _ _ ?_)
  refine wpAny_newFunctionEnv_cells S.kind hkind fun env he s1 x => ?_
  subst he
  refine ⟨lim.keeps x.toInCall.keep, codeAny_func ?_⟩
  have hgd' : (A.deeper (envOfC qual scope s.heap.objs.size f cdv)).guards = some [] := hgd
  have ht := hbody A outer s H E ⟨takes_of rfl rfl rfl rfl, hr.deeper _, hgd', rfl, S.nd⟩ (passes_of rfl)
  have I : Inv (cxOf (CX P w) P w K mg base N qual scope f cdv A outer s H E) [] (L2.start N vs) H s1 := inv_start S hr.hd e0 hl r x
  obtain ⟨_, m, S0, ds, R, rd, q⟩ := hsp
  refine wpAny_mono (ht.run [] s1 (L2.start N vs) H { nx := fun _ H' => Q .non H', rt := Q } I ⟨m, startE N.length ds, S0, .start rd, R, ?_⟩) (fun fl s' hs => ?_) fun e s' hs => hs
  · unfold semOf at q
    cases eg : g (startE N.length ds) S0 with
    | next ρ' S' => rw [eg] at q; exact fun m' σ' H' a b c => q m' .non H' a b .non
    | ret d S' => rw [eg] at q; exact q
    | brk ρ' S' => rw [eg] at q; exact q.elim
    | cont ρ' S' => rw [eg] at q; exact q.elim
    | exc x ρ' S' => rw [eg] at q; exact fun m' σ' H' c d a b _ e => q m' H' c d a b e
    | bad => rw [eg] at q; exact q.elim
  have fin : ∀ {σ' : L2.St} {H' : Hp} {v : V} {u : Value}, Inv (cxOf (CX P w) P w K mg base N qual scope f cdv A outer s H E) [] σ' H' s' → RelV v u → Q v H' → CE outer P w H s Q u s' :=
    fun {σ' H' v u} J rv q => ⟨v, H', J.os, J.bare, J.base, J.hok, rv, q⟩
  cases fl with
  | ret u =>
    obtain ⟨v, σ', H', J, rv, q⟩ := hs
    exact fin J rv q
  | next =>
    obtain ⟨σ', H', J, q⟩ := hs
    exact fin (v := V.non) (u := Value.none) J rfl q
  | brk =>
    obtain ⟨_, _, _, q⟩ := hs
    exact False.elim q
  | cont =>
    obtain ⟨_, _, _, q⟩ := hs
    exact False.elim q
end MP
set_option Elab.async false
set_option linter.all false
set_option maxRecDepth 100000
set_option maxHeartbeats 4000000
namespace MP
open PySem PySem.Spec PyProof.Rows L2

/-! ### a def of the head keeps its promise -/
theorem fun_M {P : Program} {w : World} {K : PySem.W.Frag} {mg : Str → Option Value} {base : Heap} {x qual : Str} {params : Arguments} {body : List Stmt} {scope : Scope} {dvs : List V} {kws : List (Str × V)} {f : Addr} {fd : FuncData} {N ps : List Str} {k : Nat} {g : G}
    (F : FunD K x qual params body scope dvs kws f fd) (S : FnScope N ps scope)
    (hbody : ∀ (cdv : Value) (A : Around) (outer : List PySem.Env) (s : Shared) (H : Hp) (E : XK), Cc (cxOf (CX P w) P w K mg base N qual scope f cdv A outer s H E) (fun c d _ H' => E c d H') k →
      PassesOwn (model P w) (A.deeper (envOfC qual scope s.heap.objs.size f cdv)) (envOfC qual scope s.heap.objs.size f cdv) (cxOf (CX P w) P w K mg base N qual scope f cdv A outer s H E).xe →
      MSs (cxOf (CX P w) P w K mg base N qual scope f cdv A outer s H E) (fun c d _ H' => E c d H') body g) :
    FnG P w K mg base (k + 1) f fd ps (spM K (semOf N.length g) ps.length) := by
  obtain ⟨oc, od, dV, kV, doc, pm, an, cdv, ct, osl, rfl, lk, hcd, _, _⟩ := F.ex
  exact fn_M lk hcd S fun A outer s H E c o => hbody cdv A outer s H E c o

/-! ### the head: the module's objects but lists, and a check of one's own -/
def noList (o : Obj) : Bool := match o.cls with
  | .type c => !decide (c = "list")
  | _ => true
def frN (g : Addr → Option Obj) (as : List Addr) : PySem.W.Frag := (He.frG g as).filter fun p => noList p.2
theorem lookup_filter {α β : Type} [BEq α] [LawfulBEq α] {p : α × β → Bool} {a : α} {b : β} : ∀ {l : List (α × β)}, (l.filter p).lookup a = some b → ∃ b', (a, b') ∈ l ∧ p (a, b') = true ∧ b' = b
  | [], h => by cases h
  | (x, y) :: r, h => by
    rw [List.filter_cons] at h
    split at h
    · rename_i hp
      rw [List.lookup_cons] at h
      split at h
      · rename_i he
        rw [beq_iff_eq.mp he]
        cases h
        exact ⟨b, List.mem_cons_self .., hp, rfl⟩
      · obtain ⟨b', h1, h2⟩ := lookup_filter h
        exact ⟨b', List.mem_cons_of_mem _ h1, h2⟩
    · obtain ⟨b', h1, h2⟩ := lookup_filter h
      exact ⟨b', List.mem_cons_of_mem _ h1, h2⟩
theorem mem_frG {g : Addr → Option Obj} {as : List Addr} {a : Addr} {o : Obj} (h : (a, o) ∈ He.frG g as) : g a = some o := by
  obtain ⟨b, _, e⟩ := List.mem_filterMap.mp h
  cases q : g b with
  | none => rw [q] at e; cases e
  | some u => rw [q] at e; cases e; exact q
theorem frN_at {g : Addr → Option Obj} {as : List Addr} {a : Addr} {o : Obj} (h : (frN g as).lookup a = some o) : g a = some o ∧ noList o = true := by
  obtain ⟨b, h1, h2, rfl⟩ := lookup_filter h
  exact ⟨mem_frG h1, h2⟩
abbrev AlM : Type := Bool × He.AlD
def obsM (ex : PySem.W.Frag → Bool) (fa : List He.Fa) (fn : List He.DefD) (K : PySem.W.Frag) : AlM := (ex K, He.obsD fa fn K)
def SaysM (ex : PySem.W.Frag → Bool) (fa : List He.Fa) (fn : List He.DefD) (K : PySem.W.Frag) : Prop := (ex K = true ∧ He.SaysD fa fn K) ∧ ∀ a o, K.lookup a = some o → noList o = true
def obsMG (n : Nat) (ex : PySem.W.Frag → Bool) (fa : List He.Fa) (fn : List He.DefD) (g : Addr → Option Obj) : AlM := obsM ex fa fn (frN g (He.asD g n))
def hookM (n : Nat) (ex : PySem.W.Frag → Bool) (fa : List He.Fa) (fn : List He.DefD) : PySem.W.Hook where
  α := AlM
  obs := fun s => obsMG n ex fa fn s.heap.get?
  val := fun _ => (true, He.valD fn)
  says := fun _ h => ∃ K : PySem.W.Frag, K.In h ∧ SaysM ex fa fn K
  of := fun _ s e => ⟨frN s.heap.get? (He.asD s.heap.get? n), fun _ _ e => (frN_at e).1, ⟨congrArg (fun z : AlM => z.1) e, congrArg (fun z : AlM => z.2) e⟩, fun _ _ e => (frN_at e).2⟩
  keeps := fun _ _ _ ⟨K, hK, c⟩ k => ⟨K, PySem.W.Frag.In.keeps hK k, c⟩
theorem obsMG_eq {n : Nat} {ex : PySem.W.Frag → Bool} {fa : List He.Fa} {fn : List He.DefD} {g : Addr → Option Obj} {s : Shared} (h : ∀ a, g a = s.heap.get? a) : obsMG n ex fa fn g = (hookM n ex fa fn).obs s := by
  have e : g = s.heap.get? := funext h
  rw [e] <;> rfl

/-! ### the law's end -/
theorem law_callG {P : Program} {w : World} {K : PySem.W.Frag} {mg mb : Str → Option Value} {k : Nat} {fa a : Addr} {fd : FuncData} {x : Str} {sem : List D → M D} {s₁ : Shared} {vs : List Value} {ns : List Int}
    (KX : K.In s₁.heap) (hnl : ∀ a o, K.lookup a = some o → noList o = true) (hns : s₁.heap.Ns mainGlobals mg) (hb : s₁.heap.Ns builtinsNs mb) (hbb : ∀ x : Str, x ≠ "__name__" → mb x = bootBuiltins x) (hlim : s₁.heap.NoLimit) (hg : s₁.gens = #[])
    (ha : s₁.heap.get? a = some { cls := .type "list", data := .seq vs.toArray }) (hi : IntsAre vs ns) (hl : ns.length ≤ sizeLine) (hr : Room k callerA)
    (F : ∀ base : Heap, K.In base → base.Ns mainGlobals mg → FnG P w K mg base k fa fd [x] (spM K sem 1)) (hbind : ∀ (s : Shared) (u : Value), BindsTo s fd ⟨[u], []⟩ [(x, u)])
    (hsp : ∃ S', sem [.ref 0] [.ro (ns.map D.int)] = .ok (.bl true) S') :
    codeAny (model P w) callerA (.call (.ref fa) ⟨[.ref a], []⟩) (fun r s' => r = .ok (.ret (.bool true)) ∧ OldK s₁.heap s'.heap ∧ s'.os = s₁.os ∧ AllBare s'.gens) s₁ := by
  have rv := vals_ints hi
  have lenV := hi.length
  have hk : K.lookup a = none := by
    cases e : K.lookup a with
    | none => rfl
    | some o =>
      have e1 := KX a o e
      rw [ha] at e1
      cases e1
      have := hnl _ _ e
      simp [noList] at this
  let H : Hp := fun b => if b = a then some (.frz { cls := .type "list", data := .seq vs.toArray } (.lst (ns.map V.int))) else none
  have Ha : H a = some (.frz { cls := .type "list", data := .seq vs.toArray } (.lst (ns.map V.int))) := if_pos rfl
  have Hn : ∀ b, b ≠ a → H b = none := fun b hb => if_neg hb
  have hA : ∀ b, H b ≠ none → b = a := fun b z => Classical.byContradiction fun hb => z (Hn b hb)
  have hok : HOk P w H s₁.heap := fun b u z => by
    by_cases hb : b = a
    · subst hb
      rw [Ha] at z
      cases z
      exact ⟨ha, by rw [List.length_map]; exact hl, vs, _, rv, ha⟩
    · rw [Hn b hb] at z; cases z
  have base_of : ∀ {b : Addr} {o : Obj}, s₁.heap.get? b = some o → H b = none → (hidT s₁.heap H).get? b = some o := fun e n => hidT_get e n
  have noA : ∀ {b : Addr} {o : Obj} {es : Array DictEntry} {ep : Nat}, s₁.heap.get? b = some o → o.data = .dict es ep → H b = none := fun {b o es ep} e d => by
    cases q : H b with
    | none => rfl
    | some u =>
      have e' : b = a := hA b (by rw [q]; simp)
      subst e'
      rw [ha] at e; cases e
      have d' : Data.seq vs.toArray _ = Data.dict es ep := d
      cases d'
  have nsK : ∀ {b : Addr} {m : Str → Option Value}, s₁.heap.Ns b m → (hidT s₁.heap H).Ns b m := fun {b m} ⟨o, es, ep, e, d, r⟩ => ⟨o, es, ep, base_of e (noA e d), d, r⟩
  have hKb : K.In (hidT s₁.heap H) := fun b o e => base_of (KX b o e) (by
    refine Hn b fun e' => ?_
    subst e'
    rw [hk] at e; cases e)
  have hM : Mod K mg (hidT s₁.heap H) := ⟨hKb, nsK hns, ⟨mb, nsK hb, hbb⟩, let ⟨mc, h1, h2⟩ := hlim; ⟨mc, nsK h1, h2⟩⟩
  have e0 : Env0 P w K mg (hidT s₁.heap H) callerA [] s₁ H := ⟨rfl, hM, fun b o e => of_hidT e, Nat.le_of_eq (hidT_size _ _), trivial, fun b hb => absurd (show b ∈ ([] : List Addr) from hb) (by simp), hok, .of_eq hg⟩
  obtain ⟨S', hS'⟩ := hsp
  have R0 : Rel K [a] [.ro (ns.map D.int)] H := by
    refine ⟨rfl, by simp, fun (r : Nat) o b h1 h2 => ?_⟩
    cases r with
    | zero =>
      simp at h1 h2
      subst h1 h2
      exact ⟨_, ⟨_, Ha⟩, RDs.of_ints ns⟩
    | succ r => simp at h1
  have hq : spM K sem 1 [.ref a] H (fun v _ => v = .bl true) fun _ _ _ => False := by
    refine ⟨rfl, [a], _, [.ref 0], R0, .cons (.ref rfl) .nil, ?_⟩
    rw [hS']
    intro m' v H' _ _ rd
    cases rd
    rfl
  refine codeAny_mono ((F _ hKb (nsK hns)).run callerA [] s₁ H ⟨[.ref a], []⟩ [.ref a] [.ref a] _ _ hr rfl e0 (hbind s₁ (.ref a)) (.cons rfl .nil) hq) fun r s' h => ?_
  cases r with
  | error e =>
    obtain ⟨_, _, _, _, _, _, _, _, _, _, _, _, z⟩ := h
    exact z.elim
  | ok fl =>
    cases fl with
    | next => exact False.elim h
    | brk => exact False.elim h
    | cont => exact False.elim h
    | ret u =>
      obtain ⟨v, H', os, bare, un, hok', r', q⟩ := h
      have q' : v = .bl true := q
      subst q'
      obtain rfl : u = Value.bool true := r'
      refine ⟨rfl, OldK.of_keep fun b o e => ?_, os, bare⟩
      by_cases hb : b = a
      · subst hb
        have z2 := un.frzs b _ _ Ha
        obtain ⟨e1, _⟩ := hok b _ Ha
        obtain ⟨e2, _⟩ := hok' b _ z2
        rw [e] at e1; cases e1
        exact e2
      · exact un.keep b o e (Hn b hb) (by intro z; exact absurd (show b ∈ ([] : List Addr) from z) (by simp)) (by simp)
theorem walk_ofG {l : PySem.W.OpenLaw} {n k : Nat} {q : Program} {loose : List Str} {XP : (Str → Option Value) → Heap → Prop} {ex : PySem.W.Frag → Bool} {fas : List He.Fa} {fn : List He.DefD} {d : DefRec} {x : Str}
    (hn : l.most = some n) (hn2 : n ≤ sizeLine) (hdf : d.params.defaults = []) (hr : Room k callerA)
    (F : ∀ (w : World) (mg : Str → Option Value) (fa : Addr) (h : Heap) (K : PySem.W.Frag), K.In h → h.Ns mainGlobals mg → mg d.name = some (.ref fa) → (ex K = true ∧ He.SaysD fas fn K) →
      ∃ (fd : FuncData) (sem : List D → M D), (∀ (s : Shared) (u : Value), BindsTo s fd ⟨[u], []⟩ [(x, u)]) ∧
        (∀ (ns : List Int), ns.length ≤ n → (∀ z ∈ ns, Builtin.Int.intBits z ≤ 1048576) → ∃ S', sem [.ref 0] [.ro (ns.map D.int)] = .ok (.bl true) S') ∧
        ∀ base : Heap, K.In base → base.Ns mainGlobals mg → FnG l.prog w K mg base k fa fd [x] (spM K sem 1)) :
    PySem.W.WalkO q loose XP (fun _ h => ∃ K : PySem.W.Frag, K.In h ∧ SaysM ex fas fn K) l.row.toRowW d [] (fun f vs => PySem.call f vs) := by
  refine Att.attach_callB hn hdf fun w s₀ s₁ mg mb fa o pm cd doc a vs ns G Y ho hd hcd hmg hobj hints hlen hbits hg => ?_
  obtain ⟨K, KX, c, hnl⟩ := Y
  obtain ⟨fd, sem, hb, hsp, hF⟩ := F w mg fa _ K KX G.T.g hmg c
  exact law_callG KX hnl G.T.g G.T.b G.T.builtins G.T.nolimit hg hobj hints (Nat.le_trans hlen hn2) hr hF hb (hsp ns hlen hbits)
end MP
set_option Elab.async false
set_option linter.all false
set_option maxRecDepth 100000
set_option maxHeartbeats 4000000
namespace MP
open PySem PySem.Spec PyProof.Rows L2

/-! ### enumerate of a tuple -/
theorem meets_enum_new1 {v : Value} {o : Obj} {H : Heap → Prop} (B : Begins v o H) :
    Meets (Builtin.«enumerate.__new__» ⟨[.type "enumerate", v], []⟩) (fun _ R s => H s.heap ∧
      R (.ok (.ret (.ref (s.heap.push o).objs.size))) { s with heap := (s.heap.push o).push { cls := .type "enumerate", data := .fields #[.none, .bool false, .ref s.heap.objs.size, rawInt 0, .none, .none] } }) :=
  .of_wp fun prog w A R s h => by
    obtain ⟨hp, g, d, tk, os⟩ := s; obtain ⟨h1, h⟩ := h
    have hsub := sub_enumerate
    have q1 : ∀ {A' : Around} {E : Value → Shared → Prop} {Q : Value → Shared → Prop}, Q (.ref hp.objs.size) ⟨hp.push o, g, d, tk, os⟩ → wpAny (model prog w) A' (pyIter v) Q E ⟨hp, g, d, tk, os⟩ :=
      fun q => B.iter prog w _ _ ⟨hp, g, d, tk, os⟩ _ h1 q
    wp_walk using q1
    refine wpAny_stack_any fun st => wpAny_pure ?_
    split
    · rename_i c _ _ _ _ _
      cases (c == Value.type "enumerate")
      · wp_walk using q1
        exact ⟨_, rfl, h⟩
      · wp_walk using q1
        exact ⟨_, rfl, h⟩
    · wp_walk using q1
      exact ⟨_, rfl, h⟩
theorem enum_begins1 {prog : Program} {w : World} {A : Around} {E : Value → Shared → Prop} {s : Shared} {v : Value} {o : Obj} {H : Heap → Prop} {Q : Value → Shared → Prop} (B : Begins v o H) (h1 : H s.heap)
    (h : ∀ h', IsEnum h' (s.heap.objs.size + 1) s.heap.objs.size 0 .none → h'.get? s.heap.objs.size = some o → h'.objs.size = s.heap.objs.size + 2 →
      (∀ b o, s.heap.get? b = some o → h'.get? b = some o) → Q (.ref (s.heap.objs.size + 1)) { s with heap := h' }) :
    wpAny (model prog w) A (call (.type "enumerate") [v]) Q E s := by
  refine callType_new F.called_enumerate (by decide) (F.typeCall_enumerate_1 _) (F.newCall_enumerate_1 _) (fun obj => F.args_object_init_2 obj _) F.entry_enumerate_new
    (meets_enum_new1 B) ⟨h1, ?_⟩
  have hz : (s.heap.push o).objs.size = s.heap.objs.size + 1 := Heap.size_push ..
  show _ ∧ _
  rw [hz]
  have he : IsEnum ((s.heap.push o).push { cls := .type "enumerate", data := .fields #[.none, .bool false, .ref s.heap.objs.size, rawInt 0, .none, .none] }) (s.heap.objs.size + 1) s.heap.objs.size 0 .none := by
    have := Heap.get?_push_size (s.heap.push o) (o := { cls := .type "enumerate", data := .fields #[.none, .bool false, .ref s.heap.objs.size, rawInt 0, .none, .none] }) rfl
    rw [hz] at this; exact this
  refine ⟨⟨_, he, rfl⟩, h _ he (Heap.get?_push_of_some _ (Heap.get?_push_size _ B.free)) (by rw [Heap.size_push, hz]) fun b o x => Heap.get?_push_of_some _ (Heap.get?_push_of_some _ x)⟩
def IteT (K : PySem.W.Frag) (a : Addr) : It :=
  ⟨fun i H => ∃ (xs : List V) (x : V), SqT K H a xs ∧ xs[i]? = some x, fun i H v H' => ∃ T x, v = .ref T ∧ H T = none ∧ H' = upd H T (.tup [.int (i : Nat), x]) ∧ ∀ xs, SqT K H a xs → xs[i]? = some x, fun i H => ∃ xs : List V, SqT K H a xs ∧ xs.length ≤ i⟩
theorem turn_enumT {P : Program} {w : World} {K : PySem.W.Frag} {elts : List Expr} {kk : Nat} {tpos : Pos} (a e it : Addr) :
    Turn P w K (.Tuple elts kk tpos) (IteT K a) [e, it] e (fun i h => (∃ old, IsEnum h e it ((i : Nat) : Int) old) ∧ h.IsTupleIter it a i ∧ e ≠ it ∧ a ≠ it) where
  mem := by simp
  obj := fun i h st b hb => by
    obtain ⟨⟨old, he⟩, ⟨o, ho, hc, hd⟩, _⟩ := st
    have e' : b = e ∨ b = it := by simpa using hb
    rcases e' with z | z
    · rw [z]; exact ⟨_, he, fun v q => nomatch q⟩
    · rw [z]; exact ⟨o, ho, fun v q => by rw [hd] at q; cases q⟩
  keep := fun i h h' st k => let ⟨⟨old, he⟩, hi, hne⟩ := st; ⟨⟨old, k e (by simp) _ he⟩, hi.at fun o q => k it (by simp) o q, hne⟩
  item := by
    intro X hP hw hK hc i pins s σ H E I hf st hg
    subst hP hw hK
    obtain ⟨⟨old, he⟩, hit, hne, hai⟩ := st
    obtain ⟨xs, x, hq, hx⟩ := hg
    obtain ⟨its, rv, p, hz⟩ := I.tuple hq
    obtain ⟨u, hu, ru⟩ := rv.get hx
    have hel : e < s.heap.objs.size := Heap.lt_size he
    have hil : it < s.heap.objs.size := by obtain ⟨_, q, _⟩ := hit; exact Heap.lt_size q
    have hlt : i < its.toArray.size := by
      have := (List.getElem?_eq_some_iff.mp hu).1
      simpa using this
    have hea : e ≠ a := fun z => by
      obtain ⟨o, ho, hc', _⟩ := (show s.heap.IsTuple a its.toArray from p)
      subst z
      rw [he] at ho
      cases ho
      injection hc' with hc'
      exact absurd hc' (by decide)
    refine wpAny_pyNext_enum_itemD (Draws.tuple (A := X.A.in1) (I.ok.hd hc) it a hai its.toArray) he ⟨hit, p⟩ hlt hne (by simp [hne, hea]) fun x' h' tk hP ho hst' hT hsz hk => ?_
    have ex : x' = u := by
      have : (its.toArray)[i]? = some u := by simpa using hu
      rw [this] at hP
      exact (Option.some.inj hP).symm
    subst ex
    refine ⟨_, rfl, wpAny_letOwnedTupleGo_enum (s := { s with heap := h', toks := tk + 1 }) ho fun h'' he' sb => ?_⟩
    have hT2 : h''.get? s.heap.objs.size = some { cls := .type "tuple", data := .seq #[.int i tk, x'] } := (sb.2 _ (Nat.ne_of_gt hel)).trans hT
    have new : ObjOk X.prog X.w (upd H s.heap.objs.size (.tup [.int (i : Nat), x])) h'' s.heap.objs.size (.tup [.int (i : Nat), x]) :=
      ⟨by show 2 ≤ sizeLine; decide, [.int i tk, x'], .cons ⟨_, rfl⟩ (.cons ru .nil), ⟨_, hT2, rfl, _, rfl⟩⟩
    have I1 : Inv X pins σ (upd H s.heap.objs.size (.tup [.int (i : Nat), x])) { s with heap := h'', toks := tk + 1 } :=
      I.turnedNew (ch := [e, it]) (fun b ob hb q => (sb.2 b (fun z => hb (by simp [z]))).trans (hk b ob (fun z => hb (by simp [z])) (fun z => hb (by simp [z])) q)) hf (Nat.le_refl _) new
    refine ⟨.ref s.heap.objs.size, _, I1, rfl, ⟨_, x, rfl, I.hok.fresh (Nat.le_refl _), rfl, fun ys hy => by rw [I.tuple_inj hy hq]; exact hx⟩, ⟨⟨x', ?_⟩, hst'.1.at fun o q => (sb.2 it (Ne.symm hne)).trans q, hne, hai⟩, fun b hb => ?_⟩
    · have e1 : ((i + 1 : Nat) : Int) = (i : Int) + 1 := by omega
      rw [e1]; exact he'
    · have hb' : b < s.heap.objs.size := by
        have e' : b = e ∨ b = it := by simpa using hb
        rcases e' with z | z
        · rw [z]; exact hel
        · rw [z]; exact hil
      rw [upd_ne (Nat.ne_of_lt hb')]
      exact (hf b hb).1
  done := by
    intro X hP hw hK hc i pins s σ H E I hf st hg
    subst hP hw hK
    obtain ⟨⟨old, he⟩, hit, hne, hai⟩ := st
    obtain ⟨xs, hq, hx⟩ := hg
    obtain ⟨its, rv, p, hz⟩ := I.tuple hq
    obtain ⟨f0, f1, f2, f3, f4, f5⟩ := hf it (by simp)
    have hl := rv.length
    have hT : s.TypeIs (.ref e) "enumerate" := ⟨_, he, rfl⟩
    unfold pyNext
    refine wpAny_bind (wpAny_attempt (wpAny_callSpecial?_slot (name := Str.ofString "__next__") hT F.slot_enumerate_next
      (wpAny_call_entry F.slot_enumerate_next hT F.entry_enumerate_next ?_ (F.args_enumerate_next_1 _))))
    show wpAny _ _ (field (.ref e) 2 >>= _) _ _ _
    refine wpAny_bind (wpAny_field he rfl (x := .ref it) rfl ?_)
    refine wpAny_bind (wpAny_nextOf_tuple_end (A := X.A.in1) (I.ok.hd hc) hit (show s.heap.IsTuple a its.toArray from p) (by simp; omega) fun h' x he' hx' => ?_)
    obtain ⟨o, ho, hc2⟩ := hx'
    refine wpAny_bind (wpAny_isInstance (T := "StopIteration") (b := true) ⟨o, ho, hc2⟩ isSubtype_stop ?_)
    exact wpAny_pure ⟨rfl, I.turned (t' := s.toks) (fun b o hb q => he' b o hb q) f0 f1 f3 f4 f5⟩
  self := fun A i s Q E st h => let ⟨⟨_, he⟩, _⟩ := st; wpAny_pyIter_enum he h
def iEnumA (K : PySem.W.Frag) (ta : TA) : TI := fun σ H R => ta σ H fun vs H1 => ∃ a xs, vs = [.ref a] ∧ ((SqL K H1 a xs ∧ R (Ite K a) H1) ∨ (SqT K H1 a xs ∧ R (IteT K a) H1))
theorem pi_enumA {X : Cx} {e : Expr} {ta : TA} {p pos tpos : Pos} {elts : List Expr} {kk : Nat} (hg : Gl X "enumerate") (hm : X.mg "enumerate" = none) (ha : PA X [e] ta) (hs : starEach [e] X.env = [(false, eval e X.env)] := by rfl) :
    PI X (.Tuple elts kk tpos) (.Call (.Name "enumerate" p) [e] [] pos) (iEnumA X.K ta) := by
  refine ⟨fun pins s σ H R I h => ?_⟩
  refine Call_ (ld_blt I hg hm boot_enumerate (PyProof.Rows.callWith_type1 (thn (ha.run pos pins s σ H _ I h) fun us s1 ⟨vs, H1, I1, r1, q1⟩ => ?_) hs rfl))
  obtain ⟨a, xs, ex, q1⟩ := q1
  subst ex
  cases r1 with
  | cons r rr =>
    cases rr
    cases r
    rcases q1 with ⟨hq, q⟩ | ⟨hq, q⟩
    · obtain ⟨its, rv, p', hz⟩ := I1.list hq
      refine call_enumerate_list p'.isList fun h' he hit hsz hk => wpAny_pyIter_enum he ?_
      have I2 : Inv X pins σ H1 { s1 with heap := h' } := I1.kept (t' := s1.toks) hk
      refine ⟨s1.heap.objs.size + 1, [s1.heap.objs.size + 1, s1.heap.objs.size], _, _, H1, rfl, I2, turn_enum a (s1.heap.objs.size + 1) s1.heap.objs.size, ⟨⟨.none, he⟩, hit, Nat.succ_ne_self _⟩, fun b hb => ?_, q⟩
      have e' : b = s1.heap.objs.size + 1 ∨ b = s1.heap.objs.size := by simpa using hb
      have hle : s1.heap.objs.size ≤ b := by
        rcases e' with z | z
        · rw [z]; exact Nat.le_add_right _ _
        · rw [z]; exact Nat.le_refl _
      exact I1.fpOk hle (I1.hok.fresh hle)
    · obtain ⟨its, rv, p', hz⟩ := I1.tuple hq
      refine enum_begins1 (begins_tuple a its.toArray) p' fun h' he hit hsz hk => wpAny_pyIter_enum he ?_
      have I2 : Inv X pins σ H1 { s1 with heap := h' } := I1.kept (t' := s1.toks) hk
      have hal : a < s1.heap.objs.size := by
        obtain ⟨o, ho, _⟩ := (show s1.heap.IsTuple a its.toArray from p')
        exact Heap.lt_size ho
      refine ⟨s1.heap.objs.size + 1, [s1.heap.objs.size + 1, s1.heap.objs.size], _, _, H1, rfl, I2, turn_enumT a (s1.heap.objs.size + 1) s1.heap.objs.size, ⟨⟨.none, he⟩, ⟨_, hit, rfl, rfl⟩, Nat.succ_ne_self _, Nat.ne_of_lt hal⟩, fun b hb => ?_, q⟩
      have e' : b = s1.heap.objs.size + 1 ∨ b = s1.heap.objs.size := by simpa using hb
      have hle : s1.heap.objs.size ≤ b := by
        rcases e' with z | z
        · rw [z]; exact Nat.le_add_right _ _
        · rw [z]; exact Nat.le_refl _
      exact I1.fpOk hle (I1.hok.fresh hle)

section
variable {K : PySem.W.Frag} {m : List Addr} {H : Hp} {a b : Addr} {r r2 : Nat} {ds es : List D} {xs ys : List V}
def enumD (ds : List D) : List D := ds.mapIdx fun i d => .tup [.int (i : Nat), d]
def zipD (ds es : List D) : List D := List.zipWith (fun d e => .tup [d, e]) ds es
theorem new_pair {S : Store} {T : Addr} {d e : D} {x y : V} (R : Rel K m S H) (hT : H T = none) (r1 : RD K m H d x) (r2 : RD K m H e y) : Aft m H m (upd H T (.tup [x, y])) ∧ Rel K m S (upd H T (.tup [x, y])) ∧ RD K m (upd H T (.tup [x, y])) (.tup [d, e]) (.ref T) :=
  ⟨Aft.fresh hT, R.fresh hT, .tup (SqT.of upd_same) (.cons (r1.mono (Aft.fresh hT)) (.cons (r2.mono (Aft.fresh hT)) .nil))⟩
theorem enumD_get {i : Nat} {d : D} (h : (enumD ds)[i]? = some d) : ∃ e, ds[i]? = some e ∧ d = .tup [.int (i : Nat), e] := by
  unfold enumD at h
  rw [List.getElem?_mapIdx] at h
  cases q : ds[i]? with
  | none => rw [q] at h; cases h
  | some e => rw [q] at h; cases h; exact ⟨e, rfl, rfl⟩
theorem feeds_enumL (hr : m[r]? = some a) : Feeds K m H (Ite K a) (enumD ds) (holds r ds) := fun m1 S H1 e R o i => by
  obtain ⟨xs, h1, h2⟩ := holds_at R (e.at hr) o
  refine ⟨fun h => ⟨xs, h1, by rw [← h2.length]; simpa [enumD] using h⟩, fun d hd => ?_⟩
  obtain ⟨d', hd', rfl⟩ := enumD_get hd
  obtain ⟨v, g1, g2⟩ := h2.get hd'
  refine ⟨⟨xs, v, h1, g1⟩, fun x H' y => ?_⟩
  obtain ⟨T, x', rfl, hT, rfl, y⟩ := y
  have := y xs h1
  rw [g1] at this
  cases this
  exact new_pair R hT (.int _) g2
theorem feeds_enumT (h1 : SqT K H a xs) (h2 : RDs K m H ds xs) : Feeds K m H (IteT K a) (enumD ds) (fun _ => True) := fun m1 S H1 e R o i => by
  have h1 := e.sqt h1
  have h2 := h2.mono e
  refine ⟨fun h => ⟨xs, h1, by rw [← h2.length]; simpa [enumD] using h⟩, fun d hd => ?_⟩
  obtain ⟨d', hd', rfl⟩ := enumD_get hd
  obtain ⟨v, g1, g2⟩ := h2.get hd'
  refine ⟨⟨xs, v, h1, g1⟩, fun x H' y => ?_⟩
  obtain ⟨T, x', rfl, hT, rfl, y⟩ := y
  have := y xs h1
  rw [g1] at this
  cases this
  exact new_pair R hT (.int _) g2
theorem zipD_get {i : Nat} {d : D} (h : (zipD ds es)[i]? = some d) : ∃ e f, ds[i]? = some e ∧ es[i]? = some f ∧ d = .tup [e, f] := by
  unfold zipD at h
  rw [List.getElem?_zipWith] at h
  cases q : ds[i]? with
  | none => rw [q] at h; cases h
  | some e =>
    cases q2 : es[i]? with
    | none => rw [q, q2] at h; cases h
    | some f => rw [q, q2] at h; cases h; exact ⟨e, f, rfl, rfl, rfl⟩
theorem feeds_zipL (hr : m[r]? = some a) (hr2 : m[r2]? = some b) : Feeds K m H (Itz K a b) (zipD ds es) (fun S => holds r ds S ∧ holds r2 es S) := fun m1 S H1 e R o i => by
  obtain ⟨xs, h1, h2⟩ := holds_at R (e.at hr) o.1
  obtain ⟨ys, h3, h4⟩ := holds_at R (e.at hr2) o.2
  refine ⟨fun h => ⟨xs, ys, h1, h3, ?_⟩, fun d hd => ?_⟩
  · simp [zipD, h2.length, h4.length] at h
    omega
  obtain ⟨d', e', hd', he', rfl⟩ := zipD_get hd
  obtain ⟨v, g1, g2⟩ := h2.get hd'
  obtain ⟨v', g3, g4⟩ := h4.get he'
  refine ⟨⟨xs, ys, v, v', h1, h3, g1, g3⟩, fun x H' y => ?_⟩
  obtain ⟨T, x', y', rfl, hT, rfl, y1, y2⟩ := y
  have := y1 xs h1
  rw [g1] at this
  cases this
  have := y2 ys h3
  rw [g3] at this
  cases this
  exact new_pair R hT g2 g4
theorem feeds_zipT (h1 : SqT K H a xs) (h2 : RDs K m H ds xs) (h3 : SqT K H b ys) (h4 : RDs K m H es ys) : Feeds K m H (RZ.ItzT K a b) (zipD ds es) (fun _ => True) := fun m1 S H1 e R o i => by
  have h1 := e.sqt h1
  have h2 := h2.mono e
  have h3 := e.sqt h3
  have h4 := h4.mono e
  refine ⟨fun h => ⟨xs, ys, h1, h3, ?_⟩, fun d hd => ?_⟩
  · simp [zipD, h2.length, h4.length] at h
    omega
  obtain ⟨d', e', hd', he', rfl⟩ := zipD_get hd
  obtain ⟨v, g1, g2⟩ := h2.get hd'
  obtain ⟨v', g3, g4⟩ := h4.get he'
  refine ⟨⟨xs, ys, v, v', h1, h3, g1, g3⟩, fun x H' y => ?_⟩
  obtain ⟨T, x', y', rfl, hT, rfl, y1, y2⟩ := y
  have := y1 xs h1
  rw [g1] at this
  cases this
  have := y2 ys h3
  rw [g3] at this
  cases this
  exact new_pair R hT g2 g4
end
def sEnum (fs : A) : Src := fun ρ => bind (fs ρ) fun x => fun S => match x with
  | [.tup ds] => .ok (enumD ds, fun _ => True) S
  | [.ref r] => match S[r]? with
    | some (.lst ds) => .ok (enumD ds, holds r ds) S
    | some (.ro ds) => .ok (enumD ds, holds r ds) S
    | _ => .bad
  | _ => .bad
def sZip (fs : A) : Src := fun ρ => bind (fs ρ) fun x => fun S => match x with
  | [.tup ds, .tup es] => .ok (zipD ds es, fun _ => True) S
  | [.ref r, .ref r2] => match S[r]?, S[r2]? with
    | some (.lst ds), some (.lst es) => .ok (zipD ds es, fun S => holds r ds S ∧ holds r2 es S) S
    | _, _ => .bad
  | _ => .bad
section
variable {X : Cx} {W : WX} {a b c e : Expr} {es : List Expr} {fa fb fc fe : F} {ft fu : T} {fs : A} {g g1 g2 : G} {st : Stmt} {sts rest : List Stmt} {pos : Pos}
theorem mi_enum {p pos tpos : Pos} {elts : List Expr} {kk : Nat} (hm : X.mg "enumerate" = none) (ha : MA X W [a] fs) (hg : Gl X "enumerate" := by rfl) (hs : starEach [a] X.env = [(false, eval a X.env)] := by rfl) :
    MI X W (.Tuple elts kk tpos) (.Call (.Name "enumerate" p) [a] [] pos) (sEnum fs) :=
  PI.imp (pi_enumA hg hm ha hs) fun σ H Q ⟨m, ρ, S, hr, R, q⟩ => by
    refine tA_step hr R q fun v H1 d S1 m1 rd a b q1 => ?_
    have q1' : EndM X.K m1 H1 (RIt X.K) (fun c d H' => W c d σ H') (match (generalizing := false) d with
      | [.tup ds] => .ok (enumD ds, fun _ => True) S1
      | [.ref r] => match S1[r]? with
        | some (.lst ds) => .ok (enumD ds, holds r ds) S1
        | some (.ro ds) => .ok (enumD ds, holds r ds) S1
        | _ => .bad
      | _ => .bad) Q := q1
    split at q1'
    · cases rd with
      | cons r1 r2 =>
        cases r2
        cases r1 with
        | tup h1 h2 => exact ⟨_, _, rfl, .inr ⟨h1, q1' m1 _ H1 Aft.refl b (feeds_enumT h1 h2)⟩⟩
    · cases rd with
      | cons r1 r2 =>
        cases r2
        cases r1 with
        | ref hr1 =>
          split at q1'
          · rename_i e1
            obtain ⟨xs, g1, _⟩ := holds_at b hr1 (.inl e1)
            exact ⟨_, xs, rfl, .inl ⟨g1, q1' m1 _ H1 Aft.refl b (feeds_enumL hr1)⟩⟩
          · rename_i e1
            obtain ⟨xs, g1, _⟩ := holds_at b hr1 (.inr e1)
            exact ⟨_, xs, rfl, .inl ⟨g1, q1' m1 _ H1 Aft.refl b (feeds_enumL hr1)⟩⟩
          · exact q1'.elim
    · exact q1'.elim
theorem mi_zip {p pos tpos : Pos} {elts : List Expr} {kk : Nat} (hm : X.mg "zip" = none) (ha : MA X W [a, b] fs) (hg : Gl X "zip" := by rfl)
    (hs : starEach [a, b] X.env = (false, eval a X.env) :: starEach [b] X.env := by rfl) (hpl : (backTo pos (starEach [b] X.env)).any (·.1) = false := by rfl) :
    MI X W (.Tuple elts kk tpos) (.Call (.Name "zip" p) [a, b] [] pos) (sZip fs) :=
  PI.imp (RZ.pi_zipA hg hm ha hs hpl) fun σ H Q ⟨m, ρ, S, hr, R, q⟩ => by
    refine tA_step hr R q fun v H1 d S1 m1 rd a b q1 => ?_
    have q1' : EndM X.K m1 H1 (RIt X.K) (fun c d H' => W c d σ H') (match (generalizing := false) d with
      | [.tup ds, .tup es] => .ok (zipD ds es, fun _ => True) S1
      | [.ref r, .ref r2] => match S1[r]?, S1[r2]? with
        | some (.lst ds), some (.lst es) => .ok (zipD ds es, fun S => holds r ds S ∧ holds r2 es S) S1
        | _, _ => .bad
      | _ => .bad) Q := q1
    split at q1'
    · cases rd with
      | cons r1 r2 =>
        cases r2 with
        | cons r2 r3 =>
          cases r3
          cases r1 with
          | tup h1 h2 =>
            cases r2 with
            | tup h3 h4 => exact ⟨_, _, _, _, rfl, .inr ⟨h1, h3, q1' m1 _ H1 Aft.refl b (feeds_zipT h1 h2 h3 h4)⟩⟩
    · cases rd with
      | cons r1 r2 =>
        cases r2 with
        | cons r2 r3 =>
          cases r3
          cases r1 with
          | ref hr1 =>
            cases r2 with
            | ref hr2 =>
              split at q1'
              · rename_i e1 e2
                obtain ⟨xs, g1, _⟩ := holds_at b hr1 (.inl e1)
                obtain ⟨ys, g2, _⟩ := holds_at b hr2 (.inl e2)
                exact ⟨_, _, xs, ys, rfl, .inl ⟨g1, g2, q1' m1 _ H1 Aft.refl b (feeds_zipL hr1 hr2)⟩⟩
              · exact q1'.elim
    · exact q1'.elim
def textD (x : Str) : List D := x.cps.toList.map fun c => .str ⟨#[c]⟩
def sStr (f : F) : Src := fun ρ => bind (f ρ) fun x => fun S => match x with
  | .str x => .ok (textD x, fun _ => True) S
  | _ => .bad
theorem mi_str {tg : Expr} (ha : ME X W a fa) : MI X W tg a (sStr fa) :=
  PI.imp (pi_str ha) fun σ H Q ⟨m, ρ, S, hr, R, q⟩ => by
    refine tM_step hr R q fun v H1 d S1 m1 rd a b q1 => ?_
    cases rd with
    | str x =>
      refine ⟨x, rfl, q1 m1 _ H1 Aft.refl b fun m2 S2 H2 e R2 o i => ⟨fun h => (show x.cps.size ≤ i by simpa [textD] using h), fun d hd => ?_⟩⟩
      have hd : (x.cps.toList.map fun c => D.str ⟨#[c]⟩)[i]? = some d := hd
      rw [List.getElem?_map] at hd
      cases e1 : x.cps.toList[i]? with
      | none => rw [e1] at hd; cases hd
      | some c =>
        rw [e1] at hd
        cases hd
        have e2 : x.cps[i]? = some c := by simpa using e1
        refine ⟨show i < x.cps.size from (Array.getElem?_eq_some_iff.mp e2).1, fun v' H' y => ?_⟩
        obtain ⟨rfl, c', hc', rfl⟩ := y
        rw [e2] at hc'
        cases hc'
        exact ⟨Aft.refl, R2, .str _⟩
    | _ => exact q1.elim

/-! ### a tuple or a list unpacked -/
def pUnp (n : Nat) (q : List D → Env → Store → Option (Env × Store)) : Pat := fun d ρ S => match seqOf S d with
  | some ds => if ds.length = n then q ds ρ S else none
  | none => none
theorem mg_unp {es : List Expr} {k n : Nat} {q : List D → Env → Store → Option (Env × Store)} {vs : List Nat} (hc : X.calm = true) (h : MGs X es q vs)
    (hn : (assignEach es X.env).length = n := by rfl) (hst : (assignEach es X.env).findIdx? (·.1) = none := by rfl) : MG X (.Tuple es k pos) (pUnp n q) vs := by
  refine ⟨fun pins s σ H v u Q I r hq => ?_⟩
  obtain ⟨m, ρ, S, d, hr, R, rd, ρ', S', e, kk⟩ := hq
  cases d with
  | tup ds => exact (mg_tup hc h hn hst).run pins s σ H v u Q I r ⟨m, ρ, S, _, hr, R, rd, ρ', S', by simpa [pUnp, pTup, seqOf] using e, kk⟩
  | ref a =>
    refine (mg_lst hc h hn hst).run pins s σ H v u Q I r ⟨m, ρ, S, _, hr, R, rd, ρ', S', ?_, kk⟩
    unfold pUnp at e
    unfold pLst
    cases el : listOf S (.ref a) with
    | none => rw [show seqOf S (.ref a) = listOf S (.ref a) from rfl, el] at e; cases e
    | some ds => rw [show seqOf S (.ref a) = listOf S (.ref a) from rfl, el] at e; simp only [el]; exact e
  | _ => cases e

/-! ### *e in a display, an argument list -/
def aStar (f : F) (fs : A) : A := fun ρ => bind (f ρ) fun x => fun S => match seqOf S x with
  | some ds => bind (fs ρ) (fun ys => ret (ds ++ ys)) S
  | none => .bad
theorem ma_star {p : Pos} (he : ME X W e fe) (hs' : MA X W es fs) (hs : starEach (.Starred e p :: es) X.env = (true, eval e X.env) :: starEach es X.env := by rfl) : MA X W (.Starred e p :: es) (aStar fe fs) :=
  PA.imp (StX.pa_star he hs' hs) fun σ H Q ⟨m, ρ, S, hr, R, q⟩ => by
    refine tM_step hr R q fun v H1 d S1 m1 rd a b q1 => ?_
    have q1' : EndM X.K m1 H1 (RDs X.K) (fun c d H' => W c d σ H') (match seqOf S1 d with
      | some ds => bind (fs ρ) (fun ys => ret (ds ++ ys)) S1
      | none => .bad) Q := q1
    cases e1 : seqOf S1 d with
    | none => rw [e1] at q1'; exact q1'.elim
    | some ds =>
      rw [e1] at q1'
      obtain ⟨p, xs, rfl, hx, rx⟩ := seqOf_ok b rd e1
      refine ⟨p, xs, rfl, hx.symm, ?_⟩
      refine tA_step (hr.mono a) b q1' fun ys H2 d2 S2 m2 rd2 a2 b2 q2 => ?_
      exact q2 m2 _ H2 Aft.refl b2 ((rx.mono a2).append rd2)
def oRev : Op1 := fun x S => match listOf S x with
  | some ds => some (.ref S.length, S ++ [.lst ds.reverse])
  | none => none
theorem me_revL {k : Nat} {p1 p2 p3 pos : Pos} (he : ME X W e fe) : ME X W (.Subscript e (.Slice none none (some (.UnaryOp .USub (.Constant (.int 1) k p1) p2)) p3) pos) (eUn oRev fe) :=
  PE.imp (pe_revL he) fun σ H Q ⟨m, ρ, S, hr, R, q⟩ => by
    refine tM_step hr R q fun v H1 d S1 m1 rd a b q1 => ?_
    have q2 := q1.lift
    unfold oRev at q2
    cases e1 : listOf S1 d with
    | none => rw [e1] at q2; exact q2.bad.elim
    | some ds =>
      rw [e1] at q2
      obtain ⟨p, xs, rfl, hx, rx⟩ := listOf_ok b rd e1
      exact ⟨p, xs, rfl, hx, fun p hp => q2.lst b rx.rev hp⟩

/-! ### {k: v, ..} -/
def pairsM : List (F × F) → Env → M (List (D × D))
  | [], _ => ret []
  | (a, b) :: r, ρ => bind (a ρ) fun x => bind (b ρ) fun y => bind (pairsM r ρ) fun l => ret ((x, y) :: l)
inductive RPs (K : PySem.W.Frag) (m : List Addr) (H : Hp) : List (D × D) → List (V × V) → Prop
  | nil : RPs K m H [] []
  | cons {d e : D} {v w : V} {ds : List (D × D)} {vs : List (V × V)} : RD K m H d v → RD K m H e w → RPs K m H ds vs → RPs K m H ((d, e) :: ds) ((v, w) :: vs)
theorem pairs_of : ∀ {ps : List (F × F)} {σ : L2.St} {m : List Addr} {ρ : Env} {S : Store} {H : Hp} {Q : List (V × V) → Hp → Prop}, RE X.K m H ρ σ → Rel X.K m S H → EndM X.K m H (RPs X.K) (fun c d H' => W c d σ H') (pairsM ps ρ S) Q →
    tPairs (ps.map fun p => (tM X.K W p.1, tM X.K W p.2)) σ H Q
  | [], _, m, _, _, H, _, _, R, q => q m [] H Aft.refl R .nil
  | (a, b) :: r, σ, m, ρ, S, H, Q, hr, R, q => by
    refine tM_step hr R q fun x H1 d1 S1 m1 rd1 a1 R1 q1 => ?_
    refine tM_step (hr.mono a1) R1 q1 fun y H2 d2 S2 m2 rd2 a2 R2 q2 => ?_
    refine pairs_of ((hr.mono a1).mono a2) R2 ((EndM.step (R := RPs X.K) q2).mono fun l H3 ⟨dl, S3, m3, r3, a3, R3, q3⟩ => ?_)
    exact q3 m3 _ H3 Aft.refl R3 (.cons ((rd1.mono a2).mono a3) (rd2.mono a3) r3)
def keysOf : List (D × D) → Option (List (Key × D))
  | [] => some []
  | (k, v) :: r => match keyOf k with
    | some k => match keysOf r with
      | some l => some ((k, v) :: l)
      | none => none
    | none => none
theorem keysOf_ok {K : PySem.W.Frag} {m : List Addr} {H : Hp} : ∀ {l : List (D × D)} {vs : List (V × V)} {ks : List (Key × D)}, RPs K m H l vs → keysOf l = some ks → ∃ kvs, vs = kvs.map (fun kv => (kV kv.1, kv.2)) ∧ RKV K m H ks kvs
  | [], _, _, .nil, e => by cases e; exact ⟨[], rfl, trivial⟩
  | (k, v) :: r, _, ks, .cons h1 h2 h3, e => by
    unfold keysOf at e
    cases e1 : keyOf k with
    | none => rw [e1] at e; cases e
    | some k' =>
      rw [e1] at e
      cases e2 : keysOf r with
      | none => rw [e2] at e; cases e
      | some l =>
        rw [e2] at e
        cases e
        obtain ⟨kvs, rfl, h4⟩ := keysOf_ok h3 e2
        exact ⟨(k', _) :: kvs, by rw [keyOf_ok h1 e1]; rfl, rfl, h2, h4⟩
def mergeD (acc : List (Key × D)) (more : List (Key × D)) : List (Key × D) := more.foldl (fun acc kv => setK acc kv.1 kv.2) acc
theorem rkv_merge {K : PySem.W.Frag} {m : List Addr} {H : Hp} : ∀ {ks : List (Key × D)} {kvs : List (Key × V)} {acc : List (Key × D)} {acc' : List (Key × V)}, RKV K m H acc acc' → RKV K m H ks kvs → RKV K m H (mergeD acc ks) (mergeK acc' kvs)
  | [], [], _, _, h, _ => h
  | (k, d) :: r, (k', v) :: r', acc, acc', h, h2 => by
    obtain ⟨e, h3, h4⟩ := h2
    cases e
    exact rkv_merge (ks := r) (kvs := r') (rkv_set h3 h) h4
  | [], _ :: _, _, _, _, h => h.elim
  | _ :: _, [], _, _, _, h => h.elim
def eDisp (ps : List (F × F)) : F := fun ρ => bind (pairsM ps ρ) fun l => fun S => match keysOf l with
  | some ks => if ks.length ≤ 15 then .ok (.ref S.length) (S ++ [.dict (mergeD [] ks)]) else .bad
  | none => .bad
abbrev MPs (X : Cx) (W : WX) (pos : Pos) (keys : List (Option Expr)) (values : List Expr) (ps : List (F × F)) : Prop := PPs X pos keys values (ps.map fun p => (tM X.K W p.1, tM X.K W p.2))
theorem mps_nil : MPs X W pos [] [] [] := pps_nil
theorem mps_cons {k v : Expr} {ks : List (Option Expr)} {vs : List Expr} {ps : List (F × F)} (hk : ME X W k fa) (hv : ME X W v fb) (hr : MPs X W pos ks vs ps) : MPs X W pos (some k :: ks) (v :: vs) ((fa, fb) :: ps) := pps_cons hk hv hr
theorem me_disp {keys : List (Option Expr)} {values : List Expr} {ps : List (F × F)} (h : MPs X W pos keys values ps) (hall : keys.all (·.isSome) = true := by rfl) (hl : keys.length = values.length := by rfl) (h0 : keys ≠ [] := by simp)
    (h15 : keys.length ≤ 15 := by decide) : ME X W (.Dict keys values pos) (eDisp ps) :=
  PE.imp (pe_disp h hall hl h0 h15) fun σ H Q ⟨m, ρ, S, hr, R, q⟩ p hp => by
    have a0 : Aft m H m (upd H p (.dK [])) := Aft.fresh hp
    refine pairs_of (ps := ps) (hr.mono a0) (R.fresh hp) ?_
    unfold eDisp at q
    unfold bind at q
    cases e1 : pairsM ps ρ S with
    | bad => rw [e1] at q; exact q.elim
    | exc x S1 => rw [e1] at q; exact fun m' H' c d a b e => q m' H' c d (a0.trans a) b e
    | ok dl S1 =>
      rw [e1] at q
      intro m1 vs H1 a1 R1 r1
      simp only at q
      have o1 : p ∉ m1 := a1.out (R.out hp) upd_same
      have e1 : H1 p = some (.dK []) := a1.keep p _ upd_same (.inl (R.out hp))
      refine ⟨e1, ?_⟩
      cases ek : keysOf dl with
      | none => rw [ek] at q; exact q.elim
      | some ks =>
        rw [ek] at q
        obtain ⟨kvs, rfl, rk⟩ := keysOf_ok r1 ek
        simp only at q
        split at q
        · rename_i hz
          refine ⟨kvs, rfl, by rw [← rkv_length rk]; exact hz, ?_⟩
          have mu : Mu (some (HO.dK [])) := trivial
          have rk2 : RKV X.K (m1 ++ [p]) (upd H1 p (.dK (mergeK [] kvs))) (mergeD [] ks) (mergeK [] kvs) :=
            rkv_merge (acc := []) (acc' := []) trivial (rk.mono2 (sqt_upd e1 mu) (xd_upd e1 mu) fun _ _ e => at_app e)
          have R2 := (R1.side (ho' := .dK (mergeK [] kvs)) o1 e1 mu).track o1 (o := .dict (mergeD [] ks)) ⟨_, upd_same, rk2⟩
          exact q (m1 ++ [p]) _ _ (((a0.trans a1).side hp).track hp) R2 (.ref (R1.last))
        · exact q.elim
end
end MP
set_option Elab.async false
set_option linter.all false
set_option maxRecDepth 100000
set_option maxHeartbeats 4000000
namespace MP
open PySem PySem.Spec PyProof.Rows L2

/-- the module's name x is a def that means sem: its parameters, the defaults behind n given ones -/
def HasFn (P : Program) (w : World) (K : PySem.W.Frag) (mg : Str → Option Value) (base : Heap) (k : Nat) (x : Str) (ps : List Str) (dd : List D) (sem : List D → M D) : Prop :=
  ∃ (f : Addr) (fd : FuncData) (ds : List Value) (dvs : List V), FnG P w K mg base k f fd ps (spM K sem ps.length) ∧ mg x = some (.ref f) ∧ PySem.W.keepIn K (.ref f) = true ∧ Binds K fd ps ds ∧ Vals dvs ds ∧ FlatL dd dvs ∧ ∃ oc od osl, K.lookup f = some ⟨oc, od, .func fd, osl⟩
theorem FlatL.len : ∀ {dd : List D} {vs : List V}, FlatL dd vs → dd.length = vs.length
  | [], _, h => by cases h; rfl
  | _ :: _, _, ⟨v, r, e, _, h2⟩ => by subst e; simp [FlatL.len h2]
section
variable {X : Cx} {W : WX} {k k' : Nat} {ps : List Str} {sem : List D → M D} {x : Str} {p pos : Pos} {e : Expr} {es : List Expr} {fs : A} {dd : List D}
theorem me_fn (h : HasFn X.prog X.w X.K X.mg X.base k x ps dd sem) (c : Cc X W k') (ha : MA X W (e :: es) fs) (hfl : ∀ ρ S ds' S', fs ρ S = .ok ds' S' → ds'.length = (e :: es).length) (hk : k ≤ k' := by decide) (hn : (e :: es).length + dd.length = ps.length := by rfl) (hg : Gl X x := by rfl)
    (hdb : (x == ("__debug__" : Str)) = false := by decide) (he : starEach (e :: es) X.env = (false, eval e X.env) :: starEach es X.env := by rfl) (hpl : (backTo pos (starEach es X.env)).any (·.1) = false := by rfl) :
    ME X W (.Call (.Name x p) (e :: es) [] pos) (eFn sem dd fs) := by
  obtain ⟨f, fd, ds, dvs, F, hm, hkp, hb, hd, hD, _⟩ := h
  exact me_call F (c.mono hk) hm hkp hb hd hD (by rw [← hD.len]; exact hn) ha hfl hg hdb he hpl
theorem me_fn0 (h : HasFn X.prog X.w X.K X.mg X.base k x ps dd sem) (c : Cc X W k') (hk : k ≤ k' := by decide) (hn : dd.length = ps.length := by rfl) (hg : Gl X x := by rfl)
    (hdb : (x == ("__debug__" : Str)) = false := by decide) : ME X W (.Call (.Name x p) [] [] pos) (fun _ => sem dd) := by
  obtain ⟨f, fd, ds, dvs, F, hm, hkp, hb, hd, hD, _⟩ := h
  exact me_call0 F (c.mono hk) hm hkp hb hd hD (by rw [← hD.len]; exact hn) hg hdb
end
section
variable {X : Cx} {W : WX} {a b c e : Expr} {fa fb fc fe fo : F}
def oBits : Op1 := fun x S => match x with
  | .int i => some (.int (Builtin.Int.intBits i : Nat), S)
  | _ => none
theorem me_bits {o : Expr} {apos pos : Pos} (ho : ME X W o fo) (hbase : attributeBase o "bit_length" X.env (eval o X.env) = eval o X.env := by rfl) (hline : (apos.endLine == pos.line) = true := by rfl) : ME X W (.Call (.Attribute o "bit_length" apos) [] [] pos) (eUn oBits fo) :=
  PE.imp (pe_bits ho hbase hline) fun σ H Q ⟨m, ρ, S, hr, R, q⟩ => by
    refine tM_step hr R q fun v H1 d S1 m1 rd a b q1 => ?_
    have q2 := q1.lift
    unfold oBits at q2
    split at q2
    · cases rd
      exact ⟨_, rfl, q2.here b (.int _)⟩
    · exact q2.bad.elim
end
/-- what the head gives -/
structure Hd (fa : List He.Fa) (fn : List He.DefD) (K : PySem.W.Frag) (mg : Str → Option Value) : Prop where
  ex : ∃ h : Heap, K.In h ∧ h.Ns mainGlobals mg
  says : He.SaysD fa fn K
section
variable {fa : List He.Fa} {fn : List He.DefD} {K : PySem.W.Frag} {mg : Str → Option Value}
theorem Hd.glo (M : Hd fa fn K mg) (i : Nat) {x : Str} (h : fa[i]? = some (.glo x) := by rfl) : mg x = some (.ref (He.ga K x)) := by
  obtain ⟨hp, X, G⟩ := M.ex
  exact He.glo_ok X G (M.says.fact i h)
theorem Hd.free (M : Hd fa fn K mg) (i : Nat) {x : Str} (h : fa[i]? = some (.free x) := by rfl) : mg x = none := by
  obtain ⟨hp, X, G⟩ := M.ex
  exact He.free_ok X G (M.says.fact i h)
theorem Hd.int (M : Hd fa fn K mg) (i : Nat) {x : Str} {z : Int} (h : fa[i]? = some (.int x z) := by rfl) : ∃ t, mg x = some (.int z t) := by
  obtain ⟨hp, X, G⟩ := M.ex
  exact He.int_ok X G (M.says.fact i h)
theorem Hd.str (M : Hd fa fn K mg) (i : Nat) {x z : Str} (h : fa[i]? = some (.str x z) := by rfl) : ∃ t, mg x = some (.str z t) := by
  obtain ⟨hp, X, G⟩ := M.ex
  exact He.str_ok X G (M.says.fact i h)
/-- a def of the text by its body; no defaults -/
theorem hasFn_of {P : Program} {w : World} {base : Heap} (M : Hd fa fn K mg) (i j : Nat) {d : He.DefD} {N ps : List Str} {k : Nat} {g : G} (hd : fn[i]? = some d) (hj : fa[j]? = some (.glo d.name)) (hat : d.at_ = (d.name, none)) (hdf : d.dfl = []) (hkw : d.kwd = []) (S : FnScope N ps d.scope)
    (hbind : ∀ (kV doc pm : Value) (an : Option Addr) (cdv ct : Value) (us : List Value), us.length = ps.length → bindArgs (PySem.W.fnOf d.name d.qual d.params d.body d.scope .none kV doc pm an cdv ct) ⟨us, []⟩ = pure (ps.zip us))
    (hbody : ∀ (f : Addr) (cdv : Value) (A : Around) (outer : List PySem.Env) (s : Shared) (H : Hp) (E : XK), Cc (cxOf (CX P w) P w K mg base N d.qual d.scope f cdv A outer s H E) (fun c d _ H' => E c d H') k →
      PassesOwn (model P w) (A.deeper (envOfC d.qual d.scope s.heap.objs.size f cdv)) (envOfC d.qual d.scope s.heap.objs.size f cdv) (cxOf (CX P w) P w K mg base N d.qual d.scope f cdv A outer s H E).xe →
      MSs (cxOf (CX P w) P w K mg base N d.qual d.scope f cdv A outer s H E) (fun c d _ H' => E c d H') d.body g) :
    HasFn P w K mg base (k + 1) d.name ps [] (semOf N.length g) := by
  obtain ⟨fd, F⟩ := M.says.def_ i hd
  have e : He.fAd K d.at_ = He.ga K d.name := by rw [hat]; rfl
  have F' : FunD K d.name d.qual d.params d.body d.scope [] [] (He.ga K d.name) fd := by
    have z := F
    rw [e] at z
    have e1 : d.dvs K = [] := by unfold He.DefD.dvs; rw [hdf]; rfl
    have e2 : d.kws K = [] := by unfold He.DefD.kws; rw [hkw]; rfl
    rw [e1, e2] at z
    exact z
  obtain ⟨oc, od, _, _, _, _, _, _, _, osl, _, lk, _⟩ := F'.ex
  exact ⟨_, fd, [], [], fun_M F' S fun cdv A outer s H E c o => hbody _ cdv A outer s H E c o, M.glo j hj, F'.kp, F'.bindsN hbind, .nil, rfl, oc, od, osl, lk⟩
end
end MP
set_option Elab.async false
set_option linter.all false
set_option maxRecDepth 100000
set_option maxHeartbeats 4000000
namespace MP
open PySem PySem.Spec PyProof.Rows L2

/-! ### super().__init__(..) in an own error's __init__ -/
theorem call_mw {prog : Program} {w : World} {A : Around} {E : Value → Shared → Prop} {h : Heap} {g : Array GenState} {d : Drawn} {t : Nat} {os : OsState} {nm q : Str} {C N : Addr} {bs bm : List Value} {hdct : Bool} {sn : List Str} {sub : List Value} {ab : Bool} {col : Option Bool} {dd : Option Addr} {k0 k1 k2 k3 k5 : Option Value}
    {u e t0 : Addr} {rest : List Value} {Q : Value → Shared → Prop}
    (hC : h.get? C = some (excClassObj nm q C N bs bm hdct sn sub ab col dd k0 k1 k2 k3 k5 "ValueError.__new__")) (he : h.get? e = some (PySem.HandSPX.excO C t0)) (hu : h.get? u = some (PySem.W.kxs_mw "ValueError.__init__" e)) (hrest : rest.length ≤ sizeLine)
    (hq : ∀ h' t1, (∀ b o, b ≠ e → h.get? b = some o → h'.get? b = some o) → h'.get? e = some (PySem.HandSPX.excO C t1) → Q .none ⟨h', g, d, t, os⟩) :
    wpAny (model prog w) A (call (.ref u) rest) Q E ⟨h, g, d, t, os⟩ := by
  refine wpAny_call (codeAny_of_tree ?_)
  show wpAny _ A.in1 (callAny (.ref u) ⟨rest, []⟩) _ _ _
  simp only [callAny]
  refine wpAny_bind (wpAny_load hu ?_)
  simp only [PySem.W.kxs_mw, show (Value.type "method-wrapper" == Value.type "method" || Value.type "method-wrapper" == Value.type "builtin_function_or_method" || Value.type "method-wrapper" == Value.type "method-wrapper") = true by decide, if_true]
  refine PySem.W.KFB.if_so (by decide) ?_
  refine wpAny_bind (PySem.W.check_bound_init F.excBase_ValueError.toExcCallFacts hC he rfl ?_)
  refine wpAny_bind (wpAny_pure (wpAny_pure ?_))
  refine ⟨plainId_quiet F.excBase_ValueError.init.plain _, codeAny_builtin F.excBase_ValueError.initEntry ?_⟩
  exact PySem.W.exc_init_tree (cls := .ref C) (t0 := t0) (dv := none) (c2 := .none) (c3 := .none) (b4 := .bool false) he hrest fun h' k e' _ => hq h' _ k e'

section
variable {X : Cx} {pins : List (Addr × Obj)} {σ : L2.St} {H : Hp} {s : Shared}
/-- what the class at C and its __init__ at f must be -/
structure SupC (K : PySem.W.Frag) (P : Program) (C f cc cda : Addr) (fd : FuncData) (sf : Str) : Prop where
  T : OexC K C
  cd : ∃ c : ClassData, PySem.W.clsIn K C = some c ∧ PySem.W.alongIn K "__init__" ((c.mro.dropWhile (· != .ref C)).drop 1) = some (some (.builtin "ValueError.__init__"))
  subC : PySem.W.mroIn K C (.ref C) = some true
  subV : PySem.W.subIn K (.ref C) (.type "ValueError") = some true
  fn : ∃ oc od osl, K.lookup f = some ⟨oc, od, .func fd, osl⟩
  hd : ∃ ar, (fd.params.posonlyargs ++ fd.params.args).head? = some ar ∧ ar.arg = sf
  code : ∃ ccl cdd vs ccs file tf, K.lookup cda = some ⟨ccl, cdd, .fields vs, ccs⟩ ∧ vs[2]? = some (.str file tf) ∧ ((P.main.file : Str) == file) = true
  cell : ∃ cl cld csl, K.lookup cc = some ⟨cl, cld, .cell (some (.ref C)), csl⟩
  top : (P.main.scope.names.lookup ("super" : Str)).isSome = false
  stat : PySem.W.nsIn K cStatics "thirdparty.any" = some none
theorem super_stmt {body : List Stmt} {a C f cc cda : Addr} {fd : FuncData} {sf : Str} {e : Expr} {es : List Expr} {ta : TA} {p0 p1 p2 pos pos' : Pos} {Q : Flow → Shared → Prop} {pl : Sem Bool}
    (S : SupC X.K X.prog C f cc cda fd sf) (I : Inv X pins σ H s) (hself : σ[0]? = some (some (.ref a))) (h0 : X.N[0]? = some sf) (hsl : X.env.scope.names.lookup sf = some .local)
    (hks : X.env.scope.names.lookup ("super" : Str) = some .globalImplicit) (hkc : X.env.scope.names.lookup ("__class__" : Str) = some .free) (hfu : X.env.func = some f) (hco : X.env.code = .ref cda) (hcl : X.env.cells.lookup ("__class__" : Str) = some cc)
    (hms : X.mg "super" = none) (ha : PA X (e :: es) ta) (hta : ta σ H fun xs H1 => xs.length ≤ 1000 ∧ H1 = H) (hx : H a = some (exo a C none))
    (hq : ∀ s', Inv X pins σ H s' → Q .next s')
    (he : starEach (e :: es) X.env = (false, eval e X.env) :: starEach es X.env := by rfl) (hplain : (backTo pos (starEach es X.env)).any (·.1) = false := by rfl)
    (hev : eval (.Call (.Attribute (.Call (.Name "super" p0) [] [] p1) "__init__" p2) (e :: es) [] pos) X.env = (do
      let ov ← attributeBase (.Call (.Name "super" p0) [] [] p1) "__init__" X.env (eval (.Call (.Name "super" p0) [] [] p1) X.env)
      standAt p2.atName
      let (f, first) ← holding [ov] (getMethod ov "__init__" pl)
      callWith pos f first (backTo pos (starEach (e :: es) X.env)) []) := by rfl)
    (hi : interactive X.env = false := by rfl) (hs : swapsWith (.Call (.Attribute (.Call (.Name "super" p0) [] [] p1) "__init__" p2) (e :: es) [] pos) none pos'.line X.env = pure false := by rfl) :
    _root_.PySem.wpAt (model X.prog X.w) X.A (.func body X.env) (exec (.Expr (.Call (.Attribute (.Call (.Name "super" p0) [] [] p1) "__init__" p2) (e :: es) [] pos) pos') X.env) Q X.xe s := by
  obtain ⟨oc, od, osl, lf⟩ := S.fn
  obtain ⟨ar, har, earg⟩ := S.hd
  obtain ⟨ccl, cdd, vs, ccs, file, tf, lcode, hvs, hfile⟩ := S.code
  obtain ⟨cl, cld, csl, lcell⟩ := S.cell
  obtain ⟨cdD, hD, halong⟩ := S.cd
  obtain ⟨nm, q, N, bs, bm, sn, sub, ab, col, dd, k0, k1, k2, k3, k5, hCl, hbm⟩ := S.T.cls
  refine ks_wpAt_Expr_any (ks_wpAt_MethodCall (pl := pl) ?_ hev) hi hs
  have KI := I.kIn
  obtain ⟨t1, hox⟩ := exo_at I.hok hx
  obtain ⟨mb, hb1, hb2⟩ := I.mod.blt
  refine ks_wpAt_super_base hks hkc (by decide) hfu (KI _ _ lf) rfl har hco (KI _ _ lcode) rfl hvs hfile S.top ?_
  refine PySem.W.ks_loadName_global I.ok.kind hks (Calls.loadGlobal_builtin (by rw [I.ok.glob]; exact I.mod.glob.keeps I.bk) hms (by rw [I.ok.blt]; exact hb1.keeps I.bk) ((hb2 "super" (by decide)).trans (by kernel_rfl)) ⟨rfl, ?_⟩)
  refine wpAny_loadName_free I.ok.kind hkc hcl ⟨_, KI _ _ lcell, rfl⟩ ?_
  obtain ⟨m, hns, hloc⟩ := id I.loc
  obtain ⟨u, ru, hlook⟩ := hloc 0 sf _ h0 hself (.inl hsl)
  obtain rfl : u = Value.ref a := ru
  have hv : m sf = some (.ref a) := by
    rcases hlook with ⟨_, z⟩ | ⟨z, _⟩
    · exact z
    · rcases z with z | z
      · have z' : X.env.scope.names.lookup sf = some .cell := z
        rw [hsl] at z'; cases z'
      · have z' : X.env.scope.names.lookup sf = some .free := z
        rw [hsl] at z'; cases z'
  refine wpAny_loadName_local I.ok.kind (by rw [earg]; exact hsl) hns (by rw [earg]; exact hv) ?_
  obtain ⟨hh, g, d, t, os⟩ := s
  refine ks_wpAny_isType_cls (KI _ _ hCl) rfl ⟨rfl, ?_⟩
  refine ks_wpAny_call_super (KI _ _ hCl) rfl hox rfl (fun c z => nomatch z) (PySem.W.looks_mroIn KI S.subC) (fun h' e' k => ?_)
  have I1 : Inv X pins σ H ⟨h', g, d, t, os⟩ := I.kept (t' := t) k
  have hI : PySem.W.Looks (model X.prog X.w) h' (isInstance (.ref a) (.type "ValueError")) true := by
    have J : PySem.W.InstAt h' a _ C none := ⟨k _ _ hox, rfl, rfl, trivial⟩
    exact J.type.andThen (PySem.W.looks_subIn I1.kIn S.subV)
  have hac : a ≠ C := fun z => by
    subst z
    have := KI _ _ hCl
    rw [hox] at this
    cases this
  refine PySem.W.kxs_getMethod PySem.W.kxs_ValueError e' (PySem.W.looks_opaque I1.kIn S.stat) (l₀ := cdD.mro) (fun A Q E s k q => wpAny_bind ((PySem.W.looks_clsIn I1.kIn hD) A _ E s k (wpAny_pure q))) rfl I1.kIn halong hI hac (by decide) ?_
  -- the bound method-wrapper
  have hu : (h'.push (PySem.W.kxs_mw "ValueError.__init__" a)).get? h'.objs.size = some (PySem.W.kxs_mw "ValueError.__init__" a) := Heap.get?_push_size _ rfl
  have I2 : Inv X pins σ H ⟨h'.push (PySem.W.kxs_mw "ValueError.__init__" a), g, d, t + 1, os⟩ := I1.kept (t' := t + 1) fun b o z => Heap.get?_push_of_some _ z
  have fp := I1.fpOk (H' := H) (Nat.le_refl _) (I1.hok.fresh (Nat.le_refl _))
  have I3 : Inv X (pins ++ pinsAt [h'.objs.size] (h'.push (PySem.W.kxs_mw "ValueError.__init__" a))) σ H ⟨h'.push (PySem.W.kxs_mw "ValueError.__init__" a), g, d, t + 1, os⟩ :=
    I2.pinned (fp := [h'.objs.size]) (fun b hb => by rw [List.mem_singleton.mp hb]; exact fp) fun b hb => by rw [List.mem_singleton.mp hb]; exact ⟨_, hu, fun v z => nomatch z⟩
  rw [he]
  refine PySem.W.kxs_callWith (i := "ValueError.__init__") (x := a) (by show (false || (backTo pos (starEach es X.env)).any (·.1)) = false; rw [hplain]; rfl) ?_
  refine Calls.evalArgs_plain ?_
  have hrun := ha.run pos _ _ σ H _ I3 hta
  rw [he] at hrun
  refine thn hrun fun us s4 hxs => ?_
  obtain ⟨xs, H4, I4, r4, hl4, e4⟩ := hxs
  subst e4
  have hu4 := (I4.pin (h'.objs.size, _) (List.mem_append_right _ (List.mem_append_right _ (mem_pinsAt (List.mem_singleton.mpr rfl) hu)))).1
  refine ⟨hu4, ?_⟩
  have I5 := I4.unpinned
  obtain ⟨h4, g4, d4, t4, os4⟩ := s4
  obtain ⟨t2, hox4⟩ := exo_at I5.hok hx
  have hlen : us.length ≤ sizeLine := by
    rw [← Paired.length r4, sizeLine_eq]
    omega
  rw [List.nil_append]
  refine call_mw (I5.kIn _ _ hCl) hox4 hu4 hlen fun h6 t6 k6 e6 => hq _ ?_
  have J := I5.write (t' := t4) (x := a) (e := a) (o := exo a C none) (by rw [hx]; exact True.intro) (.inl rfl) k6 ⟨_, e6⟩ (exo_ok e6)
  have eu : upd H4 a (exo a C none) = H4 := by
    funext b
    by_cases hb : b = a
    · rw [hb, upd_same, hx]
    · rw [upd_ne hb]
  rw [eu] at J
  exact J
end

theorem lookup_nd {α : Type} {x : Str} {u : α} : ∀ {l : List (Str × α)}, (l.map (·.1)).Nodup → (x, u) ∈ l → l.lookup x = some u
  | [], _, h => by cases h
  | (y, v) :: r, nd, h => by
    rw [List.map_cons, List.nodup_cons] at nd
    rw [List.lookup_cons]
    rcases List.mem_cons.mp h with e | h
    · cases e; simp
    · have ne : x ≠ y := fun e => nd.1 (List.mem_map.mpr ⟨(x, u), h, e⟩)
      rw [beq_false_of_ne ne]
      exact lookup_nd nd.2 h
theorem zip_rev {ps : List Str} {us : List Value} {i : Nat} {x : Str} {u : Value} (nd : ps.Nodup) (hl : us.length = ps.length) (h1 : ps[i]? = some x) (h2 : us[i]? = some u) : (ps.zip us).reverse.lookup x = some u := by
  refine lookup_nd ?_ (List.mem_reverse.mpr ?_)
  · rw [List.map_reverse, List.map_fst_zip (by omega)]
    exact List.pairwise_reverse.mpr (List.Pairwise.imp (fun h => Ne.symm h) nd)
  · rw [List.mem_iff_getElem?]
    exact ⟨i, by rw [List.getElem?_zip_eq_some]; exact ⟨h1, h2⟩⟩
/-- the context of an __init__ that says super() -/
def cxS (CX : CXT) (P : Program) (w : World) (K : PySem.W.Frag) (mg : Str → Option Value) (base : Heap) (N : List Str) (qual : Str) (scope : Scope) (f : Addr) (cd : Value) (cc : Addr) (A : Around) (outer : List PySem.Env) (s : Shared) (H : Hp) (E : XK) : Cx where
  prog := P
  w := w
  K := K
  mg := mg
  base := base
  A := A.deeper (PySem.W.envX qual scope s.heap.objs.size f cd [("__class__", cc)])
  N := N
  s_0 := s
  H_0 := H
  env := PySem.W.envX qual scope s.heap.objs.size f cd [("__class__", cc)]
  outer := outer
  stack := PySem.W.envX qual scope s.heap.objs.size f cd [("__class__", cc)] :: outer
  ex := []
  calm := true
  fn := fun _ => false
  pn := []
  xe := fun e s' => wpAny (model P w) (A.deeper (PySem.W.envX qual scope s.heap.objs.size f cd [("__class__", cc)])) (leaving (PySem.W.envX qual scope s.heap.objs.size f cd [("__class__", cc)]) e) (fun _ s'' => CX outer H s E e s'') (fun e' s'' => CX outer H s E e' s'') s'
structure SScope (N ps : List Str) (sc : Scope) : Prop where
  kind : sc.kind = .function
  co : sc.isCoroutine = false
  gen : sc.isGenerator = false
  nd : N.Nodup
  pre : N.take ps.length = ps
  par : ∀ x ∈ ps, sc.names.lookup x = some .local
  nocell : ∀ x ∈ sc.names, x.2 ≠ .cell
  free : ∀ x ∈ sc.names, x.2 = .free → x.1 = "__class__"
section
variable {CX : CXT} {P : Program} {w : World} {K : PySem.W.Frag} {mg : Str → Option Value} {base : Heap} {k : Nat} {f cc cda : Addr} {name qual : Str} {params : Arguments} {body : List Stmt} {scope : Scope} {dV kV doc pm ct oc : Value} {an od : Option Addr}
    {osl : Array (Option Value)} {N ps : List Str} {sp : Sp} {cd : Value}
theorem inv_sup {A : Around} {outer : List PySem.Env} {s : Shared} {H : Hp} {E : XK} {us : List Value} {vs : List V} {h1 : Heap} (S : SScope N ps scope) (hc : ∃ cl cld v csl, K.lookup cc = some ⟨cl, cld, .cell v, csl⟩) (hd : A.handled = none) (e0 : Env0 P w K mg base A outer s H) (hl : vs.length = ps.length) (r : Vals vs us)
    (hns : h1.Ns s.heap.objs.size fun x => (ps.zip us).reverse.lookup x) (hk : ∀ b o, s.heap.get? b = some o → h1.get? b = some o) (t' : Nat) :
    Inv (cxS CX P w K mg base N qual scope f cd cc A outer s H E) [] (L2.start N vs) H { s with heap := h1, toks := t' } := by
  have hpl : ps.length ≤ N.length := by have := congrArg List.length S.pre; rw [List.length_take] at this; omega
  obtain ⟨cl, cld, v, csl, hcK⟩ := hc
  have hcc := (e0.bs _ _ (e0.mod.kin _ _ hcK))
  have only : ∀ {x : Str} {c : Addr}, ([("__class__", cc)] : List (Str × Addr)).lookup x = some c → x = "__class__" ∧ c = cc := fun {x c} h => by
    have h' : (match x == ("__class__" : Str) with | true => some cc | false => none) = some c := h
    cases q : (x == ("__class__" : Str)) with
    | true => rw [q] at h'; cases h'; exact ⟨beq_iff_eq.mp q, rfl⟩
    | false => rw [q] at h'; cases h'
  have noA : ∀ b : Addr, b ∉ (cxS CX P w K mg base N qual scope f cd cc A outer s H E).ex := fun b z => absurd (show b ∈ ([] : List Addr) from z) (by simp)
  refine ⟨⟨e0.mod, S.kind, rfl, rfl, Nat.le_refl _, fun y z c h1 h2 => (only h1).1.trans (only h2).1.symm, fun y hy => ?_, fun y c h _ => absurd (show false = true from h) Bool.false_ne_true, fun _ => hd, Around.frames_deeper e0.frames, .inr ⟨rfl, rfl⟩, fun b z => absurd z (noA b), e0.bs, e0.bsz, fun b _ _ => noA b, fun b z => absurd z (noA b), e0.funs, e0.frf⟩,
    rfl, e0.bare, Un.kept hk, ⟨_, hns, fun i y v h1 h2 h3 => ?_⟩, fun y c h => ?_, e0.hok.fresh (Nat.le_refl _), fun y c h => by rw [(only h).2]; exact hcc.2, fun p hp => absurd (show p ∈ ([] : List (Addr × Obj)) from hp) (by simp), e0.hok.kept hk, ?_⟩
  · have hy : scope.names.lookup y = some .cell ∨ scope.names.lookup y = some .free := hy
    rcases hy with hy | hy
    · exact absurd rfl (S.nocell _ (PySem.mem_of_lookup hy))
    · have e := S.free _ (PySem.mem_of_lookup hy) rfl
      have e : y = "__class__" := e
      subst e
      exact ⟨cc, rfl⟩
  · have hi : i < vs.length := by
      unfold L2.start at h2
      by_cases hi : i < vs.length
      · exact hi
      · rw [List.getElem?_append_right (by simpa using hi)] at h2
        rw [List.getElem?_replicate] at h2
        split at h2 <;> cases h2
    have ha : vs[i]? = some v := by
      unfold L2.start at h2
      rw [List.getElem?_append_left (by simpa using hi), List.getElem?_map] at h2
      cases e : vs[i]? with
      | none => rw [e] at h2; cases h2
      | some a => rw [e] at h2; cases h2; rfl
    obtain ⟨u, hu, rv⟩ := r.get ha
    have hp : ps[i]? = some y := by
      rw [← S.pre, List.getElem?_take_of_lt (by omega)]; exact h1
    have ndP : ps.Nodup := by rw [← S.pre]; exact S.nd.sublist (List.take_sublist _ _)
    exact ⟨u, rv, .inl ⟨S.par y (List.mem_of_getElem? hp), zip_rev ndP (by rw [← r.length]; exact hl) hp hu⟩⟩
  · rw [(only h).2]
    exact ⟨v, _, hk _ _ hcc.1, rfl⟩
  · unfold L2.start
    show _ = N.length
    rw [List.length_append, List.length_map, List.length_replicate]
    omega
theorem fn_sup (lk : K.lookup f = some ⟨oc, od, .func (PySem.W.fnX name qual params body scope [("__class__", cc)] dV kV doc pm an cd ct), osl⟩) (hcd : PySem.W.codeIn K cd qual = true) (S : SScope N ps scope) (hc : ∃ cl cld v csl, K.lookup cc = some ⟨cl, cld, .cell v, csl⟩)
    (len : ∀ vs H Q E, sp vs H Q E → vs.length = ps.length)
    (hbody : ∀ (A : Around) (outer : List PySem.Env) (s s1 : Shared) (H : Hp) (vs : List V) (Q : VK) (E : XK), Room k (A.deeper (PySem.W.envX qual scope s.heap.objs.size f cd [("__class__", cc)])) → sp vs H Q E → Inv (cxS CX P w K mg base N qual scope f cd cc A outer s H E) [] (L2.start N vs) H s1 →
      _root_.PySem.wpAt (model P w) (A.deeper (PySem.W.envX qual scope s.heap.objs.size f cd [("__class__", cc)])) (.func body (PySem.W.envX qual scope s.heap.objs.size f cd [("__class__", cc)])) (execs body (PySem.W.envX qual scope s.heap.objs.size f cd [("__class__", cc)]))
        (SP (cxS CX P w K mg base N qual scope f cd cc A outer s H E) [] { nx := fun _ H' => Q .non H', rt := Q }) (cxS CX P w K mg base N qual scope f cd cc A outer s H E).xe s1) :
    FnOk P w K mg base CX (k + 1) f (PySem.W.fnX name qual params body scope [("__class__", cc)] dV kV doc pm an cd ct) ps sp := by
  refine ⟨len, fun A outer s H args us vs Q E hr e0 hb r hsp => ?_⟩
  have hl := len _ _ _ _ hsp
  have KX : K.In s.heap := e0.mod.kin.keeps fun b o e => (e0.bs b o e).1
  have lim : s.heap.NoLimit := e0.mod.nolimit.keeps fun b o e => (e0.bs b o e).1
  refine ks_codeAny_call_defAt (fd := PySem.W.fnX name qual params body scope [("__class__", cc)] dV kV doc pm an cd ct) (body := body) (binds := ps.zip us) hr.depth (KX _ _ lk) rfl lim (PySem.W.codeRec_of KX hcd) rfl hb S.nocell (fun x hx => S.par _ (List.of_mem_zip hx).1) (fun h1 hns hk => ?_) S.co S.gen S.kind
  have I : Inv (cxS CX P w K mg base N qual scope f cd cc A outer s H E) [] (L2.start N vs) H _ := inv_sup S hc hr.hd e0 hl r hns hk (s.toks + (ps.zip us).length)
  refine ks_wpAt_mono (hbody A outer s _ H vs Q E (hr.deeper _) hsp I) (fun fl s' hs => ?_) fun e s' hs => hs
  have fin : ∀ {σ' : L2.St} {H' : Hp} {v : V} {u : Value}, Inv (cxS CX P w K mg base N qual scope f cd cc A outer s H E) [] σ' H' s' → RelV v u → Q v H' → CE outer P w H s Q u s' :=
    fun {σ' H' v u} J rv q => ⟨v, H', J.os, J.bare, J.base, J.hok, rv, q⟩
  cases fl with
  | ret u =>
    obtain ⟨v, σ', H', J, rv, q⟩ := hs
    exact fin J rv q
  | next =>
    obtain ⟨σ', H', J, q⟩ := hs
    exact fin (v := V.non) (u := Value.none) J rfl q
  | brk =>
    obtain ⟨_, _, _, q⟩ := hs
    exact False.elim q
  | cont =>
    obtain ⟨_, _, _, q⟩ := hs
    exact False.elim q
end
end MP
set_option Elab.async false
set_option linter.all false
set_option maxRecDepth 100000
set_option maxHeartbeats 4000000
namespace MP
open PySem PySem.Spec PyProof.Rows L2

section
variable {K : PySem.W.Frag} {m m1 : List Addr} {H H1 : Hp} {S : Store} {a p : Addr}
theorem Rel.chg (R : Rel K m S H) (hb : ∀ b ∈ m, H1 b = H b) (hs : ∀ a xs, SqT K H a xs → SqT K H1 a xs) (hx : ∀ a gs, H a = some (.xd gs) → H1 a = some (.xd gs)) (hz : ∀ b o u, H b = some (.frz o u) → H1 b = some (.frz o u)) : Rel K m S H1 :=
  ⟨R.len, R.nd, fun r o a h1 h2 => by
    have e := hb a (List.mem_of_getElem? h2)
    have q := R.ob r o a h1 h2
    cases o with
    | lst ds => obtain ⟨xs, h1, h2⟩ := q; exact ⟨xs, by rw [e]; exact h1, h2.mono2 hs hx fun _ _ e => e⟩
    | ro ds => obtain ⟨xs, ⟨o, h1⟩, h2⟩ := q; exact ⟨xs, ⟨o, by rw [e]; exact h1⟩, h2.mono2 hs hx fun _ _ e => e⟩
    | dict ds => obtain ⟨xs, h1, h2⟩ := q; exact ⟨xs, by rw [e]; exact h1, h2.mono2 hs hx fun _ _ e => e⟩
    | tab P q' => obtain ⟨rfl, t⟩ := q; exact ⟨rfl, t.mono hz fun ps z => by rw [e]; exact z⟩⟩
end

/-! ### self.f = e, .. -/
def fldsM : List (Str × F) → Env → M (List (Str × D))
  | [], _ => ret []
  | (f, e) :: r, ρ => bind (e ρ) fun x => bind (fldsM r ρ) fun l => ret ((f, x) :: l)
def tFl (K : PySem.W.Frag) (W : WX) : List (Str × F) → TS
  | [] => tNext
  | (f, e) :: r => tSeq (tOst K f (tVar 0) (tM K W e)) (tFl K W r)
/-- the error at a stands as it is being made: acc its attributes so far, the last one first -/
def Made (K : PySem.W.Frag) (m : List Addr) (H1 H : Hp) (a C : Addr) (acc : List (Str × D)) : Prop :=
  (acc = [] ∧ H a = some (exo a C none)) ∨ ∃ dx gs, H a = some (exo a C (some dx)) ∧ H dx = some (exd dx gs) ∧ RFs K m H acc gs ∧ H1 dx = none ∧ dx ∉ m ∧ dx ≠ a
section
variable {X : Cx} {W : WX}
theorem RFs.length {K : PySem.W.Frag} {m : List Addr} {H : Hp} : ∀ {ds : List (Str × D)} {gs : List (Str × V)}, RFs K m H ds gs → ds.length = gs.length
  | _, _, .nil => rfl
  | _, _, .cons _ r => by simp [RFs.length r]
theorem flds_of {K : PySem.W.Frag} {a C : Addr} {En : Ends} (T : OexC K C) {σ : L2.St} (h0 : σ[0]? = some (some (.ref a))) {m0 : List Addr} {H1 : Hp} (ha1 : H1 a = none) : ∀ (fl : List (Str × F)) {m : List Addr} {ρ : Env} {S S' : Store} {H : Hp} {acc l : List (Str × D)},
    (∀ f ∈ fl, PySem.W.findIn K (.ref C) f.1 = some none) → acc.length + fl.length ≤ 900 → RE K m H ρ σ → Rel K m S H → Aft m0 H1 m H → a ∉ m → Made K m H1 H a C acc → fldsM fl ρ S = .ok l S' →
    (∀ m' H', Aft m0 H1 m' H' → Rel K m' S' H' → a ∉ m' → Made K m' H1 H' a C (l.reverse ++ acc) → En.nx σ H') → tFl K W fl En σ H
  | [], m, ρ, S, S', H, acc, l, _, _, hr, R, e1, ha, M, q, k => by cases q; exact k m H e1 R ha M
  | (f, fe) :: fl, m, ρ, S, S', H, acc, l, hno, hl, hr, R, e1, ha, M, q, k => by
    show tSeq (tOst K f (tVar 0) (tM K W fe)) (tFl K W fl) En σ H
    have hT : PySem.W.findIn K (.ref C) f = some none := hno (f, fe) (List.mem_cons_self ..)
    obtain ⟨d, S1, ef, q1⟩ := bind_ok q
    obtain ⟨l', S2, e2, q2⟩ := bind_ok q1
    cases q2
    refine ⟨m, ρ, S, hr, R, ?_⟩
    rw [ef]
    intro m2 y H2 a2 R2 rd2
    refine ⟨.ref a, h0, a, C, rfl, T, hT, ?_⟩
    have hno' : ∀ g ∈ fl, PySem.W.findIn K (.ref C) g.1 = some none := fun g hg => hno g (List.mem_cons_of_mem _ hg)
    have mu : ∀ {dd : Option Addr}, Mu (some (exo a C dd)) := fun {dd} => trivial
    have hal : ((f, d) :: acc).length + fl.length ≤ 900 := by simp at hl ⊢; omega
    have kk : ∀ m' H', Aft m0 H1 m' H' → Rel K m' S' H' → a ∉ m' → Made K m' H1 H' a C (l'.reverse ++ ((f, d) :: acc)) → En.nx σ H' := fun m' H' a3 R3 ha3 M3 => k m' H' a3 R3 ha3 (by simpa using M3)
    rcases M with ⟨rfl, ea⟩ | ⟨dx, gs, ea, ed, rf, hd1, hdm, hda⟩
    · have ea2 : H2 a = some (exo a C none) := a2.keep a _ ea (.inl ha)
      have ha2 : a ∉ m2 := a2.out ha ea
      refine .inl ⟨ea2, fun dx hdx hda => ?_⟩
      have hdm : dx ∉ m2 := R2.out hdx
      have hd1 : H1 dx = none := by
        cases z : H1 dx with
        | none => rfl
        | some o =>
          by_cases hm : dx ∈ m0
          · exact absurd ((e1.trans a2).sub hm) hdm
          · rw [(e1.trans a2).keep dx o z (.inl hm)] at hdx; cases hdx
      have ea3 : upd H2 dx (exd dx [(f, y)]) a = some (exo a C none) := by rw [upd_ne (Ne.symm hda)]; exact ea2
      have hs : ∀ b xs, SqT K H2 b xs → SqT K (upd (upd H2 dx (exd dx [(f, y)])) a (exo a C (some dx))) b xs := fun b xs z => sqt_upd ea3 mu b xs ((Aft.fresh (m := m2) hdx).sqt z)
      have hxx : ∀ b gs, H2 b = some (.xd gs) → (upd (upd H2 dx (exd dx [(f, y)])) a (exo a C (some dx))) b = some (.xd gs) := fun b gs z => xd_upd ea3 mu b gs ((Aft.fresh (m := m2) hdx).keep b _ z (.inr fun z => z))
      have R3 : Rel K m2 S1 (upd (upd H2 dx (exd dx [(f, y)])) a (exo a C (some dx))) := (R2.fresh hdx).side ha2 ea3 mu
      have A3 : Aft m0 H1 m2 (upd (upd H2 dx (exd dx [(f, y)])) a (exo a C (some dx))) := (((e1.trans a2).side hd1)).side ha1
      have hr3 : RE K m2 (upd (upd H2 dx (exd dx [(f, y)])) a (exo a C (some dx))) ρ σ := ⟨hr.1, fun i d' z => let ⟨v, h1, h2⟩ := hr.2 i d' z; ⟨v, h1, (h2.mono a2).mono2 hs hxx fun _ _ e => e⟩⟩
      have rdy : RD K m2 (upd (upd H2 dx (exd dx [(f, y)])) a (exo a C (some dx))) d y := rd2.mono2 hs hxx fun _ _ e => e
      exact flds_of T h0 ha1 fl (acc := [(f, d)]) hno' hal hr3 R3 A3 ha2 (.inr ⟨dx, [(f, y)], upd_same, by rw [upd_ne hda]; exact upd_same, .cons rdy .nil, hd1, hdm, hda⟩) e2 kk
    · have ea2 : H2 a = some (exo a C (some dx)) := a2.keep a _ ea (.inl ha)
      have ed2 : H2 dx = some (exd dx gs) := a2.keep dx _ ed (.inl hdm)
      have ha2 : a ∉ m2 := a2.out ha ea
      have hd2 : dx ∉ m2 := a2.out hdm ed
      have muD : Mu (some (exd dx gs)) := trivial
      have hgl : gs.length ≤ 900 := by rw [← rf.length]; simp at hl; omega
      refine .inr ⟨dx, gs, ea2, ed2, hgl, ?_⟩
      have hs := sqt_upd (K := K) (ho' := exd dx ((f, y) :: gs)) ed2 muD
      have hxx := xd_upd (ho' := exd dx ((f, y) :: gs)) ed2 muD
      have R3 : Rel K m2 S1 (upd H2 dx (exd dx ((f, y) :: gs))) := R2.side hd2 ed2 muD
      have A3 : Aft m0 H1 m2 (upd H2 dx (exd dx ((f, y) :: gs))) := (e1.trans a2).side hd1
      have hr3 : RE K m2 (upd H2 dx (exd dx ((f, y) :: gs))) ρ σ := ⟨hr.1, fun i d' z => let ⟨v, h1, h2⟩ := hr.2 i d' z; ⟨v, h1, (h2.mono a2).mono2 hs hxx fun _ _ e => e⟩⟩
      exact flds_of T h0 ha1 fl (acc := (f, d) :: acc) hno' hal hr3 R3 A3 ha2 (.inr ⟨dx, (f, y) :: gs, by rw [upd_ne (Ne.symm hda)]; exact ea2, upd_same, .cons (rd2.mono2 hs hxx fun _ _ e => e) ((rf.mono a2).mono2 hs hxx fun _ _ e => e), hd1, hd2, hda⟩) e2 kk
end

/-- what the class's __init__ makes of its arguments (slot 0 is self): the attributes, the last one first -/
def startI (n : Nat) (ds : List D) : Env := none :: (ds.map some ++ List.replicate (n - 1 - ds.length) none)
def mkI (n : Nat) (fl : List (Str × F)) (ds : List D) : M (List (Str × D)) := fun S => match fldsM fl (startI n ds) S with
  | .ok l S' => .ok l.reverse S'
  | _ => .bad
def spI (K : PySem.W.Frag) (x : Str) (mk : List D → M (List (Str × D))) (n : Nat) : Sp := fun vs H Q E => vs.length = n + 1 ∧ ∃ a ws m S S' ds l H1, ∃ Qx : XK, vs = .ref a :: ws ∧ H1 a = none ∧ H = upd H1 a (exo a (He.ga K x) none) ∧
  (∀ v H2, (v = .non ∧ ∃ (d : Addr) (fs : List (Str × V)), H2 a = some (exo a (He.ga K x) (some d)) ∧ H2 d = some (exd d fs) ∧ H1 d = none ∧ Qx (.ref (He.ga K x)) (some d) (upd (del H2 a) d (.xd fs))) → Q v H2) ∧
  Rel K m S H1 ∧ RDs K m H1 ds ws ∧ mk ds S = .ok l S' ∧ ∀ m' H' cls dd, Aft m H1 m' H' → Rel K m' S' H' → ExR K m' H' ⟨x, l⟩ cls dd → Qx cls dd H'
def HasExc (P : Program) (w : World) (K : PySem.W.Frag) (mg : Str → Option Value) (base : Heap) (k : Nat) (x : Str) (n : Nat) (mk : List D → M (List (Str × D))) : Prop :=
  ∃ (f : Addr) (fd : FuncData) (ps : List Str), OexC K (He.ga K x) ∧ PySem.W.findIn K (.ref (He.ga K x)) "__init__" = some (some (.ref f)) ∧ PySem.W.typeIn K (.ref f) = some (.type "function") ∧
    FnOk P w K mg base (CX P w) k f fd ps (spI K x mk n) ∧ mg x = some (.ref (He.ga K x)) ∧ Binds K fd ps []
section
variable {X : Cx} {W : WX} {k k' n : Nat} {mk : List D → M (List (Str × D))} {x : Str} {p pos pos' : Pos} {e : Expr} {es : List Expr} {fs : A}
def gRaise (x : Str) (mk : List D → M (List (Str × D))) (fs : A) : G := fun ρ S => sBind (bind (fs ρ) mk S) ρ fun l S' => .exc ⟨x, l⟩ ρ S'
theorem ms_raise (h : HasExc X.prog X.w X.K X.mg X.base k x n mk) (c : Cc X W k') (ha : MA X W (e :: es) fs) (hfl : ∀ ρ S ds' S', fs ρ S = .ok ds' S' → ds'.length = (e :: es).length) (hmk : ∀ ds S y S', mk ds S ≠ .exc y S') (hk : k + 1 ≤ k' := by decide) (hn : (e :: es).length = n := by rfl) (hn2 : n ≤ 1000 := by decide) (hg : Gl X x := by rfl)
    (hdb : (x == ("__debug__" : Str)) = false := by decide) (he : starEach (e :: es) X.env = (false, eval e X.env) :: starEach es X.env := by rfl) (hpl : (backTo pos (starEach es X.env)).any (·.1) = false := by rfl) :
    MS X W (.Raise (some (.Call (.Name x p) (e :: es) [] pos)) none pos') (gRaise x mk fs) := by
  obtain ⟨f, fd, ps, T, iC, tI, F, hm, hb⟩ := h
  refine PS.imp (ps_raise c.calm c.tk (pmk_oex (ds := []) (dvs := []) T iC tI F (c.room.mono hk) hb .nil passL hg hm ha hdb he hpl)) fun E σ H ⟨m, ρ, S, hr, R, q⟩ => ?_
  refine ⟨m, ρ, S, hr, R, ?_⟩
  unfold gRaise at q
  cases e1 : fs ρ S with
  | bad => unfold bind at q; rw [e1] at q; exact q.elim
  | exc y S1 => unfold bind at q; rw [e1] at q; exact fun m' H' c d a b f => q m' σ H' c d a b (hr.mono a) f
  | ok ds S1 =>
    have hl := hfl ρ S ds S1 e1
    have q1 : EndS X.K m H W E (sBind (mk ds S1) ρ fun l S' => .exc ⟨x, l⟩ ρ S') := by
      unfold bind at q
      rw [e1] at q
      exact q
    intro m1 vs H1 a1 R1 rd1
    have hvl : vs.length = n := by rw [← rd1.length, hl, hn]
    refine ⟨by omega, fun a ha => ?_⟩
    cases e2 : mk ds S1 with
    | bad => rw [e2] at q1; exact q1.elim
    | exc y S2 => exact absurd e2 (hmk _ _ _ _)
    | ok l S2 =>
      rw [e2] at q1
      have q1 : EndS X.K m H W E (.exc ⟨x, l⟩ ρ S2) := q1
      refine ⟨by simp [hvl], a, vs ++ [], m1, S1, S2, ds, l, H1, fun cls d H' => W cls d σ H', rfl, ha, rfl, fun v H2 h => h, R1, by simpa using rd1, e2, fun m' H' cls dd a2 R2 x2 => ?_⟩
      exact q1 m' σ H' cls dd (a1.trans a2) R2 (hr.mono (a1.trans a2)) x2
end
theorem mkI_noexc {n : Nat} {fl : List (Str × F)} : ∀ ds S y S', mkI n fl ds S ≠ .exc y S' := fun ds S y S' h => by
  unfold mkI at h
  split at h <;> cases h

/-! ### a class by its __init__ -/
theorem RE.startI {K : PySem.W.Frag} {m : List Addr} {H : Hp} {N : List Str} {a : Addr} {ds : List D} {vs : List V} (h : RDs K m H ds vs) (hl : ds.length + 1 ≤ N.length) : RE K m H (MP.startI N.length ds) (L2.start N (.ref a :: vs)) := by
  unfold MP.startI L2.start
  refine ⟨by simp [h.length]; omega, fun i d q => ?_⟩
  cases i with
  | zero => simp at q
  | succ i =>
    have q : (ds.map some ++ List.replicate (N.length - 1 - ds.length) none)[i]? = some (some d) := by simpa using q
    have goal : ∀ v, (vs.map some ++ List.replicate (N.length - (V.ref a :: vs).length) none)[i]? = some (some v) → ((V.ref a :: vs).map some ++ List.replicate (N.length - (V.ref a :: vs).length) none)[i + 1]? = some (some v) := fun v z => by simpa using z
    by_cases hi : i < ds.length
    · rw [List.getElem?_append_left (by simpa using hi), List.getElem?_map] at q
      cases e : ds[i]? with
      | none => rw [e] at q; cases q
      | some d' =>
        rw [e] at q
        cases q
        obtain ⟨v, h1, h2⟩ := h.get e
        refine ⟨v, goal v ?_, h2⟩
        rw [List.getElem?_append_left (by simp [← h.length]; exact hi), List.getElem?_map, h1]
        rfl
    · rw [List.getElem?_append_right (by simpa using Nat.le_of_not_lt hi), List.getElem?_replicate] at q
      split at q <;> cases q
theorem fldsM_ex {fl : List (Str × F)} {ρ : Env} : ∀ {S l S'}, fldsM fl ρ S = .ok l S' → l.length = fl.length := by
  induction fl with
  | nil => intro S l S' h; cases h; rfl
  | cons f r ih =>
    intro S l S' h
    obtain ⟨f, e⟩ := f
    obtain ⟨d, S1, _, q1⟩ := bind_ok h
    obtain ⟨l', S2, e2, q2⟩ := bind_ok q1
    cases q2
    simp [ih e2]
/-- x's class: its __init__ says super().__init__(its arguments), then self.f = e, .. -/
theorem hasExc_of {P : Program} {w : World} {K : PySem.W.Frag} {mg : Str → Option Value} {base : Heap} {k n : Nat} {f cc cda : Addr} {name qual sf : Str} {params : Arguments} {rest : List Stmt} {scope : Scope} {dV kV doc pm ct oc : Value} {an od : Option Addr} {osl : Array (Option Value)} {N ps : List Str} {x : Str} {fl : List (Str × F)}
    {e : Expr} {es : List Expr} {p0 p1 p2 pos pos' : Pos}
    (lk : K.lookup f = some ⟨oc, od, .func (PySem.W.fnX name qual params (.Expr (.Call (.Attribute (.Call (.Name "super" p0) [] [] p1) "__init__" p2) (e :: es) [] pos) pos' :: rest) scope [("__class__", cc)] dV kV doc pm an (.ref cda) ct), osl⟩)
    (hcd : PySem.W.codeIn K (.ref cda) qual = true) (S : SScope N ps scope)
    (SC : SupC K P (He.ga K x) f cc cda (PySem.W.fnX name qual params (.Expr (.Call (.Attribute (.Call (.Name "super" p0) [] [] p1) "__init__" p2) (e :: es) [] pos) pos' :: rest) scope [("__class__", cc)] dV kV doc pm an (.ref cda) ct) sf)
    (iC : PySem.W.findIn K (.ref (He.ga K x)) "__init__" = some (some (.ref f))) (tI : PySem.W.typeIn K (.ref f) = some (.type "function")) (hm : mg x = some (.ref (He.ga K x))) (hms : mg "super" = none)
    (hb : Binds K (PySem.W.fnX name qual params (.Expr (.Call (.Attribute (.Call (.Name "super" p0) [] [] p1) "__init__" p2) (e :: es) [] pos) pos' :: rest) scope [("__class__", cc)] dV kV doc pm an (.ref cda) ct) ps [])
    (hps : ps.length = n + 1) (hN0 : N[0]? = some sf) (hps0 : ps[0]? = some sf) (hks : scope.names.lookup ("super" : Str) = some .globalImplicit) (hkc : scope.names.lookup ("__class__" : Str) = some .free) (hno : ∀ f ∈ fl, PySem.W.findIn K (.ref (He.ga K x)) f.1 = some none) (hfl : fl.length ≤ 900) (hfl0 : fl ≠ [])
    (hbody : ∀ (A : Around) (outer : List PySem.Env) (s : Shared) (H : Hp) (E : XK), ∃ ta, PA (cxS (CX P w) P w K mg base N qual scope f (.ref cda) cc A outer s H E) (e :: es) ta ∧
      (∀ (σ : L2.St) (H0 : Hp), (∀ i, i < ps.length → ∃ v, σ[i]? = some (some v)) → ta σ H0 fun xs H1 => xs.length ≤ 1000 ∧ H1 = H0) ∧
      PSs (cxS (CX P w) P w K mg base N qual scope f (.ref cda) cc A outer s H E) rest (tFl K WF fl))
    (he : ∀ env : PySem.Env, starEach (e :: es) env = (false, eval e env) :: starEach es env := by intro _; rfl) (hplain : ∀ env : PySem.Env, (backTo pos (starEach es env)).any (·.1) = false := by intro _; rfl)
    (hev : ∀ (A : Around) (outer : List PySem.Env) (s : Shared) (H : Hp) (E : XK), ∃ pl : Sem Bool, eval (.Call (.Attribute (.Call (.Name "super" p0) [] [] p1) "__init__" p2) (e :: es) [] pos) (cxS (CX P w) P w K mg base N qual scope f (.ref cda) cc A outer s H E).env = (do
      let ov ← attributeBase (.Call (.Name "super" p0) [] [] p1) "__init__" (cxS (CX P w) P w K mg base N qual scope f (.ref cda) cc A outer s H E).env (eval (.Call (.Name "super" p0) [] [] p1) (cxS (CX P w) P w K mg base N qual scope f (.ref cda) cc A outer s H E).env)
      standAt p2.atName
      let (f', first) ← holding [ov] (getMethod ov "__init__" pl)
      callWith pos f' first (backTo pos (starEach (e :: es) (cxS (CX P w) P w K mg base N qual scope f (.ref cda) cc A outer s H E).env)) []) := by intro _ _ _ _ _; exact ⟨_, rfl⟩)
    (hi : ∀ (A : Around) (outer : List PySem.Env) (s : Shared) (H : Hp) (E : XK), interactive (cxS (CX P w) P w K mg base N qual scope f (.ref cda) cc A outer s H E).env = false := by intro _ _ _ _ _; rfl)
    (hs : ∀ (A : Around) (outer : List PySem.Env) (s : Shared) (H : Hp) (E : XK), swapsWith (.Call (.Attribute (.Call (.Name "super" p0) [] [] p1) "__init__" p2) (e :: es) [] pos) none pos'.line (cxS (CX P w) P w K mg base N qual scope f (.ref cda) cc A outer s H E).env = pure false := by intro _ _ _ _ _; rfl) :
    HasExc P w K mg base (k + 1) x n (mkI N.length fl) := by
  obtain ⟨cl, cld, csl, hcell⟩ := SC.cell
  refine ⟨f, _, ps, SC.T, iC, tI, fn_sup lk hcd S ⟨cl, cld, _, csl, hcell⟩ (fun vs H Q E h => by rw [hps]; exact h.1) (fun A outer s s1 H vs Q E hr hsp I => ?_), hm, hb⟩
  obtain ⟨hlen, a, ws, m, S0, S', ds, l, H1, Qx, rfl, ha1, rfl, hQ, R, rd, emk, kx⟩ := hsp
  obtain ⟨ta, hA, hta, hrest⟩ := hbody A outer s (upd H1 a (exo a (He.ga K x) none)) E
  obtain ⟨pl, hev⟩ := hev A outer s (upd H1 a (exo a (He.ga K x) none)) E
  have hpl : ps.length ≤ N.length := by have := congrArg List.length S.pre; rw [List.length_take] at this; omega
  have hself : (L2.start N (V.ref a :: ws))[0]? = some (some (.ref a)) := by unfold L2.start; simp
  have hsl : scope.names.lookup sf = some .local := S.par sf (List.mem_of_getElem? hps0)
  refine ks_wpAt_execs_cons ?_
  refine super_stmt (X := cxS (CX P w) P w K mg base N qual scope f (.ref cda) cc A outer s (upd H1 a (exo a (He.ga K x) none)) E) (pl := pl) SC I hself hN0 hsl hks hkc rfl rfl rfl hms hA (hta _ _ fun i hi => ?_) upd_same (fun s' I' => ?_) (he _) (hplain _) hev (hi _ _ _ _ _) (hs _ _ _ _ _)
  · have hi' : i < (V.ref a :: ws).length := by omega
    refine ⟨(V.ref a :: ws)[i], ?_⟩
    unfold L2.start
    rw [List.getElem?_append_left (by simpa using hi'), List.getElem?_map, List.getElem?_eq_getElem hi']
    rfl
  · refine wpAt_of_wpAny (hrest.run [] s' _ _ _ I' ?_)
    unfold mkI at emk
    cases ef : fldsM fl (startI N.length ds) S0 with
    | bad => rw [ef] at emk; cases emk
    | exc y S1 => rw [ef] at emk; cases emk
    | ok l0 S1 =>
      rw [ef] at emk
      cases emk
      have a0 : Aft m H1 m (upd H1 a (exo a (He.ga K x) none)) := Aft.fresh ha1
      have hdl : ds.length + 1 ≤ N.length := by rw [rd.length]; simp at hlen; omega
      refine flds_of SC.T hself (m0 := m) (H1 := H1) ha1 fl (acc := []) hno (by simpa using hfl) ((RE.startI (a := a) rd hdl).mono a0) (R.fresh ha1) a0 (R.out ha1) (.inl ⟨rfl, upd_same⟩) ef fun m' H' a3 R3 ha3 M3 => ?_
      rw [List.append_nil] at M3
      show Q .non H'
      have hl0 : l0.reverse ≠ [] := fun z => hfl0 (List.length_eq_zero_iff.mp (by rw [← fldsM_ex ef]; simpa using z))
      rcases M3 with ⟨z, _⟩ | ⟨dx, gs, ea, ed, rf, hd1, hdm, hda⟩
      · exact absurd z hl0
      · refine hQ _ _ ⟨rfl, dx, gs, ea, ed, hd1, ?_⟩
        -- the heap behind: as ahead, but for the attributes
        have at_ : ∀ b, b ≠ a → b ≠ dx → upd (del H' a) dx (.xd gs) b = H' b := fun b h1 h2 => by rw [upd_ne h2, del_ne h1]
        have hs : ∀ b xs, SqT K H' b xs → SqT K (upd (del H' a) dx (.xd gs)) b xs := fun b xs z => by
          rcases z with (z | ⟨o, z⟩) | z
          · have n1 : b ≠ a := fun e => by subst e; rw [ea] at z; cases z
            have n2 : b ≠ dx := fun e => by subst e; rw [ed] at z; cases z
            exact .inl (.inl (by rw [at_ b n1 n2]; exact z))
          · have n1 : b ≠ a := fun e => by subst e; rw [ea] at z; cases z
            have n2 : b ≠ dx := fun e => by subst e; rw [ed] at z; cases z
            exact .inl (.inr ⟨o, by rw [at_ b n1 n2]; exact z⟩)
          · exact .inr z
        have hxx : ∀ b gs', H' b = some (.xd gs') → upd (del H' a) dx (.xd gs) b = some (.xd gs') := fun b gs' z => by
          have n1 : b ≠ a := fun e => by subst e; rw [ea] at z; cases z
          have n2 : b ≠ dx := fun e => by subst e; rw [ed] at z; cases z
          rw [at_ b n1 n2]; exact z
        have hzz : ∀ b o u, H' b = some (.frz o u) → upd (del H' a) dx (.xd gs) b = some (.frz o u) := fun b o u z => by
          have n1 : b ≠ a := fun e => by subst e; rw [ea] at z; cases z
          have n2 : b ≠ dx := fun e => by subst e; rw [ed] at z; cases z
          rw [at_ b n1 n2]; exact z
        refine kx m' _ _ _ ⟨a3.pre, a3.new, fun b o hb n => ?_⟩ (R3.chg (fun b hb => at_ b (fun e => by subst e; exact ha3 hb) fun e => by subst e; exact hdm hb) hs hxx hzz) ⟨rfl, dx, gs, rfl, upd_same, rf.mono2 hs hxx fun _ _ e => e⟩
        rw [at_ b (fun e => by subst e; rw [ha1] at hb; cases hb) fun e => by subst e; rw [hd1] at hb; cases hb]
        exact a3.keep b o hb n
end MP
set_option Elab.async false
set_option linter.all false
set_option maxRecDepth 100000
set_option maxHeartbeats 4000000
namespace MP
open PySem PySem.Spec PyProof.Rows L2

/-! ### try: .. except C as n: .. -/
/-- slot i is forgotten -/
def clearS (i : Nat) : SRes → SRes
  | .next ρ S => .next (ρ.set i none) S
  | .brk ρ S => .brk (ρ.set i none) S
  | .cont ρ S => .cont (ρ.set i none) S
  | .ret d S => .ret d S
  | _ => .bad
open Classical in
/-- the same wherever the error stands -/
noncomputable def gHandle (f : Addr → Addr → SRes) : SRes := if ∀ a d, f a d = f 0 0 then f 0 0 else .bad
noncomputable def gTry (gb : G) (cs : List (Str × Bool)) (i : Nat) (gs : Addr → Addr → G) : G := fun ρ S => match gb ρ S with
  | .exc x ρ' S' => match cs.lookup x.cls with
    | some true => gHandle fun a d => clearS i (gs a d (ρ'.set i (some (.err a d x.fs))) S')
    | some false => .exc x ρ' S'
    | none => .bad
  | r => r
section
variable {X : Cx} {W : WX} {C n : Str} {i : Nat} {body suite : List Stmt} {b₀ : Stmt} {np pos pos' : Pos} {gb : G} {gs : Addr → Addr → G} {cs : List (Str × Bool)}
theorem ms_try (hs : X.stack = X.env :: X.outer) (hf : X.env.frame = some X.env.locals) (hN : X.N.Nodup) (tk : Takes X W) (hm : X.mg C = some (.ref (He.ga X.K C))) (hcs : ∀ p ∈ cs, PySem.W.exmOne X.K (.ref (He.ga X.K p.1)) (.ref (He.ga X.K C)) = some p.2) (hct : ∀ p ∈ cs, p.2 = true → p.1 = C)
    (hb : ∀ (W' : WX) (pn : List (Addr × Obj)) (xe : Value → Shared → Prop), Takes (X.tr pn xe) W' → PassesOwn (model X.prog X.w) X.A X.env xe → MSs (X.tr pn xe) W' body gb)
    (hsu : ∀ (a : Addr) (oe : Obj) (d : Addr) (pn : List (Addr × Obj)), Zc (.ref (He.ga X.K C)) (some d) oe → (∃ vs, oe.data = .fields vs) → MSs (X.suite a ((a, oe) :: pn)) WF (b₀ :: suite) (gs a d))
    (hg : Gl X C := by rfl) (hi : X.N[i]? = some n := by rfl) (hln : X.env.kindOf n = some .local := by rfl) (hdb : (C == ("__debug__" : Str)) = false := by decide) :
    MS X W (.Try body [.ExceptHandler (some (.Name C np)) (some n) (b₀ :: suite) pos'] [] [] pos) (gTry gb cs i gs) := by
  refine PS.imp (ps_try_as (tb := fun W => tMS X.K W gb) (ts := fun a cls dO E σ H => cls = .ref (He.ga X.K C) ∧ ∃ d, dO = some d ∧ tMS X.K WF (gs a d) E σ H) (c := .ref (He.ga X.K C)) (Wout := W) hs hf hN hi hln ⟨hg, hdb, .inl hm⟩ tk hb
    fun a oe cls dO pn hz hv => ⟨fun pins s σ H D I ⟨e1, d, e2, q⟩ => by subst e1 e2; exact (hsu a oe d pn hz hv).run pins s σ H D I q⟩) fun E σ H ⟨m, ρ, S, hr, R, q⟩ => ?_
  refine ⟨m, ρ, S, hr, R, ?_⟩
  unfold gTry at q
  cases eb : gb ρ S with
  | next ρ' S' => rw [eb] at q; exact q
  | ret d S' => rw [eb] at q; exact q
  | brk ρ' S' => rw [eb] at q; exact q
  | cont ρ' S' => rw [eb] at q; exact q
  | bad => rw [eb] at q; exact q.elim
  | exc x ρ' S' =>
    rw [eb] at q
    intro m' σ' H' cls dd a1 R1 hr1 hx
    obtain ⟨ecls, d, gs', edd, hd, rf⟩ := hx
    subst ecls edd
    have q' : EndS X.K m H W E (match cs.lookup x.cls with
      | some true => gHandle fun a d => clearS i (gs a d (ρ'.set i (some (.err a d x.fs))) S')
      | some false => .exc x ρ' S'
      | none => .bad) := q
    cases el : cs.lookup x.cls with
    | none => rw [el] at q'; exact q'.elim
    | some b =>
      have hp := PySem.mem_of_lookup el
      refine ⟨b, hcs _ hp, fun eb' a ha => ?_, fun eb' => ?_⟩
      · subst eb'
        have ec := hct _ hp rfl
        have ec : x.cls = C := ec
        refine ⟨by rw [ec], d, rfl, m', ρ'.set i (some (.err a d x.fs)), S', hr1.set (.err hd rf), R1, ?_⟩
        rw [el] at q'
        simp only [gHandle] at q'
        split at q'
        · rename_i hall
          rw [← hall a d] at q'
          have q'' := q'.back a1
          cases eg : gs a d (ρ'.set i (some (.err a d x.fs))) S' with
          | next ρ2 S2 => rw [eg] at q''; exact fun m2 σ2 H2 a2 R2 hr2 => q'' m2 _ H2 a2 R2 hr2.clear
          | brk ρ2 S2 => rw [eg] at q''; exact fun m2 σ2 H2 a2 R2 hr2 => q'' m2 _ H2 a2 R2 hr2.clear
          | cont ρ2 S2 => rw [eg] at q''; exact fun m2 σ2 H2 a2 R2 hr2 => q'' m2 _ H2 a2 R2 hr2.clear
          | ret d2 S2 => rw [eg] at q''; exact q''
          | exc y ρ2 S2 => rw [eg] at q''; exact q''.elim
          | bad => rw [eg] at q''; exact q''.elim
        · exact q'.elim
      · subst eb'
        rw [el] at q'
        exact q' m' σ' H' _ _ a1 R1 hr1 ⟨rfl, d, gs', rfl, hd, rf⟩
/-- error.f in the suite -/
def eXf (a d : Addr) (f : Str) (fe : F) : F := fun ρ => bind (fe ρ) fun x => match x with
  | .err a' d' fs => if a' = a ∧ d' = d then match fs.lookup f with
      | some v => ret v
      | none => fail
    else fail
  | _ => fail
theorem RFs.get {K : PySem.W.Frag} {m : List Addr} {H : Hp} {f : Str} : ∀ {ds : List (Str × D)} {gs : List (Str × V)} {d : D}, RFs K m H ds gs → ds.lookup f = some d → ∃ v, gs.lookup f = some v ∧ RD K m H d v
  | _, _, _, .nil, h => by cases h
  | _, _, _, .cons (f := g) r rs, h => by
    rw [List.lookup_cons] at h ⊢
    cases e : f == g with
    | true => rw [e] at h; cases h; exact ⟨_, rfl, r⟩
    | false => rw [e] at h; exact RFs.get rs h
theorem me_xf {a d : Addr} {oe : Obj} {pn : List (Addr × Obj)} {e : Expr} {fe : F} {f : Str} (T : XfC X.K (He.ga X.K C)) (hno : PySem.W.findIn X.K (.ref (He.ga X.K C)) f = some none)
    (hz : Zc (.ref (He.ga X.K C)) (some d) oe) (hv : ∃ vs, oe.data = .fields vs) (he : ME (X.suite a ((a, oe) :: pn)) W e fe) (hb : attributeBase e f X.env (eval e X.env) = eval e X.env := by rfl) :
    ME (X.suite a ((a, oe) :: pn)) W (.Attribute e f pos) (eXf a d f fe) :=
  PE.imp (pe_xf T hno hz hv he hb) fun σ H Q ⟨m, ρ, S, hr, R, q⟩ => by
    refine tM_step (X := X.suite a ((a, oe) :: pn)) hr R q fun v H1 dv S1 m1 rd a1 R1 q1 => ?_
    cases rd with
    | err hd rf =>
      rename_i a' d' fs gs
      have q2 : EndM X.K m1 H1 (RD X.K) (fun c d H' => W c d σ H') ((if a' = a ∧ d' = d then (match fs.lookup f with | some v => ret v | none => fail) else fail) S1) Q := q1
      split at q2
      · rename_i e1
        obtain ⟨rfl, rfl⟩ := e1
        cases el : fs.lookup f with
        | none => rw [el] at q2; exact q2.elim
        | some y =>
          rw [el] at q2
          obtain ⟨v, h1, h2⟩ := rf.get el
          exact ⟨rfl, rfl, _, gs, v, rfl, hd, h1, q2 m1 v H1 Aft.refl R1 h2⟩
      · exact q2.elim
    | _ => exact q1.elim
end
end MP
set_option Elab.async false
set_option linter.all false
set_option maxRecDepth 100000
set_option maxHeartbeats 4000000
namespace MP
open PySem PySem.Spec PyProof.Rows L2

/-! ### an exception out of a comprehension -/
theorem FunFrames.less {h base base' : Heap} (k : ∀ b, base.get? b = none → base'.get? b = none) : ∀ {l : List PySem.Env}, h.FunFrames base l → h.FunFrames base' l
  | [], _ => trivial
  | _ :: _, ⟨hk, ⟨L, o, hf, hn, ho, hd⟩, hr⟩ => ⟨hk, ⟨L, o, hf, k L hn, ho, hd⟩, FunFrames.less k hr⟩
/-- held by another frame: noted as one in flight -/
theorem looks_heldZ {M : Model} {A : Around} {E : Value → Shared → Prop} {s : Shared} {base : Heap} {env : PySem.Env} {outer : List PySem.Env} {e L : Addr} {Z : Obj → Prop} {fl : Value} {Q : Unit → Shared → Prop} (hZ : HandSPX.Steady Z) (hfr : A.frames = some (env :: outer)) (hf : env.frame = some L) (hkb : base.StaysIn s.heap) (hen : base.get? e = none) (hl : s.heap.FunFrames base (env :: outer)) (ht : HandSPX.TracedZ s.heap base e Z fl) (hfl : (fl == rawInt L) = false)
    (hQ : ∀ h', HandSPX.HeldZ base (env :: outer) e Z L h' → s.heap.UpToSlots h' → Q () { s with heap := h' }) : wpAny M A (noteFrame (.ref e) env) Q E s := by
  obtain ⟨oe, vs, T, oT, ts, he, hz, hd, h1, hnT, hTe, hT, hdT, h3⟩ := ht
  unfold noteFrame
  simp only [hf]
  refine wpAny_bind (wpAny_field he hd h1 ?_)
  rw [if_pos (show (Value.ref T != Value.none) = true from by simp)]
  refine wpAny_bind (wpAny_field hT hdT h3 ?_)
  rw [if_neg (show ¬ ((fl == rawInt L) = true) from by rw [hfl]; exact Bool.false_ne_true)]
  refine wpAny_bind (wpAny_setField hT hdT (Array.getElem?_eq_some_iff.mp h3).1 ?_)
  have other : ∀ b, b ≠ T → (s.heap.update T (Obj.mapFields (·.setIfInBounds 3 Value.none))).get? b = s.heap.get? b := fun b hb => Heap.get?_update_other _ _ (Ne.symm hb)
  have noRecord : ∀ b o, s.heap.get? b = some o → (∀ vs, o.data ≠ .fields vs) → b ≠ T := fun b o hb hnf q => by
    rw [q, hT] at hb; injection hb with hb; subst hb; exact hnf ts hdT
  refine HandSPX.wpAny_entryZ hZ hfr (hl.of_keeps fun b o hb hnf => ⟨o, (other b (noRecord b o hb hnf)).trans hb, rfl⟩) hf ((other e (Ne.symm hTe)).trans he)
    (fun b o hbo => (other b fun q => by rw [q, hnT] at hbo; cases hbo).trans (hkb b o hbo)) hen hd (Array.getElem?_eq_some_iff.mp h1).1 hz fun h' hN => ?_
  obtain ⟨x1, x2, x3, x4⟩ := hN
  exact hQ h' ⟨x1, hen, x2, x3⟩ fun b o hb hnf => x4 b o ((other b (noRecord b o hb hnf)).trans hb) hnf
theorem UpToSlots.trans' {h h1 h2 : Heap} (a : h.UpToSlots h1) (b : h1.UpToSlots h2) : h.UpToSlots h2 := a.trans b

section
variable {X : Cx} {W : WX} {pins : List (Addr × Obj)} {σ : L2.St} {H : Hp} {s : Shared}
/-- what a raise in a block is to reach -/
abbrev xeB (X : Cx) (cenv : PySem.Env) : Value → Shared → Prop := notedBy (model X.prog X.w) X.A cenv (CompFails (model X.prog X.w) X.A X.xe cenv)
/-- noted, the block's names let go, on in the def's own frame -/
theorem takesB (hs : X.stack = X.env :: X.outer) (hf : X.env.frame = some X.env.locals) (tk : Takes X W) {s3 : Shared} {H3 : Hp} {scope : Scope} {cenv : PySem.Env} {fp : List Addr} (I3 : Inv X pins σ H3 s3) (hcf : cenv.frame = X.env.frame) (hC : s3.heap.objs.size ≤ cenv.locals)
    (hfp : ∀ b ∈ fp, FpOk X pins H3 b) : Takes ((X.blk s3 H3 scope cenv fp).wish (xeB X cenv)) (fun c d _ H' => W c d σ H') := by
  rintro u s' ⟨a, B, sI, pins', σ', H', cls, d, rfl, I, nb, up, sky, na, os, ag, w⟩
  have hfr : X.A.frames = some (X.env :: X.outer) := by rw [I3.ok.frames, hs]
  have fpC := I3.fpOk (H' := H') hC I.free
  have hne : cenv.locals ≠ X.env.locals := fpC.2.1
  show wpAny _ X.A (noteFrame (.ref a) cenv) _ _ s'
  rw [noteFrame_env _ hcf]
  have fin : ∀ h1, HandSPX.HeldZ B (X.env :: X.outer) a (Zc cls d) X.env.locals h1 → s'.heap.UpToSlots h1 → CompFails (model X.prog X.w) X.A X.xe cenv (.ref a) { s' with heap := h1 } := fun h1 hh up1 => by
    obtain ⟨k1, k2, k3, k4⟩ := hh
    obtain ⟨mI, hnI, _⟩ := I.loc
    have hn1 : h1.Ns cenv.locals mI := Heap.Ns.upToSlots hnI (up.trans up1)
    refine ⟨mI, hn1, fun h2 m2 hn2 sb => ?_⟩
    -- the ground without the block's names
    let B' := PySem.W.hideAll B [cenv.locals]
    have hB' : ∀ b o, B'.get? b = some o → b ≠ cenv.locals ∧ B.get? b = some o := fun b o e => by
      refine ⟨fun z => ?_, PySem.W.of_hideAll _ e⟩
      have e2 : B'.get? b = none := PySem.W.hideAll_none _ (by rw [z]; exact List.mem_singleton.mpr rfl)
      rw [e] at e2; cases e2
    have hBn : ∀ b, B.get? b = none → B'.get? b = none := fun b e => by
      cases q : B'.get? b with
      | none => rfl
      | some o => rw [(hB' b o q).2] at e; cases e
    have st2 : B'.StaysIn h2 := fun b o e => (sb.2 b (hB' b o e).1).trans (k1 b o (hB' b o e).2)
    have ff2 : h2.FunFrames B' (X.env :: X.outer) := FunFrames.less hBn (Heap.FunFrames.sameBut sb hn2 k3)
    obtain ⟨oe, vs, T, oT, ts, he, hz, hd, h1', hnT, hTe, hT, hdT, h3⟩ := k4
    obtain ⟨oC, esC, epC, hoC, hdC, _⟩ := id hn1
    have neE : a ≠ cenv.locals := fun z => by rw [z, hoC] at he; cases he; rw [hdC] at hd; cases hd
    have neT : T ≠ cenv.locals := fun z => by rw [z, hoC] at hT; cases hT; rw [hdC] at hdT; cases hdT
    have tr2 : HandSPX.TracedZ h2 B' a (Zc cls d) (rawInt X.env.locals) := ⟨oe, vs, T, oT, ts, (sb.2 a neE).trans he, hz, hd, h1', hBn _ hnT, hTe, (sb.2 T neT).trans hT, hdT, h3⟩
    unfold PySem.passOn
    refine wpAny_bind (wpAny_field ((sb.2 a neE).trans he) hd h1' ?_)
    rw [if_neg (show ¬ ((Value.ref T == Value.none) = true) from by simp)]
    have go : wpAny (model X.prog X.w) X.A (setFlight (.ref a) cenv.frame) (fun _ s4 => X.xe (.ref a) s4) X.xe { s' with heap := h2 } := by
      rw [hcf, hf]
      refine HandSPX.setFlight_anyZ (s := { s' with heap := h2 }) st2 ff2 tr2 fun h4 j1 j2 j3 j4 => tk _ _ ?_
      -- the state without the exception, the block's names hidden
      have I6 : Inv X pins σ H' sI := I3.call' (ch := fp) I.os I.base I.hok I.bare fun b hb => ⟨(hfp b hb).2.2.2.1, (hfp b hb).2.1, (hfp b hb).2.2.2.2.1, (hfp b hb).2.2.2.2.2⟩
      have hid : ∀ b o, b ≠ cenv.locals → sI.heap.get? b = some o → (PySem.W.hideAll sI.heap [cenv.locals]).get? b = some o := fun b o hb e => PySem.W.hideAll_get _ e (by simpa using hb)
      have hidof : ∀ b o, (PySem.W.hideAll sI.heap [cenv.locals]).get? b = some o → b ≠ cenv.locals ∧ sI.heap.get? b = some o := fun b o e => by
        refine ⟨fun z => ?_, PySem.W.of_hideAll _ e⟩
        have e2 : (PySem.W.hideAll sI.heap [cenv.locals]).get? b = none := PySem.W.hideAll_none _ (by rw [z]; exact List.mem_singleton.mpr rfl)
        rw [e] at e2; cases e2
      have I7 : Inv X pins σ H' { sI with heap := PySem.W.hideAll sI.heap [cenv.locals] } := I6.turned (t' := sI.toks) hid fpC.1 fpC.2.1 fpC.2.2.2.1 fpC.2.2.2.2.1 fpC.2.2.2.2.2
      refine ⟨a, B', _, pins, σ, H', cls, d, rfl, I7, fun b o e hb => ?_, fun b o e hnf => ?_, .inr (.inr ?_), na, os, ag, w⟩
      · obtain ⟨e1, e2⟩ := hidof b o e
        exact PySem.W.hideAll_get _ (nb b o e2 hb) (by simpa using e1)
      · obtain ⟨e1, e2⟩ := hidof b o e
        obtain ⟨sl, e3⟩ := (up.trans up1) b o e2 hnf
        obtain ⟨sl2, e4⟩ := j4 b _ ((sb.2 b e1).trans e3) hnf
        exact ⟨sl2, e4⟩
      · rw [hs]
        exact ⟨j1, hBn _ k2, j2, j3⟩
    first
      | exact wpAny_bind (wpAny_pure (wpAny_bind (wpAny_mono go (fun _ _ q => wpAny_throw q) fun _ _ q => q)))
      | exact wpAny_bind (wpAny_mono go (fun _ _ q => wpAny_throw q) fun _ _ q => q)
  have sky' : Sky B (X.env :: X.outer) a (Zc cls d) cenv.locals s'.heap := by rw [← hs]; exact sky
  rcases sky' with ⟨hB, hn, hl, oe, vs, he, hz, hd, h1⟩ | fl | hh
  · exact HandSPX.look_newZ Zc.steady hfr hl hf he hB hn hd h1 hz fin
  · exact HandSPX.looks_onZ Zc.steady hfr hf fl fin
  · refine looks_heldZ Zc.steady hfr hf hh.1 hh.2.1 hh.2.2.1 hh.2.2.2 ?_ fin
    show (Value.int (cenv.locals : Int) 0 == Value.int (X.env.locals : Int) 0) = false
    rw [beq_eq_false_iff_ne]
    intro z
    injection z with z _
    exact hne (by exact_mod_cast z)
abbrev Cx.blkX (X : Cx) (s : Shared) (H : Hp) (scope : Scope) (cenv : PySem.Env) (fp : List Addr) : Cx := (X.blk s H scope cenv fp).wish (xeB X cenv)
theorem pe_lcX {elt tg iter : Expr} {ifs : List Expr} {scope : Scope} {own : List (Str × Nat)} {pos : Pos} {wi : TI} {g : TG} {te : WX → TE} {ttt : WX → TT} (hs' : X.stack = X.env :: X.outer) (hf' : X.env.frame = some X.env.locals) (tk : Takes X W) (hc : X.calm = true) (hN : X.N.Nodup) (hi : PI X tg iter wi) (ok : BlkOk X.N X.env.scope scope own)
    (hg : ∀ (s : Shared) (H : Hp) (C : Addr) (cl : List (Str × Addr)) (fp : List Addr), PG (Cx.blkX X s H scope (compEnvC scope cl C X.env) fp) tg g)
    (ht : ∀ (s : Shared) (H : Hp) (C : Addr) (cl : List (Str × Addr)) (fp : List Addr) (W' : WX), Takes (Cx.blkX X s H scope (compEnvC scope cl C X.env) fp) W' → PTs (Cx.blkX X s H scope (compEnvC scope cl C X.env) fp) ifs (ttt W'))
    (he : ∀ (s : Shared) (H : Hp) (C : Addr) (cl : List (Str × Addr)) (fp : List Addr) (W' : WX), Takes (Cx.blkX X s H scope (compEnvC scope cl C X.env) fp) W' → PE (Cx.blkX X s H scope (compEnvC scope cl C X.env) fp) elt (te W')) (hs : ∀ x, foldedSetIterable iter X.env x = pure x := by intro _; rfl) :
    PE X (.ListComp elt [⟨tg, iter, ifs, 0⟩] scope pos) (fun σ H Q => tLc wi g (ttt fun c d _ H' => W c d σ H') (te fun c d _ H' => W c d σ H') (own.map (·.2)) σ H Q) := by
  refine ⟨fun pins s σ H Q I h => ?_⟩
  rw [eval_ListComp]
  have hfree : ∀ y ∈ scope.names, y.2 = .free → ∃ c, X.env.cells.lookup y.1 = some c := fun y hy e => by
    rcases ok.free y hy e with k | k
    · exact I.ok.has _ (.inl k)
    · exact I.ok.has _ (.inr k)
  refine comprehension_at (use := none) rfl hs (closure_ok hfree) ok.kind (fun y hy e => by rw [ok.uniq y hy, e])
    (thn (hi.run pins s σ H _ I h) fun xv s1 hx => thn hx fun itv s2 h2 => ?_)
  obtain ⟨it, fp, tn, J, H2, e, I2, T, st2, f2, q⟩ := h2
  subst e
  refine wpAny_newObj_type (newEnv_comp ?_) (by show 0 ≤ sizeLine; decide)
  generalize hD : s2.heap.objs.size = D
  have hDn : H2 D = none := I2.hok.fresh (Nat.le_of_eq hD)
  obtain ⟨Wn, ⟨m0, w0⟩, turn⟩ := q D hDn
  generalize hs3 : ({ s2 with heap := s2.heap.push { cls := .type "list", data := .seq ([] : List Value).toArray } } : Shared) = s3
  have I3 : Inv X pins σ (upd H2 D (.lst [])) s3 := by
    rw [← hs3]
    refine I2.laid (t' := s2.toks) (fun b o e => Heap.get?_push_of_some _ e) (Nat.le_of_eq hD) ⟨Nat.zero_le _, [], 0, .nil, ?_⟩
    rw [← hD]
    exact Heap.get?_push_size _ rfl
  have h3 : s3.heap = s2.heap.push { cls := .type "list", data := .seq ([] : List Value).toArray } := by rw [← hs3]
  have sz : ∀ b ∈ fp, b < s2.heap.objs.size := fun b hb => by
    obtain ⟨o, e, _⟩ := T.obj _ _ st2 b hb
    exact Heap.lt_size e
  have f3 : ∀ b ∈ fp, FpOk X pins (upd H2 D (.lst [])) b ∧ b < s3.heap.objs.size := fun b hb => by
    have hlt := sz b hb
    refine ⟨⟨?_, (f2 b hb).2⟩, by rw [h3, Heap.size_push]; exact Nat.lt_succ_of_lt hlt⟩
    rw [upd_ne (by rw [← hD]; exact Nat.ne_of_lt hlt)]
    exact (f2 b hb).1
  have st3 : tn 0 s3.heap := T.keep _ _ _ st2 fun b _ o e => by rw [h3]; exact Heap.get?_push_of_some _ e
  have I4 := block_start I3 ok hN f3
  have hcf : (compEnvC scope (cellsFrom (s3.heap.objs.size + 1) scope.names (cloFrom X.env.cells scope.names [])) s3.heap.objs.size X.env).frame = X.env.frame := rfl
  have tkB := takesB (W := W) (σ := σ) hs' hf' tk (scope := scope) (fp := fp) I3 hcf (Nat.le_refl _) (fun b hb => (f3 b hb).1)
  have pg := hg s3 (upd H2 D (.lst [])) s3.heap.objs.size (cellsFrom (s3.heap.objs.size + 1) scope.names (cloFrom X.env.cells scope.names [])) fp
  have pt := ht s3 (upd H2 D (.lst [])) s3.heap.objs.size (cellsFrom (s3.heap.objs.size + 1) scope.names (cloFrom X.env.cells scope.names [])) fp _ tkB
  have pe := he s3 (upd H2 D (.lst [])) s3.heap.objs.size (cellsFrom (s3.heap.objs.size + 1) scope.names (cloFrom X.env.cells scope.names [])) fp _ tkB
  show codeAny _ _ (.compStart (.ListComp elt [⟨tg, iter, ifs, 0⟩] scope pos) 0 (.ref it) (.ref D) (compEnvC scope (cellsFrom (s3.heap.objs.size + 1) scope.names (cloFrom X.env.cells scope.names [])) s3.heap.objs.size X.env)) (compEnds (model X.prog X.w) X.A X.xe none (EP X pins σ Q) (.ref D) (compEnvC scope (cellsFrom (s3.heap.objs.size + 1) scope.names (cloFrom X.env.cells scope.names [])) s3.heap.objs.size X.env)) { s3 with heap := pushCells (s3.heap.push { cls := .type "dict", data := .dict #[] }) scope.names }
  have nfp : ∀ b ∈ fp, (upd H2 D (.lst [])) b = none := fun b hb => (f3 b hb).1.1
  generalize hce : compEnvC scope (cellsFrom (s3.heap.objs.size + 1) scope.names (cloFrom X.env.cells scope.names [])) s3.heap.objs.size X.env = ce at I4 pg pt pe tkB hcf ⊢
  have cL : ce.locals = s3.heap.objs.size := by subst hce; rfl
  generalize hH3 : upd H2 D (.lst []) = H3 at I3 I4 pg pt pe w0 nfp f3 tkB
  generalize hs4 : ({ s3 with heap := pushCells (s3.heap.push { cls := .type "dict", data := .dict #[] }) scope.names } : Shared) = s4 at I4 ⊢
  have I4 : Inv (Cx.blkX X s3 H3 scope ce fp) [] (wipe σ (own.map (·.2))) H3 s4 := I4.wish _
  have st4 : tn 0 s4.heap := T.keep _ _ _ st3 fun b _ o e => by rw [← hs4]; exact pushCells_keeps _ _ _ _ (Heap.get?_push_of_some _ e)
  have stat : ∀ {σ' : L2.St} {H' : Hp} {s' : Shared}, Inv (Cx.blkX X s3 H3 scope ce fp) [] σ' H' s' → (∀ b ∈ fp, H' b = none) → ∀ b ∈ fp, FpOk (Cx.blkX X s3 H3 scope ce fp) [] H' b := fun {σ' H' s'} I' hn b hb =>
    ⟨hn b hb, (I'.ok.exf b hb).1, I'.ok.exfs b hb, .inl hb, fun x c e => (I'.ok.exf b hb).2 x c e, fun p hp => absurd (show p ∈ ([] : List (Addr × Obj)) ++ [] from hp) (by simp)⟩
  have loop : codeAny (model X.prog X.w) X.A (.compLoop (.ListComp elt [⟨tg, iter, ifs, 0⟩] scope pos) 0 (.ref it) (.ref D) ce) (compEnds (model X.prog X.w) X.A X.xe none (EP X pins σ Q) (.ref D) ce) s4 := by
    refine compLoop_any (fun n s' => ∃ i H', Inv (Cx.blkX X s3 H3 scope ce fp) [] (wipe σ (own.map (·.2))) H' s' ∧ tn i s'.heap ∧ (∀ b ∈ fp, H' b = none) ∧ Wn i n H') ?_ m0 ⟨0, H3, I4, st4, nfp, w0⟩
    rintro n s5 ⟨i, H5, I5, st5, n5, w5⟩
    rcases turn i n H5 w5 with ⟨stop, qq⟩ | ⟨go, Nx, hNx, step⟩
    · have td := T.done (Cx.blkX X s3 H3 scope ce fp) rfl rfl rfl hc i [] s5 _ H5 (fun _ _ => False) I5 (stat I5 n5) st5 stop
      refine thnF td fun r s6 ⟨hr, I6⟩ => ?_
      subst hr
      have I7 : Inv X pins σ H5 s6 := I3.call' (ch := fp) I6.os I6.base I6.hok I6.bare fun b hb => ⟨(f3 b hb).1.2.2.2.1, (f3 b hb).1.2.1, (f3 b hb).1.2.2.2.2.1, (f3 b hb).1.2.2.2.2.2⟩
      have nC : H5 ce.locals = none := I6.free
      obtain ⟨m, hn, _⟩ := I6.loc
      have hn : s6.heap.Ns ce.locals m := hn
      have fC : FpOk X pins H5 ce.locals := by
        rw [cL] at nC ⊢
        exact I3.fpOk (Nat.le_refl _) nC
      refine ⟨m, hn, fun h'' sb => ?_⟩
      obtain ⟨f0, f1, f2, f3, f4, f5⟩ := fC
      exact ⟨.ref D, H5, I7.turned (t' := s6.toks) (fun b o hb e => (sb.2 b hb).trans e) f0 f1 f3 f4 f5, rfl, qq⟩
    · have ti := T.item (Cx.blkX X s3 H3 scope ce fp) rfl rfl rfl hc i [] s5 _ H5 (fun _ _ => False) I5 (stat I5 n5) st5 go
      refine thnF ti fun r s6 ⟨u, hr, h6⟩ => ?_
      subst hr
      refine thnF h6 fun _ s7 ⟨x, H7, I7, r7, y7, st7, n7⟩ => ?_
      have I7' := I7.pinned (stat I7 n7) (T.obj _ _ st7)
      refine thn (pg.run _ s7 _ H7 x u _ I7' r7 (step x H7 y7)) fun _ s8 ⟨σ8, H8, I8, hw8, q8⟩ => ?_
      refine thn (pt.run _ s8 σ8 H8 _ I8 q8) fun b s9 ⟨H9, I9, q9⟩ => ?_
      have fin : ∀ {s' : Shared} {H' : Hp}, Inv (Cx.blkX X s3 H3 scope ce fp) ([] ++ pinsAt fp s7.heap) σ8 H' s' → Nx H' → ∃ m, m < n ∧ ∃ i H', Inv (Cx.blkX X s3 H3 scope ce fp) [] (wipe σ (own.map (·.2))) H' s' ∧ tn i s'.heap ∧ (∀ b ∈ fp, H' b = none) ∧ Wn i m H' := fun {s' H'} I' nx => by
        obtain ⟨m', hm, w'⟩ := hNx H' nx
        have pin' : ∀ b ∈ fp, ∀ o, s7.heap.get? b = some o → s'.heap.get? b = some o ∧ H' b = none := fun b hb o e =>
          let z := I'.pin (b, o) (List.mem_append_right _ (List.mem_append_right _ (mem_pinsAt hb e)))
          ⟨z.1, z.2.1⟩
        have hl : (wipe σ (own.map (·.2))).length = σ8.length := by rw [← hw8, wipe_length]
        refine ⟨m', hm, i + 1, H', (I'.unpinned (pins := [])).weak hl (fun j v e => ?_), T.keep _ _ _ st7 fun b hb o e => (pin' b hb o e).1, fun b hb => ?_, w'⟩
        · rw [← hw8] at e
          exact (wipe_some e).1
        · obtain ⟨o, e, _⟩ := T.obj _ _ st7 b hb
          exact (pin' b hb o e).2
      cases b with
      | false =>
        simp only [Bool.false_eq_true, if_false] at q9 ⊢
        exact fin I9 q9
      | true =>
        simp only [if_true] at q9 ⊢
        refine thn (pe.run _ s9 σ8 H9 _ I9 q9) fun z s10 ⟨yv, H10, I10, r10, acc, hD10, hz10, nx⟩ => ?_
        exact app_ok (X := Cx.blkX X s3 H3 scope ce fp) I10 hD10 hz10 r10 fun s11 I11 => fin I11 nx
  exact codeAny_compStart_list loop (T.self X.A 0 _ _ _ st4 loop)
end
/-! ### its reading -/
section
variable {X : Cx} {W : WX} {ft : T} {fe : F} {pos : Pos}
noncomputable def eLcX (src : Src) (p : Pat) (tt : T) (te : F) (own : List Nat) : F := fun ρ => bind (src ρ) fun it S => if it.1.length ≤ sizeLine then match lcS p tt te it.2 (wipeE ρ own) it.1 S with
    | .ok ys S' => .ok (.ref S'.length) (S' ++ [.lst ys])
    | .exc x S' => .exc x S'
    | .bad => .bad
  else .bad
/-- what the rest of the walk is to give -/
def FinL (K : PySem.W.Frag) (m1 : List Addr) (H1 : Hp) (W : Value → Option Addr → Hp → Prop) (D' : Addr) (Q : VK) (ys : List D) (r : Res (List D)) : Prop := match r with
  | .ok zs Sf => ∀ m2 xs2 H2, Aft m1 H1 m2 H2 → Rel K m2 Sf H2 → D' ∉ m2 → H2 D' = some (.lst xs2) → RDs K m2 H2 (ys ++ zs) xs2 → Q (.ref D') H2
  | .exc x Sf => ∀ m2 H2 c d, Aft m1 H1 m2 H2 → Rel K m2 Sf H2 → ExR K m2 H2 x c d → W c d H2
  | .bad => False
theorem lc_ofX {src : Src} {p : Pat} {vs ws : List Nat} (hv : ∀ i ∈ vs, i ∈ ws) {σ : L2.St} {H : Hp} {Q : VK} (h : tM X.K W (eLcX src p ft fe ws) σ H Q) :
    tLc (tI X.K W src) (tG X.K p vs) (tT X.K (fun c d _ H' => W c d σ H') ft) (tM X.K (fun c d _ H' => W c d σ H') fe) ws σ H Q := by
  obtain ⟨m, ρ, S, hr, R, q⟩ := h
  refine ⟨m, ρ, S, hr, R, (EndM.step (R := RIt X.K) q).mono fun J H1 ⟨it, S1, m1, fd, a1, R1, q1⟩ D hD => ?_⟩
  obtain ⟨items, ok⟩ := it
  simp only at q1 fd
  split at q1
  rotate_left
  · exact q1.elim
  rename_i hsz
  have F0 : FinL X.K m1 H1 (fun c d H' => W c d σ H') D Q [] (lcS p ft fe ok (wipeE ρ ws) items S1) := by
    cases el : lcS p ft fe ok (wipeE ρ ws) items S1 with
    | bad => rw [el] at q1; exact q1.elim
    | exc x S2 => rw [el] at q1; exact fun m2 H2 c d a b e => q1 m2 H2 c d a b e
    | ok Ys Sf =>
      rw [el] at q1
      intro m2 xs2 H2 a2 R2 o2 d2 rd2
      exact q1 (m2 ++ [D]) _ H2 (a2.track hD) (R2.track o2 ⟨xs2, d2, rd2.mono2 (fun _ _ e => e) (fun _ _ e => e) fun _ _ e => at_app e⟩) (.ref R2.last)
  refine ⟨fun i n H' => n = items.length - i ∧ i ≤ items.length ∧ ∃ m' S' xs ys, Aft m1 H1 m' H' ∧ Rel X.K m' S' H' ∧ D ∉ m' ∧ H' D = some (.lst xs) ∧ RDs X.K m' H' ys xs ∧ ys.length ≤ i ∧ FinL X.K m1 H1 (fun c d H' => W c d σ H') D Q ys (lcS p ft fe ok (wipeE ρ ws) (items.drop i) S'),
    ⟨_, rfl, Nat.zero_le _, m1, S1, [], [], Aft.refl.side hD, R1.fresh hD, R1.out hD, upd_same, .nil, Nat.le_refl _, F0⟩, ?_⟩
  rintro i n H2 ⟨rfl, hi, m2, S2, xs, ys, a2, R2, o2, d2, rd2, l2, e2⟩
  by_cases hlt : i < items.length
  · rw [List.drop_eq_getElem_cons hlt] at e2
    unfold lcS at e2
    split at e2
    rotate_left
    · exact e2.elim
    rename_i hok
    obtain ⟨go, y⟩ := (fd m2 S2 H2 a2 R2 hok i).2 items[i] (by simp [hlt])
    refine .inr ⟨go, fun H' => i + 1 ≤ items.length ∧ ∃ m' S' xs ys, Aft m1 H1 m' H' ∧ Rel X.K m' S' H' ∧ D ∉ m' ∧ H' D = some (.lst xs) ∧ RDs X.K m' H' ys xs ∧ ys.length ≤ i + 1 ∧ FinL X.K m1 H1 (fun c d H' => W c d σ H') D Q ys (lcS p ft fe ok (wipeE ρ ws) (items.drop (i + 1)) S'),
      fun H' z => ⟨_, by omega, rfl, z⟩, fun x H3 hy => ?_⟩
    obtain ⟨a3, R3, rd3⟩ := y x H3 hy
    cases e1 : p items[i] (wipeE ρ ws) S2 with
    | none => rw [e1] at e2; exact e2.elim
    | some w =>
      obtain ⟨ρ4, S4⟩ := w
      rw [e1] at e2
      simp only at e2
      have hrw : RE X.K m2 H3 (wipeE ρ ws) (wipe σ ws) := (((hr.mono a1).mono a2).mono a3).wipe ws
      refine ⟨m2, _, S2, _, hrw, R3, rd3, ρ4, S4, e1, fun m4 σ4 H4 a4 R4 hr4 l4 k4 => ?_⟩
      refine ⟨wipe_eq (l4.trans (wipe_length _ _)) k4 hv, ?_⟩
      refine ⟨m4, ρ4, S4, hr4, R4, ?_⟩
      unfold bind at e2
      cases e5 : ft ρ4 S4 with
      | bad => rw [e5] at e2; exact e2.elim
      | exc x S5 => rw [e5] at e2; exact fun m5 H5 c d a5 R5 x5 => e2 m5 H5 c d (((a2.trans a3).trans a4).trans a5) R5 x5
      | ok k S5 =>
        rw [e5] at e2
        simp only at e2
        intro m5 b5 H5 a5 R5 eb
        cases eb
        have o5 : D ∉ m5 := (((a3.trans a4).trans a5)).out o2 d2
        have d5 : H5 D = some (.lst xs) := ((a3.trans a4).trans a5).keep D _ d2 (.inl o2)
        cases k with
        | false =>
          simp only [Bool.false_eq_true, if_false] at e2 ⊢
          exact ⟨hlt, m5, S5, xs, ys, ((a2.trans a3).trans a4).trans a5, R5, o5, d5, ((rd2.mono a3).mono a4).mono a5, by omega, e2⟩
        | true =>
          simp only [if_true] at e2 ⊢
          refine ⟨m5, ρ4, S5, hr4.mono a5, R5, ?_⟩
          cases e7 : fe ρ4 S5 with
          | bad => rw [e7] at e2; exact e2.elim
          | exc x S6 => rw [e7] at e2; exact fun m6 H6 c d a6 R6 x6 => e2 m6 H6 c d ((((a2.trans a3).trans a4).trans a5).trans a6) R6 x6
          | ok y1 S6 =>
            rw [e7] at e2
            simp only at e2
            intro m6 v6 H6 a6 R6 rd6
            have o6 : D ∉ m6 := a6.out o5 d5
            have d6 : H6 D = some (.lst xs) := a6.keep D _ d5 (.inl o5)
            have mu : Mu (some (HO.lst xs)) := trivial
            have rd2' : RDs X.K m6 H6 ys xs := (((rd2.mono a3).mono a4).mono a5).mono a6
            refine ⟨xs, d6, by rw [← rd2'.length]; omega, hlt, m6, S6, xs ++ [v6], ys ++ [y1], ((((a2.trans a3).trans a4).trans a5).trans a6).side hD, R6.side o6 d6 mu, o6, upd_same, ?_, by simp; omega, ?_⟩
            · exact (rd2'.mono2 (sqt_upd d6 mu) (xd_upd d6 mu) fun _ _ e => e).append (.cons (rd6.mono2 (sqt_upd d6 mu) (xd_upd d6 mu) fun _ _ e => e) .nil)
            · cases e9 : lcS p ft fe ok (wipeE ρ ws) (items.drop (i + 1)) S6 with
              | bad => rw [e9] at e2; exact e2.elim
              | exc x S7 => rw [e9] at e2; exact e2
              | ok zs S7 =>
                rw [e9] at e2
                intro m2 xs2 H2 a b c d e
                exact e2 m2 xs2 H2 a b c d (by simpa using e)
  · have e : i = items.length := by omega
    subst e
    rw [List.drop_length] at e2
    unfold lcS at e2
    split at e2
    rotate_left
    · exact e2.elim
    rename_i hok
    exact .inl ⟨(fd m2 S2 H2 a2 R2 hok _).1 (Nat.le_refl _), e2 m2 xs H2 a2 R2 o2 d2 (by simpa using rd2)⟩
theorem me_lcX {elt tg iter : Expr} {ifs : List Expr} {scope : Scope} {own : List (Str × Nat)} {src : Src} {p : Pat} {vs : List Nat} {k : Nat} (hs' : X.stack = X.env :: X.outer) (hf' : X.env.frame = some X.env.locals) (c : Cc X W k) (ok : BlkOk X.N X.env.scope scope own) (hv : ∀ i ∈ vs, i ∈ own.map (·.2)) (hi : MI X W tg iter src)
    (hg : ∀ (s : Shared) (H : Hp) (C : Addr) (cl : List (Str × Addr)) (fp : List Addr), MG (Cx.blkX X s H scope (compEnvC scope cl C X.env) fp) tg p vs)
    (ht : ∀ (s : Shared) (H : Hp) (C : Addr) (cl : List (Str × Addr)) (fp : List Addr) (W' : WX), Cc (Cx.blkX X s H scope (compEnvC scope cl C X.env) fp) W' k → MTs (Cx.blkX X s H scope (compEnvC scope cl C X.env) fp) W' ifs ft)
    (he : ∀ (s : Shared) (H : Hp) (C : Addr) (cl : List (Str × Addr)) (fp : List Addr) (W' : WX), Cc (Cx.blkX X s H scope (compEnvC scope cl C X.env) fp) W' k → ME (Cx.blkX X s H scope (compEnvC scope cl C X.env) fp) W' elt fe)
    (hs : ∀ x, foldedSetIterable iter X.env x = pure x := by intro _; rfl) : ME X W (.ListComp elt [⟨tg, iter, ifs, 0⟩] scope pos) (eLcX src p ft fe (own.map (·.2))) :=
  PE.imp (pe_lcX (te := fun W' => tM X.K W' fe) (ttt := fun W' => tT X.K W' ft) hs' hf' c.tk c.calm c.nd hi ok hg (fun s H C cl fp W' t => ht s H C cl fp W' ⟨t, c.room, c.gd, c.calm, c.nd⟩) (fun s H C cl fp W' t => he s H C cl fp W' ⟨t, c.room, c.gd, c.calm, c.nd⟩) hs) fun _ _ _ h => lc_ofX hv h
end
end MP
set_option Elab.async false
set_option linter.all false
set_option maxRecDepth 100000
set_option maxHeartbeats 4000000
namespace MP
open PySem PySem.Spec PyProof.Rows L2

/-! ### own error classes in the head -/
abbrev FnS : Type := Option (Str × Str × Arguments × FuncBody × Scope × Addr × Addr)
def fnS (K : PySem.W.Frag) (p : Str × Option Str) : FnS := match K.lookup (He.fAd K p) with
  | some ⟨_, _, .func fd, _⟩ => some (fd.name, fd.qualname, fd.params, fd.body, fd.scope, fd.globals, fd.builtins)
  | _ => none
/-- an own error class: its name, its __init__ -/
structure SupD where
  x : Str
  qual : Str
  params : Arguments
  body : List Stmt
  scope : Scope
def SupD.val (d : SupD) : FnS := some (Str.ofString "__init__", d.qual, d.params, .stmts d.body, d.scope, mainGlobals, builtinsNs)
def oexB (K : PySem.W.Frag) (C : Addr) : Bool := (match K.lookup C with
  | some ⟨.type "type", _, .cls cd, sl⟩ => (match cd.mro, sl.toList with
    | .ref C' :: bm, [_, _, _, _, some (.builtin n), _] => C' == C && (n == "ValueError.__new__" && (!cd.hasDel && (PySem.HandSPX.refsVE bm && cd.hasDict)))
    | _, _ => false)
  | _ => false) && (decide (PySem.W.findIn K (.ref C) "__setattr__" = some (some (.builtin "object.__setattr__"))) && (decide (PySem.W.subIn K (.ref C) (.type "BaseException") = some true) && (decide (PySem.W.typeIn K (.ref C) = some (.type "type")) && PySem.W.keepIn K (.ref C))))
theorem oexB_ok {K : PySem.W.Frag} {C : Addr} (h : oexB K C = true) : OexC K C := by
  obtain ⟨q, h⟩ := He.ba h
  obtain ⟨h1, h⟩ := He.ba h
  obtain ⟨h2, h⟩ := He.ba h
  obtain ⟨h3, h4⟩ := He.ba h
  refine ⟨?_, of_decide_eq_true h1, of_decide_eq_true h2, of_decide_eq_true h3, h4⟩
  split at q
  · rename_i dd cd sl ho
    split at q
    · rename_i C' bm k0 k1 k2 k3 n k5 hm hs
      simp only [Bool.and_eq_true, beq_iff_eq, Bool.not_eq_true'] at q
      obtain ⟨rfl, rfl, hdel, hv, hdct⟩ := q
      obtain ⟨nm, bs, mro, ns, qn, hd, sn, sub, ab, col, del⟩ := cd
      dsimp only at hm hdel hdct
      subst hm hdel hdct
      have hsl : sl = #[k0, k1, k2, k3, some (.builtin "ValueError.__new__"), k5] := by
        obtain ⟨l⟩ := sl
        simp only at hs
        rw [hs]
      subst hsl
      exact ⟨nm, qn, ns, bs, bm, sn, sub, ab, col, dd, k0, k1, k2, k3, k5, ho, hv⟩
    · cases q
  · cases q
def clsChk (K : PySem.W.Frag) (C : Addr) : Bool := match PySem.W.clsIn K C with
  | some c => decide (PySem.W.alongIn K "__init__" ((c.mro.dropWhile (· != .ref C)).drop 1) = some (some (.builtin "ValueError.__init__")))
  | none => false
def cellChk (K : PySem.W.Frag) (C cc : Addr) : Bool := match K.lookup cc with
  | some ⟨_, _, .cell (some (.ref D)), _⟩ => decide (D = C)
  | _ => false
def fileChk (K : PySem.W.Frag) (P : Program) (cda : Addr) : Bool := match K.lookup cda with
  | some ⟨_, _, .fields vs, _⟩ => (match (vs[2]? : Option Value) with
    | some (Value.str file _) => ((P.main.file : Str) == file)
    | _ => false)
  | _ => false
def closChk (K : PySem.W.Frag) (P : Program) (C : Addr) (qual : Str) (fd : FuncData) : Bool := match fd.closure, fd.code, fd.defaults with
  | [(n, cc)], .ref cda, .none => decide (n = ("__class__" : Str)) && (PySem.W.codeIn K (.ref cda) qual && (cellChk K C cc && fileChk K P cda))
  | _, _, _ => false
def initChk (K : PySem.W.Frag) (P : Program) (C f : Addr) (qual : Str) : Bool := match K.lookup f with
  | some ⟨_, _, .func fd, _⟩ => closChk K P C qual fd
  | _ => false
def supB (P : Program) (d : SupD) (K : PySem.W.Frag) : Bool :=
  oexB K (He.ga K d.x) && (xfB K (He.ga K d.x) && (decide (PySem.W.findIn K (.ref (He.ga K d.x)) "__init__" = some (some (.ref (He.ma K (He.ga K d.x) "__init__")))) && (decide (PySem.W.typeIn K (.ref (He.ma K (He.ga K d.x) "__init__")) = some (.type "function")) &&
    (decide (PySem.W.mroIn K (He.ga K d.x) (.ref (He.ga K d.x)) = some true) && (decide (PySem.W.subIn K (.ref (He.ga K d.x)) (.type "ValueError") = some true) && (clsChk K (He.ga K d.x) && (decide (PySem.W.nsIn K cStatics "thirdparty.any" = some none) && initChk K P (He.ga K d.x) (He.ma K (He.ga K d.x) "__init__") d.qual)))))))
/-- what is found of d's class -/
structure SupAt (K : PySem.W.Frag) (P : Program) (d : SupD) : Prop where
  xf : XfC K (He.ga K d.x)
  ex : ∃ (f cc cda : Addr) (kV doc pm ct oc : Value) (an od : Option Addr) (osl : Array (Option Value)),
    K.lookup f = some ⟨oc, od, .func (PySem.W.fnX "__init__" d.qual d.params d.body d.scope [("__class__", cc)] .none kV doc pm an (.ref cda) ct), osl⟩ ∧ PySem.W.codeIn K (.ref cda) d.qual = true ∧
    PySem.W.findIn K (.ref (He.ga K d.x)) "__init__" = some (some (.ref f)) ∧ PySem.W.typeIn K (.ref f) = some (.type "function") ∧
    ∀ sf, (∃ ar, (d.params.posonlyargs ++ d.params.args).head? = some ar ∧ ar.arg = sf) → (P.main.scope.names.lookup ("super" : Str)).isSome = false →
      SupC K P (He.ga K d.x) f cc cda (PySem.W.fnX "__init__" d.qual d.params d.body d.scope [("__class__", cc)] .none kV doc pm an (.ref cda) ct) sf
theorem supB_ok {K : PySem.W.Frag} {P : Program} {d : SupD} (h : supB P d K = true) (e : fnS K (d.x, some "__init__") = d.val) : SupAt K P d := by
  unfold supB at h
  obtain ⟨h1, h⟩ := He.ba h
  obtain ⟨h2, h⟩ := He.ba h
  obtain ⟨h3, h⟩ := He.ba h
  obtain ⟨h4, h⟩ := He.ba h
  obtain ⟨h5, h⟩ := He.ba h
  obtain ⟨h6, h⟩ := He.ba h
  obtain ⟨h7, h⟩ := He.ba h
  obtain ⟨h8, h9⟩ := He.ba h
  refine ⟨xfB_ok h2, ?_⟩
  have hf : He.fAd K (d.x, some "__init__") = He.ma K (He.ga K d.x) "__init__" := rfl
  unfold fnS at e
  rw [hf] at e
  unfold initChk at h9
  cases q : K.lookup (He.ma K (He.ga K d.x) "__init__") with
  | none => rw [q] at h9; cases h9
  | some o =>
    obtain ⟨oc, od, dt, osl⟩ := o
    rw [q] at h9 e
    cases dt with
    | func fd =>
      obtain ⟨n1, n2, n3, n4, n5, n6, n7, n8, n9, n10, n11, n12, n13, n14, n15⟩ := fd
      have e2 : (some (n1, n2, n3, n4, n5, n6, n15) : FnS) = some (Str.ofString "__init__", d.qual, d.params, FuncBody.stmts d.body, d.scope, mainGlobals, builtinsNs) := e
      simp only [Option.some.injEq, Prod.mk.injEq] at e2
      obtain ⟨g1, g2, g3, g4, g5, g6, g7⟩ := e2
      subst g1 g2 g3 g4 g5 g6 g7
      simp only at h9
      unfold closChk at h9
      split at h9
      · rename_i n cc cda w1 w2 w3
        dsimp only at w1 w2 w3
        subst w1 w2 w3
        obtain ⟨k1, h9⟩ := He.ba h9
        obtain ⟨k2, h9⟩ := He.ba h9
        obtain ⟨k3, k4⟩ := He.ba h9
        have k1 : n = ("__class__" : Str) := of_decide_eq_true k1
        subst k1
        refine ⟨_, cc, cda, n9, n10, n11, n14, oc, n12, od, osl, q, k2, of_decide_eq_true h3, of_decide_eq_true h4, fun sf hsf htop => ⟨oexB_ok h1, ?_, of_decide_eq_true h5, of_decide_eq_true h6, ⟨oc, od, osl, q⟩, hsf, ?_, ?_, htop, of_decide_eq_true h8⟩⟩
        · unfold clsChk at h7
          cases z : PySem.W.clsIn K (He.ga K d.x) with
          | none => rw [z] at h7; cases h7
          | some c => rw [z] at h7; exact ⟨c, rfl, of_decide_eq_true h7⟩
        · unfold fileChk at k4
          split at k4
          · rename_i ccl cdd vs ccs ho
            split at k4
            · rename_i file tf hv
              exact ⟨ccl, cdd, vs, ccs, file, tf, ho, hv, k4⟩
            · cases k4
          · cases k4
        · unfold cellChk at k3
          split at k3
          · rename_i cl cld D csl ho
            have : D = He.ga K d.x := of_decide_eq_true k3
            rw [this] at ho
            exact ⟨cl, cld, csl, ho⟩
          · cases k3
      · cases h9
    | _ => cases h9

/-! ### the hook -/
abbrev AlX : Type := (Bool × List FnS) × He.AlD
def obsX (ex : PySem.W.Frag → Bool) (P : Program) (sp : List SupD) (fa : List He.Fa) (fn : List He.DefD) (K : PySem.W.Frag) : AlX := ((ex K && sp.all (fun d => supB P d K), sp.map fun d => fnS K (d.x, some "__init__")), He.obsD fa fn K)
def valX (sp : List SupD) (fn : List He.DefD) : AlX := ((true, sp.map SupD.val), He.valD fn)
structure SaysX (ex : PySem.W.Frag → Bool) (P : Program) (sp : List SupD) (fa : List He.Fa) (fn : List He.DefD) (K : PySem.W.Frag) : Prop where
  ex : ex K = true
  sup : ∀ d ∈ sp, SupAt K P d
  says : He.SaysD fa fn K
theorem saysX_of {ex : PySem.W.Frag → Bool} {P : Program} {sp : List SupD} {fa : List He.Fa} {fn : List He.DefD} {K : PySem.W.Frag} (h : obsX ex P sp fa fn K = valX sp fn) : SaysX ex P sp fa fn K := by
  have h1 : (ex K && sp.all (fun d => supB P d K)) = true := congrArg (fun z : AlX => z.1.1) h
  have h2 : (sp.map fun d => fnS K (d.x, some "__init__")) = sp.map SupD.val := congrArg (fun z : AlX => z.1.2) h
  obtain ⟨k1, k2⟩ := He.ba h1
  refine ⟨k1, fun d hd => ?_, congrArg (fun z : AlX => z.2) h⟩
  refine supB_ok (List.all_eq_true.mp k2 d hd) ?_
  obtain ⟨i, hi⟩ := List.getElem?_of_mem hd
  have e2 : (sp.map fun d => fnS K (d.x, some "__init__"))[i]? = (sp.map SupD.val)[i]? := by rw [h2]
  rw [List.getElem?_map, List.getElem?_map, hi] at e2
  exact Option.some.inj e2
def asX (n : Nat) (g : Addr → Option Obj) : List Addr := cStatics :: He.asD g n
def obsXG (n : Nat) (ex : PySem.W.Frag → Bool) (P : Program) (sp : List SupD) (fa : List He.Fa) (fn : List He.DefD) (g : Addr → Option Obj) : AlX := obsX ex P sp fa fn (frN g (asX n g))
def hookX (n : Nat) (ex : PySem.W.Frag → Bool) (P : Program) (sp : List SupD) (fa : List He.Fa) (fn : List He.DefD) : PySem.W.Hook where
  α := AlX
  obs := fun s => obsXG n ex P sp fa fn s.heap.get?
  val := fun _ => valX sp fn
  says := fun _ h => ∃ K : PySem.W.Frag, K.In h ∧ (SaysX ex P sp fa fn K ∧ ∀ a o, K.lookup a = some o → noList o = true)
  of := fun _ s e => ⟨frN s.heap.get? (asX n s.heap.get?), fun _ _ e => (frN_at e).1, saysX_of e, fun _ _ e => (frN_at e).2⟩
  keeps := fun _ _ _ ⟨K, hK, c⟩ k => ⟨K, PySem.W.Frag.In.keeps hK k, c⟩
theorem obsXG_eq {n : Nat} {ex : PySem.W.Frag → Bool} {P : Program} {sp : List SupD} {fa : List He.Fa} {fn : List He.DefD} {g : Addr → Option Obj} {s : Shared} (h : ∀ a, g a = s.heap.get? a) : obsXG n ex P sp fa fn g = (hookX n ex P sp fa fn).obs s := by
  have e : g = s.heap.get? := funext h
  rw [e] <;> rfl
theorem walk_ofX {l : PySem.W.OpenLaw} {n k : Nat} {q : Program} {loose : List Str} {XP : (Str → Option Value) → Heap → Prop} {ex : PySem.W.Frag → Bool} {P : Program} {sp : List SupD} {fas : List He.Fa} {fn : List He.DefD} {d : DefRec} {x : Str}
    (hn : l.most = some n) (hn2 : n ≤ sizeLine) (hdf : d.params.defaults = []) (hr : Room k callerA)
    (F : ∀ (w : World) (mg : Str → Option Value) (fa : Addr) (h : Heap) (K : PySem.W.Frag), K.In h → h.Ns mainGlobals mg → mg d.name = some (.ref fa) → SaysX ex P sp fas fn K →
      ∃ (fd : FuncData) (sem : List D → M D), (∀ (s : Shared) (u : Value), BindsTo s fd ⟨[u], []⟩ [(x, u)]) ∧
        (∀ (ns : List Int), ns.length ≤ n → (∀ z ∈ ns, Builtin.Int.intBits z ≤ 1048576) → ∃ S', sem [.ref 0] [.ro (ns.map D.int)] = .ok (.bl true) S') ∧
        ∀ base : Heap, K.In base → base.Ns mainGlobals mg → FnG l.prog w K mg base k fa fd [x] (spM K sem 1)) :
    PySem.W.WalkO q loose XP (fun _ h => ∃ K : PySem.W.Frag, K.In h ∧ (SaysX ex P sp fas fn K ∧ ∀ a o, K.lookup a = some o → noList o = true)) l.row.toRowW d [] (fun f vs => PySem.call f vs) := by
  refine Att.attach_callB hn hdf fun w s₀ s₁ mg mb fa o pm cd doc a vs ns G Y ho hd hcd hmg hobj hints hlen hbits hg => ?_
  obtain ⟨K, KX, c, hnl⟩ := Y
  obtain ⟨fd, sem, hb, hsp, hF⟩ := F w mg fa _ K KX G.T.g hmg c
  exact law_callG KX hnl G.T.g G.T.b G.T.builtins G.T.nolimit hg hobj hints (Nat.le_trans hlen hn2) hr hF hb (hsp ns hlen hbits)
/-- the law's end from its def: sem is what it means -/
theorem walk_law {l : PySem.W.OpenLaw} {n k : Nat} {q : Program} {loose : List Str} {XP : (Str → Option Value) → Heap → Prop} {ex : PySem.W.Frag → Bool} {P : Program} {sp : List SupD} {fas : List He.Fa} {fn : List He.DefD} {d : DefRec} {x : Str} {sem : List D → M D}
    (hn : l.most = some n) (hn2 : n ≤ sizeLine) (hdf : d.params.defaults = []) (hr : Room k callerA)
    (F : ∀ (w : World) (mg : Str → Option Value) (K : PySem.W.Frag), (∃ h : Heap, K.In h ∧ h.Ns mainGlobals mg) → SaysX ex P sp fas fn K → ∃ (f : Addr) (fd : FuncData), mg d.name = some (.ref f) ∧ (∀ (s : Shared) (u : Value), BindsTo s fd ⟨[u], []⟩ [(x, u)]) ∧
      ∀ base : Heap, FnG l.prog w K mg base k f fd [x] (spM K sem 1))
    (hsp : ∀ (ns : List Int), ns.length ≤ n → (∀ z ∈ ns, Builtin.Int.intBits z ≤ 1048576) → ∃ S', sem [.ref 0] [.ro (ns.map D.int)] = .ok (.bl true) S') :
    PySem.W.WalkO q loose XP (fun _ h => ∃ K : PySem.W.Frag, K.In h ∧ (SaysX ex P sp fas fn K ∧ ∀ a o, K.lookup a = some o → noList o = true)) l.row.toRowW d [] (fun f vs => PySem.call f vs) := by
  refine walk_ofX (x := x) hn hn2 hdf hr fun w mg fa h K KX G hm c => ?_
  obtain ⟨f, fd, hm', hb, hF⟩ := F w mg K ⟨h, KX, G⟩ c
  rw [hm] at hm'
  cases hm'
  exact ⟨fd, sem, hb, hsp, fun base _ _ => hF base⟩

/-! ### the head's facts at hand -/
structure HdX (P : Program) (sp : List SupD) (fa : List He.Fa) (fn : List He.DefD) (K : PySem.W.Frag) (mg : Str → Option Value) : Prop where
  hd : Hd fa fn K mg
  sup : ∀ d ∈ sp, SupAt K P d
section
variable {P : Program} {w : World} {sp : List SupD} {fa : List He.Fa} {fn : List He.DefD} {K : PySem.W.Frag} {mg : Str → Option Value} {base : Heap}
theorem HdX.free (M : HdX P sp fa fn K mg) (i : Nat) {x : Str} (h : fa[i]? = some (.free x) := by rfl) : mg x = none := M.hd.free i h
theorem HdX.int (M : HdX P sp fa fn K mg) (i : Nat) {x : Str} {z : Int} (h : fa[i]? = some (.int x z) := by rfl) : ∃ t, mg x = some (.int z t) := M.hd.int i h
theorem HdX.str (M : HdX P sp fa fn K mg) (i : Nat) {x z : Str} (h : fa[i]? = some (.str x z) := by rfl) : ∃ t, mg x = some (.str z t) := M.hd.str i h
theorem HdX.glo (M : HdX P sp fa fn K mg) (i : Nat) {x : Str} (h : fa[i]? = some (.glo x) := by rfl) : mg x = some (.ref (He.ga K x)) := M.hd.glo i h
theorem HdX.noat (M : HdX P sp fa fn K mg) (i : Nat) {x f : Str} (h : fa[i]? = some (.noat x f) := by rfl) : PySem.W.findIn K (.ref (He.ga K x)) f = some none := He.noat_ok (M.hd.says.fact i h)
theorem HdX.exm (M : HdX P sp fa fn K mg) (i : Nat) {x y : Str} {b : Bool} (h : fa[i]? = some (.exm x y b) := by rfl) : PySem.W.exmOne K (.ref (He.ga K x)) (.ref (He.ga K y)) = some b := He.exm_ok (M.hd.says.fact i h)
theorem HdX.xf (M : HdX P sp fa fn K mg) (i : Nat) {d : SupD} (h : sp[i]? = some d := by rfl) : XfC K (He.ga K d.x) := (M.sup d (List.mem_of_getElem? h)).xf
/-- arguments that are all names -/
def tVars : List Nat → TA
  | [] => tNil
  | i :: r => tCons (tVar i) (tVars r)
theorem tVars_ok : ∀ (l : List Nat) {σ : L2.St} {H : Hp} {n : Nat} {Q : List V → Hp → Prop}, (∀ i, i < n → ∃ v, σ[i]? = some (some v)) → (l.all fun i => decide (i < n)) = true → (∀ xs : List V, xs.length = l.length → Q xs H) → tVars l σ H Q
  | [], _, _, _, _, _, _, k => k [] rfl
  | i :: r, σ, H, n, Q, h, a, k => by
    simp only [List.all_cons, Bool.and_eq_true, decide_eq_true_eq] at a
    obtain ⟨v, hv⟩ := h i a.1
    exact ⟨v, hv, tVars_ok r h a.2 fun xs hx => k (v :: xs) (by simp [hx])⟩
theorem hasExc_M (M : HdX P sp fa fn K mg) (i j js : Nat) {d : SupD} {n k : Nat} {sf : Str} {rest : List Stmt} {N ps : List Str} {fl : List (Str × F)} {e : Expr} {es : List Expr} {p0 p1 p2 pos pos' : Pos} (is : List Nat)
    (hi : sp[i]? = some d) (hj : fa[j]? = some (.glo d.x)) (hjs : fa[js]? = some (.free "super")) (htop : (P.main.scope.names.lookup ("super" : Str)).isSome = false)
    (hb : d.body = .Expr (.Call (.Attribute (.Call (.Name "super" p0) [] [] p1) "__init__" p2) (e :: es) [] pos) pos' :: rest) (S : SScope N ps d.scope)
    (hsf : ∃ ar, (d.params.posonlyargs ++ d.params.args).head? = some ar ∧ ar.arg = sf)
    (hbind : ∀ (kV doc pm : Value) (an : Option Addr) (cda cc : Addr) (ct : Value) (us : List Value), us.length = ps.length → bindArgs (PySem.W.fnX "__init__" d.qual d.params d.body d.scope [("__class__", cc)] .none kV doc pm an (.ref cda) ct) ⟨us, []⟩ = pure (ps.zip us))
    (hps : ps.length = n + 1) (hN0 : N[0]? = some sf) (hps0 : ps[0]? = some sf) (hks : d.scope.names.lookup ("super" : Str) = some .globalImplicit) (hkc : d.scope.names.lookup ("__class__" : Str) = some .free) (hno : ∀ f ∈ fl, PySem.W.findIn K (.ref (He.ga K d.x)) f.1 = some none) (hfl : fl.length ≤ 900) (hfl0 : fl ≠ [])
    (his : (is.all fun i => decide (i < ps.length)) = true) (his2 : is.length ≤ 1000)
    (hbody : ∀ (f cc cda : Addr) (A : Around) (outer : List PySem.Env) (s : Shared) (H : Hp) (E : XK), PA (cxS (CX P w) P w K mg base N d.qual d.scope f (.ref cda) cc A outer s H E) (e :: es) (tVars is) ∧
      PSs (cxS (CX P w) P w K mg base N d.qual d.scope f (.ref cda) cc A outer s H E) rest (tFl K WF fl))
    (he : ∀ env : PySem.Env, starEach (e :: es) env = (false, eval e env) :: starEach es env := by intro _; rfl) (hplain : ∀ env : PySem.Env, (backTo pos (starEach es env)).any (·.1) = false := by intro _; rfl)
    (hev : ∀ (f cc cda : Addr) (A : Around) (outer : List PySem.Env) (s : Shared) (H : Hp) (E : XK), ∃ pl : Sem Bool, eval (.Call (.Attribute (.Call (.Name "super" p0) [] [] p1) "__init__" p2) (e :: es) [] pos) (cxS (CX P w) P w K mg base N d.qual d.scope f (.ref cda) cc A outer s H E).env = (do
      let ov ← attributeBase (.Call (.Name "super" p0) [] [] p1) "__init__" (cxS (CX P w) P w K mg base N d.qual d.scope f (.ref cda) cc A outer s H E).env (eval (.Call (.Name "super" p0) [] [] p1) (cxS (CX P w) P w K mg base N d.qual d.scope f (.ref cda) cc A outer s H E).env)
      standAt p2.atName
      let (f', first) ← holding [ov] (getMethod ov "__init__" pl)
      callWith pos f' first (backTo pos (starEach (e :: es) (cxS (CX P w) P w K mg base N d.qual d.scope f (.ref cda) cc A outer s H E).env)) []) := by intro _ _ _ _ _ _ _ _; exact ⟨_, rfl⟩)
    (hi' : ∀ (f cc cda : Addr) (A : Around) (outer : List PySem.Env) (s : Shared) (H : Hp) (E : XK), interactive (cxS (CX P w) P w K mg base N d.qual d.scope f (.ref cda) cc A outer s H E).env = false := by intro _ _ _ _ _ _ _ _; rfl)
    (hs' : ∀ (f cc cda : Addr) (A : Around) (outer : List PySem.Env) (s : Shared) (H : Hp) (E : XK), swapsWith (.Call (.Attribute (.Call (.Name "super" p0) [] [] p1) "__init__" p2) (e :: es) [] pos) none pos'.line (cxS (CX P w) P w K mg base N d.qual d.scope f (.ref cda) cc A outer s H E).env = pure false := by intro _ _ _ _ _ _ _ _; rfl) :
    HasExc P w K mg base (k + 1) d.x n (mkI N.length fl) := by
  obtain ⟨f, cc, cda, kV, doc, pm, ct, oc, an, od, osl, lk, hcd, iC, tI, SC⟩ := (M.sup d (List.mem_of_getElem? hi)).ex
  have SC := SC sf hsf htop
  have hbind' := hbind kV doc pm an cda cc ct
  rw [hb] at lk SC hbind'
  refine hasExc_of (rest := rest) (e := e) (es := es) lk hcd S SC iC tI (M.glo j hj) (M.free js hjs) (.all hbind') hps hN0 hps0 hks hkc hno hfl hfl0 (fun A outer s H E => ?_) he hplain (hev f cc cda) (hi' f cc cda) (hs' f cc cda)
  obtain ⟨h1, h2⟩ := hbody f cc cda A outer s H E
  exact ⟨_, h1, fun σ H0 hv => tVars_ok is hv his fun xs hx => ⟨by omega, rfl⟩, h2⟩
end

theorem law_ends {P : Program} {w : World} {K : PySem.W.Frag} {mg : Str → Option Value} {k : Nat} {x y : Str} {sem : List D → M D} {fa : List He.Fa} {fn : List He.DefD} (c : He.SaysD fa fn K) (has : ∀ base : Heap, HasFn P w K mg base k x [y] [] sem) (i : Nat) {d : He.DefD} (hd : fn[i]? = some d)
    (hat : d.at_ = (x, none)) (hnm : d.dfl = []) (hkw : d.kwd = [])
    (hbind : ∀ (kV doc pm : Value) (an : Option Addr) (cdv ct : Value) (us : List Value), us.length = [y].length → bindArgs (PySem.W.fnOf d.name d.qual d.params d.body d.scope .none kV doc pm an cdv ct) ⟨us, []⟩ = pure ([y].zip us)) (hm : mg x = some (.ref (He.ga K x))) :
    ∃ (f : Addr) (fd : FuncData), mg x = some (.ref f) ∧ (∀ (s : Shared) (u : Value), BindsTo s fd ⟨[u], []⟩ [(y, u)]) ∧ ∀ base : Heap, FnG P w K mg base k f fd [y] (spM K sem 1) := by
  obtain ⟨fd, F⟩ := c.def_ i hd
  have F' : FunD K d.name d.qual d.params d.body d.scope [] [] (He.ga K x) fd := by
    have z := F
    rw [show He.fAd K d.at_ = He.ga K x by rw [hat]; rfl] at z
    have e1 : d.dvs K = [] := by unfold He.DefD.dvs; rw [hnm]; rfl
    have e2 : d.kws K = [] := by unfold He.DefD.kws; rw [hkw]; rfl
    rw [e1, e2] at z
    exact z
  obtain ⟨oc, od, _, _, _, _, _, _, _, osl, _, lk, _⟩ := F'.ex
  refine ⟨_, fd, hm, fun s u => F'.bindsA hbind s [u] rfl, fun base => ?_⟩
  obtain ⟨f, fd', ds, dvs, G, hm', hkp, hb, hd', hD, oc', od', osl', lk'⟩ := has base
  rw [hm] at hm'
  cases hm'
  rw [lk] at lk'
  cases lk'
  exact G
end MP
set_option Elab.async false
set_option linter.all false
set_option maxRecDepth 100000
set_option maxHeartbeats 4000000
namespace MP
open PySem PySem.Spec PyProof.Rows L2
open LamX (CodeO TabB LamS lamEnv lamCx)

/-! ### a lambda without parameters handed to a def that calls it -/
section
variable {X : Cx} {pins : List (Addr × Obj)} {σ : L2.St} {H : Hp} {s : Shared}
theorem lamF {c P : Addr} {q : Str} {params : Arguments} {body : Expr} {scope : Scope} {pos : Pos} {E Q : Value → Shared → Prop} (I : Inv X pins σ H s) (B : TabB X.base X.mg c P) (hcode : X.env.code = .ref c) (eq : X.env.qual ++ "<lambda>" = q)
    (hT : TabF H P q) (hdef : defaultsOf params X.env = ([], [])) (hfree : ∀ y ∈ scope.names, y.2 = .free → ∃ c, X.env.cells.lookup y.1 = some c)
    (h : ∀ (f c' : Addr) (pm ctv : Value) (H1 : Hp) (t : Shared) (od : Obj), Inv X pins σ H1 t → (∀ b o, b ≠ P → H b = some o → H1 b = some o) → TabF H1 P q →
      t.heap.get? f = some (PySem.W.kla_obj "<lambda>" q params body scope (cloFrom X.env.cells scope.names []) pm c' ctv) → H1 f = none → f ∉ frs X.stack → H1 c' = some (.frz od (CodeO c' q)) → Q (.ref f) t) :
    wpAny (model X.prog X.w) X.A (eval (.Lambda params body scope pos) X.env) Q E s := by
  subst eq
  obtain ⟨ps, hP, ht, ha⟩ := hT
  have bP := B.bm.keeps I.bk
  have oP : s.heap.get? P = some { cls := .none, data := .fields ps } := I.hok P _ hP
  have clear : ∀ f, s.heap.objs.size ≤ f → f ∉ frs X.stack := fun f hf z => (List.mem_cons.mp (I.stkSub _ z)).elim
    (fun e => absurd (Nat.lt_of_lt_of_le I.lt hf) (by rw [e]; exact Nat.lt_irrefl _)) fun e => I.nofs hf e
  refine PySem.W.kla_eval hdef ?_
  cases hc : codeAmong pos ps.toList with
  | some cv =>
    obtain ⟨c', od, rfl, hco⟩ := ha pos cv hc
    exact PySem.W.kla_makeFunctionHit (mg := X.mg) (c := c) (P := P) (ps := ps) (closure_ok hfree) I.ok.glob (I.mod.glob.keeps I.bk) hcode (B.code.keeps I.bk) oP ht hc bP fun ctv h' tk hx hsz =>
      h h'.objs.size c' _ ctv H _ od (I.kept fun b o e => Heap.get?_push_of_some _ (hx b o e)) (fun _ _ _ e => e) ⟨ps, hP, ht, ha⟩ (Heap.get?_push_size _ rfl) (I.hok.fresh hsz) (clear _ hsz) hco
  | none =>
    refine PySem.W.kla_makeFunction (mg := X.mg) (c := c) (P := P) (ps := ps) (closure_ok hfree) I.ok.glob (I.mod.glob.keeps I.bk) hcode (B.code.keeps I.bk) oP ht hc B.gP bP fun c' ctv h' tk hx hge hlt hrec htb => ?_
    obtain ⟨_, oc, vs, t, e2, hoc, hd, hv⟩ := hrec
    cases e2
    have nC : H c' = none := I.hok.fresh hge
    have hsz := Nat.le_trans hge (Nat.le_of_lt hlt)
    have nPc : P ≠ c' := ne_of_none hP nC
    have J := LamX.inv_table (t' := tk) (more := #[rawInt pos.line, rawInt pos.col, .ref c']) (q := X.env.qual ++ "<lambda>") (h' := h'.push (PySem.W.kla_obj "<lambda>" (X.env.qual ++ "<lambda>") params body scope (cloFrom X.env.cells scope.names []) ((X.mg "__name__").getD .none) c' ctv)) I hP
      (fun b o n e => Heap.get?_push_of_some _ (hx b o n e)) (Heap.get?_push_of_some _ htb) hge ⟨oc, vs, t, Heap.get?_push_of_some _ hoc, hd, hv⟩
    obtain ⟨od, J⟩ := J.lock (d := c') (u := CodeO c' (X.env.qual ++ "<lambda>")) upd_same trivial
    rw [upd_upd] at J
    have kp : ∀ b o, b ≠ P → H b = some o → upd (upd H P (.tbl (ps ++ #[rawInt pos.line, rawInt pos.col, .ref c']))) c' (.frz od (CodeO c' (X.env.qual ++ "<lambda>"))) b = some o := fun b o n e => by
      rw [upd_ne (ne_of_none e nC), upd_ne n]; exact e
    have n1 : h'.objs.size ≠ c' := Nat.ne_of_gt hlt
    have n2 : h'.objs.size ≠ P := Nat.ne_of_gt (Nat.lt_of_lt_of_le (Heap.lt_size oP) hsz)
    refine h h'.objs.size c' _ ctv _ _ od J kp ⟨_, by rw [upd_ne nPc, upd_same], ?_, fun p' cv hcv => ?_⟩ (Heap.get?_push_size _ rfl) (by rw [upd_ne n1, upd_ne n2]; exact I.hok.fresh hsz) (clear _ hsz) upd_same
    · rw [show (ps ++ #[rawInt pos.line, rawInt pos.col, .ref c']).toList = ps.toList ++ [rawInt pos.line, rawInt pos.col, .ref c'] by simp]
      exact PySem.TriplesOk_snoc _ _ _ _ ht
    · rw [show (ps ++ #[rawInt pos.line, rawInt pos.col, .ref c']).toList = ps.toList ++ [rawInt pos.line, rawInt pos.col, .ref c'] by simp] at hcv
      rcases LamX.among_app _ ht hcv with z | z
      · obtain ⟨c0, o0, e1, e2⟩ := ha p' cv z
        exact ⟨c0, o0, e1, kp _ _ (fun e => by rw [e, hP] at e2; cases e2) e2⟩
      · exact ⟨c', od, z, upd_same⟩
end
end MP
set_option Elab.async false
set_option linter.all false
set_option maxRecDepth 100000
set_option maxHeartbeats 4000000
namespace MP
open PySem PySem.Spec PyProof.Rows L2
open LamX (CodeO TabB LamS lamEnv lamCx)

def XF : XK := fun _ _ _ => False
/-! ### the call inside the def that got the lambda -/
/-- what the call of f asks: C, what is known of f's code; σ0, the names of its maker -/
def tAct (K : PySem.W.Frag) (f : Addr) (C : Hp → Prop) (W : WX) (fb : F) (σ0 : L2.St) : TE := fun σ H Q => σ[0]? = some (some (.ref f)) ∧ C H ∧ ∃ m ρ S, RE K m H ρ σ0 ∧ Rel K m S H ∧ EndM K m H (RD K) (fun c d H' => W c d σ H') (fb ρ S) Q
abbrev zOf (P : Program) (w : World) (K : PySem.W.Frag) (mg : Str → Option Value) (base : Heap) (N : List Str) (q : Str) (sg : Scope) (g : Addr) (cdv : Value) (A : Around) (outer : List PySem.Env) (s : Shared) (H : Hp) : Cx := cxOf (CX P w) P w K mg base N q sg g cdv A outer s H XF
section
variable {X : Cx} {pins : List (Addr × Obj)} {σ : L2.St} {H : Hp} {s : Shared}
theorem pe_actF {N : List Str} {qg : Str} {sg : Scope} {g f c' : Addr} {cdg pm ctv : Value} {params : Arguments} {body : Expr} {scope : Scope} {k : Nat} {a : Str} {pn : List (Addr × Obj)} {xe : Value → Shared → Prop} {W : WX} {fb : F} {p1 p2 : Pos}
    (I : Inv X pins σ H s) (L : LamS X.env.scope scope) (hf : s.heap.get? f = some (PySem.W.kla_obj "<lambda>" (X.env.qual ++ "<lambda>") params body scope (cloFrom X.env.cells scope.names []) pm c' ctv)) (hfn : H f = none) (hfr : f ∉ frs X.stack)
    (hbind : bindArgs (PySem.W.kla_fn "<lambda>" (X.env.qual ++ "<lambda>") params body scope (cloFrom X.env.cells scope.names []) pm (.ref c') ctv) ⟨[], []⟩ = pure []) (nd : X.N.Nodup)
    (tk : Takes ((zOf X.prog X.w X.K X.mg X.base N qg sg g cdg X.A X.stack s H).tr pn xe) W) (hr : Room (k + 1) (X.A.deeper (envOfC qg sg s.heap.objs.size g cdg))) (gd : X.A.guards = some [])
    (hbody : ∀ (A : Around) (outer : List PySem.Env) (s : Shared) (H : Hp) (E : XK), Cc (lamCx X A outer s H E scope f c') (fun c d _ H' => E c d H') k → ME (lamCx X A outer s H E scope f c') (fun c d _ H' => E c d H') body fb)
    (hN : N[0]? = some a) (hv : Vis sg a) (hd : (a == ("__debug__" : Str)) = false) (hcd : (a == ("__classdict__" : Str)) = false) :
    PE ((zOf X.prog X.w X.K X.mg X.base N qg sg g cdg X.A X.stack s H).tr pn xe) (.Call (.Name a p1) [] [] p2) (tAct X.K f (fun HZ => ∃ od, HZ c' = some (.frz od (CodeO c' (X.env.qual ++ "<lambda>")))) W fb σ) := by
  refine ⟨fun pz sZ σZ HZ Q IZ ⟨hs, ⟨od, hc⟩, m, ρ, S, hre, R, q⟩ => ?_⟩
  refine wpAny_Call_Name_kw (thn ((pe_var (pos := p1) (i := 0) hN hv hd hcd).run pz sZ σZ HZ (fun v H1 => v = .ref f ∧ H1 = HZ) IZ ⟨.ref f, hs, rfl, rfl⟩) fun u s1 ⟨v, H1, I1, r1, ev, eH⟩ => ?_)
  subst ev eH
  cases r1
  have of1 := I1.base.keep f _ hf hfn hfr (fun z => nomatch (show f ∈ ([] : List Addr) from z))
  refine PySem.W.callWith_F0 ⟨_, _, _, _, of1⟩ ?_
  have un : Un (frs X.stack) [] H H1 s.heap s1.heap := I1.base
  obtain ⟨hoc, ⟨oc, vs, t, hoc', hdc, hvc⟩, _, _⟩ := I1.hok c' _ hc
  have rc : codeAny (model X.prog X.w) (X.A.deeper (envOfC qg sg s.heap.objs.size g cdg)) (.call (.ref f) ⟨[], []⟩) (CR (CX X.prog X.w) (envOfC qg sg s.heap.objs.size g cdg :: X.stack) X.prog X.w H1 s1 Q fun c d H' => W c d σZ H') s1 := by
    refine PySem.W.kla_callFunE hr.depth of1 rfl L.co L.gen rfl ⟨c', oc, vs, t, rfl, hoc', hdc, hvc⟩ ?_
    rw [hbind]
    refine wpAny_pure (wpAny_newFunctionEnv (fun y hy => (L.own y hy).2) (fun y hy => absurd hy (by simp)) (fun h₁ hns hsb => ⟨I1.nolimit.fresh _ hsb, ?_⟩) L.kind)
    have kp : ∀ b o, s1.heap.get? b = some o → h₁.get? b = some o := fun b o e => hsb.extBut b o (Nat.ne_of_lt (Heap.lt_size e)) (Heap.get?_push_of_some _ e)
    have J : Inv (lamCx X (X.A.deeper (envOfC qg sg s.heap.objs.size g cdg)) (envOfC qg sg s.heap.objs.size g cdg :: X.stack) s1 H1 (fun c d H' => W c d σZ H') scope f c') [] σ H1 { s1 with heap := h₁, toks := s1.toks + ([] : List (Str × Value)).length } :=
      LamX.lam_start2 I L I1.env0 hr.hd un hns kp
    have gd' : ((X.A.deeper (envOfC qg sg s.heap.objs.size g cdg)).deeper (lamEnv X scope s1.heap.objs.size f c')).guards = some [] := gd
    have hb := hbody (X.A.deeper (envOfC qg sg s.heap.objs.size g cdg)) (envOfC qg sg s.heap.objs.size g cdg :: X.stack) s1 H1 (fun c d H' => W c d σZ H') ⟨takes_of rfl rfl rfl rfl, hr.deeper _, gd', rfl, nd⟩
    refine PySem.W.kla_codeExpr (wpAny_mono (hb.run [] _ _ H1 Q J ⟨m, ρ, S, hre, R, q⟩) (fun v s' hq => ?_) fun e s' hq => hq)
    obtain ⟨w', H', J', rv, q⟩ := hq
    exact ⟨w', H', J'.os, J'.bare, J'.base, J'.hok, rv, q⟩
  refine wpAny_call (codeAny_mono rc fun r s' hq => ?_)
  cases r with
  | error e => exact tk e s' (XE.of_call I1 (fun _ _ _ h => h) hq)
  | ok fl =>
    cases fl with
    | ret u => exact I1.after hq
    | next => exact False.elim hq
    | brk => exact False.elim hq
    | cont => exact False.elim hq
end

/-! ### the def that calls what it is given -/
/-- the module's name x is a def of one parameter that calls it: sem tells what it makes of the call -/
def HasThk (P : Program) (w : World) (K : PySem.W.Frag) (mg : Str → Option Value) (base : Heap) (k : Nat) (x : Str) (sem : M D → M D) : Prop :=
  ∃ (g : Addr) (N : List Str) (a q : Str) (sg : Scope) (cdv : Value), mg x = some (.ref g) ∧ PySem.W.keepIn K (.ref g) = true ∧ N[0]? = some a ∧ Vis sg a ∧ (a == ("__debug__" : Str)) = false ∧ (a == ("__classdict__" : Str)) = false ∧
    ∀ (A : Around) (outer : List PySem.Env) (s : Shared) (H : Hp) (Q : VK) (f : Addr) (C : Hp → Prop) (σ0 : L2.St) (fb : F) (m : List Addr) (ρ : Env) (S : Store), Room (k + 1) A → Env0 P w K mg base A outer s H → C H → RE K m H ρ σ0 → Rel K m S H →
      EndM K m H (RD K) XF (sem (fb ρ) S) Q →
      (Room k (A.deeper (envOfC q sg s.heap.objs.size g cdv)) → ∀ (pn : List (Addr × Obj)) (xe : Value → Shared → Prop) (W : WX) (p1 p2 : Pos), Takes ((zOf P w K mg base N q sg g cdv A outer s H).tr pn xe) W →
        PE ((zOf P w K mg base N q sg g cdv A outer s H).tr pn xe) (.Call (.Name a p1) [] [] p2) (tAct K f C W fb σ0)) →
      codeAny (model P w) A (.call (.ref g) ⟨[.ref f], []⟩) (CR (CX P w) outer P w H s Q XF) s
/-- x(lambda: ..): the lambda's table is at i of the store -/
def eThk (P : Addr) (q : Str) (i : Nat) (sem : M D → M D) (fb : F) : F := fun ρ S => match S[i]? with
  | some (.tab P' q') => if P' = P ∧ q' = q then (match sem (fb ρ) S with
    | .ok d S' => .ok d S'
    | _ => .bad) else .bad
  | _ => .bad
theorem Aft.grow {m : List Addr} {H H1 : Hp} {P : Addr} {ps : Array Value} (hP : H P = some (.tbl ps)) (hm : P ∈ m) (k : ∀ b o, b ≠ P → H b = some o → H1 b = some o) : Aft m H m H1 :=
  ⟨⟨[], by simp⟩, fun a h => .inl h, fun b o hb n => k b o (fun e => by
    subst e
    rw [hP] at hb
    cases hb
    rcases n with n | n
    · exact n hm
    · exact n trivial) hb⟩
theorem Rel.grow {K : PySem.W.Frag} {m : List Addr} {S : Store} {H H1 : Hp} {P : Addr} {q : Str} {i : Nat} (R : Rel K m S H) (hi : S[i]? = some (.tab P q)) (hm : m[i]? = some P) (hT : TabF H P q) (k : ∀ b o, b ≠ P → H b = some o → H1 b = some o) (hT1 : TabF H1 P q) : Rel K m S H1 := by
  obtain ⟨ps, hP, _, _⟩ := hT
  refine ⟨R.len, R.nd, fun (r : Nat) o a h1 h2 => ?_⟩
  by_cases hr : a = P
  · subst hr
    have e : r = i := by
      obtain ⟨l1, e1⟩ := List.getElem?_eq_some_iff.mp h2
      obtain ⟨l2, e2⟩ := List.getElem?_eq_some_iff.mp hm
      exact (List.getElem_inj R.nd).mp (e1.trans e2.symm)
    subst e
    rw [hi] at h1
    cases h1
    exact ⟨rfl, hT1⟩
  · exact OR.mono (Aft.grow hP (List.mem_of_getElem? hm) k) (R.ob r o a h1 h2) fun u hu _ => k a u hr hu
section
variable {X : Cx} {W : WX}
theorem me_thk {x q : Str} {c P : Addr} {k k' i : Nat} {sem : M D → M D} {params : Arguments} {body : Expr} {scope : Scope} {fb : F} {p lpos pos : Pos} (h : HasThk X.prog X.w X.K X.mg X.base (k + 1) x sem) (cc : Cc X W k') (B : TabB X.base X.mg c P) (hcode : X.env.code = .ref c)
    (L : LamS X.env.scope scope) (eq : X.env.qual ++ "<lambda>" = q)
    (hbind : ∀ (q : Str) (cl : List (Str × Addr)) (pm cv ctv : Value), bindArgs (PySem.W.kla_fn "<lambda>" q params body scope cl pm cv ctv) ⟨[], []⟩ = pure [])
    (hbody : ∀ (f c' : Addr) (A : Around) (outer : List PySem.Env) (s : Shared) (H : Hp) (E : XK), Cc (lamCx X A outer s H E scope f c') (fun c d _ H' => E c d H') k → ME (lamCx X A outer s H E scope f c') (fun c d _ H' => E c d H') body fb)
    (hk : k + 2 ≤ k' := by decide) (hdef : defaultsOf params X.env = ([], []) := by rfl) (hg : Gl X x := by rfl) (hdb : (x == ("__debug__" : Str)) = false := by decide) :
    ME X W (.Call (.Name x p) [.Lambda params body scope lpos] [] pos) (eThk P q i sem fb) := by
  obtain ⟨g, N, a, qg, sg, cdv, hm, hkp, hN, hv, hd, hcd, hC⟩ := h
  refine ⟨fun pins s σ H Q I ⟨m, ρ, S, hr, R, z⟩ => ?_⟩
  subst eq
  unfold eThk at z
  have z' : ∃ hi : S[i]? = some (.tab P (X.env.qual ++ "<lambda>")), EndM X.K m H (RD X.K) XF (sem (fb ρ) S) Q := by
    cases e : S[i]? with
    | none => rw [e] at z; exact z.elim
    | some o =>
      rw [e] at z
      cases o with
      | tab P' q' =>
        simp only at z
        split at z
        · rename_i hh
          obtain ⟨rfl, rfl⟩ := hh
          refine ⟨rfl, ?_⟩
          cases e2 : sem (fb ρ) S with
          | ok d S' => rw [e2] at z; exact z
          | exc y S' => rw [e2] at z; exact z.elim
          | bad => rw [e2] at z; exact z.elim
        · exact z.elim
      | _ => exact z.elim
  obtain ⟨hi, q2⟩ := z'
  obtain ⟨a', ha', rfl, hT⟩ := R.get hi
  have cT := hT
  obtain ⟨ps, hP, _, _⟩ := cT
  refine wpAny_Call_Name_kw (ld_glob I hg hm ?_ hdb)
  refine PySem.W.callWith_K (h₀ := X.base) I.ok.mod.kin hkp ?_ (by rfl) (by rfl)
  show wpAny _ _ (spliced ((false, eval (.Lambda params body scope lpos) X.env) :: backTo pos (starEach [] X.env))) _ _ s
  refine Calls.spliced_cons (lamF I B hcode rfl hT hdef (L.has I.ok) fun f c' pm' ctv H1 t od I1 kp T1 hf hfn hfr hco => ?_)
  refine Calls.spliced_nil ⟨I1.kIn, ?_⟩
  have A1 : Aft m H m H1 := Aft.grow hP (List.mem_of_getElem? ha') kp
  have R1 := R.grow hi ha' hT kp T1
  have room : Room (k + 2) X.A := cc.room.mono hk
  have rc : codeAny (model X.prog X.w) X.A (.call (.ref g) ⟨[.ref f], []⟩) (CR (CX X.prog X.w) X.stack X.prog X.w H1 t Q XF) t :=
    hC X.A X.stack t H1 Q f _ σ fb m ρ S room I1.env0 ⟨od, hco⟩ (hr.mono A1) R1 (q2.back A1) fun hr' pn xe W' p1 p2 tk =>
      pe_actF I1 L hf hfn hfr (hbind _ _ _ _ _) cc.nd tk hr' cc.gd (fun A outer s H E c => hbody f c' A outer s H E c) hN hv hd hcd
  refine wpAny_call (codeAny_mono rc fun r s2 hq => ?_)
  cases r with
  | error e =>
    obtain ⟨_, _, _, _, _, _, _, _, _, _, _, _, no⟩ := hq
    exact no.elim
  | ok fl =>
    cases fl with
    | ret u => exact I1.after hq
    | next => exact False.elim hq
    | brk => exact False.elim hq
    | cont => exact False.elim hq
end
end MP
set_option Elab.async false
set_option linter.all false
set_option maxRecDepth 100000
set_option maxHeartbeats 4000000
namespace MP
open PySem PySem.Spec PyProof.Rows L2
open LamX (CodeO TabB LamS lamEnv lamCx)

/-! ### try: return (tag, a()) except C as n: suite -/
noncomputable def thkTry (n : Nat) (cs : List (Str × Bool)) (j : Nat) (gs : Addr → Addr → G) (wr : D → M D) (act : M D) : M D := fun S => match gTry (fun ρ S => sBind (bind act wr S) ρ fun d S' => .ret d S') cs j gs (List.replicate n none) S with
  | .ret d S' => .ok d S'
  | _ => .bad
def wTag (tag : Str) : D → M D := fun d => lift (mkTup [.str tag, d])
section
variable {K : PySem.W.Frag} {C : Str} {cs : List (Str × Bool)} {m : List Addr} {H : Hp} {W : WX} {E : Ends}
theorem try_of {gb : G} {i : Nat} {gs : Addr → Addr → G} {ρ : Env} {S : Store} (hcs : ∀ p ∈ cs, PySem.W.exmOne K (.ref (He.ga K p.1)) (.ref (He.ga K C)) = some p.2) (hct : ∀ p ∈ cs, p.2 = true → p.1 = C) (q : EndS K m H W E (gTry gb cs i gs ρ S)) :
    EndS K m H (wAs K (.ref (He.ga K C)) i (fun a cls dO E σ H => cls = .ref (He.ga K C) ∧ ∃ d, dO = some d ∧ tMS K WF (gs a d) E σ H) W E) E (gb ρ S) := by
  unfold gTry at q
  cases eb : gb ρ S with
  | next ρ' S' => rw [eb] at q; exact q
  | ret d S' => rw [eb] at q; exact q
  | brk ρ' S' => rw [eb] at q; exact q
  | cont ρ' S' => rw [eb] at q; exact q
  | bad => rw [eb] at q; exact q.elim
  | exc x ρ' S' =>
    rw [eb] at q
    intro m' σ' H' cls dd a1 R1 hr1 ⟨ecls, d, gs', edd, hd, rf⟩
    subst ecls edd
    simp only at q
    cases el : cs.lookup x.cls with
    | none => rw [el] at q; exact q.elim
    | some b =>
      have hp := PySem.mem_of_lookup el
      rw [el] at q
      refine ⟨b, hcs _ hp, fun eb' a ha => ?_, fun eb' => ?_⟩
      · subst eb'
        have ec : x.cls = C := hct _ hp rfl
        refine ⟨by rw [ec], d, rfl, m', ρ'.set i (some (.err a d x.fs)), S', hr1.set (.err hd rf), R1, ?_⟩
        simp only [gHandle] at q
        split at q
        · rename_i hall
          rw [← hall a d] at q
          have q2 := q.back a1
          cases eg : gs a d (ρ'.set i (some (.err a d x.fs))) S' with
          | next ρ2 S2 => rw [eg] at q2; exact fun m2 σ2 H2 a2 R2 hr2 => q2 m2 _ H2 a2 R2 hr2.clear
          | brk ρ2 S2 => rw [eg] at q2; exact fun m2 σ2 H2 a2 R2 hr2 => q2 m2 _ H2 a2 R2 hr2.clear
          | cont ρ2 S2 => rw [eg] at q2; exact fun m2 σ2 H2 a2 R2 hr2 => q2 m2 _ H2 a2 R2 hr2.clear
          | ret d2 S2 => rw [eg] at q2; exact q2
          | exc y ρ2 S2 => rw [eg] at q2; exact q2.elim
          | bad => rw [eg] at q2; exact q2.elim
        · exact q.elim
      · subst eb'
        exact q m' σ' H' _ _ a1 R1 hr1 ⟨rfl, d, gs', rfl, hd, rf⟩
end
/-- what is written of the call: how it is read from the call's own reading -/
structure WrE (a : Str) (e : Expr) (wr : D → M D) : Prop where
  run : ∃ (tE : TE → TE) (p1 p2 : Pos), (∀ (Z : Cx) (tc : TE), PE Z (.Call (.Name a p1) [] [] p2) tc → PE Z e (tE tc)) ∧
    ∀ (K : PySem.W.Frag) (f : Addr) (C : Hp → Prop) (W : WX) (fb : F) (σ0 σ : L2.St) (H : Hp) (Q : VK) (m : List Addr) (ρ : Env) (S : Store), σ[0]? = some (some (.ref f)) → C H → RE K m H ρ σ0 → Rel K m S H → EndM K m H (RD K) (fun c d H' => W c d σ H') (bind (fb ρ) wr S) Q →
      tE (tAct K f C W fb σ0) σ H Q
theorem wr_tag {a tag : Str} {j k : Nat} {p0 p1 p2 p3 : Pos} : WrE a (.Tuple [.Constant (.str tag) j p0, .Call (.Name a p1) [] [] p2] k p3) (wTag tag) := by
  refine ⟨fun tc => tTup (tCons (tC (.str tag)) (tCons tc tNil)), p1, p2, fun Z tc h => pe_tup (pa_cons pe_str (pa_cons h pa_nil)), fun K f C W fb σ0 σ H Q m ρ S h0 hC hr R q => ?_⟩
  show tAct K f C W fb σ0 σ H _
  refine ⟨h0, hC, m, ρ, S, hr, R, ?_⟩
  refine (EndM.step (R := RD K) q).mono fun v H1 ⟨d, S1, m1, rd, a1, R1, q1⟩ => ?_
  show [V.str tag, v].length ≤ sizeLine ∧ ∀ p, H1 p = none → Q (.ref p) (upd H1 p (.tup [V.str tag, v]))
  have q2 : EndO K m1 H1 (mkTup [.str tag, d] S1) Q := q1.lift
  unfold mkTup at q2
  split at q2
  · rename_i hl
    exact ⟨hl, fun p hp => q2.tup R1 (.cons (.str tag) (.cons rd .nil)) hp⟩
  · exact q2.bad.elim
section
variable {fa : List He.Fa} {fn : List He.DefD} {K : PySem.W.Frag} {mg : Str → Option Value}
theorem hasThk_of {P : Program} {w : World} {base : Heap} (M0 : Hd fa fn K mg) (i j : Nat) {d : He.DefD} {N : List Str} {a C n : Str} {k ci : Nat} {cs : List (Str × Bool)} {gs : Addr → Addr → G} {e1 : Expr} {wr : D → MP.M D} {b₀ : Stmt} {suite : List Stmt} {np pos pos' rp : Pos}
    (hd : fn[i]? = some d) (hj : fa[j]? = some (.glo d.name)) (hat : d.at_ = (d.name, none)) (hdf : d.dfl = []) (hkw : d.kwd = []) (S : FnScope N [a] d.scope)
    (hbind : ∀ (kV doc pm : Value) (an : Option Addr) (cdv ct : Value) (us : List Value), us.length = [a].length → bindArgs (PySem.W.fnOf d.name d.qual d.params d.body d.scope .none kV doc pm an cdv ct) ⟨us, []⟩ = pure ([a].zip us))
    (hb : d.body = [.Try [.Return (some e1) rp] [.ExceptHandler (some (.Name C np)) (some n) (b₀ :: suite) pos'] [] [] pos]) (hw : WrE a e1 wr) (hm : mg C = some (.ref (He.ga K C)))
    (hcs : ∀ p ∈ cs, PySem.W.exmOne K (.ref (He.ga K p.1)) (.ref (He.ga K C)) = some p.2) (hct : ∀ p ∈ cs, p.2 = true → p.1 = C)
    (hsu : ∀ (g : Addr) (cdv : Value) (A : Around) (outer : List PySem.Env) (s : Shared) (H : Hp) (x : Addr) (oe : Obj) (dd : Addr) (pn : List (Addr × Obj)), Zc (.ref (He.ga K C)) (some dd) oe → (∃ vs, oe.data = .fields vs) →
      MSs ((zOf P w K mg base N d.qual d.scope g cdv A outer s H).suite x ((x, oe) :: pn)) WF (b₀ :: suite) (gs x dd))
    (hN : N[0]? = some a) (hv : Vis d.scope a) (hg : ∀ (g : Addr) (cdv : Value) (A : Around) (outer : List PySem.Env) (s : Shared) (H : Hp), Gl (zOf P w K mg base N d.qual d.scope g cdv A outer s H) C)
    (hi : N[ci]? = some n) (hln : ∀ (g : Addr) (cdv : Value) (A : Around) (outer : List PySem.Env) (s : Shared) (H : Hp), (zOf P w K mg base N d.qual d.scope g cdv A outer s H).env.kindOf n = some .local)
    (h0 : ∀ f : Addr, (L2.start N [V.ref f])[0]? = some (some (V.ref f)))
    (hdb : (C == ("__debug__" : Str)) = false := by decide) (had : (a == ("__debug__" : Str)) = false := by decide) (hac : (a == ("__classdict__" : Str)) = false := by decide) :
    HasThk P w K mg base k d.name (thkTry N.length cs ci gs wr) := by
  obtain ⟨fd, F⟩ := M0.says.def_ i hd
  have e : He.fAd K d.at_ = He.ga K d.name := by rw [hat]; rfl
  have F' : FunD K d.name d.qual d.params d.body d.scope [] [] (He.ga K d.name) fd := by
    have z := F
    rw [e] at z
    have e1 : d.dvs K = [] := by unfold He.DefD.dvs; rw [hdf]; rfl
    have e2 : d.kws K = [] := by unfold He.DefD.kws; rw [hkw]; rfl
    rw [e1, e2] at z
    exact z
  have bd := F'.bindsN hbind
  have kp := F'.kp
  obtain ⟨oc, od, dV, kV, doc, pm, an, cdv, ct, osl, rfl, lk, hcd, _, _⟩ := F'.ex
  obtain ⟨tE, p1, p2, hE, hT⟩ := hw.run
  refine ⟨_, N, a, d.qual, d.scope, cdv, M0.glo j hj, kp, hN, hv, had, hac, fun A outer s H Q f Cc' σ0 fb m ρ St hr e0 hC hre R q act => ?_⟩
  refine LamX.run_ofS (N := N) (ps := [a]) (us := [.ref f]) (vs := [.ref f]) lk hcd S hr e0 (bd s [.ref f] (e0.mod.kin.keeps fun b o e => (e0.bs b o e).1) rfl) (.cons rfl .nil) rfl fun hr' => ?_
  have act' := act hr'
  rw [hb]
  refine ⟨_, pss_one (ps_try_as (X := zOf P w K mg base N d.qual d.scope (He.ga K d.name) cdv A outer s H) (c := .ref (He.ga K C)) (Wout := WF)
    (tb := fun W D σ H => (σ.length = N.length ∧ σ[0]? = some (some (.ref f))) ∧ Cc' H ∧ ∃ m ρ S, RE K m H ρ σ0 ∧ Rel K m S H ∧ EndM K m H (RD K) (fun c d H' => W c d σ H') (bind (fb ρ) wr S) D.rt)
    (ts := fun a cls dO E σ H => cls = .ref (He.ga K C) ∧ ∃ d, dO = some d ∧ tMS K WF (gs a d) E σ H) rfl rfl S.nd hi (hln _ _ _ _ _ _) ⟨hg _ _ _ _ _ _, hdb, .inl hm⟩ takesF (fun W pn xe tk _ => ?_)
    fun a oe cls dO pn hz hv => ⟨fun pins s' σ H' D I ⟨e1, dd, e2, q⟩ => by subst e1 e2; exact (hsu _ _ _ _ _ _ a oe dd pn hz hv).run pins s' σ H' D I q⟩), ?_⟩
  · refine ⟨fun pins s' σ H' D I ⟨⟨_, h1⟩, h2, m', ρ', S', h3, h4, h5⟩ => ?_⟩
    exact (pss_one (ps_ret (pos := rp) (hE _ _ (act' pn xe W p1 p2 tk)))).run pins s' σ H' D I (hT K f Cc' W fb σ0 σ H' D.rt m' ρ' S' h1 h2 h3 h4 h5)
  · have hlen : (L2.start N [V.ref f]).length = N.length := by
      have : 0 < N.length := by
        have := (List.getElem?_eq_some_iff.mp hN).1
        exact this
      simp [L2.start]; omega
    refine ⟨⟨hlen, h0 f⟩, hC, m, ρ, St, hre, R, ?_⟩
    have z : EndS K m H WF { nx := fun _ H' => Q .non H', rt := Q } (gTry (fun ρ' S => sBind (bind (fb ρ) wr S) ρ' fun d S' => .ret d S') cs ci gs (List.replicate N.length none) St) := by
      unfold thkTry at q
      cases eg : gTry (fun ρ' S => sBind (bind (fb ρ) wr S) ρ' fun d S' => .ret d S') cs ci gs (List.replicate N.length none) St with
      | ret d2 S2 => rw [eg] at q; exact q
      | _ => rw [eg] at q; exact q.elim
    have z2 := try_of hcs hct z
    cases eb : bind (fb ρ) wr St with
    | ok d2 S2 => simp only [eb, sBind] at z2; exact z2
    | exc x S2 =>
      simp only [eb, sBind] at z2
      exact fun m' H' cls dd a1 R1 x1 => z2 m' _ H' cls dd a1 R1 ⟨by simp [hlen], fun i d hq => by rw [List.getElem?_replicate] at hq; split at hq <;> cases hq⟩ x1
    | bad =>
      simp only [eb, sBind] at z2
      exact (show False from z2).elim
end
end MP
set_option Elab.async false
set_option linter.all false
set_option maxRecDepth 100000
set_option maxHeartbeats 4000000
namespace MP
open PySem PySem.Spec PyProof.Rows L2
open LamX (TabB)

/-! ### the law's end with tables of code objects: ts, code object, table, name -/
abbrev TQ : Type := (Addr × Addr) × Str
def storeT (ns : List Int) (ts : List TQ) : Store := .ro (ns.map D.int) :: ts.map fun t => .tab t.1.2 t.2
theorem law_callT {P : Program} {w : World} {K : PySem.W.Frag} {mg mb : Str → Option Value} {k : Nat} {fa a : Addr} {fd : FuncData} {x : Str} {sem : List D → M D} {s₁ : Shared} {vs : List Value} {ns : List Int} {ts : List TQ}
    (KX : K.In s₁.heap) (hnl : ∀ a o, K.lookup a = some o → noList o = true) (hns : s₁.heap.Ns mainGlobals mg) (hb : s₁.heap.Ns builtinsNs mb) (hbb : ∀ x : Str, x ≠ "__name__" → mb x = bootBuiltins x) (hlim : s₁.heap.NoLimit) (hg : s₁.gens = #[])
    (tE : ∀ t ∈ ts, s₁.heap.get? t.1.2 = some { cls := .none, data := .fields #[] }) (tK : ∀ t ∈ ts, K.lookup t.1.2 = none) (tC : ∀ t ∈ ts, PySem.W.codeHdIn K t.1.1 t.1.2 = true) (tN : (ts.map fun t => t.1.2).Nodup)
    (hbm : ∃ (bm : Addr) (ob : Obj), mg "__builtins__" = some (.ref bm) ∧ bm ≠ builtinsNs ∧ s₁.heap.get? bm = some ob ∧ ob.cls = .type "module" ∧ ob.dict = some builtinsNs ∧ ob.data = .plain)
    (ha : s₁.heap.get? a = some { cls := .type "list", data := .seq vs.toArray }) (hi : IntsAre vs ns) (hl : ns.length ≤ sizeLine) (hr : Room k callerA)
    (F : ∀ base : Heap, K.In base → base.Ns mainGlobals mg → (∀ t ∈ ts, TabB base mg t.1.1 t.1.2) → FnG P w K mg base k fa fd [x] (spM K sem 1)) (hbind : ∀ (s : Shared) (u : Value), BindsTo s fd ⟨[u], []⟩ [(x, u)])
    (hsp : ∃ S', sem [.ref 0] (storeT ns ts) = .ok (.bl true) S') :
    codeAny (model P w) callerA (.call (.ref fa) ⟨[.ref a], []⟩) (fun r s' => r = .ok (.ret (.bool true)) ∧ OldK s₁.heap s'.heap ∧ s'.os = s₁.os ∧ AllBare s'.gens) s₁ := by
  have rv := vals_ints hi
  have lenV := hi.length
  have hk : K.lookup a = none := by
    cases e : K.lookup a with
    | none => rfl
    | some o =>
      have e1 := KX a o e
      rw [ha] at e1
      cases e1
      have := hnl _ _ e
      simp [noList] at this
  have nA : ∀ t ∈ ts, t.1.2 ≠ a := fun t ht e => by
    have q := tE t ht
    rw [e, ha] at q
    have q2 : (Data.seq vs.toArray _ : Data) = .fields #[] := congrArg Obj.data (Option.some.inj q)
    cases q2
  let Lo : HO := .frz { cls := .type "list", data := .seq vs.toArray } (.lst (ns.map V.int))
  let H : Hp := fun b => if b = a then some Lo else if b ∈ ts.map (fun t => t.1.2) then some (.tbl #[]) else none
  have Ha : H a = some Lo := if_pos rfl
  have Ht : ∀ t ∈ ts, H t.1.2 = some (.tbl #[]) := fun t ht => (if_neg (nA t ht)).trans (if_pos (List.mem_map.mpr ⟨t, ht, rfl⟩))
  have Hn : ∀ b, b ≠ a → b ∉ ts.map (fun t => t.1.2) → H b = none := fun b h1 h2 => (if_neg h1).trans (if_neg h2)
  have cases3 : ∀ b, b = a ∨ (∃ t ∈ ts, t.1.2 = b) ∨ H b = none := fun b => by
    by_cases h1 : b = a
    · exact .inl h1
    · by_cases h2 : b ∈ ts.map (fun t => t.1.2)
      · exact .inr (.inl (List.mem_map.mp h2))
      · exact .inr (.inr (Hn b h1 h2))
  have hok : HOk P w H s₁.heap := fun b u z => by
    rcases cases3 b with rfl | ⟨t, ht, rfl⟩ | e
    · rw [Ha] at z
      cases z
      exact ⟨ha, by rw [List.length_map]; exact hl, vs, _, rv, ha⟩
    · rw [Ht t ht] at z
      cases z
      exact tE t ht
    · rw [e] at z; cases z
  have base_of : ∀ {b : Addr} {o : Obj}, s₁.heap.get? b = some o → H b = none → (hidT s₁.heap H).get? b = some o := fun e n => hidT_get e n
  have other : ∀ {b : Addr} {o : Obj}, s₁.heap.get? b = some o → o ≠ { cls := .type "list", data := .seq vs.toArray } → o ≠ { cls := .none, data := .fields #[] } → H b = none := fun {b o} e n1 n2 => by
    rcases cases3 b with rfl | ⟨t, ht, rfl⟩ | q
    · rw [ha] at e; cases e; exact absurd rfl n1
    · rw [tE t ht] at e; cases e; exact absurd rfl n2
    · exact q
  have nsK : ∀ {b : Addr} {m : Str → Option Value}, s₁.heap.Ns b m → (hidT s₁.heap H).Ns b m := fun {b m} ⟨o, es, ep, e, d, r⟩ => ⟨o, es, ep, base_of e (other e (fun z => by rw [z] at d; cases d) fun z => by rw [z] at d; cases d), d, r⟩
  have hKb : K.In (hidT s₁.heap H) := fun b o e => base_of (KX b o e) (by
    rcases cases3 b with rfl | ⟨t, ht, rfl⟩ | q
    · rw [hk] at e; cases e
    · rw [tK t ht] at e; cases e
    · exact q)
  have hM : Mod K mg (hidT s₁.heap H) := ⟨hKb, nsK hns, ⟨mb, nsK hb, hbb⟩, let ⟨mc, h1, h2⟩ := hlim; ⟨mc, nsK h1, h2⟩⟩
  have tB : ∀ t ∈ ts, TabB (hidT s₁.heap H) mg t.1.1 t.1.2 := fun t ht => by
    obtain ⟨bm, ob, b1, b2, b3, b4, b5, b6⟩ := hbm
    refine NdefX.tabB_of_K hKb (tC t ht) ⟨bm, ob, b1, b2, fun q => ?_, fun q => ?_, base_of b3 (other b3 (fun z => by rw [z] at b6; cases b6) fun z => by rw [z] at b6; cases b6), b4, b5, b6⟩ fun z => ?_
    · obtain ⟨o, es, ep, e, d, _⟩ := hns
      rw [q, e] at b3
      cases b3
      rw [d] at b6
      cases b6
    · rw [q, tE t ht] at b3
      cases b3
      cases b6
    · obtain ⟨o, es, ep, e, d, _⟩ := hns
      rw [z, tE t ht] at e
      cases e
      cases d
  have e0 : Env0 P w K mg (hidT s₁.heap H) callerA [] s₁ H := ⟨rfl, hM, fun b o e => of_hidT e, Nat.le_of_eq (hidT_size _ _), trivial, fun b hb => absurd (show b ∈ ([] : List Addr) from hb) (by simp), hok, .of_eq hg⟩
  obtain ⟨S', hS'⟩ := hsp
  have R0 : Rel K (a :: ts.map fun t => t.1.2) (storeT ns ts) H := by
    refine ⟨by simp [storeT], List.nodup_cons.mpr ⟨fun z => ?_, tN⟩, fun (r : Nat) o b h1 h2 => ?_⟩
    · obtain ⟨t, ht, e⟩ := List.mem_map.mp z
      exact nA t ht e
    · cases r with
      | zero =>
        simp [storeT] at h1 h2
        subst h1 h2
        exact ⟨_, ⟨_, Ha⟩, RDs.of_ints ns⟩
      | succ r =>
        simp only [storeT, List.getElem?_cons_succ, List.getElem?_map] at h1 h2
        cases et : ts[r]? with
        | none => rw [et] at h1; cases h1
        | some t =>
          rw [et] at h1 h2
          cases h1
          cases h2
          refine ⟨rfl, #[], Ht t (List.mem_of_getElem? et), True.intro, fun pos cv hc => ?_⟩
          have z : codeAmong pos [] = some cv := hc
          simp [codeAmong] at z
  have hq : spM K sem 1 [.ref a] H (fun v _ => v = .bl true) fun _ _ _ => False := by
    refine ⟨rfl, _, _, [.ref 0], R0, .cons (.ref rfl) .nil, ?_⟩
    rw [hS']
    intro m' v H' _ _ rd
    cases rd
    rfl
  refine codeAny_mono ((F _ hKb (nsK hns) tB).run callerA [] s₁ H ⟨[.ref a], []⟩ [.ref a] [.ref a] _ _ hr rfl e0 (hbind s₁ (.ref a)) (.cons rfl .nil) hq) fun r s' h => ?_
  cases r with
  | error e =>
    obtain ⟨_, _, _, _, _, _, _, _, _, _, _, _, z⟩ := h
    exact z.elim
  | ok fl =>
    cases fl with
    | next => exact False.elim h
    | brk => exact False.elim h
    | cont => exact False.elim h
    | ret u =>
      obtain ⟨v, H', os, bare, un, hok', r', q⟩ := h
      have q' : v = .bl true := q
      subst q'
      obtain rfl : u = Value.bool true := r'
      have list' : s'.heap.get? a = some { cls := .type "list", data := .seq vs.toArray } := (hok' a _ (un.frzs a _ _ Ha)).1
      have more' : ∀ t ∈ ts, ∃ l : Array Value, s'.heap.get? t.1.2 = some { cls := .none, data := .fields l } := fun t ht => by
        obtain ⟨l, z⟩ := un.tbls t.1.2 #[] (Ht t ht)
        exact ⟨_, hok' t.1.2 _ z⟩
      refine ⟨rfl, ⟨fun b o e => ?_, fun b o e => ?_⟩, os, bare⟩
      · rcases cases3 b with rfl | ⟨t, ht, rfl⟩ | z
        · rw [ha] at e; cases e; exact .inl list'
        · obtain ⟨l, hl'⟩ := more' t ht
          have e' := e
          rw [tE t ht] at e'
          cases e'
          exact .inr (.inl ⟨((PySem.W.codeHd_of_K KX (tC t ht)).tab (tE t ht)).isCodeTable, rfl, #[], l, rfl, by rw [Array.empty_append]; exact hl'⟩)
        · exact .inl (un.keep b o e z (by intro z; exact absurd (show b ∈ ([] : List Addr) from z) (by simp)) (by simp))
      · rcases cases3 b with rfl | ⟨t, ht, rfl⟩ | z
        · exact ⟨_, list'⟩
        · obtain ⟨l, hl'⟩ := more' t ht
          exact ⟨_, hl'⟩
        · exact ⟨o, un.keep b o e z (by intro z; exact absurd (show b ∈ ([] : List Addr) from z) (by simp)) (by simp)⟩

/-! ### the hook with tables -/
def frNT (g : Addr → Option Obj) (as : List Addr) : PySem.W.Frag := (He.frG g as).filter fun p => noList p.2 && !He.emptyTab p.2
theorem frNT_at {g : Addr → Option Obj} {as : List Addr} {a : Addr} {o : Obj} (h : (frNT g as).lookup a = some o) : g a = some o ∧ noList o = true ∧ He.emptyTab o = false := by
  obtain ⟨b, h1, h2, rfl⟩ := lookup_filter h
  have h2' : (noList b && !He.emptyTab b) = true := h2
  rw [Bool.and_eq_true, Bool.not_eq_true'] at h2'
  exact ⟨mem_frG h1, h2'⟩
theorem frNT_none {g : Addr → Option Obj} {as : List Addr} {a : Addr} {o : Obj} (h : g a = some o) (ht : He.emptyTab o = true) : (frNT g as).lookup a = none := by
  cases e : (frNT g as).lookup a with
  | none => rfl
  | some u =>
    obtain ⟨h1, _, h2⟩ := frNT_at e
    rw [h] at h1
    cases h1
    rw [ht] at h2
    cases h2
/-- a def's code object, its table, the name of its lambdas -/
def tqOf (K : PySem.W.Frag) (t : He.Defn × Str) : TQ := (He.cT K t.1, t.2)
def tabsOk (g : Addr → Option Obj) (tf : List (He.Defn × Str)) (K : PySem.W.Frag) : Bool := decide ((tf.map fun t => (He.cT K t.1).2).Nodup) && tf.all fun t => PySem.W.codeHdIn K (He.cT K t.1).1 (He.cT K t.1).2 && (match g (He.cT K t.1).2 with
  | some o => He.emptyTab o
  | none => false)
structure SaysT (ex : PySem.W.Frag → Bool) (P : Program) (sp : List SupD) (fa : List He.Fa) (fn : List He.DefD) (tf : List (He.Defn × Str)) (h : Heap) (K : PySem.W.Frag) : Prop where
  x : SaysX ex P sp fa fn K
  nl : ∀ a o, K.lookup a = some o → noList o = true
  nd : (tf.map fun t => (He.cT K t.1).2).Nodup
  hd : ∀ t ∈ tf, PySem.W.codeHdIn K (He.cT K t.1).1 (He.cT K t.1).2 = true
  out : ∀ t ∈ tf, K.lookup (He.cT K t.1).2 = none
  empty : ∀ t ∈ tf, h.get? (He.cT K t.1).2 = some { cls := .none, data := .fields #[] }
abbrev AlT : Type := AlX × Bool
def obsT (n : Nat) (ex : PySem.W.Frag → Bool) (P : Program) (sp : List SupD) (fa : List He.Fa) (fn : List He.DefD) (tf : List (He.Defn × Str)) (g : Addr → Option Obj) : AlT := (obsX ex P sp fa fn (frNT g (asX n g)), tabsOk g tf (frNT g (asX n g)))
theorem saysT_of {n : Nat} {ex : PySem.W.Frag → Bool} {P : Program} {sp : List SupD} {fa : List He.Fa} {fn : List He.DefD} {tf : List (He.Defn × Str)} {h : Heap} (e : obsT n ex P sp fa fn tf h.get? = (valX sp fn, true)) : SaysT ex P sp fa fn tf h (frNT h.get? (asX n h.get?)) := by
  have e1 : obsX ex P sp fa fn (frNT h.get? (asX n h.get?)) = valX sp fn := congrArg (fun z : AlT => z.1) e
  have e2 : tabsOk h.get? tf (frNT h.get? (asX n h.get?)) = true := congrArg (fun z : AlT => z.2) e
  unfold tabsOk at e2
  obtain ⟨k1, k2⟩ := He.ba e2
  have key : ∀ t ∈ tf, PySem.W.codeHdIn (frNT h.get? (asX n h.get?)) (He.cT (frNT h.get? (asX n h.get?)) t.1).1 (He.cT (frNT h.get? (asX n h.get?)) t.1).2 = true ∧ ∃ o, h.get? (He.cT (frNT h.get? (asX n h.get?)) t.1).2 = some o ∧ He.emptyTab o = true := fun t ht => by
    obtain ⟨k3, k4⟩ := He.ba (List.all_eq_true.mp k2 t ht)
    refine ⟨k3, ?_⟩
    split at k4
    · rename_i o q
      exact ⟨o, q, k4⟩
    · cases k4
  exact ⟨saysX_of e1, fun _ _ q => (frNT_at q).2.1, of_decide_eq_true k1, fun t ht => (key t ht).1, fun t ht => let ⟨_, o, q, z⟩ := key t ht; frNT_none q z, fun t ht => by
    obtain ⟨_, o, q, z⟩ := key t ht
    rw [q, He.emptyTab_eq z]⟩
def hookT (n : Nat) (ex : PySem.W.Frag → Bool) (P : Program) (sp : List SupD) (fa : List He.Fa) (fn : List He.DefD) (tf : List (He.Defn × Str)) : PySem.W.Hook where
  α := AlT
  obs := fun s => obsT n ex P sp fa fn tf s.heap.get?
  val := fun _ => (valX sp fn, true)
  says := fun _ h => ∃ K : PySem.W.Frag, K.In h ∧ SaysT ex P sp fa fn tf h K
  of := fun _ s e => ⟨frNT s.heap.get? (asX n s.heap.get?), fun _ _ q => (frNT_at q).1, saysT_of e⟩
  keeps := fun _ _ _ ⟨K, hK, c⟩ k => ⟨K, PySem.W.Frag.In.keeps hK k, ⟨c.x, c.nl, c.nd, c.hd, c.out, fun t ht => k _ _ (c.empty t ht)⟩⟩
theorem obsT_eq {n : Nat} {ex : PySem.W.Frag → Bool} {P : Program} {sp : List SupD} {fa : List He.Fa} {fn : List He.DefD} {tf : List (He.Defn × Str)} {g : Addr → Option Obj} {s : Shared} (h : ∀ a, g a = s.heap.get? a) : obsT n ex P sp fa fn tf g = (hookT n ex P sp fa fn tf).obs s := by
  have e : g = s.heap.get? := funext h
  rw [e] <;> rfl
/-- the law's end from its def: sem is what it means where the tables stand at these -/
theorem walk_lawT {l : PySem.W.OpenLaw} {n k : Nat} {q : Program} {loose : List Str} {XP : (Str → Option Value) → Heap → Prop} {ex : PySem.W.Frag → Bool} {P : Program} {sp : List SupD} {fas : List He.Fa} {fn : List He.DefD} {tf : List (He.Defn × Str)} {d : DefRec} {x : Str} {sem : (Nat → Addr) → List D → M D}
    (hn : l.most = some n) (hn2 : n ≤ sizeLine) (hdf : d.params.defaults = []) (hr : Room k callerA)
    (F : ∀ (w : World) (mg : Str → Option Value) (K : PySem.W.Frag), (∃ h : Heap, K.In h ∧ h.Ns mainGlobals mg) → SaysX ex P sp fas fn K → ∃ (f : Addr) (fd : FuncData), mg d.name = some (.ref f) ∧ (∀ (s : Shared) (u : Value), BindsTo s fd ⟨[u], []⟩ [(x, u)]) ∧
      ∀ base : Heap, (∀ t ∈ tf, TabB base mg (He.cT K t.1).1 (He.cT K t.1).2) → FnG l.prog w K mg base k f fd [x] (spM K (sem fun i => (He.cT K (tf.getD i (("", none), "")).1).2) 1))
    (hsp : ∀ (P : Nat → Addr) (ns : List Int), ns.length ≤ n → (∀ z ∈ ns, Builtin.Int.intBits z ≤ 1048576) → ∃ S', sem P [.ref 0] (.ro (ns.map D.int) :: (List.range tf.length).map fun i => .tab (P i) (tf.getD i (("", none), "")).2) = .ok (.bl true) S') :
    PySem.W.WalkO q loose XP (fun _ h => ∃ K : PySem.W.Frag, K.In h ∧ SaysT ex P sp fas fn tf h K) l.row.toRowW d [] (fun f vs => PySem.call f vs) := by
  refine Att.attach_callB hn hdf fun w s₀ s₁ mg mb fa o pm cd doc a vs ns G Y ho hd hcd hmg hobj hints hlen hbits hg => ?_
  obtain ⟨K, KX, c⟩ := Y
  obtain ⟨f, fd, hm', hb, hF⟩ := F w mg K ⟨_, KX, G.T.g⟩ c.x
  rw [hmg] at hm'
  cases hm'
  have es : storeT ns (tf.map (tqOf K)) = .ro (ns.map D.int) :: (List.range tf.length).map fun i => .tab (He.cT K (tf.getD i (("", none), "")).1).2 (tf.getD i (("", none), "")).2 := by
    unfold storeT
    congr 1
    rw [List.map_map]
    apply List.ext_getElem?
    intro i
    rw [List.getElem?_map, List.getElem?_map]
    by_cases hi : i < tf.length
    · rw [List.getElem?_range hi, List.getElem?_eq_getElem hi]
      simp only [Option.map_some, Function.comp, tqOf, List.getD_eq_getElem?_getD, List.getElem?_eq_getElem hi, Option.getD_some]
    · rw [List.getElem?_eq_none (by simpa using hi), List.getElem?_eq_none (by simpa using hi)]
      rfl
  have of_tf : ∀ {p : TQ → Prop}, (∀ t ∈ tf, p (tqOf K t)) → ∀ t ∈ tf.map (tqOf K), p t := fun {p} h t ht => by
    obtain ⟨u, hu, rfl⟩ := List.mem_map.mp ht
    exact h u hu
  refine law_callT (ts := tf.map (tqOf K)) KX c.nl G.T.g G.T.b G.T.builtins G.T.nolimit hg (of_tf c.empty) (of_tf c.out) (of_tf c.hd) ?_ G.T.bmain hobj hints (Nat.le_trans hlen hn2) hr (fun base _ _ tB => hF base fun t ht => tB _ (List.mem_map.mpr ⟨t, ht, rfl⟩)) hb ?_
  · rw [List.map_map]; exact c.nd
  · rw [es]; exact hsp _ ns hlen hbits

/-! ### a def with lambdas of its own -/
section
variable {fa : List He.Fa} {fn : List He.DefD} {K : PySem.W.Frag} {mg : Str → Option Value}
theorem hasFn_ofT {P : Program} {w : World} {base : Heap} (M0 : Hd fa fn K mg) (i j : Nat) {d : He.DefD} {N ps : List Str} {k : Nat} {g : G} (hd : fn[i]? = some d) (hj : fa[j]? = some (.glo d.name)) (hat : d.at_ = (d.name, none)) (hdf : d.dfl = []) (hkw : d.kwd = []) (S : FnScope N ps d.scope)
    (hbind : ∀ (kV doc pm : Value) (an : Option Addr) (cdv ct : Value) (us : List Value), us.length = ps.length → bindArgs (PySem.W.fnOf d.name d.qual d.params d.body d.scope .none kV doc pm an cdv ct) ⟨us, []⟩ = pure (ps.zip us))
    (hbody : ∀ (f : Addr) (cdv : Value) (A : Around) (outer : List PySem.Env) (s : Shared) (H : Hp) (E : XK), cdv = .ref (He.cT K (d.name, none)).1 → Cc (cxOf (CX P w) P w K mg base N d.qual d.scope f cdv A outer s H E) (fun c d _ H' => E c d H') k →
      PassesOwn (model P w) (A.deeper (envOfC d.qual d.scope s.heap.objs.size f cdv)) (envOfC d.qual d.scope s.heap.objs.size f cdv) (cxOf (CX P w) P w K mg base N d.qual d.scope f cdv A outer s H E).xe →
      MSs (cxOf (CX P w) P w K mg base N d.qual d.scope f cdv A outer s H E) (fun c d _ H' => E c d H') d.body g) :
    HasFn P w K mg base (k + 1) d.name ps [] (semOf N.length g) := by
  obtain ⟨fd, F⟩ := M0.says.def_ i hd
  have e : He.fAd K d.at_ = He.ga K d.name := by rw [hat]; rfl
  have F' : FunD K d.name d.qual d.params d.body d.scope [] [] (He.ga K d.name) fd := by
    have z := F
    rw [e] at z
    have e1 : d.dvs K = [] := by unfold He.DefD.dvs; rw [hdf]; rfl
    have e2 : d.kws K = [] := by unfold He.DefD.kws; rw [hkw]; rfl
    rw [e1, e2] at z
    exact z
  have kp := F'.kp
  have bd := F'.bindsN hbind
  obtain ⟨oc, od, dV, kV, doc, pm, an, cdv, ct, osl, rfl, lk, hcd, _, _⟩ := F'.ex
  obtain ⟨c, rfl⟩ := He.codeIn_ref hcd
  have ec : (He.cT K (d.name, none)).1 = c := He.codeOf_eq (p := (d.name, none)) (show K.lookup (He.fAd K (d.name, none)) = _ from lk) rfl
  exact ⟨_, _, [], [], fn_M lk hcd S fun A outer s H E cc o => hbody _ _ A outer s H E (by rw [ec]) cc o, M0.glo j hj, kp, bd, .nil, rfl, oc, od, osl, lk⟩
end
theorem law_endsT {P : Program} {w : World} {K : PySem.W.Frag} {mg : Str → Option Value} {k : Nat} {x y : Str} {sem : List D → M D} {fa : List He.Fa} {fn : List He.DefD} {T : Heap → Prop} (c : He.SaysD fa fn K) (has : ∀ base : Heap, T base → HasFn P w K mg base k x [y] [] sem) (i : Nat) {d : He.DefD} (hd : fn[i]? = some d)
    (hat : d.at_ = (x, none)) (hnm : d.dfl = []) (hkw : d.kwd = [])
    (hbind : ∀ (kV doc pm : Value) (an : Option Addr) (cdv ct : Value) (us : List Value), us.length = [y].length → bindArgs (PySem.W.fnOf d.name d.qual d.params d.body d.scope .none kV doc pm an cdv ct) ⟨us, []⟩ = pure ([y].zip us)) (hm : mg x = some (.ref (He.ga K x))) :
    ∃ (f : Addr) (fd : FuncData), mg x = some (.ref f) ∧ (∀ (s : Shared) (u : Value), BindsTo s fd ⟨[u], []⟩ [(y, u)]) ∧ ∀ base : Heap, T base → FnG P w K mg base k f fd [y] (spM K sem 1) := by
  obtain ⟨fd, F⟩ := c.def_ i hd
  have F' : FunD K d.name d.qual d.params d.body d.scope [] [] (He.ga K x) fd := by
    have z := F
    rw [show He.fAd K d.at_ = He.ga K x by rw [hat]; rfl] at z
    have e1 : d.dvs K = [] := by unfold He.DefD.dvs; rw [hnm]; rfl
    have e2 : d.kws K = [] := by unfold He.DefD.kws; rw [hkw]; rfl
    rw [e1, e2] at z
    exact z
  obtain ⟨oc, od, _, _, _, _, _, _, _, osl, _, lk, _⟩ := F'.ex
  refine ⟨_, fd, hm, fun s u => F'.bindsA hbind s [u] rfl, fun base tb => ?_⟩
  obtain ⟨f, fd', ds, dvs, G, hm', hkp, hb, hd', hD, oc', od', osl', lk'⟩ := has base tb
  rw [hm] at hm'
  cases hm'
  rw [lk] at lk'
  cases lk'
  exact G
/-! ### {} -/
def mkDict0 : Store → Option (D × Store) := fun S => some (.ref S.length, S ++ [.dict []])
def eDict0 : F := fun _ => lift mkDict0
theorem me_dict0 {X : Cx} {W : WX} {pos : Pos} : ME X W (.Dict [] [] pos) eDict0 :=
  PE.imp pe_dnewK fun σ H Q ⟨m, ρ, S, hr, R, q⟩ p hp => by
    have q' : EndO X.K m H (some (.ref S.length, S ++ [.dict []])) Q := q.lift
    exact q'.dict R (show RKV X.K m H [] [] from trivial) hp
end MP
set_option Elab.async false
set_option linter.all false
set_option maxRecDepth 100000
set_option maxHeartbeats 4000000
namespace MP
open PySem PySem.Spec PyProof.Rows L2

/-! ### what a run gives -/
def wp {α : Type} (r : Res α) (Q : α → Store → Prop) (X : Exc → Store → Prop) : Prop := match r with
  | .ok a S => Q a S
  | .exc x S => X x S
  | .bad => False
def oq {α : Type} : Option (α × Store) → (α → Store → Prop) → Prop
  | some (d, S), Q => Q d S
  | none, _ => False
def bq : D → (Bool → Prop) → Prop
  | .bl b, Q => Q b
  | _, _ => False
def iq : D → (Int → Prop) → Prop
  | .int b, Q => Q b
  | _, _ => False
def uq {α : Type} : Option α → (α → Prop) → Prop
  | some b, Q => Q b
  | none, _ => False
def l2q : List D → (D → D → Prop) → Prop
  | [d, e], Q => Q d e
  | _, _ => False
def l3q : List D → (D → D → D → Prop) → Prop
  | [d, e, f], Q => Q d e f
  | _, _ => False
@[simp] theorem oq_some {α : Type} {d : α} {S : Store} {Q : α → Store → Prop} : oq (some (d, S)) Q ↔ Q d S := Iff.rfl
@[simp] theorem oq_none {α : Type} {Q : α → Store → Prop} : oq none Q ↔ False := Iff.rfl
@[simp] theorem bq_bl {b : Bool} {Q : Bool → Prop} : bq (.bl b) Q ↔ Q b := Iff.rfl
@[simp] theorem iq_int {b : Int} {Q : Int → Prop} : iq (.int b) Q ↔ Q b := Iff.rfl
@[simp] theorem uq_some {α : Type} {b : α} {Q : α → Prop} : uq (some b) Q ↔ Q b := Iff.rfl
@[simp] theorem uq_none {α : Type} {Q : α → Prop} : uq (none : Option α) Q ↔ False := Iff.rfl
@[simp] theorem l2q_ok {d e : D} {Q : D → D → Prop} : l2q [d, e] Q ↔ Q d e := Iff.rfl
@[simp] theorem l3q_ok {d e f : D} {Q : D → D → D → Prop} : l3q [d, e, f] Q ↔ Q d e f := Iff.rfl
structure Pst where
  N : Env → Store → Prop
  R : D → Store → Prop
  B : Env → Store → Prop
  C : Env → Store → Prop
  X : Exc → Env → Store → Prop
def sp (r : SRes) (P : Pst) : Prop := match r with
  | .next ρ S => P.N ρ S
  | .ret d S => P.R d S
  | .brk ρ S => P.B ρ S
  | .cont ρ S => P.C ρ S
  | .exc x ρ S => P.X x ρ S
  | .bad => False
section
variable {α β : Type} {S : Store} {Q : α → Store → Prop} {Q2 : β → Store → Prop} {X X' : Exc → Store → Prop} {ρ : Env} {P P' : Pst} {fa fb fe : F} {ft fu : T} {fs : A} {a b : G}
theorem wp_mono {r : Res α} {Q' : α → Store → Prop} (h : wp r Q X) (hq : ∀ a S, Q a S → Q' a S) (hx : ∀ x S, X x S → X' x S) : wp r Q' X' := by
  cases r with
  | ok a S => exact hq _ _ h
  | exc x S => exact hx _ _ h
  | bad => exact h
theorem wp_congr {r : Res α} {Q' : α → Store → Prop} (h : ∀ a S, Q a S ↔ Q' a S) : wp r Q X ↔ wp r Q' X := ⟨fun k => wp_mono k (fun a S => (h a S).mp) fun _ _ h => h, fun k => wp_mono k (fun a S => (h a S).mpr) fun _ _ h => h⟩
theorem wp_bind {f : M α} {g : α → M β} : wp (bind f g S) Q2 X ↔ wp (f S) (fun a S' => wp (g a S') Q2 X) X := by
  unfold bind
  cases f S <;> rfl
@[simp] theorem wp_ret {a : α} : wp (ret a S) Q X ↔ Q a S := Iff.rfl
@[simp] theorem wp_ok {a : α} : wp (.ok a S) Q X ↔ Q a S := Iff.rfl
theorem wp_fail : wp ((fail : M α) S) Q X ↔ False := Iff.rfl
theorem wp_lift {o : Store → Option (α × Store)} : wp (lift o S) Q X ↔ oq (o S) Q := by
  unfold lift
  cases e : o S with
  | none => rfl
  | some w => obtain ⟨d, S'⟩ := w; rfl
theorem sp_mono {r : SRes} (h : sp r P) (hn : ∀ ρ S, P.N ρ S → P'.N ρ S) (hr : ∀ ρ S, P.R ρ S → P'.R ρ S) (hb : ∀ ρ S, P.B ρ S → P'.B ρ S) (hc : ∀ ρ S, P.C ρ S → P'.C ρ S) (hx : ∀ x ρ S, P.X x ρ S → P'.X x ρ S) : sp r P' := by
  cases r with
  | next ρ S => exact hn _ _ h
  | ret d S => exact hr _ _ h
  | brk ρ S => exact hb _ _ h
  | cont ρ S => exact hc _ _ h
  | exc x ρ S => exact hx _ _ _ h
  | bad => exact h
theorem sp_bind {r : Res α} {k : α → Store → SRes} : sp (sBind r ρ k) P ↔ wp r (fun a S' => sp (k a S') P) (fun x S' => P.X x ρ S') := by
  cases r <;> rfl
@[simp] theorem sp_seq : sp (gSeq a b ρ S) P ↔ sp (a ρ S) { P with N := fun ρ' S' => sp (b ρ' S') P } := by
  unfold gSeq
  cases a ρ S <;> rfl
@[simp] theorem sp_next : sp (gNext ρ S) P ↔ P.N ρ S := Iff.rfl
@[simp] theorem sp_brk : sp (gBrk ρ S) P ↔ P.B ρ S := Iff.rfl
@[simp] theorem sp_cont : sp (gCont ρ S) P ↔ P.C ρ S := Iff.rfl
@[simp] theorem sp_retN : sp (gRetN ρ S) P ↔ P.R .non S := Iff.rfl
@[simp] theorem sp_ret : sp (gRet fe ρ S) P ↔ wp (fe ρ S) P.R (fun x S' => P.X x ρ S') := by
  unfold gRet
  rw [sp_bind]
  rfl
@[simp] theorem sp_expr : sp (gExpr fe ρ S) P ↔ wp (fe ρ S) (fun _ S' => P.N ρ S') (fun x S' => P.X x ρ S') := by
  unfold gExpr
  rw [sp_bind]
  rfl
@[simp] theorem sp_if : sp (gIf ft a b ρ S) P ↔ wp (ft ρ S) (fun k S' => if k = true then sp (a ρ S') P else sp (b ρ S') P) (fun x S' => P.X x ρ S') := by
  unfold gIf
  rw [sp_bind]
  have : (fun (k : Bool) S' => sp (if k = true then a ρ S' else b ρ S') P) = fun k S' => if k = true then sp (a ρ S') P else sp (b ρ S') P := by
    funext k S'
    cases k <;> rfl
  rw [this]
@[simp] theorem sp_asg {p : Pat} : sp (gAsg fe p ρ S) P ↔ wp (fe ρ S) (fun d S' => oq (p d ρ S') P.N) (fun x S' => P.X x ρ S') := by
  unfold gAsg
  rw [sp_bind]
  refine wp_congr fun d S' => ?_
  cases p d ρ S' with
  | none => exact Iff.rfl
  | some w => obtain ⟨ρ', S2⟩ := w; exact Iff.rfl
theorem sp_name {i : Nat} : sp (gAsg fe (pName i) ρ S) P ↔ wp (fe ρ S) (fun d S' => P.N (ρ.set i (some d)) S') (fun x S' => P.X x ρ S') := by
  rw [sp_asg]
  rfl
@[simp] theorem sp_par {i j : Nat} : sp (gPar i j fs ρ S) P ↔ wp (fs ρ S) (fun ds S' => l2q ds fun d e => P.N ((ρ.set i (some d)).set j (some e)) S') (fun x S' => P.X x ρ S') := by
  unfold gPar
  rw [sp_bind]
  refine wp_congr fun ds S' => ?_
  match ds with
  | [] => exact Iff.rfl
  | [_] => exact Iff.rfl
  | [_, _] => exact Iff.rfl
  | _ :: _ :: _ :: _ => exact Iff.rfl
@[simp] theorem sp_par3 {i j l : Nat} : sp (gPar3 i j l fs ρ S) P ↔ wp (fs ρ S) (fun ds S' => l3q ds fun d e f => P.N (((ρ.set i (some d)).set j (some e)).set l (some f)) S') (fun x S' => P.X x ρ S') := by
  unfold gPar3
  rw [sp_bind]
  refine wp_congr fun ds S' => ?_
  match ds with
  | [] => exact Iff.rfl
  | [_] => exact Iff.rfl
  | [_, _] => exact Iff.rfl
  | [_, _, _] => exact Iff.rfl
  | _ :: _ :: _ :: _ :: _ => exact Iff.rfl
/-! ### expressions -/
theorem wp_var {i : Nat} {d : D} (h : ρ[i]? = some (some d)) {Q : D → Store → Prop} : wp (eVar i ρ S) Q X ↔ Q d S := by
  unfold eVar
  rw [h]
  rfl
@[simp] theorem v0 {d : D} {ρ : Env} {Q : D → Store → Prop} : wp (eVar 0 (some d :: ρ) S) Q X ↔ Q d S := Iff.rfl
@[simp] theorem v1 {a0 : Option D} {d : D} {ρ : Env} {Q : D → Store → Prop} : wp (eVar 1 (a0 :: some d :: ρ) S) Q X ↔ Q d S := Iff.rfl
@[simp] theorem v2 {a0 a1 : Option D} {d : D} {ρ : Env} {Q : D → Store → Prop} : wp (eVar 2 (a0 :: a1 :: some d :: ρ) S) Q X ↔ Q d S := Iff.rfl
@[simp] theorem v3 {a0 a1 a2 : Option D} {d : D} {ρ : Env} {Q : D → Store → Prop} : wp (eVar 3 (a0 :: a1 :: a2 :: some d :: ρ) S) Q X ↔ Q d S := Iff.rfl
@[simp] theorem v4 {a0 a1 a2 a3 : Option D} {d : D} {ρ : Env} {Q : D → Store → Prop} : wp (eVar 4 (a0 :: a1 :: a2 :: a3 :: some d :: ρ) S) Q X ↔ Q d S := Iff.rfl
@[simp] theorem v5 {a0 a1 a2 a3 a4 : Option D} {d : D} {ρ : Env} {Q : D → Store → Prop} : wp (eVar 5 (a0 :: a1 :: a2 :: a3 :: a4 :: some d :: ρ) S) Q X ↔ Q d S := Iff.rfl
@[simp] theorem v6 {a0 a1 a2 a3 a4 a5 : Option D} {d : D} {ρ : Env} {Q : D → Store → Prop} : wp (eVar 6 (a0 :: a1 :: a2 :: a3 :: a4 :: a5 :: some d :: ρ) S) Q X ↔ Q d S := Iff.rfl
@[simp] theorem v7 {a0 a1 a2 a3 a4 a5 a6 : Option D} {d : D} {ρ : Env} {Q : D → Store → Prop} : wp (eVar 7 (a0 :: a1 :: a2 :: a3 :: a4 :: a5 :: a6 :: some d :: ρ) S) Q X ↔ Q d S := Iff.rfl
@[simp] theorem v8 {a0 a1 a2 a3 a4 a5 a6 a7 : Option D} {d : D} {ρ : Env} {Q : D → Store → Prop} : wp (eVar 8 (a0 :: a1 :: a2 :: a3 :: a4 :: a5 :: a6 :: a7 :: some d :: ρ) S) Q X ↔ Q d S := Iff.rfl
@[simp] theorem v9 {a0 a1 a2 a3 a4 a5 a6 a7 a8 : Option D} {d : D} {ρ : Env} {Q : D → Store → Prop} : wp (eVar 9 (a0 :: a1 :: a2 :: a3 :: a4 :: a5 :: a6 :: a7 :: a8 :: some d :: ρ) S) Q X ↔ Q d S := Iff.rfl
@[simp] theorem v10 {a0 a1 a2 a3 a4 a5 a6 a7 a8 a9 : Option D} {d : D} {ρ : Env} {Q : D → Store → Prop} : wp (eVar 10 (a0 :: a1 :: a2 :: a3 :: a4 :: a5 :: a6 :: a7 :: a8 :: a9 :: some d :: ρ) S) Q X ↔ Q d S := Iff.rfl
@[simp] theorem v11 {a0 a1 a2 a3 a4 a5 a6 a7 a8 a9 a10 : Option D} {d : D} {ρ : Env} {Q : D → Store → Prop} : wp (eVar 11 (a0 :: a1 :: a2 :: a3 :: a4 :: a5 :: a6 :: a7 :: a8 :: a9 :: a10 :: some d :: ρ) S) Q X ↔ Q d S := Iff.rfl
@[simp] theorem v12 {a0 a1 a2 a3 a4 a5 a6 a7 a8 a9 a10 a11 : Option D} {d : D} {ρ : Env} {Q : D → Store → Prop} : wp (eVar 12 (a0 :: a1 :: a2 :: a3 :: a4 :: a5 :: a6 :: a7 :: a8 :: a9 :: a10 :: a11 :: some d :: ρ) S) Q X ↔ Q d S := Iff.rfl
@[simp] theorem v13 {a0 a1 a2 a3 a4 a5 a6 a7 a8 a9 a10 a11 a12 : Option D} {d : D} {ρ : Env} {Q : D → Store → Prop} : wp (eVar 13 (a0 :: a1 :: a2 :: a3 :: a4 :: a5 :: a6 :: a7 :: a8 :: a9 :: a10 :: a11 :: a12 :: some d :: ρ) S) Q X ↔ Q d S := Iff.rfl
@[simp] theorem v14 {a0 a1 a2 a3 a4 a5 a6 a7 a8 a9 a10 a11 a12 a13 : Option D} {d : D} {ρ : Env} {Q : D → Store → Prop} : wp (eVar 14 (a0 :: a1 :: a2 :: a3 :: a4 :: a5 :: a6 :: a7 :: a8 :: a9 :: a10 :: a11 :: a12 :: a13 :: some d :: ρ) S) Q X ↔ Q d S := Iff.rfl
@[simp] theorem v15 {a0 a1 a2 a3 a4 a5 a6 a7 a8 a9 a10 a11 a12 a13 a14 : Option D} {d : D} {ρ : Env} {Q : D → Store → Prop} : wp (eVar 15 (a0 :: a1 :: a2 :: a3 :: a4 :: a5 :: a6 :: a7 :: a8 :: a9 :: a10 :: a11 :: a12 :: a13 :: a14 :: some d :: ρ) S) Q X ↔ Q d S := Iff.rfl
@[simp] theorem v16 {a0 a1 a2 a3 a4 a5 a6 a7 a8 a9 a10 a11 a12 a13 a14 a15 : Option D} {d : D} {ρ : Env} {Q : D → Store → Prop} : wp (eVar 16 (a0 :: a1 :: a2 :: a3 :: a4 :: a5 :: a6 :: a7 :: a8 :: a9 :: a10 :: a11 :: a12 :: a13 :: a14 :: a15 :: some d :: ρ) S) Q X ↔ Q d S := Iff.rfl
@[simp] theorem v17 {a0 a1 a2 a3 a4 a5 a6 a7 a8 a9 a10 a11 a12 a13 a14 a15 a16 : Option D} {d : D} {ρ : Env} {Q : D → Store → Prop} : wp (eVar 17 (a0 :: a1 :: a2 :: a3 :: a4 :: a5 :: a6 :: a7 :: a8 :: a9 :: a10 :: a11 :: a12 :: a13 :: a14 :: a15 :: a16 :: some d :: ρ) S) Q X ↔ Q d S := Iff.rfl
@[simp] theorem v18 {a0 a1 a2 a3 a4 a5 a6 a7 a8 a9 a10 a11 a12 a13 a14 a15 a16 a17 : Option D} {d : D} {ρ : Env} {Q : D → Store → Prop} : wp (eVar 18 (a0 :: a1 :: a2 :: a3 :: a4 :: a5 :: a6 :: a7 :: a8 :: a9 :: a10 :: a11 :: a12 :: a13 :: a14 :: a15 :: a16 :: a17 :: some d :: ρ) S) Q X ↔ Q d S := Iff.rfl
@[simp] theorem v19 {a0 a1 a2 a3 a4 a5 a6 a7 a8 a9 a10 a11 a12 a13 a14 a15 a16 a17 a18 : Option D} {d : D} {ρ : Env} {Q : D → Store → Prop} : wp (eVar 19 (a0 :: a1 :: a2 :: a3 :: a4 :: a5 :: a6 :: a7 :: a8 :: a9 :: a10 :: a11 :: a12 :: a13 :: a14 :: a15 :: a16 :: a17 :: a18 :: some d :: ρ) S) Q X ↔ Q d S := Iff.rfl
@[simp] theorem v20 {a0 a1 a2 a3 a4 a5 a6 a7 a8 a9 a10 a11 a12 a13 a14 a15 a16 a17 a18 a19 : Option D} {d : D} {ρ : Env} {Q : D → Store → Prop} : wp (eVar 20 (a0 :: a1 :: a2 :: a3 :: a4 :: a5 :: a6 :: a7 :: a8 :: a9 :: a10 :: a11 :: a12 :: a13 :: a14 :: a15 :: a16 :: a17 :: a18 :: a19 :: some d :: ρ) S) Q X ↔ Q d S := Iff.rfl
@[simp] theorem v21 {a0 a1 a2 a3 a4 a5 a6 a7 a8 a9 a10 a11 a12 a13 a14 a15 a16 a17 a18 a19 a20 : Option D} {d : D} {ρ : Env} {Q : D → Store → Prop} : wp (eVar 21 (a0 :: a1 :: a2 :: a3 :: a4 :: a5 :: a6 :: a7 :: a8 :: a9 :: a10 :: a11 :: a12 :: a13 :: a14 :: a15 :: a16 :: a17 :: a18 :: a19 :: a20 :: some d :: ρ) S) Q X ↔ Q d S := Iff.rfl
@[simp] theorem v22 {a0 a1 a2 a3 a4 a5 a6 a7 a8 a9 a10 a11 a12 a13 a14 a15 a16 a17 a18 a19 a20 a21 : Option D} {d : D} {ρ : Env} {Q : D → Store → Prop} : wp (eVar 22 (a0 :: a1 :: a2 :: a3 :: a4 :: a5 :: a6 :: a7 :: a8 :: a9 :: a10 :: a11 :: a12 :: a13 :: a14 :: a15 :: a16 :: a17 :: a18 :: a19 :: a20 :: a21 :: some d :: ρ) S) Q X ↔ Q d S := Iff.rfl
@[simp] theorem v23 {a0 a1 a2 a3 a4 a5 a6 a7 a8 a9 a10 a11 a12 a13 a14 a15 a16 a17 a18 a19 a20 a21 a22 : Option D} {d : D} {ρ : Env} {Q : D → Store → Prop} : wp (eVar 23 (a0 :: a1 :: a2 :: a3 :: a4 :: a5 :: a6 :: a7 :: a8 :: a9 :: a10 :: a11 :: a12 :: a13 :: a14 :: a15 :: a16 :: a17 :: a18 :: a19 :: a20 :: a21 :: a22 :: some d :: ρ) S) Q X ↔ Q d S := Iff.rfl
@[simp] theorem v24 {a0 a1 a2 a3 a4 a5 a6 a7 a8 a9 a10 a11 a12 a13 a14 a15 a16 a17 a18 a19 a20 a21 a22 a23 : Option D} {d : D} {ρ : Env} {Q : D → Store → Prop} : wp (eVar 24 (a0 :: a1 :: a2 :: a3 :: a4 :: a5 :: a6 :: a7 :: a8 :: a9 :: a10 :: a11 :: a12 :: a13 :: a14 :: a15 :: a16 :: a17 :: a18 :: a19 :: a20 :: a21 :: a22 :: a23 :: some d :: ρ) S) Q X ↔ Q d S := Iff.rfl
@[simp] theorem v25 {a0 a1 a2 a3 a4 a5 a6 a7 a8 a9 a10 a11 a12 a13 a14 a15 a16 a17 a18 a19 a20 a21 a22 a23 a24 : Option D} {d : D} {ρ : Env} {Q : D → Store → Prop} : wp (eVar 25 (a0 :: a1 :: a2 :: a3 :: a4 :: a5 :: a6 :: a7 :: a8 :: a9 :: a10 :: a11 :: a12 :: a13 :: a14 :: a15 :: a16 :: a17 :: a18 :: a19 :: a20 :: a21 :: a22 :: a23 :: a24 :: some d :: ρ) S) Q X ↔ Q d S := Iff.rfl
@[simp] theorem v26 {a0 a1 a2 a3 a4 a5 a6 a7 a8 a9 a10 a11 a12 a13 a14 a15 a16 a17 a18 a19 a20 a21 a22 a23 a24 a25 : Option D} {d : D} {ρ : Env} {Q : D → Store → Prop} : wp (eVar 26 (a0 :: a1 :: a2 :: a3 :: a4 :: a5 :: a6 :: a7 :: a8 :: a9 :: a10 :: a11 :: a12 :: a13 :: a14 :: a15 :: a16 :: a17 :: a18 :: a19 :: a20 :: a21 :: a22 :: a23 :: a24 :: a25 :: some d :: ρ) S) Q X ↔ Q d S := Iff.rfl
@[simp] theorem v27 {a0 a1 a2 a3 a4 a5 a6 a7 a8 a9 a10 a11 a12 a13 a14 a15 a16 a17 a18 a19 a20 a21 a22 a23 a24 a25 a26 : Option D} {d : D} {ρ : Env} {Q : D → Store → Prop} : wp (eVar 27 (a0 :: a1 :: a2 :: a3 :: a4 :: a5 :: a6 :: a7 :: a8 :: a9 :: a10 :: a11 :: a12 :: a13 :: a14 :: a15 :: a16 :: a17 :: a18 :: a19 :: a20 :: a21 :: a22 :: a23 :: a24 :: a25 :: a26 :: some d :: ρ) S) Q X ↔ Q d S := Iff.rfl
@[simp] theorem v28 {a0 a1 a2 a3 a4 a5 a6 a7 a8 a9 a10 a11 a12 a13 a14 a15 a16 a17 a18 a19 a20 a21 a22 a23 a24 a25 a26 a27 : Option D} {d : D} {ρ : Env} {Q : D → Store → Prop} : wp (eVar 28 (a0 :: a1 :: a2 :: a3 :: a4 :: a5 :: a6 :: a7 :: a8 :: a9 :: a10 :: a11 :: a12 :: a13 :: a14 :: a15 :: a16 :: a17 :: a18 :: a19 :: a20 :: a21 :: a22 :: a23 :: a24 :: a25 :: a26 :: a27 :: some d :: ρ) S) Q X ↔ Q d S := Iff.rfl
@[simp] theorem v29 {a0 a1 a2 a3 a4 a5 a6 a7 a8 a9 a10 a11 a12 a13 a14 a15 a16 a17 a18 a19 a20 a21 a22 a23 a24 a25 a26 a27 a28 : Option D} {d : D} {ρ : Env} {Q : D → Store → Prop} : wp (eVar 29 (a0 :: a1 :: a2 :: a3 :: a4 :: a5 :: a6 :: a7 :: a8 :: a9 :: a10 :: a11 :: a12 :: a13 :: a14 :: a15 :: a16 :: a17 :: a18 :: a19 :: a20 :: a21 :: a22 :: a23 :: a24 :: a25 :: a26 :: a27 :: a28 :: some d :: ρ) S) Q X ↔ Q d S := Iff.rfl
@[simp] theorem v30 {a0 a1 a2 a3 a4 a5 a6 a7 a8 a9 a10 a11 a12 a13 a14 a15 a16 a17 a18 a19 a20 a21 a22 a23 a24 a25 a26 a27 a28 a29 : Option D} {d : D} {ρ : Env} {Q : D → Store → Prop} : wp (eVar 30 (a0 :: a1 :: a2 :: a3 :: a4 :: a5 :: a6 :: a7 :: a8 :: a9 :: a10 :: a11 :: a12 :: a13 :: a14 :: a15 :: a16 :: a17 :: a18 :: a19 :: a20 :: a21 :: a22 :: a23 :: a24 :: a25 :: a26 :: a27 :: a28 :: a29 :: some d :: ρ) S) Q X ↔ Q d S := Iff.rfl
@[simp] theorem v31 {a0 a1 a2 a3 a4 a5 a6 a7 a8 a9 a10 a11 a12 a13 a14 a15 a16 a17 a18 a19 a20 a21 a22 a23 a24 a25 a26 a27 a28 a29 a30 : Option D} {d : D} {ρ : Env} {Q : D → Store → Prop} : wp (eVar 31 (a0 :: a1 :: a2 :: a3 :: a4 :: a5 :: a6 :: a7 :: a8 :: a9 :: a10 :: a11 :: a12 :: a13 :: a14 :: a15 :: a16 :: a17 :: a18 :: a19 :: a20 :: a21 :: a22 :: a23 :: a24 :: a25 :: a26 :: a27 :: a28 :: a29 :: a30 :: some d :: ρ) S) Q X ↔ Q d S := Iff.rfl
@[simp] theorem wp_c {d : D} {Q : D → Store → Prop} : wp (eC d ρ S) Q X ↔ Q d S := Iff.rfl
@[simp] theorem wp_bin {g : Op2} {Q : D → Store → Prop} : wp (eBin g fa fb ρ S) Q X ↔ wp (fa ρ S) (fun x S1 => wp (fb ρ S1) (fun y S2 => oq (g x y S2) Q) X) X := by
  unfold eBin
  simp only [wp_bind, wp_lift]
@[simp] theorem wp_un {g : Op1} {Q : D → Store → Prop} : wp (eUn g fa ρ S) Q X ↔ wp (fa ρ S) (fun x S1 => oq (g x S1) Q) X := by
  unfold eUn
  simp only [wp_bind, wp_lift]
@[simp] theorem wp_tOf {Q : Bool → Store → Prop} : wp (tOf fe ρ S) Q X ↔ wp (fe ρ S) (fun d S' => bq d fun b => Q b S') X := by
  unfold tOf
  rw [wp_bind]
  have : ∀ (d : D) S', wp (asB d S') Q X ↔ bq d fun b => Q b S' := by
    intro d S'
    cases d <;> rfl
  simp only [this]
@[simp] theorem wp_tTr {Q : Bool → Store → Prop} : wp (tTr fe ρ S) Q X ↔ wp (fe ρ S) (fun d S' => uq (trueD d S') fun k => Q k S') X := by
  unfold tTr
  rw [wp_bind]
  have : ∀ (d : D) S', wp (truth d S') Q X ↔ uq (trueD d S') fun k => Q k S' := by
    intro d S'
    unfold truth
    cases trueD d S' <;> rfl
  simp only [this]
theorem wp_truth {d : D} {Q : Bool → Store → Prop} : wp (truth d S) Q X ↔ uq (trueD d S) fun k => Q k S := by
  unfold truth
  cases trueD d S <;> rfl
theorem wp_ite {c : Prop} [Decidable c] {f g : M α} : wp ((if c then f else g) S) Q X ↔ if c then wp (f S) Q X else wp (g S) Q X := by
  split <;> rfl
@[simp] theorem wp_tAnd {Q : Bool → Store → Prop} : wp (tAnd' ft fu ρ S) Q X ↔ wp (ft ρ S) (fun k S' => if k = true then wp (fu ρ S') Q X else Q false S') X := by
  unfold tAnd'
  simp only [wp_bind, wp_ite, wp_ret]
@[simp] theorem wp_tOr {Q : Bool → Store → Prop} : wp (tOr' ft fu ρ S) Q X ↔ wp (ft ρ S) (fun k S' => if k = true then Q true S' else wp (fu ρ S') Q X) X := by
  unfold tOr'
  simp only [wp_bind, wp_ite, wp_ret]
@[simp] theorem wp_tNot {Q : Bool → Store → Prop} : wp (tNot' ft ρ S) Q X ↔ wp (ft ρ S) (fun k S' => Q (!k) S') X := by
  unfold tNot'
  simp only [wp_bind, wp_ret]
@[simp] theorem wp_eAnd {Q : D → Store → Prop} : wp (eAnd fa fb ρ S) Q X ↔ wp (fa ρ S) (fun x S1 => uq (trueD x S1) fun k => if k = true then wp (fb ρ S1) Q X else Q x S1) X := by
  unfold eAnd
  simp only [wp_bind, wp_truth, wp_ite, wp_ret]
@[simp] theorem wp_eOr {Q : D → Store → Prop} : wp (eOr fa fb ρ S) Q X ↔ wp (fa ρ S) (fun x S1 => uq (trueD x S1) fun k => if k = true then Q x S1 else wp (fb ρ S1) Q X) X := by
  unfold eOr
  simp only [wp_bind, wp_truth, wp_ite, wp_ret]
@[simp] theorem wp_eNot {Q : D → Store → Prop} : wp (eNot fa ρ S) Q X ↔ wp (fa ρ S) (fun x S1 => uq (trueD x S1) fun k => Q (.bl (!k)) S1) X := by
  unfold eNot
  simp only [wp_bind, wp_truth, wp_ret]
@[simp] theorem wp_eIf {Q : D → Store → Prop} : wp (eIf ft fa fb ρ S) Q X ↔ wp (ft ρ S) (fun k S' => if k = true then wp (fa ρ S') Q X else wp (fb ρ S') Q X) X := by
  unfold eIf
  simp only [wp_bind, wp_ite]
@[simp] theorem wp_aNil {Q : List D → Store → Prop} : wp (aNil ρ S) Q X ↔ Q [] S := Iff.rfl
@[simp] theorem wp_aCons {Q : List D → Store → Prop} : wp (aCons fe fs ρ S) Q X ↔ wp (fe ρ S) (fun x S1 => wp (fs ρ S1) (fun xs S2 => Q (x :: xs) S2) X) X := by
  unfold aCons
  simp only [wp_bind, wp_ret]
@[simp] theorem wp_aStar {Q : List D → Store → Prop} : wp (aStar fe fs ρ S) Q X ↔ wp (fe ρ S) (fun x S1 => uq (seqOf S1 x) fun ds => wp (fs ρ S1) (fun ys S2 => Q (ds ++ ys) S2) X) X := by
  unfold aStar
  rw [wp_bind]
  refine wp_congr fun x S1 => ?_
  cases seqOf S1 x with
  | none => exact Iff.rfl
  | some ds => exact wp_bind
@[simp] theorem wp_eTup {Q : D → Store → Prop} : wp (eTup fs ρ S) Q X ↔ wp (fs ρ S) (fun ds S' => ds.length ≤ sizeLine ∧ Q (.tup ds) S') X := by
  unfold eTup
  simp only [wp_bind, wp_lift, mkTup]
  have : ∀ (ds : List D) S', oq (if ds.length ≤ sizeLine then some (D.tup ds, S') else none) Q ↔ ds.length ≤ sizeLine ∧ Q (.tup ds) S' := by
    intro ds S'
    by_cases h : ds.length ≤ sizeLine <;> simp [h]
  simp only [this]
@[simp] theorem wp_eLst {Q : D → Store → Prop} : wp (eLst fs ρ S) Q X ↔ wp (fs ρ S) (fun ds S' => ds.length ≤ sizeLine ∧ Q (.ref S'.length) (S' ++ [.lst ds])) X := by
  unfold eLst
  simp only [wp_bind, wp_lift, mkLst]
  have : ∀ (ds : List D) S', oq (if ds.length ≤ sizeLine then some (D.ref S'.length, S' ++ [O.lst ds]) else none) Q ↔ ds.length ≤ sizeLine ∧ Q (.ref S'.length) (S' ++ [.lst ds]) := by
    intro ds S'
    by_cases h : ds.length ≤ sizeLine <;> simp [h]
  simp only [this]
@[simp] theorem wp_eCall {g : OpN} {Q : D → Store → Prop} : wp (eCall g fs ρ S) Q X ↔ wp (fs ρ S) (fun ds S' => oq (g ds S') Q) X := by
  unfold eCall
  simp only [wp_bind, wp_lift]
@[simp] theorem wp_eFn {sem : List D → M D} {dd : List D} {Q : D → Store → Prop} : wp (eFn sem dd fs ρ S) Q X ↔ wp (fs ρ S) (fun ds S' => wp (sem (ds ++ dd) S') Q X) X := by
  unfold eFn
  simp only [wp_bind]
@[simp] theorem wp_oNone {Q : Option Int → Store → Prop} : wp (oNone ρ S) Q X ↔ Q none S := Iff.rfl
@[simp] theorem wp_oSome {Q : Option Int → Store → Prop} : wp (oSome fe ρ S) Q X ↔ wp (fe ρ S) (fun d S' => iq d fun i => Q (some i) S') X := by
  unfold oSome
  rw [wp_bind]
  have : ∀ (d : D) S', wp (asI d S') Q X ↔ iq d fun i => Q (some i) S' := by
    intro d S'
    cases d <;> rfl
  simp only [this]
@[simp] theorem wp_eSl {g : OpS} {fl fh : FO} {Q : D → Store → Prop} : wp (eSl g fa fl fh ρ S) Q X ↔ wp (fa ρ S) (fun x S1 => wp (fl ρ S1) (fun l S2 => wp (fh ρ S2) (fun h S3 => oq (g x l h S3) Q) X) X) X := by
  unfold eSl
  simp only [wp_bind, wp_lift]
@[simp] theorem wp_eMt {Tn : String} {g : OpM} {fo : F} {Q : D → Store → Prop} : wp (eMt Tn g fo fs ρ S) Q X ↔ wp (fo ρ S) (fun x S1 => isTy Tn x S1 = true ∧ wp (fs ρ S1) (fun xs S2 => oq (g x xs S2) Q) X) X := by
  unfold eMt
  simp only [wp_bind, wp_lift]
  have : ∀ (x : D) S1 (Q' : Unit → Store → Prop), wp (chk (isTy Tn x) S1) Q' X ↔ isTy Tn x S1 = true ∧ Q' () S1 := by
    intro x S1 Q'
    unfold chk
    by_cases h : isTy Tn x S1 = true <;> simp [h, wp]
  simp only [this]
/-! ### a def -/
theorem wp_sem {n : Nat} {g : G} {ds : List D} {Q : D → Store → Prop} : wp (semOf n g ds S) Q X ↔ sp (g (startE n ds) S) ⟨fun _ S' => Q .non S', Q, fun _ _ => False, fun _ _ => False, fun x _ S' => X x S'⟩ := by
  unfold semOf
  cases g (startE n ds) S <;> rfl
/-! ### loops -/
theorem whileN_more {t : T} {b : G} : ∀ {n m : Nat} {ρ : Env} {S : Store}, whileN t b n ρ S ≠ .bad → n ≤ m → whileN t b m ρ S = whileN t b n ρ S
  | 0, _, _, _, h, _ => absurd rfl h
  | n + 1, 0, _, _, _, h => absurd h (by omega)
  | n + 1, m + 1, ρ, S, h, hm => by
    unfold whileN at h ⊢
    cases e : t ρ S with
    | bad => rfl
    | exc x S1 => rfl
    | ok k S1 =>
      rw [e] at h
      simp only [sBind] at h ⊢
      cases k with
      | false => rfl
      | true =>
        simp only [if_true] at h ⊢
        cases e2 : b ρ S1 with
        | next ρ' S' => rw [e2] at h; exact whileN_more h (by omega)
        | cont ρ' S' => rw [e2] at h; exact whileN_more h (by omega)
        | brk ρ' S' => rfl
        | ret d S' => rfl
        | exc x ρ' S' => rfl
        | bad => rfl
theorem gWhile_of {t : T} {b : G} {n : Nat} (h : whileN t b n ρ S ≠ .bad) : gWhile t b ρ S = whileN t b n ρ S := by
  unfold gWhile
  have hn : ∃ n, whileN t b n ρ S ≠ .bad := ⟨n, h⟩
  rw [dif_pos hn]
  have h2 := Classical.choose_spec hn
  rcases Nat.le_total n (Classical.choose hn) with q | q
  · exact whileN_more h q
  · exact (whileN_more h2 q).symm
theorem sp_while {t : T} {b : G} (I : Nat → Env → Store → Prop) (step : ∀ n ρ S, I n ρ S → wp (t ρ S) (fun k S1 => if k = true then sp (b ρ S1) ⟨fun ρ' S' => ∃ m, m < n ∧ I m ρ' S', P.R, P.N, fun ρ' S' => ∃ m, m < n ∧ I m ρ' S', P.X⟩ else P.N ρ S1) (fun x S' => P.X x ρ S')) {n : Nat} (h : I n ρ S) : sp (gWhile t b ρ S) P := by
  have key : ∀ n ρ S, I n ρ S → ∃ k, sp (whileN t b k ρ S) P := by
    intro n
    induction n using Nat.strongRecOn with
    | ind n ih =>
      intro ρ S h
      have hs := step n ρ S h
      cases e : t ρ S with
      | bad => rw [e] at hs; exact hs.elim
      | exc x S1 => rw [e] at hs; exact ⟨1, by unfold whileN; rw [e]; exact hs⟩
      | ok k S1 =>
        rw [e] at hs
        cases k with
        | false => exact ⟨1, by unfold whileN; rw [e]; exact hs⟩
        | true =>
          have hs : sp (b ρ S1) ⟨fun ρ' S' => ∃ m, m < n ∧ I m ρ' S', P.R, P.N, fun ρ' S' => ∃ m, m < n ∧ I m ρ' S', P.X⟩ := by simpa [wp] using hs
          cases e2 : b ρ S1 with
          | next ρ' S' =>
            rw [e2] at hs
            obtain ⟨m, hm, q⟩ := hs
            obtain ⟨k, hk⟩ := ih m hm _ _ q
            exact ⟨k + 1, by unfold whileN; rw [e]; simp only [sBind, if_true]; rw [e2]; exact hk⟩
          | cont ρ' S' =>
            rw [e2] at hs
            obtain ⟨m, hm, q⟩ := hs
            obtain ⟨k, hk⟩ := ih m hm _ _ q
            exact ⟨k + 1, by unfold whileN; rw [e]; simp only [sBind, if_true]; rw [e2]; exact hk⟩
          | brk ρ' S' => rw [e2] at hs; exact ⟨1, by unfold whileN; rw [e]; simp only [sBind, if_true]; rw [e2]; exact hs⟩
          | ret d S' => rw [e2] at hs; exact ⟨1, by unfold whileN; rw [e]; simp only [sBind, if_true]; rw [e2]; exact hs⟩
          | exc x ρ' S' => rw [e2] at hs; exact ⟨1, by unfold whileN; rw [e]; simp only [sBind, if_true]; rw [e2]; exact hs⟩
          | bad => rw [e2] at hs; exact hs.elim
  obtain ⟨k, hk⟩ := key n ρ S h
  rw [gWhile_of (n := k) (fun z => by rw [z] at hk; exact hk)]
  exact hk
theorem sp_forS {p : Pat} {b : G} {ok : Store → Prop} (I : List D → Env → Store → Prop) (step : ∀ d ds ρ S, I (d :: ds) ρ S → ok S ∧ oq (p d ρ S) fun ρ1 S1 => sp (b ρ1 S1) ⟨I ds, P.R, P.N, I ds, P.X⟩) (stop : ∀ ρ S, I [] ρ S → ok S ∧ P.N ρ S) : ∀ {items : List D} {ρ : Env} {S : Store}, I items ρ S → sp (forS p b ok items ρ S) P
  | [], ρ, S, h => by
    obtain ⟨h1, h2⟩ := stop ρ S h
    unfold forS
    rw [if_pos h1]
    exact h2
  | d :: ds, ρ, S, h => by
    obtain ⟨h1, h2⟩ := step d ds ρ S h
    unfold forS
    rw [if_pos h1]
    cases e : p d ρ S with
    | none => rw [e] at h2; exact h2.elim
    | some w =>
      obtain ⟨ρ1, S1⟩ := w
      rw [e] at h2
      simp only [oq_some] at h2 ⊢
      cases e2 : b ρ1 S1 with
      | next ρ' S' => rw [e2] at h2; exact sp_forS I step stop h2
      | cont ρ' S' => rw [e2] at h2; exact sp_forS I step stop h2
      | brk ρ' S' => rw [e2] at h2; exact h2
      | ret d S' => rw [e2] at h2; exact h2
      | exc x ρ' S' => rw [e2] at h2; exact h2
      | bad => rw [e2] at h2; exact h2.elim
@[simp] theorem sp_for {src : Src} {p : Pat} {b : G} : sp (gFor src p b ρ S) P ↔ wp (src ρ S) (fun it S' => sp (forS p b it.2 it.1 ρ S') P) (fun x S' => P.X x ρ S') := by
  unfold gFor
  rw [sp_bind]
theorem wp_lcS {p : Pat} {tt : T} {te : F} {ok : Store → Prop} (J : List D → List D → Store → Prop) {Q : List D → Store → Prop}
    (step : ∀ d ds acc S, J (d :: ds) acc S → ok S ∧ oq (p d ρ S) fun ρ1 S1 => wp (tt ρ1 S1) (fun k S2 => if k = true then wp (te ρ1 S2) (fun y S3 => J ds (acc ++ [y]) S3) X else J ds acc S2) X)
    (stop : ∀ acc S, J [] acc S → ok S ∧ Q acc S) : ∀ {items acc : List D} {S : Store}, J items acc S → wp (lcS p tt te ok ρ items S) (fun ys S' => Q (acc ++ ys) S') X
  | [], acc, S, h => by
    obtain ⟨h1, h2⟩ := stop acc S h
    unfold lcS
    rw [if_pos h1]
    simpa [wp] using h2
  | d :: ds, acc, S, h => by
    obtain ⟨h1, h2⟩ := step d ds acc S h
    unfold lcS
    rw [if_pos h1]
    cases e : p d ρ S with
    | none => rw [e] at h2; exact h2.elim
    | some w =>
      obtain ⟨ρ1, S1⟩ := w
      rw [e] at h2
      simp only [oq_some] at h2 ⊢
      rw [wp_bind]
      refine wp_mono h2 (fun k S2 h3 => ?_) fun _ _ h => h
      cases k with
      | false =>
        simp only [Bool.false_eq_true, if_false] at h3 ⊢
        exact wp_lcS J step stop h3
      | true =>
        simp only [if_true] at h3 ⊢
        rw [wp_bind]
        refine wp_mono h3 (fun y S3 h4 => ?_) fun _ _ h => h
        rw [wp_bind]
        refine wp_mono (wp_lcS J step stop h4) (fun ys S4 h5 => ?_) fun _ _ h => h
        rw [wp_ret]
        simpa using h5
theorem wp_eLc {src : Src} {p : Pat} {tt : T} {te : F} {own : List Nat} {Q : D → Store → Prop} (h : wp (src ρ S) (fun it S1 => it.1.length ≤ sizeLine ∧ wp (lcS p tt te it.2 (wipeE ρ own) it.1 S1) (fun ys S' => Q (.ref S'.length) (S' ++ [.lst ys])) (fun _ _ => False)) X) : wp (eLc src p tt te own ρ S) Q X := by
  unfold eLc
  rw [wp_bind]
  refine wp_mono h (fun it S1 ⟨h1, h2⟩ => ?_) fun _ _ h => h
  rw [if_pos h1]
  cases e : lcS p tt te it.2 (wipeE ρ own) it.1 S1 with
  | ok ys S' => rw [e] at h2; exact h2
  | exc x S' => rw [e] at h2; exact h2.elim
  | bad => rw [e] at h2; exact h2.elim
theorem wp_eLcX {src : Src} {p : Pat} {tt : T} {te : F} {own : List Nat} {Q : D → Store → Prop} (h : wp (src ρ S) (fun it S1 => it.1.length ≤ sizeLine ∧ wp (lcS p tt te it.2 (wipeE ρ own) it.1 S1) (fun ys S' => Q (.ref S'.length) (S' ++ [.lst ys])) X) X) : wp (eLcX src p tt te own ρ S) Q X := by
  unfold eLcX
  rw [wp_bind]
  refine wp_mono h (fun it S1 ⟨h1, h2⟩ => ?_) fun _ _ h => h
  rw [if_pos h1]
  cases e : lcS p tt te it.2 (wipeE ρ own) it.1 S1 with
  | ok ys S' => rw [e] at h2; exact h2
  | exc x S' => rw [e] at h2; exact h2
  | bad => rw [e] at h2; exact h2.elim
/-! ### plain operations on plain data -/
@[simp] theorem pName_eq {i : Nat} {d : D} : pName i d ρ S = some (ρ.set i (some d), S) := rfl
@[simp] theorem pSub_eq {g : Op3} {fo fi : F} {d : D} {Q : Env → Store → Prop} (h : wp (fo ρ S) (fun o S1 => wp (fi ρ S1) (fun i S2 => uq (g o i d S2) fun S3 => Q ρ S3) (fun _ _ => False)) (fun _ _ => False)) : oq (pSub g fo fi d ρ S) Q := by
  unfold pSub
  cases e1 : fo ρ S with
  | exc x S1 => rw [e1] at h; exact h.elim
  | bad => rw [e1] at h; exact h.elim
  | ok o S1 =>
    rw [e1] at h
    simp only [wp] at h ⊢
    cases e2 : fi ρ S1 with
    | exc x S1 => rw [e2] at h; exact h.elim
    | bad => rw [e2] at h; exact h.elim
    | ok i S2 =>
      rw [e2] at h
      simp only at h ⊢
      cases e3 : g o i d S2 with
      | none => rw [e3] at h; exact h.elim
      | some S3 => rw [e3] at h; exact h
@[simp] theorem dAdd_int {i j : Int} : dAdd (.int i) (.int j) S = some (.int (i + j), S) := rfl
@[simp] theorem dSub_int {i j : Int} : dSub (.int i) (.int j) S = some (.int (i - j), S) := rfl
@[simp] theorem dSub_bl {i j : Bool} : dSub (.bl i) (.bl j) S = some (.int (b2i i - b2i j), S) := rfl
@[simp] theorem dNeg_int {i : Int} : dNeg (.int i) S = some (.int (-i), S) := rfl
theorem dMul_int {i j : Int} (h : j.natAbs < 2 ^ 64) : dMul (.int i) (.int j) S = some (.int (i * j), S) := if_pos (.inr h)
theorem dMod_int {i j : Int} (h : 0 < j) : dMod (.int i) (.int j) S = some (.int (i % j), S) := if_pos h
theorem dDiv_int {i j : Int} (h : 0 < j) (h2 : j.natAbs.log2 < 9000) : dDiv (.int i) (.int j) S = some (.int (i / j), S) := if_pos ⟨h, h2⟩
@[simp] theorem bInt_int {i : Int} : bInt [.int i] S = some (.int i, S) := rfl
@[simp] theorem bAbs_int {i : Int} : bAbs [.int i] S = some (.int (if i < 0 then -i else i), S) := rfl
@[simp] theorem bMax_int {i j : Int} : bMax [.int i, .int j] S = some (.int (if j > i then j else i), S) := rfl
@[simp] theorem bMin_int {i j : Int} : bMin [.int i, .int j] S = some (.int (if j < i then j else i), S) := rfl
@[simp] theorem dGe_int {i j : Int} : dGe (.int i) (.int j) S = some (.bl (decide (j ≤ i)), S) := rfl
@[simp] theorem dLe_int {i j : Int} : dLe (.int i) (.int j) S = some (.bl (decide (i ≤ j)), S) := rfl
@[simp] theorem dOrd_int {g : Bool} {i j : Int} : dOrd g (.int i) (.int j) S = some (.bl (if g = true then decide (j < i) else decide (i < j)), S) := by
  have e : ∀ i : Int, toPy cap S (.int i) = some (.int i) := fun i => rfl
  simp [dOrd, e, ordP]
end
end MP
set_option Elab.async false
set_option linter.all false
set_option maxRecDepth 100000
set_option maxHeartbeats 4000000
namespace MP
open PySem PySem.Spec PyProof.Rows L2

/-! ### data -/
theorem optAll_map {α β γ : Type} {f : β → Option γ} {g : α → β} {h : α → γ} : ∀ {l : List α}, (∀ x ∈ l, f (g x) = some (h x)) → optAll f (l.map g) = some (l.map h)
  | [], _ => rfl
  | x :: l, k => by
    rw [List.map_cons, List.map_cons]
    unfold optAll
    rw [k x (List.mem_cons_self ..), optAll_map (l := l) fun y hy => k y (List.mem_cons_of_mem _ hy)]
theorem optAll_cons {α β : Type} {f : α → Option β} {x : α} {l : List α} {y : β} {ys : List β} (h1 : f x = some y) (h2 : optAll f l = some ys) : optAll f (x :: l) = some (y :: ys) := by
  unfold optAll
  rw [h1, h2]
theorem optAll_app {α β : Type} {f : α → Option β} : ∀ {l m : List α} {ys zs : List β}, optAll f l = some ys → optAll f m = some zs → optAll f (l ++ m) = some (ys ++ zs)
  | [], m, ys, zs, h1, h2 => by cases h1; exact h2
  | x :: l, m, ys, zs, h1, h2 => by
    unfold optAll at h1
    cases e1 : f x with
    | none => simp only [e1] at h1; cases h1
    | some y =>
      cases e2 : optAll f l with
      | none => simp only [e1, e2] at h1; cases h1
      | some ys' =>
        simp only [e1, e2] at h1
        cases h1
        exact optAll_cons e1 (optAll_app e2 h2)
theorem toPy_int {n : Nat} {S : Store} {i : Int} : toPy n S (.int i) = some (.int i) := by cases n <;> rfl
theorem toPy_bl {n : Nat} {S : Store} {i : Bool} : toPy n S (.bl i) = some (.bool i) := by cases n <;> rfl
theorem toPy_non {n : Nat} {S : Store} : toPy n S .non = some .none := by cases n <;> rfl
theorem toPy_str {n : Nat} {S : Store} {x : Str} (h : PyData.strOk x = true) : toPy n S (.str x) = some (.str x) := by
  cases n <;> (show (if PyData.strOk x = true then some (PyData.str x) else none) = _; rw [if_pos h])
theorem toPy_tup {n : Nat} {S : Store} {ds : List D} {ps : List PyData} (h : optAll (toPy n S) ds = some ps) : toPy (n + 1) S (.tup ds) = some (.tuple ps) := by
  show (optAll (toPy n S) ds).map PyData.tuple = _
  rw [h]; rfl
theorem toPy_lst {n : Nat} {S : Store} {r : Nat} {ds : List D} {ps : List PyData} (h0 : S[r]? = some (.lst ds)) (h : optAll (toPy n S) ds = some ps) : toPy (n + 1) S (.ref r) = some (.list ps) := by
  have e : listOf S (.ref r) = some ds := by simp only [listOf, h0]
  unfold toPy
  rw [e]
  simp only
  rw [h]; rfl
theorem at_ext {S t : Store} {i : Nat} {o : O} (h : S[i]? = some o) : (S ++ t)[i]? = some o := by
  rw [List.getElem?_append_left (List.getElem?_eq_some_iff.mp h).1]; exact h
theorem at_last {S : Store} {o : O} : (S ++ [o])[S.length]? = some o := by simp
theorem optAll_ext {S t : Store} {n : Nat} (ih : ∀ d p, toPy n S d = some p → toPy n (S ++ t) d = some p) : ∀ {ds : List D} {ps : List PyData}, optAll (toPy n S) ds = some ps → optAll (toPy n (S ++ t)) ds = some ps
  | [], _, h => h
  | d :: ds, ps, h => by
    unfold optAll at h
    cases e1 : toPy n S d with
    | none => simp only [e1] at h; cases h
    | some y =>
      cases e2 : optAll (toPy n S) ds with
      | none => simp only [e1, e2] at h; cases h
      | some ys' =>
        simp only [e1, e2] at h
        cases h
        exact optAll_cons (ih _ _ e1) (optAll_ext ih e2)
theorem toPy_ext {S t : Store} : ∀ (n : Nat) (d : D) (p : PyData), toPy n S d = some p → toPy n (S ++ t) d = some p
  | n, .non, p, h => by rw [toPy_non] at h ⊢; exact h
  | n, .bl _, p, h => by rw [toPy_bl] at h ⊢; exact h
  | n, .int _, p, h => by rw [toPy_int] at h ⊢; exact h
  | n, .str x, p, h => by cases n <;> exact h
  | 0, .tup _, p, h => by cases h
  | n + 1, .tup ds, p, h => by
    have h' : (optAll (toPy n S) ds).map PyData.tuple = some p := h
    cases e : optAll (toPy n S) ds with
    | none => rw [e] at h'; cases h'
    | some ps => rw [e] at h'; cases h'; exact toPy_tup (optAll_ext (toPy_ext n) e)
  | 0, .ref _, p, h => by cases h
  | n + 1, .ref r, p, h => by
    cases e0 : listOf S (.ref r) with
    | none => simp only [toPy, e0] at h; cases h
    | some ds =>
      have e1 : listOf (S ++ t) (.ref r) = some ds := by
        cases q : S[r]? with
        | none => simp only [listOf, q] at e0; cases e0
        | some o => simp only [listOf, q] at e0; simp only [listOf, at_ext q]; exact e0
      simp only [toPy, e0] at h
      simp only [toPy, e1]
      cases e : optAll (toPy n S) ds with
      | none => rw [e] at h; cases h
      | some ps => rw [e] at h; cases h; rw [optAll_ext (toPy_ext n) e]; rfl
  | n, .obj _, p, h => by cases n <;> cases h
  | n, .err _ _ _, p, h => by cases n <;> cases h

/-! ### how long a text is -/
mutual
def nodes : PyData → Nat
  | .none => 1
  | .bool _ => 1
  | .int _ => 1
  | .str x => 1 + x.length
  | .list xs => 1 + nodesAll xs
  | .tuple xs => 1 + nodesAll xs
  | .dict _ => 1
def nodesAll : List PyData → Nat
  | [] => 0
  | x :: xs => nodes x + nodesAll xs
end
theorem nodesAll_map {α : Type} {f : α → PyData} {k : Nat} : ∀ {l : List α}, (∀ x ∈ l, nodes (f x) ≤ k) → nodesAll (l.map f) ≤ l.length * k
  | [], _ => by simp [nodesAll]
  | x :: l, h => by
    rw [List.map_cons, nodesAll, List.length_cons, Nat.add_mul]
    have h1 := h x (List.mem_cons_self ..)
    have h2 := nodesAll_map (l := l) fun y hy => h y (List.mem_cons_of_mem _ hy)
    omega
theorem nodesAll_app : ∀ {l m : List PyData}, nodesAll (l ++ m) = nodesAll l + nodesAll m
  | [], m => by simp [nodesAll]
  | x :: l, m => by
    rw [List.cons_append, nodesAll, nodesAll, nodesAll_app]; omega
theorem tupleText_len (ts : List Str) : (tupleText ts).length ≤ piled ts + 3 := by
  unfold tupleText
  rw [strLen_append, strLen_append]
  have e1 : ((("(" : String) : Str)).length = 1 := rfl
  have e3 : (((if ts.length == 1 then ",)" else ")" : String) : Str)).length ≤ 2 := by split <;> decide
  rw [e1]
  by_cases h : ts = []
  · subst h
    have : (Str.join ", " []).length = 0 := rfl
    rw [this]
    omega
  · have := join_length_add ts h
    omega
theorem listText_len (ts : List Str) : (listText ts).length ≤ piled ts + 2 := by
  unfold listText
  rw [strLen_append]
  have e1 : ((("]" : String) : Str)).length = 1 := rfl
  rw [e1]
  cases ts with
  | nil =>
    have : (textFrom 0 "[" []).length = 1 := rfl
    rw [this]
    omega
  | cons t r =>
    have : textFrom 0 "[" (t :: r) = textFrom 1 (("[" : Str) ++ (if 0 > 0 then ", " else "" : String) ++ t) r := rfl
    rw [this, textFrom_length_pos r 1 _ (by decide), strLen_append, strLen_append, piled_cons]
    have e2 : ((("[" : String) : Str)).length = 1 := rfl
    have e3 : (((if 0 > 0 then ", " else "" : String) : Str)).length = 0 := rfl
    rw [e2, e3]
    omega
theorem strOk_lt {x : Str} (h : PyData.strOk x = true) : ∀ c ∈ x.cps.toList, c < 16 ^ 8 := fun c hc => by
  unfold PyData.strOk at h
  have := Array.all_eq_true'.mp h c (by simpa using hc)
  simp at this
  omega
mutual
theorem shown_len : ∀ (p : PyData), p.showable = true → p.canLay0 = true → p.hasDict = false → p.shown.length + 2 ≤ 1940 * nodes p
  | .none, _, _, _ => by rw [PyData.shown, nodes]; decide
  | .bool b, _, _, _ => by cases b <;> (rw [PyData.shown, nodes]; decide)
  | .int i, h, _, _ => by
    have h1 : i.natAbs.log2 < 1920 := by simpa [PyData.showable] using h
    have := int_text_len_1921 h1
    rw [PyData.shown, nodes]
    omega
  | .str x, _, h, _ => by
    have := StrLaws.reprText_len x (strOk_lt (by simpa [PyData.canLay0] using h))
    rw [PyData.shown, nodes]
    omega
  | .list xs, h1, h2, h3 => by
    have := shown_lenAll xs (by simpa [PyData.showable] using h1) (by simpa [PyData.canLay0] using h2) (by simpa [PyData.hasDict] using h3)
    have h4 := listText_len (PyData.shownAll xs)
    rw [PyData.shown, nodes]
    omega
  | .tuple xs, h1, h2, h3 => by
    have := shown_lenAll xs (by simpa [PyData.showable] using h1) (by simpa [PyData.canLay0] using h2) (by simpa [PyData.hasDict] using h3)
    have h4 := tupleText_len (PyData.shownAll xs)
    rw [PyData.shown, nodes]
    omega
  | .dict _, _, _, h => by simp [PyData.hasDict] at h
theorem shown_lenAll : ∀ (ps : List PyData), PyData.showableAll ps = true → PyData.canLayAll0 ps = true → PyData.hasDictAll ps = false → piled (PyData.shownAll ps) ≤ 1940 * nodesAll ps
  | [], _, _, _ => by rw [PyData.shownAll, nodesAll, piled_nil]; omega
  | x :: xs, h1, h2, h3 => by
    simp only [PyData.showableAll, Bool.and_eq_true] at h1
    simp only [PyData.canLayAll0, Bool.and_eq_true] at h2
    simp only [PyData.hasDictAll, Bool.or_eq_false_iff] at h3
    have a := shown_len x h1.1 h2.1 h3.1
    have b := shown_lenAll xs h1.2 h2.2 h3.2
    rw [PyData.shownAll, nodesAll, piled_cons]
    omega
end
def isSeqP : PyData → Bool
  | .list _ => true
  | .tuple _ => true
  | _ => false
/-- repr of a list or a tuple -/
theorem bRepr_of {S : Store} {d : D} {p : PyData} (h : toPy cap S d = some p) (hs : p.showable = true) (hn : nodes p ≤ 8000) (hp : isSeqP p = true) : bRepr [d] S = some (.str p.shown, S) := by
  obtain ⟨l1, _, l3⟩ := toPy_lays cap d p h
  have hl := shown_len p hs l1 l3
  have hz : p.shown.length ≤ sizeLine := by rw [sizeLine_eq]; omega
  unfold bRepr
  simp only [h]
  cases p with
  | list xs => simp only; rw [if_pos ⟨hs, hz⟩]
  | tuple xs => simp only; rw [if_pos ⟨hs, hz⟩]
  | _ => cases hp
theorem eqD_str {a b : Str} {S : Store} : eqD (.str a) (.str b) S = some (a == b) := rfl
/-- the same data, repr beside repr -/
theorem dNe_repr {a : Str} {S : Store} : dNe (.str a) (.str a) S = some (.bl false, S) := by
  simp [dNe, eqD]
theorem dEq_repr {a : Str} {S : Store} : dEq (.str a) (.str a) S = some (.bl true, S) := by
  simp [dEq, eqD]
end MP
set_option Elab.async false
set_option linter.all false
set_option maxRecDepth 100000
set_option maxHeartbeats 4000000
namespace MP
open PySem PySem.Spec PyProof.Rows L2

/-! ### the law's source of choices -/
/-- kept but for r and c -/
def Kp (r c : Nat) (S S' : Store) : Prop := S.length ≤ S'.length ∧ ∀ (i : Nat) (o : O), S[i]? = some o → i ≠ r → i ≠ c → S'[i]? = some o
theorem Kp.refl {r c : Nat} {S : Store} : Kp r c S S := ⟨Nat.le_refl _, fun _ _ h _ _ => h⟩
theorem Kp.trans {r c : Nat} {S S1 S2 : Store} (a : Kp r c S S1) (b : Kp r c S1 S2) : Kp r c S S2 := ⟨Nat.le_trans a.1 b.1, fun i o h n1 n2 => b.2 i o (a.2 i o h n1 n2) n1 n2⟩
theorem Kp.ext {r c : Nat} {S t : Store} : Kp r c S (S ++ t) := ⟨by simp, fun _ _ h _ _ => at_ext h⟩
theorem Kp.set {r c i : Nat} {S : Store} {o : O} (h : i = r ∨ i = c) : Kp r c S (S.set i o) := ⟨by simp, fun j o' h1 n1 n2 => by
  rw [List.getElem?_set_ne (fun e => by subst e; rcases h with h | h; exact n1 h; exact n2 h)]; exact h1⟩
abbrev kCells : Key := .inr "cells"
abbrev kLeft : Key := .inr "left"
abbrev kMixed : Key := .inr "mixed"
abbrev kTurn : Key := .inr "turn"
def srcD (c : Nat) (l m t : Int) : List (Key × D) := [(kCells, .ref c), (kLeft, .int l), (kMixed, .int m), (kTurn, .int t)]
structure ScAt (r c : Nat) (l m t : Int) (cs : List Int) (S : Store) : Prop where
  ne : r ≠ c
  at_ : S[r]? = some (.dict (srcD c l m t))
  cel : S[c]? = some (.lst (cs.map D.int))
def Sc (r c : Nat) (S : Store) : Prop := ∃ l m t cs, ScAt r c l m t cs S
theorem Sc.ext {r c : Nat} {S t : Store} (h : Sc r c S) : Sc r c (S ++ t) := by
  obtain ⟨l, m, u, cs, h1, h2, h3⟩ := h
  exact ⟨l, m, u, cs, h1, at_ext h2, at_ext h3⟩
section
variable {r c : Nat} {l m t : Int} {cs : List Int} {S : Store}
theorem ix_dict {kvs : List (Key × D)} {k : D} {key : Key} {d : D} (h : S[r]? = some (.dict kvs)) (hk : keyOf k = some key) (hg : getK kvs key = some d) : dIx (.ref r) k S = some (d, S) := by
  simp only [dIx, dictOf, h, hk, hg]
theorem ix_cells (h : ScAt r c l m t cs S) : dIx (.ref r) (.str "cells") S = some (.ref c, S) := ix_dict h.at_ rfl rfl
theorem ix_left (h : ScAt r c l m t cs S) : dIx (.ref r) (.str "left") S = some (.int l, S) := ix_dict h.at_ rfl rfl
theorem ix_mixed (h : ScAt r c l m t cs S) : dIx (.ref r) (.str "mixed") S = some (.int m, S) := ix_dict h.at_ rfl rfl
theorem ix_turn (h : ScAt r c l m t cs S) : dIx (.ref r) (.str "turn") S = some (.int t, S) := ix_dict h.at_ rfl rfl
theorem set_dict {kvs kvs' : List (Key × D)} {k v : D} {key : Key} (h : S[r]? = some (.dict kvs)) (hk : keyOf k = some key) (hl : kvs.length < sizeLine) (he : setK kvs key v = kvs') : dSet (.ref r) k v S = some (S.set r (.dict kvs')) := by
  simp only [dSet, h, hk, hl, if_true, he]
theorem len_src : (srcD c l m t).length < sizeLine := by rw [sizeLine_eq]; show 4 < _; decide
theorem setLeft {x : Int} (h : ScAt r c l m t cs S) : dSet (.ref r) (.str "left") (.int x) S = some (S.set r (.dict (srcD c x m t))) := set_dict h.at_ rfl len_src rfl
theorem setMixed {x : Int} (h : ScAt r c l m t cs S) : dSet (.ref r) (.str "mixed") (.int x) S = some (S.set r (.dict (srcD c l x t))) := set_dict h.at_ rfl len_src rfl
theorem setTurn {x : Int} (h : ScAt r c l m t cs S) : dSet (.ref r) (.str "turn") (.int x) S = some (S.set r (.dict (srcD c l m x))) := set_dict h.at_ rfl len_src rfl
theorem ScAt.set {l' m' t' : Int} (h : ScAt r c l m t cs S) : ScAt r c l' m' t' cs (S.set r (.dict (srcD c l' m' t'))) :=
  ⟨h.ne, by rw [List.getElem?_set_self (List.getElem?_eq_some_iff.mp h.at_).1], by rw [List.getElem?_set_ne h.ne]; exact h.cel⟩
theorem ScAt.setC {cs' : List Int} (h : ScAt r c l m t cs S) : ScAt r c l m t cs' (S.set c (.lst (cs'.map D.int))) :=
  ⟨h.ne, by rw [List.getElem?_set_ne h.ne.symm]; exact h.at_, by rw [List.getElem?_set_self (List.getElem?_eq_some_iff.mp h.cel).1]⟩
end
noncomputable def gPickA : G := gWhile (tAnd' (tOf (eBin (dOrd true) (eVar 1) (eC (.int 1)))) (tAnd' (tOf (eBin (dOrd false) (eBin dIx (eVar 0) (eC (.str "left"))) (eC (.int 2)))) (tOf (eBin (dOrd true) (eCall bLen (aCons (eBin dIx (eVar 0) (eC (.str "cells"))) aNil)) (eC (.int 0))))))
  (gAsg (eMt "list" mPop (eBin dIx (eVar 0) (eC (.str "cells"))) aNil) (pSub dSet (eVar 0) (eC (.str "left"))))
noncomputable def gPickB : G := gSeq (gAsg (eBin dDiv (eVar 2) (eCall bMax (aCons (eC (.int 1)) (aCons (eVar 1) aNil)))) (pSub dSet (eVar 0) (eC (.str "left"))))
  (gRet (eBin dMod (eCall bInt (aCons (eVar 2) aNil)) (eCall bMax (aCons (eC (.int 1)) (aCons (eVar 1) aNil)))))
noncomputable def gPickC : G := gSeq (gAsg (eBin dAdd (eBin dIx (eVar 0) (eC (.str "turn"))) (eC (.int 1))) (pSub dSet (eVar 0) (eC (.str "turn"))))
  (gSeq (gAsg (eBin dMod (eCall bInt (aCons (eBin dAdd (eBin dIx (eVar 0) (eC (.str "mixed"))) (eBin dMul (eBin dIx (eVar 0) (eC (.str "turn"))) (eC (.int 104729)))) aNil)) (eC (.int 998244353))) (pName 3))
  (gSeq (gAsg (eBin dMod (eCall bInt (aCons (eBin dAdd (eBin dMul (eVar 3) (eVar 3)) (eBin dMul (eBin dIx (eVar 0) (eC (.str "turn"))) (eC (.int 17)))) aNil)) (eC (.int 2147483647))) (pName 3))
  (gSeq (gAsg (eVar 3) (pSub dSet (eVar 0) (eC (.str "mixed"))))
  (gRet (eBin dMod (eCall bInt (aCons (eBin dDiv (eVar 3) (eC (.int 16))) aNil)) (eVar 1))))))
noncomputable def gPick : G := gSeq gPickA (gSeq (gAsg (eBin dIx (eVar 0) (eC (.str "left"))) (pName 2)) (gSeq (gIf (tOr' (tOf (eBin (dOrd false) (eVar 1) (eC (.int 2)))) (tOf (eBin (dOrd true) (eVar 2) (eC (.int 1))))) gPickB gNext) gPickC))
noncomputable def semPick : List D → M D := semOf 4 gPick
theorem bLen_lst {S : Store} {r : Nat} {ds : List D} (h : S[r]? = some (.lst ds)) : bLen [.ref r] S = some (.int ds.length, S) := by
  simp only [bLen, dictOf, h, seqOf, listOf]
theorem isTy_lst {S : Store} {r : Nat} {ds : List D} (h : S[r]? = some (.lst ds)) : isTy "list" (.ref r) S = true := by
  simp [isTy, h]
theorem mPop_lst {S : Store} {r : Nat} {ds : List D} {d : D} (h : S[r]? = some (.lst (ds ++ [d]))) : mPop (.ref r) [] S = some (d, S.set r (.lst ds)) := by
  simp [mPop, h]
section
variable {r c : Nat} {l m t n : Int} {cs : List Int} {S S0 : Store} {P : Pst} {a2 a3 : Option D}
theorem pickC_ok (hn : 1 < n) (h : ScAt r c l m t cs S) (kp : Kp r c S0 S) (hq : ∀ (k : Int) (S' : Store), 0 ≤ k → k < n → Sc r c S' → Kp r c S0 S' → P.R (.int k) S') : sp (gPickC [some (.ref r), some (.int n), a2, none] S) P := by
  unfold gPickC
  have h1 := h.set (l' := l) (m' := m) (t' := t + 1)
  simp only [sp_seq, sp_asg, wp_bin, v0, wp_c, ix_turn h, oq_some, dAdd_int]
  refine pSub_eq ?_
  simp only [v0, wp_c, setTurn h, uq_some, wp_bin, wp_eCall, wp_aCons, wp_aNil, ix_mixed h1, ix_turn h1, oq_some, dMul_int (show (104729 : Int).natAbs < 2 ^ 64 by decide), dAdd_int, bInt_int, dMod_int (show (0 : Int) < 998244353 by decide), pName_eq, List.set_cons_succ, List.set_cons_zero, v3]
  generalize hx : (m + (t + 1) * 104729) % 998244353 = x
  have hx1 : x.natAbs < 2 ^ 64 := by
    have a := Int.emod_nonneg (m + (t + 1) * 104729) (show (998244353 : Int) ≠ 0 by decide)
    have b := Int.emod_lt_of_pos (m + (t + 1) * 104729) (show (0 : Int) < 998244353 by decide)
    omega
  simp only [v0, v3, wp_c, wp_bin, wp_eCall, wp_aCons, wp_aNil, ix_turn h1, oq_some, dMul_int hx1, dMul_int (show (17 : Int).natAbs < 2 ^ 64 by decide), dAdd_int, bInt_int, dMod_int (show (0 : Int) < 2147483647 by decide), List.set_cons_succ, List.set_cons_zero, sp_asg]
  generalize (x * x + (t + 1) * 17) % 2147483647 = y
  refine pSub_eq ?_
  simp only [v0, v1, v3, wp_c, setMixed h1, uq_some, sp_ret, wp_bin, wp_eCall, wp_aCons, wp_aNil, oq_some, dDiv_int (show (0 : Int) < 16 by decide) (show (16 : Int).natAbs.log2 < 9000 by decide), bInt_int, dMod_int (show (0 : Int) < n by omega)]
  refine hq _ _ (Int.emod_nonneg _ (by omega)) (Int.emod_lt_of_pos _ (by omega)) ⟨_, _, _, _, h1.set⟩ ((kp.trans (.set (.inl rfl))).trans (.set (.inl rfl)))
theorem pickB_ok (hn : n.natAbs.log2 < 9000) (h : ScAt r c l m t cs S) (kp : Kp r c S0 S) (hq : ∀ (k : Int) (S' : Store), 0 ≤ k → k < (if n > 1 then n else 1) → Sc r c S' → Kp r c S0 S' → P.R (.int k) S') : sp (gPickB [some (.ref r), some (.int n), some (.int l), none] S) P := by
  have hmx : (0 : Int) < (if n > 1 then n else 1) := by split <;> omega
  have hml : (if n > 1 then n else 1).natAbs.log2 < 9000 := by split; exact hn; decide
  unfold gPickB
  simp only [sp_seq, sp_asg, wp_bin, v0, v1, v2, wp_c, wp_eCall, wp_aCons, wp_aNil, bMax_int, oq_some, dDiv_int hmx hml]
  refine pSub_eq ?_
  simp only [v0, v1, v2, wp_c, setLeft h, uq_some, sp_ret, wp_bin, wp_eCall, wp_aCons, wp_aNil, oq_some, bInt_int, bMax_int, dMod_int hmx]
  exact hq _ _ (Int.emod_nonneg _ (by omega)) (Int.emod_lt_of_pos _ hmx) ⟨_, _, _, _, h.set⟩ (kp.trans (.set (.inl rfl)))
theorem pick_sp (hn : n.natAbs.log2 < 9000) (h : ScAt r c l m t cs S) (hq : ∀ (k : Int) (S' : Store), 0 ≤ k → k < (if n > 1 then n else 1) → Sc r c S' → Kp r c S S' → P.R (.int k) S') : sp (gPick [some (.ref r), some (.int n), none, none] S) P := by
  unfold gPick
  rw [sp_seq]
  refine sp_while (fun k ρ S' => ρ = [some (.ref r), some (.int n), none, none] ∧ ∃ l cs, ScAt r c l m t cs S' ∧ cs.length = k ∧ Kp r c S S') (fun k ρ S' hI => ?_) (n := cs.length) ⟨rfl, l, cs, h, rfl, .refl⟩
  obtain ⟨rfl, l, cs, h, hk, kp⟩ := hI
  have after : (l ≥ 2 ∨ n < 2 ∨ cs = []) → sp (gSeq (gAsg (eBin dIx (eVar 0) (eC (.str "left"))) (pName 2)) (gSeq (gIf (tOr' (tOf (eBin (dOrd false) (eVar 1) (eC (.int 2)))) (tOf (eBin (dOrd true) (eVar 2) (eC (.int 1))))) gPickB gNext) gPickC) [some (.ref r), some (.int n), none, none] S') P := fun _ => by
    simp only [sp_seq, sp_asg, wp_bin, v0, v1, v2, wp_c, ix_left h, oq_some, pName_eq, sp_if, wp_tOr, wp_tOf, dOrd_int, bq_bl, List.set_cons_succ, List.set_cons_zero, Bool.false_eq_true, if_false, if_true, decide_eq_true_eq]
    by_cases c1 : n < 2
    · rw [if_pos c1]
      exact pickB_ok (P := ⟨_, P.R, P.B, P.C, P.X⟩) hn h kp hq
    · rw [if_neg c1]
      by_cases c2 : 1 < l
      · rw [if_pos c2]
        exact pickB_ok (P := ⟨_, P.R, P.B, P.C, P.X⟩) hn h kp hq
      · rw [if_neg c2]
        refine pickC_ok (by omega) h kp fun k S2 h1 h2 => hq k S2 h1 (by split <;> omega)
  simp only [wp_tAnd, wp_tOf, wp_bin, v0, v1, wp_c, oq_some, dOrd_int, bq_bl, ix_left h, ix_cells h, wp_eCall, wp_aCons, wp_aNil, bLen_lst h.cel, if_true, if_false, Bool.false_eq_true, decide_eq_true_eq, List.length_map]
  by_cases c1 : 1 < n
  · rw [if_pos c1]
    by_cases c2 : l < 2
    · rw [if_pos c2]
      by_cases c3 : (0 : Int) < (cs.length : Nat)
      · rw [if_pos c3]
        have hne : cs ≠ [] := fun e => by subst e; simp at c3
        obtain ⟨cs', z, rfl⟩ : ∃ cs' z, cs = cs' ++ [z] := ⟨cs.dropLast, cs.getLast hne, (List.dropLast_concat_getLast hne).symm⟩
        have hc : S'[c]? = some (.lst (cs'.map D.int ++ [.int z])) := by rw [h.cel]; simp
        have h2 : ScAt r c l m t cs' (S'.set c (.lst (cs'.map D.int))) := h.setC
        simp only [sp_asg, wp_eMt, wp_bin, v0, wp_c, ix_cells h, oq_some, isTy_lst hc, true_and, wp_aNil, mPop_lst hc]
        refine pSub_eq ?_
        simp only [v0, wp_c, setLeft h2, uq_some]
        exact ⟨cs'.length, by rw [← hk]; simp, trivial, z, cs', h2.set, rfl, (kp.trans (.set (.inr rfl))).trans (.set (.inl rfl))⟩
      · rw [if_neg c3]
        exact after (.inr (.inr (by cases cs with | nil => rfl | cons _ _ => simp at c3)))
    · rw [if_neg c2]
      exact after (.inl (by omega))
  · rw [if_neg c1]
    exact after (.inr (.inl (by omega)))
theorem pick_ok {Q : D → Store → Prop} {X : Exc → Store → Prop} (hn : n.natAbs.log2 < 9000) (h : Sc r c S) (hq : ∀ (k : Int) (S' : Store), 0 ≤ k → k < (if n > 1 then n else 1) → Sc r c S' → Kp r c S S' → Q (.int k) S') : wp (semPick [.ref r, .int n] S) Q X := by
  unfold semPick
  rw [wp_sem]
  obtain ⟨l, m, t, cs, h⟩ := h
  exact pick_sp hn h hq
end
end MP
set_option Elab.async false
set_option linter.all false
set_option maxRecDepth 100000
set_option maxHeartbeats 4000000
namespace MP
open PySem PySem.Spec PyProof.Rows L2

/-! ### what only adds to the store -/
def Pu {α : Type} (m : M α) (d : α) (S : Store) : Prop := ∃ t, m S = .ok d (S ++ t)
theorem Pu.wp {α : Type} {m : M α} {d : α} {S : Store} {Q : α → Store → Prop} {X : Exc → Store → Prop} (h : Pu m d S) (k : ∀ t, Q d (S ++ t)) : MP.wp (m S) Q X := by
  obtain ⟨t, e⟩ := h
  rw [e]
  exact k t
theorem Pu.of {α : Type} {m : M α} {d : α} {S : Store} (h : MP.wp (m S) (fun d' S' => d' = d ∧ ∃ t, S' = S ++ t) fun _ _ => False) : Pu m d S := by
  cases e : m S with
  | ok a S' => rw [e] at h; obtain ⟨rfl, t, rfl⟩ := h; exact ⟨t, e⟩
  | exc x S' => rw [e] at h; exact h.elim
  | bad => rw [e] at h; exact h.elim
section
variable {ρ : Env} {S : Store} {X : Exc → Store → Prop} {fa : F} {fs : A}
theorem wp_sSeq {Q : List D × (Store → Prop) → Store → Prop} (h : wp (fa ρ S) (fun x S1 => (∃ ds, x = .tup ds ∧ Q (ds, fun _ => True) S1) ∨ (∃ r ds, x = .ref r ∧ (S1[r]? = some (.lst ds) ∨ S1[r]? = some (.ro ds)) ∧ Q (ds, holds r ds) S1)) X) : wp (sSeq fa ρ S) Q X := by
  unfold sSeq
  rw [wp_bind]
  refine wp_mono h (fun x S1 h1 => ?_) fun _ _ h => h
  rcases h1 with ⟨ds, rfl, q⟩ | ⟨r, ds, rfl, e | e, q⟩
  · exact q
  · simp only [e]; exact q
  · simp only [e]; exact q
theorem wp_sRng1 {Q : List D × (Store → Prop) → Store → Prop} (h : wp (fs ρ S) (fun xs S1 => ∃ j : Int, xs = [.int j] ∧ -(2 ^ 62) ≤ j ∧ j < 2 ^ 62 ∧ Q (rangeD 0 j.toNat, fun _ => True) S1) X) : wp (sRng1 fs ρ S) Q X := by
  unfold sRng1
  rw [wp_bind]
  refine wp_mono h (fun x S1 h1 => ?_) fun _ _ h => h
  obtain ⟨j, rfl, h1, h2, q⟩ := h1
  simp only [h1, h2, and_self, if_true]
  exact q
theorem wp_sRng2 {Q : List D × (Store → Prop) → Store → Prop} (h : wp (fs ρ S) (fun xs S1 => ∃ i j : Int, xs = [.int i, .int j] ∧ (-(2 ^ 62) ≤ i ∧ i < 2 ^ 62 ∧ -(2 ^ 62) ≤ j ∧ j < 2 ^ 62) ∧ Q (rangeD i (j - i).toNat, fun _ => True) S1) X) : wp (sRng2 fs ρ S) Q X := by
  unfold sRng2
  rw [wp_bind]
  refine wp_mono h (fun x S1 h1 => ?_) fun _ _ h => h
  obtain ⟨i, j, rfl, h1, q⟩ := h1
  simp only [h1, and_self, if_true]
  exact q
theorem wp_sEnum {Q : List D × (Store → Prop) → Store → Prop} (h : wp (fs ρ S) (fun xs S1 => (∃ ds, xs = [.tup ds] ∧ Q (enumD ds, fun _ => True) S1) ∨ (∃ r ds, xs = [.ref r] ∧ (S1[r]? = some (.lst ds) ∨ S1[r]? = some (.ro ds)) ∧ Q (enumD ds, holds r ds) S1)) X) : wp (sEnum fs ρ S) Q X := by
  unfold sEnum
  rw [wp_bind]
  refine wp_mono h (fun x S1 h1 => ?_) fun _ _ h => h
  rcases h1 with ⟨ds, rfl, q⟩ | ⟨r, ds, rfl, e | e, q⟩
  · exact q
  · simp only [e]; exact q
  · simp only [e]; exact q
theorem wp_sZipT {Q : List D × (Store → Prop) → Store → Prop} (h : wp (fs ρ S) (fun xs S1 => ∃ ds es, xs = [.tup ds, .tup es] ∧ Q (zipD ds es, fun _ => True) S1) X) : wp (sZip fs ρ S) Q X := by
  unfold sZip
  rw [wp_bind]
  refine wp_mono h (fun x S1 h1 => ?_) fun _ _ h => h
  obtain ⟨ds, es, rfl, q⟩ := h1
  exact q
/-! ### items and cuts of tuples, lists -/
theorem seqOf_tup {ds : List D} : seqOf S (.tup ds) = some ds := rfl
theorem seqOf_lst {r : Nat} {ds : List D} (h : S[r]? = some (.lst ds)) : seqOf S (.ref r) = some ds := by simp only [seqOf, listOf, h]
theorem seqOf_ro {r : Nat} {ds : List D} (h : S[r]? = some (.ro ds)) : seqOf S (.ref r) = some ds := by simp only [seqOf, listOf, h]
theorem listOf_lst {r : Nat} {ds : List D} (h : S[r]? = some (.lst ds)) : listOf S (.ref r) = some ds := by simp only [listOf, h]
theorem listOf_ro {r : Nat} {ds : List D} (h : S[r]? = some (.ro ds)) : listOf S (.ref r) = some ds := by simp only [listOf, h]
theorem ix_tupD {ds : List D} {i : Int} {d : D} (h : atI ds i = some d) : dIx (.tup ds) (.int i) S = some (d, S) := by
  simp only [dIx, dictOf, seqOf, h]
theorem ix_lstD {r : Nat} {ds : List D} {i : Int} {d : D} (h0 : S[r]? = some (.lst ds)) (h : atI ds i = some d) : dIx (.ref r) (.int i) S = some (d, S) := by
  simp only [dIx, dictOf, h0, seqOf, listOf, h]
theorem atI_nat {α : Type} {xs : List α} {i : Nat} {x : α} (h : xs[i]? = some x) : atI xs (i : Int) = some x := by
  have hl := (List.getElem?_eq_some_iff.mp h).1
  unfold atI ixN
  rw [if_pos (by omega), if_pos (by omega)]
  simpa using h
theorem atI_neg1 {α : Type} {xs : List α} {x : α} : atI (xs ++ [x]) (-1) = some x := by
  unfold atI ixN
  rw [if_neg (by omega), if_pos (by simp; omega)]
  have : ((-1 : Int) + ((xs ++ [x]).length : Nat)).toNat = xs.length := by simp; omega
  simp only [Option.bind_some, this]
  simp
theorem cutD_drop {ds : List D} {k : Nat} (h : k ≤ ds.length) : cutD ds (some (k : Int)) none = ds.drop k := by
  unfold cutD
  rw [HT.sIx_nat, HT.sIx_none, Nat.min_eq_left h]
  exact List.take_of_length_le (by simp)
theorem cutD_take {ds : List D} {k : Nat} (h : k ≤ ds.length) : cutD ds none (some (k : Int)) = ds.take k := by
  unfold cutD
  rw [HT.sIx_nat, HT.sIx_none, Nat.min_eq_left h]
  simp
theorem cutD_neg1 {ds : List D} (h : ds ≠ []) : cutD ds none (some (-1)) = ds.dropLast := by
  unfold cutD
  have hl : 0 < ds.length := List.length_pos_iff.mpr h
  have : HT.sIx ds.length ds.length (some (-1)) = ds.length - 1 := by
    have e : HT.sIx ds.length ds.length (some (-1)) = (if (-1 : Int) < 0 then ((-1 : Int) + (ds.length : Int)).toNat else min (-1 : Int).toNat ds.length) := rfl
    rw [e, if_pos (by omega)]
    omega
  rw [this, HT.sIx_none, List.dropLast_eq_take]
  simp
theorem sl_tupD {ds : List D} {lo hi : Option Int} : dSl (.tup ds) lo hi S = some (.tup (cutD ds lo hi), S) := rfl
theorem sl_lstD {r : Nat} {ds : List D} {lo hi : Option Int} (h : S[r]? = some (.lst ds)) : dSl (.ref r) lo hi S = some (.ref S.length, S ++ [.lst (cutD ds lo hi)]) := by
  simp only [dSl, listOf, h]

/-! ### one of several -/
noncomputable def gOf : G := gRet (eBin dIx (eVar 1) (eFn semPick [] (aCons (eVar 0) (aCons (eCall bLen (aCons (eVar 1) aNil)) aNil))))
noncomputable def semOf1 : List D → M D := semOf 2 gOf
theorem bLen_seq {d : D} {ds : List D} (h : seqOf S d = some ds) : bLen [d] S = some (.int ds.length, S) := by
  cases d with
  | tup xs => cases h; rfl
  | ref r =>
    have h' : listOf S (.ref r) = some ds := h
    cases q : S[r]? with
    | none => simp only [listOf, q] at h'; cases h'
    | some o =>
      cases o with
      | lst xs => simp only [bLen, dictOf, q, h]
      | ro xs => simp only [bLen, dictOf, q, h]
      | dict xs => simp only [listOf, q] at h'; cases h'
      | tab _ _ => simp only [listOf, q] at h'; cases h'
  | _ => cases h
theorem ix_seq {d : D} {ds : List D} {i : Int} {x : D} (h : seqOf S d = some ds) (hi : atI ds i = some x) : dIx d (.int i) S = some (x, S) := by
  cases d with
  | tup xs => cases h; exact ix_tupD hi
  | ref r =>
    have h' : listOf S (.ref r) = some ds := h
    cases q : S[r]? with
    | none => simp only [listOf, q] at h'; cases h'
    | some o =>
      cases o with
      | lst xs => simp only [dIx, dictOf, q, h, hi]
      | ro xs => simp only [dIx, dictOf, q, h, hi]
      | dict xs => simp only [listOf, q] at h'; cases h'
      | tab _ _ => simp only [listOf, q] at h'; cases h'
  | _ => cases h
theorem seqOf_Kp {r c : Nat} {S' : Store} {d : D} {ds : List D} (h : seqOf S d = some ds) (k : Kp r c S S') (h1 : d ≠ .ref r) (h2 : d ≠ .ref c) : seqOf S' d = some ds := by
  cases d with
  | tup xs => exact h
  | ref q =>
    have h' : listOf S (.ref q) = some ds := h
    have n1 : q ≠ r := fun e => h1 (by rw [e])
    have n2 : q ≠ c := fun e => h2 (by rw [e])
    cases e : S[q]? with
    | none => simp only [listOf, e] at h'; cases h'
    | some o =>
      have e2 := k.2 q o e n1 n2
      show listOf S' (.ref q) = some ds
      simp only [listOf, e] at h'
      simp only [listOf, e2]
      exact h'
  | _ => cases h
theorem of_ok {r c : Nat} {d : D} {ds : List D} {Q : D → Store → Prop} (hs : Sc r c S) (h : seqOf S d = some ds) (h0 : ds ≠ []) (hl : ds.length < 2 ^ 62) (h1 : d ≠ .ref r) (h2 : d ≠ .ref c) (hq : ∀ x S', x ∈ ds → Sc r c S' → Kp r c S S' → Q x S') : wp (semOf1 [.ref r, d] S) Q X := by
  unfold semOf1
  rw [wp_sem]
  unfold gOf
  show sp (gRet _ [some (.ref r), some d] S) _
  have hp : 0 < ds.length := List.length_pos_iff.mpr h0
  simp only [sp_ret, wp_bin, v0, v1, wp_eFn, wp_aCons, wp_aNil, wp_eCall, bLen_seq h, oq_some, List.append_nil]
  refine pick_ok ?_ hs fun k S' k0 k1 hs' kp => ?_
  · have : ((ds.length : Int).natAbs) = ds.length := by simp
    rw [this]
    have : ds.length.log2 < 62 := (Nat.log2_lt (by omega)).mpr hl
    omega
  · have hk : k.toNat < ds.length := by split at k1 <;> omega
    have e : k = ((k.toNat : Nat) : Int) := by omega
    rw [e]
    have hx : ds[k.toNat]? = some ds[k.toNat] := by simp [hk]
    rw [ix_seq (seqOf_Kp h kp h1 h2) (atI_nat hx)]
    exact hq _ _ (List.getElem_mem _) hs' kp

/-! ### the source made -/
theorem wp_pairs_nil {Q : List (D × D) → Store → Prop} : wp (pairsM [] ρ S) Q X ↔ Q [] S := Iff.rfl
theorem wp_pairs_cons {a b : F} {r : List (F × F)} {Q : List (D × D) → Store → Prop} : wp (pairsM ((a, b) :: r) ρ S) Q X ↔ wp (a ρ S) (fun x S1 => wp (b ρ S1) (fun y S2 => wp (pairsM r ρ S2) (fun l S3 => Q ((x, y) :: l) S3) X) X) X := by
  rw [pairsM]
  simp only [wp_bind, wp_ret]
theorem wp_eDisp {ps : List (F × F)} {Q : D → Store → Prop} (h : wp (pairsM ps ρ S) (fun l S1 => ∃ ks, keysOf l = some ks ∧ ks.length ≤ 15 ∧ Q (.ref S1.length) (S1 ++ [.dict (mergeD [] ks)])) X) : wp (eDisp ps ρ S) Q X := by
  unfold eDisp
  rw [wp_bind]
  refine wp_mono h (fun l S1 ⟨ks, h1, h2, h3⟩ => ?_) fun _ _ h => h
  simp only [h1, h2, if_true]
  exact h3
noncomputable def gSource : G := gSeq (gAsg (eC (.int 11)) (pName 1)) (gSeq (gFor (sSeq (eVar 0)) (pName 2)
  (gAsg (eBin dMod (eCall bInt (aCons (eBin dAdd (eBin dAdd (eBin dMul (eVar 1) (eC (.int 69069))) (eBin dMul (eVar 2) (eC (.int 31)))) (eC (.int 5))) aNil)) (eC (.int 2147483629))) (pName 1)))
  (gRet (eDisp [((eC (.str "cells")), (eUn oRev (eLc (sSeq (eVar 0)) (pName 2) tYes' (eCall bAbs (aCons (eVar 2) aNil)) [2]))), ((eC (.str "left")), (eC (.int 1))), ((eC (.str "mixed")), (eVar 1)), ((eC (.str "turn")), (eC (.int 0)))])))
noncomputable def semSource : List D → M D := semOf 3 gSource
theorem source_ok {a : Nat} {ns : List Int} {Q : D → Store → Prop} (ha : S[a]? = some (.ro (ns.map D.int))) (hl : ns.length ≤ sizeLine) (hq : ∀ r c t, S.length ≤ r → S.length ≤ c → Sc r c (S ++ t) → Q (.ref r) (S ++ t)) : wp (semSource [.ref a] S) Q X := by
  unfold semSource
  rw [wp_sem]
  unfold gSource
  show sp (gSeq _ _ [some (.ref a), none, none] S) _
  have hol : holds a (ns.map D.int) S := .inr ha
  simp only [sp_seq, sp_asg, wp_c, pName_eq, oq_some, List.set_cons_succ, List.set_cons_zero, sp_for]
  refine wp_sSeq ?_
  simp only [v0]
  refine .inr ⟨a, _, rfl, .inr ha, ?_⟩
  refine sp_forS (fun items ρ S' => S' = S ∧ (∃ x o, ρ = [some (.ref a), some (.int x), o]) ∧ ∀ d ∈ items, ∃ i : Int, d = .int i) (fun d ds ρ S' h => ?_) (fun ρ S' h => ?_) ⟨rfl, ⟨_, _, rfl⟩, fun d hd => by obtain ⟨i, _, rfl⟩ := List.mem_map.mp hd; exact ⟨i, rfl⟩⟩
  · obtain ⟨rfl, ⟨x, o, rfl⟩, hd⟩ := h
    obtain ⟨i, rfl⟩ := hd d (List.mem_cons_self ..)
    refine ⟨hol, ?_⟩
    simp only [pName_eq, oq_some, List.set_cons_succ, List.set_cons_zero, sp_asg, wp_bin, wp_eCall, wp_aCons, wp_aNil, v1, v2, wp_c, dMul_int (show (69069 : Int).natAbs < 2 ^ 64 by decide), dMul_int (show (31 : Int).natAbs < 2 ^ 64 by decide), dAdd_int, bInt_int, dMod_int (show (0 : Int) < 2147483629 by decide)]
    exact ⟨trivial, ⟨_, _, rfl⟩, fun d hd' => hd d (List.mem_cons_of_mem _ hd')⟩
  · obtain ⟨rfl, ⟨x, o, rfl⟩, _⟩ := h
    refine ⟨hol, ?_⟩
    simp only [sp_ret]
    refine wp_eDisp ?_
    simp only [wp_pairs_cons, wp_pairs_nil, wp_c, wp_un, v1]
    refine wp_eLc ?_
    refine wp_sSeq ?_
    simp only [v0]
    refine .inr ⟨a, _, rfl, .inr ha, by simpa using hl, ?_⟩
    refine wp_mono (wp_lcS (X := fun _ _ => False) (fun items acc S'' => S'' = S' ∧ (∀ d ∈ items, ∃ i : Int, d = .int i) ∧ ∃ cs : List Int, acc = cs.map D.int) (Q := fun acc S'' => S'' = S' ∧ ∃ cs : List Int, acc = cs.map D.int) (fun d ds acc S'' h => ?_) (fun acc S'' h => ⟨h.1 ▸ hol, h.1, h.2.2⟩) (acc := []) ⟨rfl, fun d hd => by obtain ⟨i, _, rfl⟩ := List.mem_map.mp hd; exact ⟨i, rfl⟩, [], rfl⟩) (fun ys S'' h => ?_) fun _ _ h => h
    · obtain ⟨rfl, hd, cs, rfl⟩ := h
      obtain ⟨i, rfl⟩ := hd d (List.mem_cons_self ..)
      refine ⟨hol, ?_⟩
      show oq (some ([some (D.ref a), some (.int x), some (.int i)], S'')) _
      simp only [oq_some]
      show wp (Res.ok true S'') _ _
      simp only [wp_ok, if_true, wp_eCall, wp_aCons, wp_aNil, v2, bAbs_int, oq_some]
      exact ⟨trivial, fun d hd' => hd d (List.mem_cons_of_mem _ hd'), cs ++ [_], by rw [List.map_append]; rfl⟩
    · obtain ⟨rfl, cs, h⟩ := h
      rw [List.nil_append] at h
      subst h
      have e1 : oRev (.ref S''.length) (S'' ++ [.lst (cs.map D.int)]) = some (.ref (S''.length + 1), (S'' ++ [.lst (cs.map D.int)]) ++ [.lst (cs.reverse.map D.int)]) := by
        simp [oRev, listOf]
      simp only [e1, oq_some]
      refine ⟨[(kCells, .ref (S''.length + 1)), (kLeft, .int 1), (kMixed, .int x), (kTurn, .int 0)], rfl, by show 4 ≤ 15; decide, ?_⟩
      have em : mergeD [] [(kCells, .ref (S''.length + 1)), (kLeft, .int 1), (kMixed, .int x), (kTurn, .int 0)] = srcD (S''.length + 1) 1 x 0 := rfl
      rw [em]
      have hq' := hq (S''.length + 2) (S''.length + 1) ([.lst (cs.map D.int)] ++ [.lst (cs.reverse.map D.int)] ++ [.dict (srcD (S''.length + 1) 1 x 0)]) (by omega) (by omega) ⟨1, x, 0, cs.reverse, by omega, by simp, by simp⟩
      simpa using hq'
end
end MP
set_option Elab.async false
set_option linter.all false
set_option maxRecDepth 100000
set_option maxHeartbeats 4000000
namespace MP
open PySem PySem.Spec PyProof.Rows L2

/-! ### more plain steps -/
section
variable {ρ : Env} {S : Store} {X : Exc → Store → Prop} {P : Pst}
@[simp] theorem wp_tYes {Q : Bool → Store → Prop} : wp (tYes' ρ S) Q X ↔ Q true S := Iff.rfl
@[simp] theorem dIs_non {x : D} : dIs x .non S = some (.bl (isNon x), S) := rfl
@[simp] theorem dIsNot_non {x : D} : dIsNot x .non S = some (.bl (!isNon x), S) := rfl
@[simp] theorem isNon_ref {r : Nat} : isNon (.ref r) = false := rfl
@[simp] theorem isNon_tup {r : List D} : isNon (.tup r) = false := rfl
@[simp] theorem isNon_int {r : Int} : isNon (.int r) = false := rfl
@[simp] theorem isNon_non : isNon .non = true := rfl
@[simp] theorem true_bl {b : Bool} : trueD (.bl b) S = some b := by cases b <;> rfl
theorem unp2 {i j : Nat} {d e : D} {Q : Env → Store → Prop} : oq (pUnp 2 (psCons (pName i) (psCons (pName j) psNil)) (.tup [d, e]) ρ S) Q ↔ Q ((ρ.set i (some d)).set j (some e)) S := Iff.rfl
theorem unp2r {i j r : Nat} {d e : D} {Q : Env → Store → Prop} (h : S[r]? = some (.lst [d, e])) : oq (pUnp 2 (psCons (pName i) (psCons (pName j) psNil)) (.ref r) ρ S) Q ↔ Q ((ρ.set i (some d)).set j (some e)) S := by
  simp only [pUnp, seqOf, listOf, h]
  exact Iff.rfl
theorem unp3r {i j k r : Nat} {d e g : D} {Q : Env → Store → Prop} (h : S[r]? = some (.lst [d, e, g])) : oq (pUnp 3 (psCons (pName i) (psCons (pName j) (psCons (pName k) psNil))) (.ref r) ρ S) Q ↔ Q (((ρ.set i (some d)).set j (some e)).set k (some g)) S := by
  simp only [pUnp, seqOf, listOf, h]
  exact Iff.rfl
/-- a comprehension that changes nothing -/
theorem lc_plain {α : Type} {p : Pat} {tt : T} {te : F} {ok : Store → Prop} {enc h : α → D} {f : α → Bool} {Q : List D → Store → Prop} {l : List α} (hok : ok S)
    (step : ∀ x ∈ l, oq (p (enc x) ρ S) fun ρ1 S1 => S1 = S ∧ wp (tt ρ1 S) (fun k S2 => k = f x ∧ S2 = S) (fun _ _ => False) ∧ (f x = true → wp (te ρ1 S) (fun y S3 => y = h x ∧ S3 = S) fun _ _ => False)) (hq : Q ((l.filter f).map h) S) : wp (lcS p tt te ok ρ (l.map enc) S) Q X := by
  suffices e : lcS p tt te ok ρ (l.map enc) S = .ok ((l.filter f).map h) S by rw [e]; exact hq
  clear hq
  induction l with
  | nil => rw [List.map_nil, lcS, if_pos hok]; rfl
  | cons x l ih =>
    have h1 := step x (List.mem_cons_self ..)
    have ih := ih fun y hy => step y (List.mem_cons_of_mem _ hy)
    rw [List.map_cons, lcS, if_pos hok]
    cases e : p (enc x) ρ S with
    | none => rw [e] at h1; exact h1.elim
    | some w =>
      obtain ⟨ρ1, S1⟩ := w
      rw [e] at h1
      obtain ⟨rfl, h2, h3⟩ := h1
      simp only [bind]
      cases e2 : tt ρ1 S1 with
      | exc _ _ => rw [e2] at h2; exact h2.elim
      | bad => rw [e2] at h2; exact h2.elim
      | ok k S2 =>
        rw [e2] at h2
        obtain ⟨rfl, rfl⟩ := h2
        simp only
        rw [List.filter_cons]
        cases hf : f x with
        | false => simp only [Bool.false_eq_true, if_false]; exact ih
        | true =>
          simp only [if_true]
          have h3 := h3 hf
          cases e3 : te ρ1 S2 with
          | exc _ _ => rw [e3] at h3; exact h3.elim
          | bad => rw [e3] at h3; exact h3.elim
          | ok y S3 =>
            rw [e3] at h3
            obtain ⟨rfl, rfl⟩ := h3
            simp only [bind, e3, ih, ret, List.map_cons]
/-- one that only adds to the store -/
theorem lc_adds {α : Type} {p : Pat} {tt : T} {te : F} {ok : Store → Prop} {enc : α → D} {Q : List D → Store → Prop} {l : List α} (J : List D → Store → Prop)
    (hok : ∀ acc S, J acc S → ok S) (step : ∀ x ∈ l, ∀ acc S, J acc S → oq (p (enc x) ρ S) fun ρ1 S1 => wp (tt ρ1 S1) (fun k S2 => if k = true then wp (te ρ1 S2) (fun y S3 => J (acc ++ [y]) S3) X else J acc S2) X) (h0 : J [] S) (hq : ∀ acc S, J acc S → Q acc S) : wp (lcS p tt te ok ρ (l.map enc) S) Q X := by
  have := wp_lcS (X := X) (p := p) (tt := tt) (te := te) (ok := ok) (ρ := ρ) (Q := Q) (fun items acc S => (∃ l', items = l'.map enc ∧ ∀ x ∈ l', x ∈ l) ∧ J acc S) (fun d ds acc S h => ?_) (fun acc S h => ⟨hok _ _ h.2, hq _ _ h.2⟩) (items := l.map enc) (acc := []) (S := S) ⟨⟨l, rfl, fun _ h => h⟩, h0⟩
  · simpa using this
  · obtain ⟨⟨l', e, hl⟩, hJ⟩ := h
    cases l' with
    | nil => cases e
    | cons x l' =>
      rw [List.map_cons] at e
      cases e
      refine ⟨hok _ _ hJ, ?_⟩
      have h1 := step x (hl x (List.mem_cons_self ..)) acc S hJ
      have hl' : ∃ l'' : List α, l'.map enc = l''.map enc ∧ ∀ x ∈ l'', x ∈ l := ⟨l', rfl, fun y hy => hl y (List.mem_cons_of_mem _ hy)⟩
      cases e1 : p (enc x) ρ S with
      | none => rw [e1] at h1; exact h1.elim
      | some w =>
        obtain ⟨ρ1, S1⟩ := w
        rw [e1] at h1
        simp only [oq_some] at h1 ⊢
        refine wp_mono h1 (fun k S2 h2 => ?_) fun _ _ h => h
        cases k with
        | false => exact ⟨hl', h2⟩
        | true =>
          simp only [if_true] at h2 ⊢
          exact wp_mono h2 (fun y S3 h3 => ⟨hl', h3⟩) fun _ _ h => h
/-- a loop over items made from a list -/
theorem for_over {α : Type} {p : Pat} {b : G} {ok : Store → Prop} {enc : α → D} {l : List α} (I : List α → Env → Store → Prop)
    (step : ∀ x r ρ S, I (x :: r) ρ S → ok S ∧ oq (p (enc x) ρ S) fun ρ1 S1 => sp (b ρ1 S1) ⟨I r, P.R, P.N, I r, P.X⟩) (stop : ∀ ρ S, I [] ρ S → ok S ∧ P.N ρ S) (h : I l ρ S) : sp (forS p b ok (l.map enc) ρ S) P := by
  refine sp_forS (fun items ρ S => ∃ r, items = r.map enc ∧ I r ρ S) (fun d ds ρ S h => ?_) (fun ρ S h => ?_) ⟨l, rfl, h⟩
  · obtain ⟨r, e, hI⟩ := h
    cases r with
    | nil => cases e
    | cons x r =>
      rw [List.map_cons] at e
      cases e
      obtain ⟨h1, h2⟩ := step x r ρ S hI
      refine ⟨h1, ?_⟩
      cases e1 : p (enc x) ρ S with
      | none => rw [e1] at h2; exact h2.elim
      | some w =>
        rw [e1] at h2
        obtain ⟨ρ1, S1⟩ := w
        simp only [oq_some] at h2 ⊢
        exact sp_mono h2 (fun _ _ h => ⟨r, rfl, h⟩) (fun _ _ h => h) (fun _ _ h => h) (fun _ _ h => ⟨r, rfl, h⟩) fun _ _ _ h => h
  · obtain ⟨r, e, hI⟩ := h
    cases r with
    | nil => exact stop ρ S hI
    | cons _ _ => cases e
end
/-! ### the same data -/
theorem eqv_int {i j : Int} : PyData.eqv (.int i) (.int j) = decide (i = j) := by
  rw [PyData.eqv]
  by_cases h : i = j <;> simp [h]
theorem eqvAll_map {α : Type} [DecidableEq α] {f : α → PyData} (h : ∀ x y, PyData.eqv (f x) (f y) = decide (x = y)) : ∀ (l m : List α), PyData.eqvAll (l.map f) (m.map f) = decide (l = m)
  | [], [] => by simp [PyData.eqvAll]
  | [], _ :: _ => by simp [PyData.eqvAll]
  | _ :: _, [] => by simp [PyData.eqvAll]
  | x :: l, y :: m => by
    rw [List.map_cons, List.map_cons, PyData.eqvAll, h, eqvAll_map h]
    by_cases h1 : x = y <;> by_cases h2 : l = m <;> simp [h1, h2]
theorem eqD_tup {a b : D} {xs : List D} {p q : PyData} {S : Store} (ha : a = .tup xs) (h1 : toPy cap S a = some p) (h2 : toPy cap S b = some q) : eqD a b S = some (PyData.eqv p q) := by
  subst ha
  unfold eqD
  simp only [h1, h2]
theorem eqD_ref {a b : D} {r : Nat} {p q : PyData} {S : Store} (ha : a = .ref r) (h1 : toPy cap S a = some p) (h2 : toPy cap S b = some q) : eqD a b S = some (PyData.eqv p q) := by
  subst ha
  unfold eqD
  simp only [h1, h2]
@[simp] theorem eqD_int {i j : Int} {S : Store} : eqD (.int i) (.int j) S = some (decide (i = j)) := by
  unfold eqD
  simp only [show toPy cap S (.int i) = some (.int i) from rfl, show toPy cap S (.int j) = some (.int j) from rfl, eqv_int]
@[simp] theorem eqD_bl {i j : Bool} {S : Store} : eqD (.bl i) (.bl j) S = some (i == j) := by
  unfold eqD
  simp only [show toPy cap S (.bl i) = some (.bool i) from rfl, show toPy cap S (.bl j) = some (.bool j) from rfl]
  rw [PyData.eqv]
theorem dEq_of {a b : D} {S : Store} {k : Bool} (h : eqD a b S = some k) : dEq a b S = some (.bl k, S) := by unfold dEq; rw [h]; rfl
theorem dNe_of {a b : D} {S : Store} {k : Bool} (h : eqD a b S = some k) : dNe a b S = some (.bl (!k), S) := by unfold dNe; rw [h]; rfl
@[simp] theorem dEq_int {i j : Int} {S : Store} : dEq (.int i) (.int j) S = some (.bl (decide (i = j)), S) := dEq_of eqD_int
@[simp] theorem dNe_int {i j : Int} {S : Store} : dNe (.int i) (.int j) S = some (.bl (!decide (i = j)), S) := dNe_of eqD_int
@[simp] theorem dEq_bl {i j : Bool} {S : Store} : dEq (.bl i) (.bl j) S = some (.bl (i == j), S) := dEq_of eqD_bl
@[simp] theorem dNe_bl {i j : Bool} {S : Store} : dNe (.bl i) (.bl j) S = some (.bl (!(i == j)), S) := dNe_of eqD_bl
theorem Pu.id {α : Type} {a : α} {S : Store} {m : M α} (h : m S = .ok a S) : Pu m a S := ⟨[], by rw [List.append_nil]; exact h⟩
theorem sp_try {gb : G} {cs : List (Str × Bool)} {i : Nat} {gs : Addr → Addr → G} {ρ : Env} {S : Store} {P : Pst}
    (h : sp (gb ρ S) ⟨P.N, P.R, P.B, P.C, fun x ρ' S' => (cs.lookup x.cls = some true ∧ ∃ r, (∀ a d, clearS i (gs a d (ρ'.set i (some (.err a d x.fs))) S') = r) ∧ sp r P) ∨ (cs.lookup x.cls = some false ∧ P.X x ρ' S')⟩) : sp (gTry gb cs i gs ρ S) P := by
  unfold gTry
  cases e : gb ρ S with
  | next _ _ => rw [e] at h; exact h
  | ret _ _ => rw [e] at h; exact h
  | brk _ _ => rw [e] at h; exact h
  | cont _ _ => rw [e] at h; exact h
  | bad => rw [e] at h; exact h
  | exc x ρ' S' =>
    rw [e] at h
    rcases h with ⟨h1, r, h2, h3⟩ | ⟨h1, h2⟩
    · simp only [h1]
      unfold gHandle
      rw [if_pos (fun a d => (h2 a d).trans (h2 0 0).symm)]
      show sp (clearS i (gs 0 0 (ρ'.set i (some (.err 0 0 x.fs))) S')) P
      rw [h2]
      exact h3
    · simp only [h1]
      exact h2
theorem sret_of {r : SRes} {v : D} {S0 : Store} (h : sp r ⟨fun _ _ => False, fun d S => d = v ∧ S = S0, fun _ _ => False, fun _ _ => False, fun _ _ _ => False⟩) : r = .ret v S0 := by
  cases r with
  | ret d S => obtain ⟨rfl, rfl⟩ := h; rfl
  | _ => exact h.elim
theorem wp_eXf {i : Nat} {a d : Addr} {fs : List (Str × D)} {f : Str} {v : D} {ρ : Env} {S : Store} {Q : D → Store → Prop} {X : Exc → Store → Prop} (h : ρ[i]? = some (some (.err a d fs))) (h2 : fs.lookup f = some v) : wp (eXf a d f (eVar i) ρ S) Q X ↔ Q v S := by
  unfold eXf
  rw [wp_bind, wp_var h]
  simp only [and_self, if_true, h2, wp_ret]
end MP
set_option Elab.async false
set_option linter.all false
set_option maxRecDepth 100000
set_option maxHeartbeats 4000000
namespace ML
/-! ### lengths as lists of power and count -/
abbrev L := List (Int × Int)
def hi (a : L) (p : Int) : L := a.filter fun x => decide (p < x.1)
def eqs (a : L) (p : Int) : L := a.filter fun x => decide (x.1 = p)
def coef (a : L) (p : Int) : Int := ((eqs a p).map (·.2)).sum
def thenL (a : L) : L → L
  | [] => a
  | (p, m) :: r => hi a p ++ (p, m + coef a p) :: r
def Desc (l : L) : Prop := l.Pairwise fun x y => y.1 < x.1
def Pos (l : L) : Prop := ∀ x ∈ l, 0 ≤ x.1 ∧ 0 < x.2
structure Ok (l : L) : Prop where
  desc : Desc l
  pos : Pos l
theorem Ok.nil : Ok [] := ⟨List.Pairwise.nil, fun _ h => by cases h⟩
theorem Ok.tail {x : Int × Int} {l : L} (h : Ok (x :: l)) : Ok l := ⟨(List.pairwise_cons.mp h.desc).2, fun y hy => h.pos y (List.mem_cons_of_mem _ hy)⟩
theorem Ok.lt {x : Int × Int} {l : L} (h : Ok (x :: l)) : ∀ y ∈ l, y.1 < x.1 := (List.pairwise_cons.mp h.desc).1
theorem Ok.head {x : Int × Int} {l : L} (h : Ok (x :: l)) : 0 ≤ x.1 ∧ 0 < x.2 := h.pos x (List.mem_cons_self ..)
theorem Ok.cons {x : Int × Int} {l : L} (h : Ok l) (h1 : ∀ y ∈ l, y.1 < x.1) (h2 : 0 ≤ x.1) (h3 : 0 < x.2) : Ok (x :: l) :=
  ⟨List.pairwise_cons.mpr ⟨h1, h.desc⟩, fun y hy => by rcases List.mem_cons.mp hy with rfl | hy; exact ⟨h2, h3⟩; exact h.pos y hy⟩
theorem hi_nil {p : Int} : hi [] p = [] := rfl
theorem coef_nil {p : Int} : coef [] p = 0 := rfl
theorem hi_cons {x : Int × Int} {l : L} {p : Int} : hi (x :: l) p = if p < x.1 then x :: hi l p else hi l p := by
  unfold hi
  rw [List.filter_cons]
  by_cases h : p < x.1 <;> simp [h]
theorem coef_cons {x : Int × Int} {l : L} {p : Int} : coef (x :: l) p = if x.1 = p then x.2 + coef l p else coef l p := by
  unfold coef eqs
  rw [List.filter_cons]
  by_cases h : x.1 = p <;> simp [h]
theorem hi_none {l : L} {p : Int} (h : ∀ x ∈ l, x.1 ≤ p) : hi l p = [] := by
  unfold hi
  rw [List.filter_eq_nil_iff]
  intro x hx
  have := h x hx
  simp; omega
theorem coef_none {l : L} {p : Int} (h : ∀ x ∈ l, x.1 ≠ p) : coef l p = 0 := by
  unfold coef eqs
  rw [List.filter_eq_nil_iff.mpr (fun x hx => by simp [h x hx])]
  rfl
theorem hi_all {l : L} {p : Int} (h : ∀ x ∈ l, p < x.1) : hi l p = l := by
  unfold hi
  rw [List.filter_eq_self]
  intro x hx
  simp [h x hx]
theorem coef_app {a b : L} {p : Int} : coef (a ++ b) p = coef a p + coef b p := by
  unfold coef eqs
  rw [List.filter_append, List.map_append, List.sum_append]
theorem hi_app {a b : L} {p : Int} : hi (a ++ b) p = hi a p ++ hi b p := by
  unfold hi
  rw [List.filter_append]
theorem hi_hi {a : L} {p q : Int} (h : p ≤ q) : hi (hi a p) q = hi a q := by
  unfold hi
  rw [List.filter_filter]
  congr 1
  funext x
  by_cases h1 : q < x.1
  · have : p < x.1 := by omega
    simp [h1, this]
  · simp [h1]
theorem coef_hi {a : L} {p q : Int} : coef (hi a p) q = if p < q then coef a q else 0 := by
  unfold coef eqs hi
  rw [List.filter_filter]
  by_cases h : p < q
  · rw [if_pos h]
    congr 2
    apply List.filter_congr
    intro x _
    by_cases h1 : x.1 = q
    · simp [h1, h]
    · simp [h1]
  · rw [if_neg h]
    rw [List.filter_eq_nil_iff.mpr]
    · rfl
    · intro x _
      simp
      intro h1; omega
theorem mem_hi {a : L} {p : Int} {x : Int × Int} : x ∈ hi a p ↔ x ∈ a ∧ p < x.1 := by
  unfold hi
  simp
theorem coef_nonneg {a : L} (h : Pos a) (p : Int) : 0 ≤ coef a p := by
  induction a with
  | nil => exact Int.le_refl _
  | cons x l ih =>
    have h1 := h x (List.mem_cons_self ..)
    have h2 := ih fun y hy => h y (List.mem_cons_of_mem _ hy)
    rw [coef_cons]
    split <;> omega
theorem then_nil {a : L} : thenL a [] = a := rfl
theorem then_cons {a r : L} {p m : Int} : thenL a ((p, m) :: r) = hi a p ++ (p, m + coef a p) :: r := rfl
theorem nil_then {b : L} : thenL [] b = b := by
  cases b with
  | nil => rfl
  | cons x r => obtain ⟨p, m⟩ := x; rw [then_cons, hi_nil, coef_nil]; simp
theorem ok_then {a b : L} (ha : Ok a) (hb : Ok b) : Ok (thenL a b) := by
  cases b with
  | nil => exact ha
  | cons x r =>
    obtain ⟨p, m⟩ := x
    rw [then_cons]
    have hc := coef_nonneg ha.pos p
    have hh := hb.head
    refine ⟨?_, fun y hy => ?_⟩
    · unfold Desc
      rw [List.pairwise_append]
      refine ⟨ha.desc.sublist List.filter_sublist, List.pairwise_cons.mpr ⟨hb.lt, hb.tail.desc⟩, fun x hx y hy => ?_⟩
      have h1 := (mem_hi.mp hx).2
      rcases List.mem_cons.mp hy with rfl | hy
      · exact h1
      · have := hb.lt y hy
        simp at this
        omega
    · rcases List.mem_append.mp hy with hy | hy
      · exact ha.pos y (mem_hi.mp hy).1
      · rcases List.mem_cons.mp hy with rfl | hy
        · simp at hh ⊢; omega
        · exact hb.tail.pos y hy
theorem then_assoc {a b c : L} (hb : Ok b) (hc : Ok c) : thenL a (thenL b c) = thenL (thenL a b) c := by
  cases c with
  | nil => rfl
  | cons y s =>
    obtain ⟨q, n⟩ := y
    cases b with
    | nil => rw [then_nil, nil_then]
    | cons x r =>
      obtain ⟨p, m⟩ := x
      have hr : ∀ y ∈ r, y.1 < p := hb.lt
      rcases Int.lt_trichotomy q p with h | h | h
      · have e1 : thenL ((p, m) :: r) ((q, n) :: s) = (p, m) :: (hi r q ++ (q, n + coef r q) :: s) := by
          rw [then_cons, hi_cons, if_pos h, coef_cons, if_neg (show (p, m).1 ≠ q from by simp; omega)]
          rfl
        have e2 : hi (hi a p) q = hi a p := hi_all fun x hx => by have := (mem_hi.mp hx).2; omega
        rw [e1, then_cons, then_cons, then_cons, hi_app, e2, hi_cons, if_pos h, coef_app, coef_hi, if_neg (by omega), coef_cons, if_neg (show (p, m + coef a p).1 ≠ q from by simp; omega)]
        simp
      · subst h
        have e1 : hi r q = [] := hi_none fun x hx => Int.le_of_lt (hr x hx)
        have e2 : coef r q = 0 := coef_none fun x hx => by have := hr x hx; omega
        have e3 : hi (hi a q) q = hi a q := hi_hi (Int.le_refl _)
        rw [then_cons, then_cons, then_cons, hi_cons, if_neg (by simp), e1, coef_cons, if_pos rfl, e2, hi_app, e3, hi_cons, if_neg (by simp), e1, coef_app, coef_hi, if_neg (by omega), coef_cons, if_pos rfl, e2]
        simp only [List.nil_append, List.append_nil, then_cons]
        congr 3
        omega
      · have e1 : hi r q = [] := hi_none fun x hx => by have := hr x hx; omega
        have e2 : coef r q = 0 := coef_none fun x hx => by have := hr x hx; omega
        rw [then_cons, then_cons, then_cons, hi_cons, if_neg (by simp; omega), e1, coef_cons, if_neg (by simp; omega), e2, hi_app, hi_hi (Int.le_of_lt h), hi_cons, if_neg (by simp; omega), e1, coef_app, coef_hi, if_pos h, coef_cons, if_neg (by simp; omega), e2]
        simp only [List.nil_append, List.append_nil, then_cons]
        congr 3
        omega
/-! ### taken up one by one -/
def stepL (acc : L) (x : Int × Int) : L := if 0 < x.2 then thenL acc [x] else acc
def putL (ps : L) : L := ps.foldl stepL []
theorem fold_app : ∀ {r X : L}, (∀ x ∈ X, ∀ y ∈ r, y.1 < x.1) → Desc r → (∀ y ∈ r, 0 < y.2) → r.foldl stepL X = X ++ r
  | [], X, _, _, _ => by simp
  | y :: r, X, h, d, p => by
    obtain ⟨q, n⟩ := y
    have d' := List.pairwise_cons.mp d
    have h1 : ∀ x ∈ X, q < x.1 := fun x hx => h x hx _ (List.mem_cons_self ..)
    have e : stepL X (q, n) = X ++ [(q, n)] := by
      unfold stepL
      rw [if_pos (p _ (List.mem_cons_self ..)), then_cons, hi_all h1, coef_none fun x hx => by have := h1 x hx; omega]
      simp
    rw [List.foldl_cons, e, fold_app (X := X ++ [(q, n)]) (fun x hx y hy => ?_) d'.2 fun y hy => p y (List.mem_cons_of_mem _ hy)]
    · simp
    · rcases List.mem_append.mp hx with hx | hx
      · exact h x hx y (List.mem_cons_of_mem _ hy)
      · rw [List.mem_singleton.mp hx]; exact d'.1 y hy
theorem fold_then {a b : L} (hb : Ok b) : b.foldl stepL a = thenL a b := by
  cases b with
  | nil => rfl
  | cons x r =>
    obtain ⟨p, m⟩ := x
    have hh := hb.head
    have e : stepL a (p, m) = hi a p ++ [(p, m + coef a p)] := by
      unfold stepL
      rw [if_pos hh.2, then_cons]
    rw [List.foldl_cons, e, fold_app (fun x hx y hy => ?_) hb.tail.desc fun y hy => (hb.tail.pos y hy).2]
    · rw [then_cons]; simp
    · have hy' := hb.lt y hy
      rcases List.mem_append.mp hx with hx | hx
      · have := (mem_hi.mp hx).2
        simp at hy'
        omega
      · rw [List.mem_singleton.mp hx]; exact hy'
theorem put_ok {b : L} (hb : Ok b) : putL b = b := by
  unfold putL
  rw [fold_then hb, nil_then]
theorem put_app {a b : L} : putL (a ++ b) = b.foldl stepL (putL a) := by
  unfold putL
  rw [List.foldl_append]
theorem put_two {a b : L} (ha : Ok a) (hb : Ok b) : putL (a ++ b) = thenL a b := by
  rw [put_app, put_ok ha, fold_then hb]
theorem put_three {a b c : L} (ha : Ok a) (hb : Ok b) (hc : Ok c) : putL (a ++ b ++ c) = thenL (thenL a b) c := by
  rw [put_app, put_two ha hb, fold_then hc]
theorem Ok.one {x : Int × Int} (h : 0 ≤ x.1) (h2 : 0 < x.2) : Ok [x] := Ok.nil.cons (fun _ h => by cases h) h h2
theorem ok_fold : ∀ {ps acc : L}, Ok acc → (∀ x ∈ ps, 0 ≤ x.1) → Ok (ps.foldl stepL acc)
  | [], _, h, _ => h
  | x :: ps, acc, h, k => by
    rw [List.foldl_cons]
    refine ok_fold ?_ fun y hy => k y (List.mem_cons_of_mem _ hy)
    unfold stepL
    split
    · rename_i h2
      exact ok_then h (Ok.one (k x (List.mem_cons_self ..)) h2)
    · exact h
theorem ok_put {ps : L} (h : ∀ x ∈ ps, 0 ≤ x.1) : Ok (putL ps) := ok_fold Ok.nil h
/-- told of pairs, some of no count -/
def toldL (ps : L) : L := ((ps.filter fun x => decide (0 < x.2)).map fun x => [x]).foldl thenL []
theorem told_put' : ∀ (ps acc : L), ((ps.filter fun x => decide (0 < x.2)).map fun x => [x]).foldl thenL acc = ps.foldl stepL acc
  | [], _ => rfl
  | x :: ps, acc => by
    rw [List.filter_cons, List.foldl_cons]
    by_cases h : 0 < x.2
    · have e : stepL acc x = thenL acc [x] := if_pos h
      rw [e]
      simp only [h, decide_true, if_true, List.map_cons, List.foldl_cons]
      exact told_put' _ _
    · have e : stepL acc x = acc := if_neg h
      rw [e]
      simp only [h, decide_false, Bool.false_eq_true, if_false]
      exact told_put' _ _
theorem told_put (ps : L) : toldL ps = putL ps := told_put' ps []

/-! ### the order -/
def ordL : L → L → Int
  | [], [] => 0
  | [], _ :: _ => -1
  | _ :: _, [] => 1
  | x :: xs, y :: ys => if x = y then ordL xs ys else if y.1 < x.1 ∨ (x.1 = y.1 ∧ y.2 < x.2) then 1 else -1
theorem ord_self : ∀ (a : L), ordL a a = 0
  | [] => rfl
  | x :: xs => by rw [ordL, if_pos rfl, ord_self]
theorem ord_swap : ∀ (a b : L), ordL b a = -ordL a b
  | [], [] => rfl
  | [], _ :: _ => rfl
  | _ :: _, [] => rfl
  | (p, m) :: xs, (q, n) :: ys => by
    rw [ordL, ordL]
    by_cases h : (p, m) = (q, n)
    · rw [if_pos h, if_pos h.symm, ord_swap]
    · rw [if_neg h, if_neg fun e => h e.symm]
      have : ¬ (p = q ∧ m = n) := fun e => h (by rw [e.1, e.2])
      simp only
      by_cases h1 : q < p ∨ (p = q ∧ n < m)
      · rw [if_pos h1, if_neg (by omega)]
      · rw [if_neg h1, if_pos (by omega)]; rfl
theorem ord_three : ∀ (a b : L), ordL a b = 0 ∨ ordL a b = 1 ∨ ordL a b = -1
  | [], [] => .inl rfl
  | [], _ :: _ => .inr (.inr rfl)
  | _ :: _, [] => .inr (.inl rfl)
  | x :: xs, y :: ys => by
    rw [ordL]
    split
    · exact ord_three xs ys
    · split
      · exact .inr (.inl rfl)
      · exact .inr (.inr rfl)
theorem ord_zero : ∀ {a b : L}, ordL a b = 0 → a = b
  | [], [], _ => rfl
  | [], _ :: _, h => by cases h
  | _ :: _, [], h => by cases h
  | x :: xs, y :: ys, h => by
    rw [ordL] at h
    split at h
    · rename_i e
      rw [e, ord_zero h]
    · split at h <;> cases h
theorem ord_pre : ∀ (x a b : L), ordL (x ++ a) (x ++ b) = ordL a b
  | [], _, _ => rfl
  | y :: x, a, b => by rw [List.cons_append, List.cons_append, ordL, if_pos rfl, ord_pre]
/-- what stands at or below p -/
def lo (a : L) (p : Int) : L := a.filter fun x => decide (x.1 ≤ p)
theorem hi_lo : ∀ {a : L} {p : Int}, Desc a → a = hi a p ++ lo a p
  | [], _, _ => rfl
  | x :: a, p, d => by
    have d' := List.pairwise_cons.mp d
    rw [hi_cons]
    unfold lo
    rw [List.filter_cons]
    by_cases h : p < x.1
    · rw [if_pos h, if_neg (by simp; omega), List.cons_append]
      congr 1
      exact hi_lo d'.2
    · rw [if_neg h, if_pos (by simp; omega), hi_none fun y hy => by have := d'.1 y hy; omega]
      rw [List.nil_append]
      congr 1
      symm
      rw [List.filter_eq_self]
      intro y hy
      have := d'.1 y hy
      simp; omega
theorem mem_lo {a : L} {p : Int} {x : Int × Int} : x ∈ lo a p ↔ x ∈ a ∧ x.1 ≤ p := by
  unfold lo
  simp
theorem coef_lo {a : L} {p : Int} : coef (lo a p) p = coef a p := by
  unfold coef eqs lo
  rw [List.filter_filter]
  congr 2
  apply List.filter_congr
  intro x _
  by_cases h1 : x.1 = p
  · simp [h1]
  · simp [h1]
/-- below a count more at p -/
theorem ord_lo {a r : L} {p m : Int} (ha : Ok a) (hm : 0 < m) : ordL (lo a p) ((p, m + coef a p) :: r) = -1 := by
  rw [← coef_lo]
  have hd : Desc (lo a p) := ha.desc.sublist List.filter_sublist
  have hle : ∀ x ∈ lo a p, x.1 ≤ p := fun x hx => (mem_lo.mp hx).2
  generalize lo a p = b at hd hle ⊢
  cases b with
  | nil => rfl
  | cons x b =>
    obtain ⟨q, n⟩ := x
    have hq : q ≤ p := hle _ (List.mem_cons_self ..)
    have hb : ∀ y ∈ b, y.1 < q := (List.pairwise_cons.mp hd).1
    rw [coef_cons]
    by_cases h : q = p
    · rw [if_pos h, coef_none fun y hy => by have := hb y hy; omega]
      rw [ordL, if_neg (by simp; omega), if_neg (by simp; omega)]
    · rw [if_neg h, ordL, if_neg (by simp; intro e; exact absurd e h), if_neg (by simp; omega)]
theorem ord_then_lt {a b : L} (ha : Ok a) (hb : Ok b) (h : b ≠ []) : ordL a (thenL a b) = -1 := by
  cases b with
  | nil => exact absurd rfl h
  | cons x r =>
    obtain ⟨p, m⟩ := x
    rw [then_cons]
    conv => lhs; arg 1; rw [hi_lo (p := p) ha.desc]
    rw [ord_pre]
    exact ord_lo ha hb.head.2
theorem ord_then {a b c : L} (ha : Ok a) (hb : Ok b) (hc : Ok c) : ordL (thenL a b) (thenL a c) = ordL b c := by
  have lt : ∀ {p m q n : Int} {r s : L}, p < q → 0 < n → ordL (thenL a ((p, m) :: r)) (thenL a ((q, n) :: s)) = -1 := fun {p m q n r s} h hn => by
    rw [then_cons, then_cons]
    have e : hi a p = hi a q ++ lo (hi a p) q := by
      conv => lhs; rw [hi_lo (a := hi a p) (p := q) (ha.desc.sublist List.filter_sublist), hi_hi (Int.le_of_lt h)]
    rw [e, List.append_assoc, ord_pre]
    have ok2 : Ok (hi a p) := ⟨ha.desc.sublist List.filter_sublist, fun x hx => ha.pos x (mem_hi.mp hx).1⟩
    have e2 : coef a q = coef (hi a p) q := by rw [coef_hi, if_pos h]
    rw [e2]
    have hd : Desc (lo (hi a p) q) := ok2.desc.sublist List.filter_sublist
    have hle : ∀ x ∈ lo (hi a p) q, x.1 ≤ q := fun x hx => (mem_lo.mp hx).2
    rw [← coef_lo (a := hi a p) (p := q)]
    generalize lo (hi a p) q = b at hd hle ⊢
    cases b with
    | nil =>
      rw [List.nil_append, ordL, if_neg (by simp; omega), if_neg (by simp; omega)]
    | cons x b =>
      obtain ⟨q', n'⟩ := x
      have hq : q' ≤ q := hle _ (List.mem_cons_self ..)
      have hb : ∀ y ∈ b, y.1 < q' := (List.pairwise_cons.mp hd).1
      rw [coef_cons, List.cons_append]
      by_cases h : q' = q
      · rw [if_pos h, coef_none (l := b) fun y hy => by have := hb y hy; omega]
        rw [ordL, if_neg (by simp; omega), if_neg (by simp; omega)]
      · rw [if_neg h, ordL, if_neg (by simp; intro e; exact absurd e h), if_neg (by simp; omega)]
  cases b with
  | nil =>
    cases c with
    | nil => rw [ord_self, ord_self]
    | cons y s => rw [then_nil, ord_then_lt ha hc (by simp)]; rfl
  | cons x r =>
    obtain ⟨p, m⟩ := x
    cases c with
    | nil => rw [then_nil, ord_swap, ord_then_lt ha hb (by simp)]; rfl
    | cons y s =>
      obtain ⟨q, n⟩ := y
      have hm := hb.head.2
      have hn := hc.head.2
      simp only at hm hn
      rcases Int.lt_trichotomy p q with h | h | h
      · rw [lt h hn, ordL, if_neg (by simp; omega), if_neg (by simp; omega)]
      · subst h
        rw [then_cons, then_cons, ord_pre, ordL, ordL]
        by_cases h : m = n
        · rw [if_pos (by rw [h]), if_pos (by rw [h])]
        · have h1 : ¬ ((p, m + coef a p) = (p, n + coef a p)) := by simp; omega
          have h2 : ¬ ((p, m) = (p, n)) := by simp; omega
          rw [if_neg h1, if_neg h2]
          by_cases h3 : n < m
          · have h4 : (p < p ∨ (p = p ∧ n + coef a p < m + coef a p)) := by omega
            have h5 : (p < p ∨ (p = p ∧ n < m)) := by omega
            rw [if_pos h4, if_pos h5]
          · have h4 : ¬ (p < p ∨ (p = p ∧ n + coef a p < m + coef a p)) := by omega
            have h5 : ¬ (p < p ∨ (p = p ∧ n < m)) := by omega
            rw [if_neg h4, if_neg h5]
      · rw [ord_swap, lt h hm, ordL, if_neg (by simp; omega), if_pos (by simp; omega)]; rfl
/-- b below c: b then a is not above c then a -/
theorem then_mono {a : L} (ha : Ok a) : ∀ {b c : L}, Ok b → Ok c → ordL b c = -1 → ordL (thenL b a) (thenL c a) ≠ 1 := by
  cases a with
  | nil => intro b c _ _ h; rw [then_nil, then_nil, h]; decide
  | cons x r =>
    obtain ⟨p, m⟩ := x
    have hm := ha.head.2
    simp only at hm
    have low : ∀ {b : L}, (∀ x ∈ b, x.1 < p) → thenL b ((p, m) :: r) = (p, m) :: r := fun {b} h => by
      rw [then_cons, hi_none fun x hx => Int.le_of_lt (h x hx), coef_none fun x hx => by have := h x hx; omega]
      simp
    have at_ : ∀ {b : L} {k : Int}, (∀ x ∈ b, x.1 < p) → thenL ((p, k) :: b) ((p, m) :: r) = (p, m + k) :: r := fun {b k} h => by
      rw [then_cons, hi_cons, if_neg (by simp), hi_none fun x hx => Int.le_of_lt (h x hx), coef_cons, if_pos rfl, coef_none fun x hx => by have := h x hx; omega]
      simp
    have up : ∀ {b : L} {q k : Int}, p < q → thenL ((q, k) :: b) ((p, m) :: r) = (q, k) :: thenL b ((p, m) :: r) := fun {b q k} h => by
      rw [then_cons, then_cons, hi_cons, if_pos h, coef_cons, if_neg (by simp; omega)]
      rfl
    intro b
    induction b with
    | nil =>
      intro c _ hc h
      cases c with
      | nil => cases h
      | cons y c =>
        obtain ⟨q, k⟩ := y
        have hl := hc.lt
        have hk := hc.head.2
        simp only at hl hk
        rw [nil_then]
        rcases Int.lt_trichotomy q p with g | g | g
        · rw [low fun x hx => by rcases List.mem_cons.mp hx with rfl | hx; exact g; have := hl x hx; omega, ord_self]; decide
        · subst g
          rw [at_ hl, ordL, if_neg (by simp; omega), if_neg (by simp; omega)]; decide
        · rw [up g, ordL, if_neg (by simp; omega), if_neg (by simp; omega)]; decide
    | cons x b ih =>
      intro c hb hc h
      obtain ⟨p1, m1⟩ := x
      cases c with
      | nil => rw [ordL] at h; cases h
      | cons y c =>
        obtain ⟨q, k⟩ := y
        have hlb := hb.lt
        have hlc := hc.lt
        have hkb := hb.head.2
        have hkc := hc.head.2
        simp only at hlb hlc hkb hkc
        rw [ordL] at h
        by_cases e : (p1, m1) = (q, k)
        · rw [if_pos e] at h
          cases e
          rcases Int.lt_trichotomy p1 p with g | g | g
          · rw [low fun x hx => by rcases List.mem_cons.mp hx with rfl | hx; exact g; have := hlb x hx; omega, low fun x hx => by rcases List.mem_cons.mp hx with rfl | hx; exact g; have := hlc x hx; omega, ord_self]; decide
          · subst g
            rw [at_ hlb, at_ hlc, ord_self]; decide
          · rw [up g, up g, ordL, if_pos rfl]
            exact ih hb.tail hc.tail h
        · rw [if_neg e] at h
          have hne : ¬ (p1 = q ∧ m1 = k) := fun z => e (by rw [z.1, z.2])
          have hlt : ¬ (q < p1 ∨ (p1 = q ∧ k < m1)) := fun z => by simp only at h; rw [if_pos z] at h; cases h
          rcases Int.lt_trichotomy q p with g | g | g
          · rw [low (b := (q, k) :: c) fun x hx => by rcases List.mem_cons.mp hx with rfl | hx; exact g; have := hlc x hx; omega, low fun x hx => by rcases List.mem_cons.mp hx with rfl | hx; (show p1 < p; omega); have := hlb x hx; omega, ord_self]; decide
          · subst g
            rw [at_ hlc]
            by_cases e1 : p1 = q
            · subst e1
              rw [at_ hlb, ordL, if_neg (by simp; omega), if_neg (by simp; omega)]; decide
            · rw [low fun x hx => by rcases List.mem_cons.mp hx with rfl | hx; (show p1 < q; omega); have := hlb x hx; omega, ordL, if_neg (by simp; omega), if_neg (by simp; omega)]; decide
          · rw [up g]
            by_cases g1 : p < p1
            · rw [up g1, ordL, if_neg (by simp; omega), if_neg (by simp; omega)]; decide
            · by_cases e1 : p1 = p
              · subst e1
                rw [at_ hlb, ordL, if_neg (by simp; omega), if_neg (by simp; omega)]; decide
              · rw [low fun x hx => by rcases List.mem_cons.mp hx with rfl | hx; (show p1 < p; omega); have := hlb x hx; omega, ordL, if_neg (by simp; omega), if_neg (by simp; omega)]; decide
/-! ### what is behind -/
def behindL : L → L → L
  | w, [] => w
  | [], _ :: _ => []
  | x :: xs, y :: ys => if x = y then behindL xs ys else (x.1, if x.1 = y.1 then x.2 - y.2 else x.2) :: xs
theorem behind_mem : ∀ {w b : L}, Ok w → ordL w b ≠ -1 → ∀ x ∈ behindL w b, ∃ y ∈ w, x.1 = y.1
  | w, [], _, _, x, hx => by
    have e : behindL w [] = w := by cases w <;> rfl
    rw [e] at hx
    exact ⟨x, hx, rfl⟩
  | [], _ :: _, _, _, x, hx => by cases hx
  | x :: xs, y :: ys, hw, h, z, hz => by
    rw [behindL] at hz
    rw [ordL] at h
    split at hz
    · rename_i e
      rw [if_pos e] at h
      obtain ⟨y, hy, e2⟩ := behind_mem hw.tail h z hz
      exact ⟨y, List.mem_cons_of_mem _ hy, e2⟩
    · rcases List.mem_cons.mp hz with rfl | hz
      · exact ⟨x, List.mem_cons_self .., rfl⟩
      · exact ⟨z, List.mem_cons_of_mem _ hz, rfl⟩
theorem behind_ok : ∀ {w b : L}, Ok w → Ok b → ordL w b ≠ -1 → Ok (behindL w b) ∧ thenL b (behindL w b) = w
  | w, [], hw, _, _ => by
    have e : behindL w [] = w := by cases w <;> rfl
    rw [e]
    exact ⟨hw, nil_then⟩
  | [], _ :: _, _, _, h => absurd rfl h
  | (p, m) :: xs, (q, n) :: ys, hw, hb, h => by
    rw [behindL]
    rw [ordL] at h
    by_cases e : (p, m) = (q, n)
    · rw [if_pos e] at h ⊢
      obtain ⟨h1, h2⟩ := behind_ok hw.tail hb.tail h
      refine ⟨h1, ?_⟩
      cases e
      have hm : ∀ x ∈ behindL xs ys, x.1 < p := fun x hx => by
        obtain ⟨y, hy, e⟩ := behind_mem hw.tail h x hx
        have := hw.lt y hy
        simp only at this
        omega
      cases hz : behindL xs ys with
      | nil => rw [hz, then_nil] at h2; rw [then_nil, h2]
      | cons z r =>
        obtain ⟨p', m'⟩ := z
        rw [hz] at h2 hm
        have hp := hm _ (List.mem_cons_self ..)
        simp only at hp
        rw [then_cons] at h2 ⊢
        rw [hi_cons, if_pos hp, coef_cons, if_neg (by simp; omega), List.cons_append, h2]
    · rw [if_neg e] at h ⊢
      have hgt : q < p ∨ (p = q ∧ n < m) := Classical.byContradiction fun z => h (by simp only; rw [if_neg z])
      have hlb := hb.lt
      have hlw := hw.lt
      have hm := hw.head
      have hn := hb.head
      simp only at hlb hlw hm hn
      by_cases e1 : p = q
      · subst e1
        rw [if_pos rfl]
        refine ⟨hw.tail.cons hlw hm.1 (show 0 < m - n by omega), ?_⟩
        rw [then_cons, hi_cons, if_neg (by simp), hi_none fun x hx => Int.le_of_lt (hlb x hx), coef_cons, if_pos rfl, coef_none fun x hx => by have := hlb x hx; omega]
        simp only [List.nil_append]
        congr 2
        omega
      · rw [if_neg e1]
        refine ⟨hw, ?_⟩
        rw [then_cons, hi_none fun x hx => by rcases List.mem_cons.mp hx with rfl | hx; (show q ≤ p; omega); have := hlb x hx; omega, coef_none fun x hx => by rcases List.mem_cons.mp hx with rfl | hx; (show q ≠ p; omega); have := hlb x hx; omega]
        simp
theorem ord_then_ne {a b : L} (ha : Ok a) (hb : Ok b) : ordL (thenL a b) a ≠ -1 := by
  have := ord_then ha hb Ok.nil
  rw [then_nil] at this
  rw [this]
  cases b with
  | nil => decide
  | cons _ _ => show (1 : Int) ≠ -1; decide
theorem behind_then {a b : L} (ha : Ok a) (hb : Ok b) : behindL (thenL a b) a = b := by
  obtain ⟨h1, h2⟩ := behind_ok (ok_then ha hb) ha (ord_then_ne ha hb)
  refine ord_zero ?_
  rw [← ord_then ha h1 hb, h2, ord_self]

/-! ### so often, endless -/
def takenL (l : L) (n : Int) : L := match l with
  | [] => []
  | (p, m) :: r => if n = 0 then [] else (p, m * n) :: r
theorem ok_taken {l : L} {n : Int} (h : Ok l) (hn : 0 ≤ n) : Ok (takenL l n) := by
  cases l with
  | nil => exact Ok.nil
  | cons x r =>
    obtain ⟨p, m⟩ := x
    unfold takenL
    simp only
    split
    · exact Ok.nil
    · have := h.head
      exact h.tail.cons h.lt this.1 (Int.mul_pos this.2 (by omega))
theorem taken_then {l : L} {a b : Int} (h : Ok l) (ha : 0 ≤ a) (hb : 0 < b) : thenL (takenL l a) (takenL l b) = takenL l (a + b) := by
  cases l with
  | nil => rfl
  | cons x r =>
    obtain ⟨p, m⟩ := x
    have hl := h.lt
    simp only at hl
    unfold takenL
    simp only
    rw [if_neg (show ¬ b = 0 by omega), if_neg (show ¬ a + b = 0 by omega)]
    by_cases e : a = 0
    · subst e
      rw [if_pos rfl, nil_then, Int.zero_add]
    · rw [if_neg e, then_cons, hi_cons, if_neg (by simp), hi_none fun x hx => Int.le_of_lt (hl x hx), coef_cons, if_pos rfl, coef_none fun x hx => by have := hl x hx; omega]
      simp only [List.nil_append, Int.add_zero, Int.mul_add]
      congr 2
      omega
theorem taken_one {l : L} : takenL l 1 = l := by
  cases l with
  | nil => rfl
  | cons x r => obtain ⟨p, m⟩ := x; simp [takenL]
theorem put_taken {l : L} (h : Ok l) : ∀ n : Nat, putL (List.replicate n l).flatten = takenL l n
  | 0 => by cases l with
    | nil => rfl
    | cons x r => obtain ⟨p, m⟩ := x; rfl
  | n + 1 => by
    rw [show (List.replicate (n + 1) l).flatten = (List.replicate n l).flatten ++ l by rw [List.replicate_succ', List.flatten_append]; simp]
    rw [put_app, put_taken h n, fold_then h]
    have := taken_then h (a := n) (b := 1) (by omega) (by omega)
    rw [taken_one] at this
    rw [this]
    rfl
def endlessL (l : L) : L := match l with
  | [] => []
  | (p, _) :: _ => [(p + 1, 1)]
theorem ok_endless {l : L} (h : Ok l) : Ok (endlessL l) := by
  cases l with
  | nil => exact Ok.nil
  | cons x r => obtain ⟨p, m⟩ := x; have := h.head; simp only at this; exact Ok.one (show 0 ≤ p + 1 by omega) (show (0 : Int) < 1 by decide)
theorem then_endless {l : L} (h : Ok l) : thenL l (endlessL l) = endlessL l := by
  cases l with
  | nil => rfl
  | cons x r =>
    obtain ⟨p, m⟩ := x
    have hl := h.lt
    simp only at hl
    show thenL ((p, m) :: r) [(p + 1, 1)] = [(p + 1, 1)]
    rw [then_cons, hi_none fun x hx => by rcases List.mem_cons.mp hx with rfl | hx; (show p ≤ p + 1; omega); have := hl x hx; omega, coef_none fun x hx => by rcases List.mem_cons.mp hx with rfl | hx; (show p ≠ p + 1; omega); have := hl x hx; omega]
    simp
theorem taken_below {l : L} {n : Int} (h0 : l ≠ []) (hn : n ≠ 0) : ordL (takenL l n) (endlessL l) = -1 := by
  cases l with
  | nil => exact absurd rfl h0
  | cons x r =>
    obtain ⟨p, m⟩ := x
    show ordL (if n = 0 then [] else (p, m * n) :: r) [(p + 1, 1)] = -1
    rw [if_neg hn, ordL, if_neg (by simp; omega), if_neg (by simp; omega)]
/-- so often that it is above the other one -/
theorem taken_above {l o : L} (h : Ok l) (ho : Ok o) (h0 : l ≠ []) (hb : ordL o (endlessL l) = -1) : ordL (takenL l (match o with | [] => 1 | x :: _ => x.2 + 1)) o = 1 := by
  cases l with
  | nil => exact absurd rfl h0
  | cons x r =>
    obtain ⟨p, m⟩ := x
    have hm := h.head
    simp only at hm
    cases o with
    | nil =>
      show ordL (if (1 : Int) = 0 then [] else (p, m * 1) :: r) [] = 1
      rw [if_neg (by decide)]; rfl
    | cons y s =>
      obtain ⟨q, n⟩ := y
      have hn := ho.head
      simp only at hn
      have hb : ordL ((q, n) :: s) [(p + 1, 1)] = -1 := hb
      have hq : q ≤ p := by
        rw [ordL] at hb
        by_cases e : (q, n) = (p + 1, 1)
        · rw [if_pos e] at hb
          exfalso
          cases s with
          | nil => have : (0 : Int) = -1 := hb; omega
          | cons _ _ => have : (1 : Int) = -1 := hb; omega
        · rw [if_neg e] at hb
          have e' : ¬ (q = p + 1 ∧ n = 1) := fun z => e (by rw [z.1, z.2])
          by_cases f : p + 1 < q ∨ (q = p + 1 ∧ 1 < n)
          · simp only at hb
            rw [if_pos f] at hb
            cases hb
          · omega
      show ordL (if n + 1 = 0 then [] else (p, m * (n + 1)) :: r) ((q, n) :: s) = 1
      rw [if_neg (by omega)]
      have hmul : n < m * (n + 1) := by
        have : 1 * (n + 1) ≤ m * (n + 1) := Int.mul_le_mul_of_nonneg_right (by omega) (by omega)
        omega
      rw [ordL, if_neg (by simp; omega), if_pos (by simp; omega)]
end ML
set_option Elab.async false
set_option linter.all false
set_option maxRecDepth 100000
set_option maxHeartbeats 4000000
namespace MP
open PySem PySem.Spec PyProof.Rows L2 ML

/-! ### lengths as data -/
def pairD (x : Int × Int) : D := .tup [.int x.1, .int x.2]
def lenD (l : L) : D := .tup (l.map pairD)
def pairP (x : Int × Int) : PyData := .tuple [.int x.1, .int x.2]
def lenP (l : L) : PyData := .tuple (l.map pairP)
theorem toPy_pair {n : Nat} {S : Store} {x : Int × Int} : toPy (n + 1) S (pairD x) = some (pairP x) :=
  toPy_tup (optAll_cons toPy_int (optAll_cons toPy_int rfl))
theorem toPy_len {n : Nat} {S : Store} {l : L} : toPy (n + 2) S (lenD l) = some (lenP l) := toPy_tup (optAll_map fun x _ => toPy_pair)
theorem toPy_lenC {S : Store} {l : L} : toPy cap S (lenD l) = some (lenP l) := toPy_len (n := 62)
theorem toPy_lenL {n : Nat} {S : Store} {r : Nat} {l : L} (h : S[r]? = some (.lst (l.map pairD))) : toPy (n + 2) S (.ref r) = some (.list (l.map pairP)) := toPy_lst h (optAll_map fun x _ => toPy_pair)
theorem eqv_pair {x y : Int × Int} : PyData.eqv (pairP x) (pairP y) = decide (x = y) := by
  obtain ⟨a, b⟩ := x
  obtain ⟨c, d⟩ := y
  unfold pairP
  rw [PyData.eqv, PyData.eqvAll, PyData.eqvAll, PyData.eqvAll, eqv_int, eqv_int]
  by_cases h1 : a = c <;> by_cases h2 : b = d <;> simp [h1, h2]
theorem eqv_len {a b : L} : PyData.eqv (lenP a) (lenP b) = decide (a = b) := by
  unfold lenP
  rw [PyData.eqv, eqvAll_map fun x y => eqv_pair]
section
variable {S : Store} {a b : L} {x y : Int × Int}
theorem eqD_len : eqD (lenD a) (lenD b) S = some (decide (a = b)) := by
  rw [eqD_tup (a := lenD a) (xs := a.map pairD) rfl toPy_lenC toPy_lenC, eqv_len]
theorem eqD_pair : eqD (pairD x) (pairD y) S = some (decide (x = y)) := by
  rw [eqD_tup (a := pairD x) (xs := [.int x.1, .int x.2]) rfl (toPy_pair (n := 63)) (toPy_pair (n := 63)), eqv_pair]
theorem dEq_len : dEq (lenD a) (lenD b) S = some (.bl (decide (a = b)), S) := dEq_of eqD_len
theorem dNe_len : dNe (lenD a) (lenD b) S = some (.bl (!decide (a = b)), S) := dNe_of eqD_len
theorem dEq_len0 : dEq (lenD a) (.tup []) S = some (.bl (decide (a = [])), S) := dEq_len (b := [])
theorem dNe_len0 : dNe (lenD a) (.tup []) S = some (.bl (!decide (a = [])), S) := dNe_len (b := [])
theorem dNe_pair : dNe (pairD x) (pairD y) S = some (.bl (!decide (x = y)), S) := dNe_of eqD_pair
theorem dNe_lst0 {r q : Nat} {l : L} (h : S[r]? = some (.lst (l.map pairD))) (h2 : S[q]? = some (.lst [])) : dNe (.ref r) (.ref q) S = some (.bl (!decide (l = [])), S) := by
  refine dNe_of ?_
  rw [eqD_ref (r := r) rfl (toPy_lenL (n := 62) h) (toPy_lenL (n := 62) (l := []) h2)]
  rw [PyData.eqv, eqvAll_map (fun x y => eqv_pair) l []]
/-! order -/
theorem ordP_pair {g : Bool} {x y : Int × Int} : ordP g (pairP x) (pairP y) = some (if x = y then false else if y.1 < x.1 ∨ (x.1 = y.1 ∧ y.2 < x.2) then g else !g) := by
  obtain ⟨p, m⟩ := x
  obtain ⟨q, n⟩ := y
  unfold pairP
  simp only [ordP, ordPs, eqv_int]
  by_cases h1 : p = q
  · subst h1
    by_cases h2 : m = n
    · subst h2; simp
    · have h3 : ¬ ((p, m) = (p, n)) := by simp [h2]
      rw [if_neg h3]
      cases g <;> by_cases h4 : n < m <;> simp [h2, h4] <;> omega
  · have h3 : ¬ ((p, m) = (q, n)) := by simp [h1]
    rw [if_neg h3]
    by_cases h2 : m = n <;> cases g <;> by_cases h4 : q < p <;> simp [h1, h2, h4] <;> omega
theorem ordPs_len {g : Bool} : ∀ (a b : L), ordPs g (a.map pairP) (b.map pairP) = some (if ordL a b = 1 then g else if ordL a b = -1 then !g else false)
  | [], [] => by simp [ordPs, ordL]
  | [], _ :: _ => by simp [ordPs, ordL]
  | _ :: _, [] => by simp [ordPs, ordL]
  | x :: a, y :: b => by
    rw [List.map_cons, List.map_cons, ordPs, ordPs_len a b, ordL, eqv_pair, ordP_pair]
    by_cases h : x = y
    · simp only [h, decide_true, if_true]
    · simp only [h, decide_false, Bool.false_eq_true, if_false]
      by_cases h2 : y.1 < x.1 ∨ (x.1 = y.1 ∧ y.2 < x.2)
      · simp only [h2, if_true]
      · simp only [h2, if_false]; rfl
theorem dOrd_len {g : Bool} : dOrd g (lenD a) (lenD b) S = some (.bl (if ordL a b = 1 then g else if ordL a b = -1 then !g else false), S) := by
  unfold dOrd
  simp only [toPy_lenC, lenP, ordP, ordPs_len]
/-! reading -/
theorem ix_pair0 : dIx (pairD x) (.int 0) S = some (.int x.1, S) := ix_tupD (atI_nat (i := 0) rfl)
theorem ix_pair1 : dIx (pairD x) (.int 1) S = some (.int x.2, S) := ix_tupD (atI_nat (i := 1) rfl)
theorem ix_len0 : dIx (lenD (x :: a)) (.int 0) S = some (pairD x, S) := ix_tupD (atI_nat (i := 0) rfl)
theorem ix_lenN {i : Nat} (h : a[i]? = some x) : dIx (lenD a) (.int i) S = some (pairD x, S) := ix_tupD (atI_nat (by rw [List.getElem?_map, h]; rfl))
theorem ix_lenE : dIx (lenD (a ++ [x])) (.int (-1)) S = some (pairD x, S) := ix_tupD (by rw [List.map_append]; exact atI_neg1)
theorem ix_lstE {r : Nat} (h : S[r]? = some (.lst ((a ++ [x]).map pairD))) : dIx (.ref r) (.int (-1)) S = some (pairD x, S) := ix_lstD h (by rw [List.map_append]; exact atI_neg1)
theorem unp_pair {i j : Nat} {ρ : Env} {Q : Env → Store → Prop} : oq (pUnp 2 (psCons (pName i) (psCons (pName j) psNil)) (pairD x) ρ S) Q ↔ Q ((ρ.set i (some (.int x.1))).set j (some (.int x.2))) S := Iff.rfl
theorem sl_len {k : Nat} (h : k ≤ a.length) : dSl (lenD a) (some (k : Int)) none S = some (lenD (a.drop k), S) := by
  unfold lenD
  rw [sl_tupD, cutD_drop (by simpa using h), List.map_drop]
theorem sl_len1 : dSl (lenD (x :: a)) (some 1) none S = some (lenD a, S) := sl_len (k := 1) (a := x :: a) (by simp)
theorem sl_lenT {k : Nat} (h : k ≤ a.length) : dSl (lenD a) none (some (k : Int)) S = some (lenD (a.take k), S) := by
  unfold lenD
  rw [sl_tupD, cutD_take (by simpa using h), List.map_take]
theorem bLen_len : bLen [lenD a] S = some (.int a.length, S) := by
  rw [bLen_seq (d := lenD a) (ds := a.map pairD) rfl]; simp
theorem seqOf_len : seqOf S (lenD a) = some (a.map pairD) := rfl
theorem bList_len : bList [lenD a] S = some (.ref S.length, S ++ [.lst (a.map pairD)]) := rfl
theorem bTuple_len : bTuple [lenD a] S = some (lenD a, S) := rfl
theorem bTuple_lst {r : Nat} (h : S[r]? = some (.lst (a.map pairD))) : bTuple [.ref r] S = some (lenD a, S) := by
  simp only [bTuple, listOf, h]; rfl
theorem addL {r q : Nat} (h : S[r]? = some (.lst (a.map pairD))) (h2 : S[q]? = some (.lst (b.map pairD))) (hl : a.length + b.length ≤ sizeLine) : dAdd (.ref r) (.ref q) S = some (.ref S.length, S ++ [.lst ((a ++ b).map pairD)]) := by
  simp only [dAdd, h, h2, List.length_map, hl, if_true, List.map_append]
theorem sSeq_len {ρ : Env} {X : Exc → Store → Prop} {fa : F} {Q : List D × (Store → Prop) → Store → Prop} (h : wp (fa ρ S) (fun x S1 => (∃ l, x = lenD l ∧ Q (l.map pairD, fun _ => True) S1)) X) : wp (sSeq fa ρ S) Q X :=
  wp_sSeq (wp_mono h (fun x S1 ⟨l, e, q⟩ => .inl ⟨_, e, q⟩) fun _ _ h => h)
theorem sSeq_lst {ρ : Env} {X : Exc → Store → Prop} {fa : F} {Q : List D × (Store → Prop) → Store → Prop} (h : wp (fa ρ S) (fun x S1 => (∃ r l, x = .ref r ∧ S1[r]? = some (.lst l) ∧ Q (l, holds r l) S1)) X) : wp (sSeq fa ρ S) Q X :=
  wp_sSeq (wp_mono h (fun x S1 ⟨r, l, e, h1, q⟩ => .inr ⟨r, l, e, .inl h1, q⟩) fun _ _ h => h)
end
/-! how great -/
structure Bd (n : Nat) (B : Int) (l : L) : Prop where
  len : l.length ≤ n
  pw : ∀ x ∈ l, x.1 ≤ 2 ^ 1000
  cf : ∀ x ∈ l, x.2 ≤ B
theorem Bd.mono {n n' : Nat} {B B' : Int} {l : L} (h : Bd n B l) (h1 : n ≤ n') (h2 : B ≤ B') : Bd n' B' l := ⟨Nat.le_trans h.len h1, h.pw, fun x hx => Int.le_trans (h.cf x hx) h2⟩
theorem coef_le {a : L} {B : Int} (h : Desc a) (hp : Pos a) (hB : 0 ≤ B) (hb : ∀ x ∈ a, x.2 ≤ B) (p : Int) : coef a p ≤ B := by
  induction a with
  | nil => exact hB
  | cons x a ih =>
    have h1 := List.pairwise_cons.mp h
    rw [coef_cons]
    split
    · rename_i e
      rw [coef_none fun y hy => by have := h1.1 y hy; omega]
      have := hb x (List.mem_cons_self ..)
      omega
    · exact ih h1.2 (fun y hy => hp y (List.mem_cons_of_mem _ hy)) fun y hy => hb y (List.mem_cons_of_mem _ hy)
theorem bd_then {n n' : Nat} {B B' : Int} {a b : L} (oa : Ok a) (ob : Ok b) (hB : 0 ≤ B) (ha : Bd n B a) (hb : Bd n' B' b) (hB' : 0 ≤ B') : Bd (n + n') (B + B') (thenL a b) := by
  cases b with
  | nil => exact ha.mono (by omega) (by omega)
  | cons x r =>
    obtain ⟨p, m⟩ := x
    have h1 := hb.len
    have h2 := hb.pw _ (List.mem_cons_self ..)
    have h3 := hb.cf _ (List.mem_cons_self ..)
    rw [List.length_cons] at h1
    refine ⟨?_, fun y hy => ?_, fun y hy => ?_⟩
    · rw [then_cons, List.length_append, List.length_cons]
      have := ha.len
      have : (hi a p).length ≤ a.length := List.length_filter_le ..
      omega
    · rw [then_cons] at hy
      rcases List.mem_append.mp hy with hy | hy
      · exact ha.pw y (mem_hi.mp hy).1
      · rcases List.mem_cons.mp hy with rfl | hy
        · exact h2
        · exact hb.pw y (List.mem_cons_of_mem _ hy)
    · rw [then_cons] at hy
      rcases List.mem_append.mp hy with hy | hy
      · have := ha.cf y (mem_hi.mp hy).1
        omega
      · rcases List.mem_cons.mp hy with rfl | hy
        · have := coef_le oa.desc oa.pos hB ha.cf p
          simp only at h3 ⊢
          omega
        · have := hb.cf y (List.mem_cons_of_mem _ hy)
          omega
theorem nodes_len {l : L} : nodes (lenP l) ≤ 1 + l.length * 3 := by
  unfold lenP
  rw [nodes]
  have := nodesAll_map (f := pairP) (k := 3) (l := l) fun x _ => by unfold pairP; rw [nodes, nodesAll, nodesAll, nodesAll, nodes, nodes]; decide
  omega
theorem show_int {i : Int} (h0 : 0 ≤ i) (h : i < 2 ^ 1920) : (PyData.int i).showable = true := by
  have e : (2 : Int) ^ 1920 = ((2 ^ 1920 : Nat) : Int) := by norm_cast
  have : i.natAbs < 2 ^ 1920 := by rw [e] at h; omega
  have : i.natAbs.log2 < 1920 := by
    by_cases h1 : i.natAbs = 0
    · rw [h1]; decide
    · exact (Nat.log2_lt h1).mpr this
  simpa [PyData.showable] using this
theorem showAll_map {α : Type} {f : α → PyData} : ∀ {l : List α}, (∀ x ∈ l, (f x).showable = true) → PyData.showableAll (l.map f) = true
  | [], _ => rfl
  | x :: l, h => by
    rw [List.map_cons, PyData.showableAll, h x (List.mem_cons_self ..), showAll_map fun y hy => h y (List.mem_cons_of_mem _ hy)]; rfl
theorem show_len {l : L} {n : Nat} {B : Int} (h : Ok l) (hb : Bd n B l) (hB : B < 2 ^ 1920) : (lenP l).showable = true := by
  unfold lenP
  rw [PyData.showable]
  refine showAll_map fun x hx => ?_
  unfold pairP
  have h1 := h.pos x hx
  have h2 := hb.pw x hx
  have h3 := hb.cf x hx
  rw [PyData.showable, PyData.showableAll, PyData.showableAll, PyData.showableAll, show_int h1.1 (Int.lt_of_le_of_lt h2 (by decide)), show_int (Int.le_of_lt h1.2) (Int.lt_of_le_of_lt h3 hB)]
  rfl
theorem bRepr_len {S : Store} {l : L} {n : Nat} {B : Int} (h : Ok l) (hb : Bd n B l) (hB : B < 2 ^ 1920) (hn : n ≤ 2000) : bRepr [lenD l] S = some (.str (lenP l).shown, S) := by
  refine bRepr_of toPy_lenC (show_len h hb hB) ?_ rfl
  have := nodes_len (l := l)
  have := hb.len
  omega
end MP
set_option Elab.async false
set_option linter.all false
set_option maxRecDepth 100000
set_option maxHeartbeats 4000000
/-! ### texts of great numbers, read -/
namespace ML
open PySem MP
theorem big_300 : PySem.intText? (("1" : Str) ++ Txt.mul "0" 300) = some (10 ^ 300) := by decide +kernel
theorem big_9 : PySem.intText? (Txt.mul "9" 300) = some (10 ^ 300 - 1) := by decide +kernel
theorem big_298 : PySem.intText? (("1" : Str) ++ Txt.mul "0" 298) = some (10 ^ 298) := by decide +kernel
theorem big_40 : PySem.intText? (("1" : Str) ++ Txt.mul "0" 40) = some (10 ^ 40) := by decide +kernel
theorem big_3 : PySem.intText? (("1" : Str) ++ Txt.mul "0" 3) = some (10 ^ 3) := by decide +kernel
theorem long_300 : ((Str.ofString (toString ((10 : Int) ^ 300)))).length = 301 := by decide +kernel
theorem len_300 : (("1" : Str) ++ Txt.mul "0" 300).length = 301 := by decide +kernel
theorem len_298 : (("1" : Str) ++ Txt.mul "0" 298).length = 299 := by decide +kernel
theorem len_40 : (("1" : Str) ++ Txt.mul "0" 40).length = 41 := by decide +kernel
theorem len_3 : (("1" : Str) ++ Txt.mul "0" 3).length = 4 := by decide +kernel
theorem len_9 : (Txt.mul "9" 300).length = 300 := by decide +kernel
end ML
set_option Elab.async false
set_option linter.all false
set_option maxRecDepth 100000
set_option maxHeartbeats 4000000
namespace K08
open PySem PySem.Spec PyProof.Rows L2 MP
abbrev PW : Program := PySem.Challenge.pw_wordsbeyond_k08_behind_order_endless
def top (i : Nat) : Stmt := PW.main.body.getD i (.Pass ⟨0, 0, 0, 0⟩)
def sup_TooGreat : SupD := ⟨"TooGreat", "TooGreat.__init__", defArgs (inClass (top 2) 0), defBody (inClass (top 2) 0), defScope (inClass (top 2) 0)⟩
def sup : List SupD := [sup_TooGreat]
def d_is_long : He.DefD := ⟨("is_long", none), "is_long", "is_long", defArgs (top 7), defBody (top 7), defScope (top 7), [], []⟩
def d_not_long : He.DefD := ⟨("not_long", none), "not_long", "not_long", defArgs (top 8), defBody (top 8), defScope (top 8), [], []⟩
def d_length_made : He.DefD := ⟨("length_made", none), "length_made", "length_made", defArgs (top 9), defBody (top 9), defScope (top 9), [], []⟩
def d_length_then : He.DefD := ⟨("length_then", none), "length_then", "length_then", defArgs (top 10), defBody (top 10), defScope (top 10), [], []⟩
def d_lengths_then : He.DefD := ⟨("lengths_then", none), "lengths_then", "lengths_then", defArgs (top 11), defBody (top 11), defScope (top 11), [], []⟩
def d_length_told : He.DefD := ⟨("length_told", none), "length_told", "length_told", defArgs (top 12), defBody (top 12), defScope (top 12), [], []⟩
def d_lengths_compared : He.DefD := ⟨("lengths_compared", none), "lengths_compared", "lengths_compared", defArgs (top 13), defBody (top 13), defScope (top 13), [], []⟩
def d_is_below : He.DefD := ⟨("is_below", none), "is_below", "is_below", defArgs (top 14), defBody (top 14), defScope (top 14), [], []⟩
def d_length_behind : He.DefD := ⟨("length_behind", none), "length_behind", "length_behind", defArgs (top 15), defBody (top 15), defScope (top 15), [], []⟩
def d_length_taken : He.DefD := ⟨("length_taken", none), "length_taken", "length_taken", defArgs (top 16), defBody (top 16), defScope (top 16), [], []⟩
def d_length_endless : He.DefD := ⟨("length_endless", none), "length_endless", "length_endless", defArgs (top 17), defBody (top 17), defScope (top 17), [], []⟩
def d_is_limit : He.DefD := ⟨("is_limit", none), "is_limit", "is_limit", defArgs (top 18), defBody (top 18), defScope (top 18), [], []⟩
def d__law_source : He.DefD := ⟨("_law_source", none), "_law_source", "_law_source", defArgs (top 20), defBody (top 20), defScope (top 20), [], []⟩
def d__law_pick : He.DefD := ⟨("_law_pick", none), "_law_pick", "_law_pick", defArgs (top 21), defBody (top 21), defScope (top 21), [], []⟩
def d__law_of : He.DefD := ⟨("_law_of", none), "_law_of", "_law_of", defArgs (top 22), defBody (top 22), defScope (top 22), [], []⟩
def d__law_then : He.DefD := ⟨("_law_then", none), "_law_then", "_law_then", defArgs (top 23), defBody (top 23), defScope (top 23), [], []⟩
def d__law_length : He.DefD := ⟨("_law_length", none), "_law_length", "_law_length", defArgs (top 24), defBody (top 24), defScope (top 24), [], []⟩
def d__law_near : He.DefD := ⟨("_law_near", none), "_law_near", "_law_near", defArgs (top 25), defBody (top 25), defScope (top 25), [], []⟩
def d__law_order : He.DefD := ⟨("_law_order", none), "_law_order", "_law_order", defArgs (top 26), defBody (top 26), defScope (top 26), [], []⟩
def d__law_behind : He.DefD := ⟨("_law_behind", none), "_law_behind", "_law_behind", defArgs (top 27), defBody (top 27), defScope (top 27), [], []⟩
def d__law_made : He.DefD := ⟨("_law_made", none), "_law_made", "_law_made", defArgs (top 28), defBody (top 28), defScope (top 28), [], []⟩
def d_law : He.DefD := ⟨("law", none), "law", "law", defArgs (top 29), defBody (top 29), defScope (top 29), [], []⟩
def fn : List He.DefD := [d_is_long, d_not_long, d_length_made, d_length_then, d_lengths_then, d_length_told, d_lengths_compared, d_is_below, d_length_behind, d_length_taken, d_length_endless, d_is_limit, d__law_source, d__law_pick, d__law_of, d__law_then, d__law_length, d__law_near, d__law_order, d__law_behind, d__law_made, d_law]
def fa : List He.Fa := [.glo "TooGreat", .glo "is_long", .glo "not_long", .glo "length_made", .glo "length_then", .glo "lengths_then", .glo "length_told", .glo "lengths_compared", .glo "is_below", .glo "length_behind", .glo "length_taken", .glo "length_endless", .glo "is_limit", .glo "_law_source", .glo "_law_pick", .glo "_law_of", .glo "_law_then", .glo "_law_length", .glo "_law_near", .glo "_law_order", .glo "_law_behind", .glo "_law_made", .glo "law", .free "super", .noat "TooGreat" "number", .free "abs", .free "str", .free "len", .int "MOST_FIGURES" 300, .int "SURE_BITS" 997, .int "LONG_NUMBER" 1, .free "tuple", .free "enumerate", .free "int", .free "max", .free "sum", .free "sorted", .free "range", .free "zip", .exm "TooGreat" "TooGreat" true, .free "repr"]
def tf : List (He.Defn × Str) := [(("law", none), "law.<locals>.<lambda>")]
def tbl (K : PySem.W.Frag) (i : Nat) : Addr := (He.cT K (tf.getD i (("", none), "")).1).2
section
variable {w : World} {K : PySem.W.Frag} {mg : Str → Option Value} {base : Heap}
def fl_TooGreat : List (Str × F) := [("number", (eVar 1))]
def mk_TooGreat : List D → M (List (Str × D)) := mkI 2 fl_TooGreat
theorem ssc_TooGreat : SScope ["self", "number"] ["self", "number"] (defScope (inClass (top 2) 0)) := ⟨rfl, rfl, rfl, by decide +kernel, rfl, by decide +kernel, by decide +kernel, by decide +kernel⟩
theorem exc_TooGreat (M : HdX PW sup fa fn K mg) : HasExc PW w K mg base 1 "TooGreat" 1 mk_TooGreat :=
  hasExc_M (k := 0) (n := 1) (sf := "self") (N := ["self", "number"]) (ps := ["self", "number"]) (fl := fl_TooGreat) (d := sup_TooGreat) M 0 0 23 [1] rfl rfl rfl (by decide +kernel) rfl ssc_TooGreat ⟨_, rfl, rfl⟩
    (fun _ _ _ _ _ _ _ us hl => match us, hl with | [_, _], _ => rfl) rfl rfl rfl (by decide +kernel) (by decide +kernel) (List.forall_mem_cons.mpr ⟨M.noat 24, fun _ h => nomatch h⟩) (by decide) (by simp [fl_TooGreat]) (by decide) (by decide)
    fun f cc cda A outer s H E => ⟨(pa_cons (pv 1) pa_nil), (pss_cons (ps_ost (pv 0) (me_var 1)) pss_nil)⟩

noncomputable def g_is_long : G :=
(gRet (eOr (eBin (dOrd true) (eUn oBits (eVar 0)) (eC (.int 997))) (eBin (dOrd true) (eCall bLen (aCons (eCall bStr (aCons (eCall bAbs (aCons (eVar 0) aNil)) aNil)) aNil)) (eC (.int 300)))))
noncomputable def sem_is_long : List D → M D := semOf 1 g_is_long
theorem sc_is_long : FnScope ["number"] ["number"] (defScope (top 7)) := ⟨rfl, rfl, rfl, by decide +kernel, rfl, by decide +kernel, by decide +kernel⟩
theorem has_is_long (M : HdX PW sup fa fn K mg) : HasFn PW w K mg base 2 "is_long" ["number"] [] sem_is_long :=
  hasFn_of M.hd 0 1 (d := d_is_long) (N := ["number"]) (ps := ["number"]) (k := 1) (g := g_is_long) rfl rfl rfl rfl rfl sc_is_long (fun _ _ _ _ _ _ us hl => match us, hl with | [_], _ => rfl)
    fun f cdv A outer s H E c o => show MSs _ _ _ g_is_long from by
      unfold g_is_long
      exact (mss_one (ms_ret (me_or (me_cmp (op_gtD c.un64) (me_bits (me_var 0)) (me_globI (M.int 29).choose_spec)) (me_one (me_cmp (op_gtD c.un64) (me_blt call_lenM (M.free 27) boot_len (ma_cons (me_ty call_strM (M.free 26) boot_str (ma_cons (me_blt call_absM (M.free 25) boot_abs (ma_cons (me_var 0) ma_nil)) ma_nil)) ma_nil)) (me_globI (M.int 28).choose_spec))))))

noncomputable def g_not_long : G :=
(gSeq (gIf (tTr (eFn sem_is_long [] (aCons (eVar 0) aNil)))
(gRaise "TooGreat" mk_TooGreat (aCons (eC (.int 1)) aNil))
gNext)
(gRet (eVar 0)))
noncomputable def sem_not_long : List D → M D := semOf 1 g_not_long
theorem sc_not_long : FnScope ["number"] ["number"] (defScope (top 8)) := ⟨rfl, rfl, rfl, by decide +kernel, rfl, by decide +kernel, by decide +kernel⟩
theorem has_not_long (M : HdX PW sup fa fn K mg) : HasFn PW w K mg base 3 "not_long" ["number"] [] sem_not_long :=
  hasFn_of M.hd 1 2 (d := d_not_long) (N := ["number"]) (ps := ["number"]) (k := 2) (g := g_not_long) rfl rfl rfl rfl rfl sc_not_long (fun _ _ _ _ _ _ us hl => match us, hl with | [_], _ => rfl)
    fun f cdv A outer s H E c o => show MSs _ _ _ g_not_long from by
      unfold g_not_long
      exact (mss_cons (ms_if (mt_val (me_fn (has_is_long M) c (ma_cons (me_var 0) ma_nil) (len_cons len_nil))) (mss_one (ms_raise (exc_TooGreat M) c (ma_cons (me_globI (M.int 30).choose_spec) ma_nil) (len_cons len_nil) mkI_noexc)) mss_nil)
(mss_one (ms_ret (me_var 0))))

noncomputable def g_length_made : G :=
(gRet (eCall bTuple (aCons (eLcX (sSeq (eVar 0)) (pUnp 2 (psCons (pName 1) (psCons (pName 2) psNil))) tYes' (eTup (aCons (eFn sem_not_long [] (aCons (eVar 1) aNil)) (aCons (eFn sem_not_long [] (aCons (eVar 2) aNil)) aNil))) [1, 2]) aNil)))
noncomputable def sem_length_made : List D → M D := semOf 3 g_length_made
theorem sc_length_made : FnScope ["length", "power", "many"] ["length"] (defScope (top 9)) := ⟨rfl, rfl, rfl, by decide +kernel, rfl, by decide +kernel, by decide +kernel⟩
theorem has_length_made (M : HdX PW sup fa fn K mg) : HasFn PW w K mg base 4 "length_made" ["length"] [] sem_length_made :=
  hasFn_of M.hd 2 3 (d := d_length_made) (N := ["length", "power", "many"]) (ps := ["length"]) (k := 3) (g := g_length_made) rfl rfl rfl rfl rfl sc_length_made (fun _ _ _ _ _ _ us hl => match us, hl with | [_], _ => rfl)
    fun f cdv A outer s H E c o => show MSs _ _ _ g_length_made from by
      unfold g_length_made
      exact (mss_one (ms_ret (me_ty call_tupleM (M.free 31) boot_tuple (ma_cons (me_lcX rfl rfl c (blkOk_by (own := [("power", 1), ("many", 2)]) (by rfl)) (by decide) (mi_seq (me_var 0)) (fun s0 H0 _ _ _ => (mg_unp c.calm (mgs_cons (mg_name c.nd) (mgs_cons (mg_name c.nd) mgs_nil)))) (fun s0 H0 _ _ _ W' cb => mts_nil) (fun s0 H0 _ _ _ W' cb => (me_tup (ma_cons (me_fn (has_not_long M) cb (ma_cons (me_var 1) ma_nil) (len_cons len_nil)) (ma_cons (me_fn (has_not_long M) cb (ma_cons (me_var 2) ma_nil) (len_cons len_nil)) ma_nil))))) ma_nil))))

noncomputable def g_length_then : G :=
(gSeq (gIf (tOf (eBin dEq (eVar 1) (eTup aNil)))
(gRet (eVar 0))
gNext)
(gSeq (gAsg (eBin dIx (eVar 1) (eC (.int 0))) (pUnp 2 (psCons (pName 2) (psCons (pName 3) psNil))))
(gSeq (gAsg (eLc (sSeq (eVar 0)) (pName 5) (tOf (eBin dGe (eBin dIx (eVar 5) (eC (.int 0))) (eVar 2))) (eVar 5) [5]) (pName 4))
(gSeq (gIf (tAnd' (tOf (eBin dNe (eVar 4) (eLst aNil))) (tOf (eBin dEq (eBin dIx (eBin dIx (eVar 4) (eUn dNeg (eC (.int 1)))) (eC (.int 0))) (eVar 2))))
(gPar 4 3 (aCons (eSl dSl (eVar 4) oNone (oSome (eUn dNeg (eC (.int 1))))) (aCons (eBin dAdd (eBin dIx (eBin dIx (eVar 4) (eUn dNeg (eC (.int 1)))) (eC (.int 1))) (eVar 3)) aNil)))
gNext)
(gRet (eTup (aStar (eVar 4) (aCons (eTup (aCons (eVar 2) (aCons (eVar 3) aNil))) (aStar (eSl dSl (eVar 1) (oSome (eC (.int 1))) oNone) aNil)))))))))
noncomputable def sem_length_then : List D → M D := semOf 6 g_length_then
theorem sc_length_then : FnScope ["one", "other", "power", "many", "kept", "pair"] ["one", "other"] (defScope (top 10)) := ⟨rfl, rfl, rfl, by decide +kernel, rfl, by decide +kernel, by decide +kernel⟩
theorem has_length_then (M : HdX PW sup fa fn K mg) : HasFn PW w K mg base 2 "length_then" ["one", "other"] [] sem_length_then :=
  hasFn_of M.hd 3 4 (d := d_length_then) (N := ["one", "other", "power", "many", "kept", "pair"]) (ps := ["one", "other"]) (k := 1) (g := g_length_then) rfl rfl rfl rfl rfl sc_length_then (fun _ _ _ _ _ _ us hl => match us, hl with | [_, _], _ => rfl)
    fun f cdv A outer s H E c o => show MSs _ _ _ g_length_then from by
      unfold g_length_then
      exact (mss_cons (ms_if (mt_cmp (op_eqDD c.un64) (me_var 1) (me_tup ma_nil)) (mss_one (ms_ret (me_var 0))) mss_nil)
(mss_cons (ms_asg (me_ix (ix_D c.un1) (me_var 1) me_int) (mg_unp c.calm (mgs_cons (mg_name c.nd) (mgs_cons (mg_name c.nd) mgs_nil))))
(mss_cons (ms_setLc c.calm c.nd (blkOk_by (own := [("pair", 5)]) (by rfl)) (by decide) (mi_seq (me_var 0)) (fun s0 H0 _ _ _ => (mg_name (c.blk s0 H0 _ _ _).nd)) (fun s0 H0 _ _ _ => (mts_one (mt_cmp op_geD (me_ix (ix_D (c.blk s0 H0 _ _ _).un1) (me_var 5) me_int) (me_var 2)))) (fun s0 H0 _ _ _ => (me_var 5)))
(mss_cons (ms_if (mt_and (mw_and (mt_cmp (op_neDD c.un64) (me_var 4) (me_lst ma_nil)) (mw_and1 (mt_cmp (op_eqDD c.un64) (me_ix (ix_D c.un1) (me_ix (ix_D c.un1) (me_var 4) (me_un un_negD me_int)) me_int) (me_var 2))))) (mss_one (ms_par c.calm c.nd (ma_cons (me_slice sl_D (me_var 4) mo_none (mo_some (me_un un_negD me_int))) (ma_cons (me_bin op_addD (me_ix (ix_D c.un1) (me_ix (ix_D c.un1) (me_var 4) (me_un un_negD me_int)) me_int) (me_var 3)) ma_nil)))) mss_nil)
(mss_one (ms_ret (me_tup (ma_star (me_var 4) (ma_cons (me_tup (ma_cons (me_var 2) (ma_cons (me_var 3) ma_nil))) (ma_star (me_slice sl_D (me_var 1) (mo_some me_int) mo_none) ma_nil))))))))))

noncomputable def g_lengths_then : G :=
(gSeq (gAsg (eTup aNil) (pName 1))
(gSeq (gFor (sSeq (eVar 0)) (pName 2)
(gAsg (eFn sem_length_then [] (aCons (eVar 1) (aCons (eVar 2) aNil))) (pName 1)))
(gRet (eVar 1))))
noncomputable def sem_lengths_then : List D → M D := semOf 3 g_lengths_then
theorem sc_lengths_then : FnScope ["lengths", "found", "length"] ["lengths"] (defScope (top 11)) := ⟨rfl, rfl, rfl, by decide +kernel, rfl, by decide +kernel, by decide +kernel⟩
theorem has_lengths_then (M : HdX PW sup fa fn K mg) : HasFn PW w K mg base 3 "lengths_then" ["lengths"] [] sem_lengths_then :=
  hasFn_of M.hd 4 5 (d := d_lengths_then) (N := ["lengths", "found", "length"]) (ps := ["lengths"]) (k := 2) (g := g_lengths_then) rfl rfl rfl rfl rfl sc_lengths_then (fun _ _ _ _ _ _ us hl => match us, hl with | [_], _ => rfl)
    fun f cdv A outer s H E c o => show MSs _ _ _ g_lengths_then from by
      unfold g_lengths_then
      exact (mss_cons (ms_set c.nd (me_tup ma_nil))
(mss_cons (ms_for o c.calm (mi_seq (me_var 0)) (mg_name c.nd) (mss_one (ms_set c.nd (me_fn (has_length_then M) c (ma_cons (me_var 1) (ma_cons (me_var 2) ma_nil)) (len_cons (len_cons len_nil))))))
(mss_one (ms_ret (me_var 1)))))

noncomputable def g_length_told : G :=
(gRet (eFn sem_lengths_then [] (aCons (eLc (sSeq (eVar 0)) (pUnp 2 (psCons (pName 1) (psCons (pName 2) psNil))) (tOf (eBin (dOrd true) (eVar 2) (eC (.int 0)))) (eTup (aCons (eTup (aCons (eVar 1) (aCons (eVar 2) aNil))) aNil)) [1, 2]) aNil)))
noncomputable def sem_length_told : List D → M D := semOf 3 g_length_told
theorem sc_length_told : FnScope ["pairs", "power", "many"] ["pairs"] (defScope (top 12)) := ⟨rfl, rfl, rfl, by decide +kernel, rfl, by decide +kernel, by decide +kernel⟩
theorem has_length_told (M : HdX PW sup fa fn K mg) : HasFn PW w K mg base 4 "length_told" ["pairs"] [] sem_length_told :=
  hasFn_of M.hd 5 6 (d := d_length_told) (N := ["pairs", "power", "many"]) (ps := ["pairs"]) (k := 3) (g := g_length_told) rfl rfl rfl rfl rfl sc_length_told (fun _ _ _ _ _ _ us hl => match us, hl with | [_], _ => rfl)
    fun f cdv A outer s H E c o => show MSs _ _ _ g_length_told from by
      unfold g_length_told
      exact (mss_one (ms_ret (me_fn (has_lengths_then M) c (ma_cons (me_lc c.calm c.nd (blkOk_by (own := [("power", 1), ("many", 2)]) (by rfl)) (by decide) (mi_seq (me_var 0)) (fun s0 H0 _ _ _ => (mg_unp (c.blk s0 H0 _ _ _).calm (mgs_cons (mg_name (c.blk s0 H0 _ _ _).nd) (mgs_cons (mg_name (c.blk s0 H0 _ _ _).nd) mgs_nil)))) (fun s0 H0 _ _ _ => (mts_one (mt_cmp (op_gtD (c.blk s0 H0 _ _ _).un64) (me_var 2) me_int))) (fun s0 H0 _ _ _ => (me_tup (ma_cons (me_tup (ma_cons (me_var 1) (ma_cons (me_var 2) ma_nil))) ma_nil)))) ma_nil) (len_cons len_nil))))

noncomputable def g_lengths_compared : G :=
(gRet (eBin dSub (eBin (dOrd true) (eVar 0) (eVar 1)) (eBin (dOrd false) (eVar 0) (eVar 1))))
noncomputable def sem_lengths_compared : List D → M D := semOf 2 g_lengths_compared
theorem sc_lengths_compared : FnScope ["one", "other"] ["one", "other"] (defScope (top 13)) := ⟨rfl, rfl, rfl, by decide +kernel, rfl, by decide +kernel, by decide +kernel⟩
theorem has_lengths_compared (M : HdX PW sup fa fn K mg) : HasFn PW w K mg base 2 "lengths_compared" ["one", "other"] [] sem_lengths_compared :=
  hasFn_of M.hd 6 7 (d := d_lengths_compared) (N := ["one", "other"]) (ps := ["one", "other"]) (k := 1) (g := g_lengths_compared) rfl rfl rfl rfl rfl sc_lengths_compared (fun _ _ _ _ _ _ us hl => match us, hl with | [_, _], _ => rfl)
    fun f cdv A outer s H E c o => show MSs _ _ _ g_lengths_compared from by
      unfold g_lengths_compared
      exact (mss_one (ms_ret (me_bin op_subD (me_cmp (op_gtD c.un64) (me_var 0) (me_var 1)) (me_cmp (op_ltD c.un64) (me_var 0) (me_var 1)))))

noncomputable def g_is_below : G :=
(gRet (eBin (dOrd false) (eVar 0) (eVar 1)))
noncomputable def sem_is_below : List D → M D := semOf 2 g_is_below
theorem sc_is_below : FnScope ["one", "other"] ["one", "other"] (defScope (top 14)) := ⟨rfl, rfl, rfl, by decide +kernel, rfl, by decide +kernel, by decide +kernel⟩
theorem has_is_below (M : HdX PW sup fa fn K mg) : HasFn PW w K mg base 2 "is_below" ["one", "other"] [] sem_is_below :=
  hasFn_of M.hd 7 8 (d := d_is_below) (N := ["one", "other"]) (ps := ["one", "other"]) (k := 1) (g := g_is_below) rfl rfl rfl rfl rfl sc_is_below (fun _ _ _ _ _ _ us hl => match us, hl with | [_, _], _ => rfl)
    fun f cdv A outer s H E c o => show MSs _ _ _ g_is_below from by
      unfold g_is_below
      exact (mss_one (ms_ret (me_cmp (op_ltD c.un64) (me_var 0) (me_var 1))))

noncomputable def g_length_behind : G :=
(gSeq (gIf (tTr (eFn sem_is_below [] (aCons (eVar 0) (aCons (eVar 1) aNil))))
(gRet (eC .non))
gNext)
(gSeq (gFor (sEnum (aCons (eVar 1) aNil)) (pUnp 2 (psCons (pName 2) (psCons (pUnp 2 (psCons (pName 3) (psCons (pName 4) psNil))) psNil)))
(gIf (tOf (eBin dNe (eBin dIx (eVar 0) (eVar 2)) (eTup (aCons (eVar 3) (aCons (eVar 4) aNil)))))
(gSeq (gAsg (eIf (tOf (eBin dEq (eBin dIx (eBin dIx (eVar 0) (eVar 2)) (eC (.int 0))) (eVar 3))) (eBin dSub (eBin dIx (eBin dIx (eVar 0) (eVar 2)) (eC (.int 1))) (eVar 4)) (eBin dIx (eBin dIx (eVar 0) (eVar 2)) (eC (.int 1)))) (pName 5))
(gRet (eTup (aCons (eTup (aCons (eBin dIx (eBin dIx (eVar 0) (eVar 2)) (eC (.int 0))) (aCons (eVar 5) aNil))) (aStar (eSl dSl (eVar 0) (oSome (eBin dAdd (eVar 2) (eC (.int 1)))) oNone) aNil)))))
gNext))
(gRet (eSl dSl (eVar 0) (oSome (eCall bLen (aCons (eVar 1) aNil))) oNone))))
noncomputable def sem_length_behind : List D → M D := semOf 6 g_length_behind
theorem sc_length_behind : FnScope ["whole", "begin", "place", "power", "many", "more"] ["whole", "begin"] (defScope (top 15)) := ⟨rfl, rfl, rfl, by decide +kernel, rfl, by decide +kernel, by decide +kernel⟩
theorem has_length_behind (M : HdX PW sup fa fn K mg) : HasFn PW w K mg base 3 "length_behind" ["whole", "begin"] [] sem_length_behind :=
  hasFn_of M.hd 8 9 (d := d_length_behind) (N := ["whole", "begin", "place", "power", "many", "more"]) (ps := ["whole", "begin"]) (k := 2) (g := g_length_behind) rfl rfl rfl rfl rfl sc_length_behind (fun _ _ _ _ _ _ us hl => match us, hl with | [_, _], _ => rfl)
    fun f cdv A outer s H E c o => show MSs _ _ _ g_length_behind from by
      unfold g_length_behind
      exact (mss_cons (ms_if (mt_val (me_fn (has_is_below M) c (ma_cons (me_var 0) (ma_cons (me_var 1) ma_nil)) (len_cons (len_cons len_nil)))) (mss_one (ms_ret me_non)) mss_nil)
(mss_cons (ms_for o c.calm (mi_enum (M.free 32) (ma_cons (me_var 1) ma_nil)) (mg_unp c.calm (mgs_cons (mg_name c.nd) (mgs_cons (mg_unp c.calm (mgs_cons (mg_name c.nd) (mgs_cons (mg_name c.nd) mgs_nil))) mgs_nil))) (mss_one (ms_if (mt_cmp (op_neDD c.un64) (me_ix (ix_D c.un1) (me_var 0) (me_var 2)) (me_tup (ma_cons (me_var 3) (ma_cons (me_var 4) ma_nil)))) (mss_cons (ms_set c.nd (me_ifExp (mt_cmp (op_eqDD c.un64) (me_ix (ix_D c.un1) (me_ix (ix_D c.un1) (me_var 0) (me_var 2)) me_int) (me_var 3)) (me_bin op_subD (me_ix (ix_D c.un1) (me_ix (ix_D c.un1) (me_var 0) (me_var 2)) me_int) (me_var 4)) (me_ix (ix_D c.un1) (me_ix (ix_D c.un1) (me_var 0) (me_var 2)) me_int)))
(mss_one (ms_ret (me_tup (ma_cons (me_tup (ma_cons (me_ix (ix_D c.un1) (me_ix (ix_D c.un1) (me_var 0) (me_var 2)) me_int) (ma_cons (me_var 5) ma_nil))) (ma_star (me_slice sl_D (me_var 0) (mo_some (me_bin op_addD (me_var 2) me_int)) mo_none) ma_nil)))))) mss_nil)))
(mss_one (ms_ret (me_slice sl_D (me_var 0) (mo_some (me_blt call_lenM (M.free 27) boot_len (ma_cons (me_var 1) ma_nil))) mo_none)))))

noncomputable def g_length_taken : G :=
(gSeq (gIf (tOr' (tOf (eBin dEq (eVar 0) (eTup aNil))) (tOf (eBin dEq (eVar 1) (eC (.int 0)))))
(gRet (eTup aNil))
gNext)
(gSeq (gAsg (eBin dIx (eVar 0) (eC (.int 0))) (pUnp 2 (psCons (pName 2) (psCons (pName 3) psNil))))
(gRet (eTup (aCons (eTup (aCons (eVar 2) (aCons (eBin dMul (eVar 3) (eVar 1)) aNil))) (aStar (eSl dSl (eVar 0) (oSome (eC (.int 1))) oNone) aNil))))))
noncomputable def sem_length_taken : List D → M D := semOf 4 g_length_taken
theorem sc_length_taken : FnScope ["length", "often", "power", "many"] ["length", "often"] (defScope (top 16)) := ⟨rfl, rfl, rfl, by decide +kernel, rfl, by decide +kernel, by decide +kernel⟩
theorem has_length_taken (M : HdX PW sup fa fn K mg) : HasFn PW w K mg base 2 "length_taken" ["length", "often"] [] sem_length_taken :=
  hasFn_of M.hd 9 10 (d := d_length_taken) (N := ["length", "often", "power", "many"]) (ps := ["length", "often"]) (k := 1) (g := g_length_taken) rfl rfl rfl rfl rfl sc_length_taken (fun _ _ _ _ _ _ us hl => match us, hl with | [_, _], _ => rfl)
    fun f cdv A outer s H E c o => show MSs _ _ _ g_length_taken from by
      unfold g_length_taken
      exact (mss_cons (ms_if (mt_or (mw_or (mt_cmp (op_eqDD c.un64) (me_var 0) (me_tup ma_nil)) (mw_or1 (mt_cmp (op_eqDD c.un64) (me_var 1) me_int)))) (mss_one (ms_ret (me_tup ma_nil))) mss_nil)
(mss_cons (ms_asg (me_ix (ix_D c.un1) (me_var 0) me_int) (mg_unp c.calm (mgs_cons (mg_name c.nd) (mgs_cons (mg_name c.nd) mgs_nil))))
(mss_one (ms_ret (me_tup (ma_cons (me_tup (ma_cons (me_var 2) (ma_cons (me_bin op_mulD (me_var 3) (me_var 1)) ma_nil))) (ma_star (me_slice sl_D (me_var 0) (mo_some me_int) mo_none) ma_nil)))))))

noncomputable def g_length_endless : G :=
(gRet (eIf (tOf (eBin dNe (eVar 0) (eTup aNil))) (eTup (aCons (eTup (aCons (eBin dAdd (eBin dIx (eBin dIx (eVar 0) (eC (.int 0))) (eC (.int 0))) (eC (.int 1))) (aCons (eC (.int 1)) aNil))) aNil)) (eTup aNil)))
noncomputable def sem_length_endless : List D → M D := semOf 1 g_length_endless
theorem sc_length_endless : FnScope ["length"] ["length"] (defScope (top 17)) := ⟨rfl, rfl, rfl, by decide +kernel, rfl, by decide +kernel, by decide +kernel⟩
theorem has_length_endless (M : HdX PW sup fa fn K mg) : HasFn PW w K mg base 2 "length_endless" ["length"] [] sem_length_endless :=
  hasFn_of M.hd 10 11 (d := d_length_endless) (N := ["length"]) (ps := ["length"]) (k := 1) (g := g_length_endless) rfl rfl rfl rfl rfl sc_length_endless (fun _ _ _ _ _ _ us hl => match us, hl with | [_], _ => rfl)
    fun f cdv A outer s H E c o => show MSs _ _ _ g_length_endless from by
      unfold g_length_endless
      exact (mss_one (ms_ret (me_ifExp (mt_cmp (op_neDD c.un64) (me_var 0) (me_tup ma_nil)) (me_tup (ma_cons (me_tup (ma_cons (me_bin op_addD (me_ix (ix_D c.un1) (me_ix (ix_D c.un1) (me_var 0) me_int) me_int) me_int) (ma_cons me_int ma_nil))) ma_nil)) (me_tup ma_nil))))

noncomputable def g_is_limit : G :=
(gRet (eAnd (eBin dNe (eVar 0) (eTup aNil)) (eBin (dOrd true) (eBin dIx (eBin dIx (eVar 0) (eUn dNeg (eC (.int 1)))) (eC (.int 0))) (eC (.int 0)))))
noncomputable def sem_is_limit : List D → M D := semOf 1 g_is_limit
theorem sc_is_limit : FnScope ["length"] ["length"] (defScope (top 18)) := ⟨rfl, rfl, rfl, by decide +kernel, rfl, by decide +kernel, by decide +kernel⟩
theorem has_is_limit (M : HdX PW sup fa fn K mg) : HasFn PW w K mg base 2 "is_limit" ["length"] [] sem_is_limit :=
  hasFn_of M.hd 11 12 (d := d_is_limit) (N := ["length"]) (ps := ["length"]) (k := 1) (g := g_is_limit) rfl rfl rfl rfl rfl sc_is_limit (fun _ _ _ _ _ _ us hl => match us, hl with | [_], _ => rfl)
    fun f cdv A outer s H E c o => show MSs _ _ _ g_is_limit from by
      unfold g_is_limit
      exact (mss_one (ms_ret (me_and (me_cmp (op_neDD c.un64) (me_var 0) (me_tup ma_nil)) (me_one (me_cmp (op_gtD c.un64) (me_ix (ix_D c.un1) (me_ix (ix_D c.un1) (me_var 0) (me_un un_negD me_int)) me_int) me_int)))))

noncomputable def g__law_source : G :=
(gSeq (gAsg (eC (.int 11)) (pName 1))
(gSeq (gFor (sSeq (eVar 0)) (pName 2)
(gAsg (eBin dMod (eCall bInt (aCons (eBin dAdd (eBin dAdd (eBin dMul (eVar 1) (eC (.int 69069))) (eBin dMul (eVar 2) (eC (.int 31)))) (eC (.int 5))) aNil)) (eC (.int 2147483629))) (pName 1)))
(gRet (eDisp [((eC (.str "cells")), (eUn oRev (eLc (sSeq (eVar 0)) (pName 2) tYes' (eCall bAbs (aCons (eVar 2) aNil)) [2]))), ((eC (.str "left")), (eC (.int 1))), ((eC (.str "mixed")), (eVar 1)), ((eC (.str "turn")), (eC (.int 0)))]))))
noncomputable def sem__law_source : List D → M D := semOf 3 g__law_source
theorem sc__law_source : FnScope ["script", "mixed", "cell"] ["script"] (defScope (top 20)) := ⟨rfl, rfl, rfl, by decide +kernel, rfl, by decide +kernel, by decide +kernel⟩
theorem has__law_source (M : HdX PW sup fa fn K mg) : HasFn PW w K mg base 2 "_law_source" ["script"] [] sem__law_source :=
  hasFn_of M.hd 12 13 (d := d__law_source) (N := ["script", "mixed", "cell"]) (ps := ["script"]) (k := 1) (g := g__law_source) rfl rfl rfl rfl rfl sc__law_source (fun _ _ _ _ _ _ us hl => match us, hl with | [_], _ => rfl)
    fun f cdv A outer s H E c o => show MSs _ _ _ g__law_source from by
      unfold g__law_source
      exact (mss_cons (ms_set c.nd me_int)
(mss_cons (ms_for o c.calm (mi_seq (me_var 0)) (mg_name c.nd) (mss_one (ms_set c.nd (me_bin op_modD (me_ty call_intM (M.free 33) boot_int (ma_cons (me_bin op_addD (me_bin op_addD (me_bin op_mulD (me_var 1) me_int) (me_bin op_mulD (me_var 2) me_int)) me_int) ma_nil)) me_int))))
(mss_one (ms_ret (me_disp (mps_cons me_str (me_revL (me_lc c.calm c.nd (blkOk_by (own := [("cell", 2)]) (by rfl)) (by decide) (mi_seq (me_var 0)) (fun s0 H0 _ _ _ => (mg_name (c.blk s0 H0 _ _ _).nd)) (fun s0 H0 _ _ _ => mts_nil) (fun s0 H0 _ _ _ => (me_blt call_absM (M.free 25) boot_abs (ma_cons (me_var 2) ma_nil))))) (mps_cons me_str me_int (mps_cons me_str (me_var 1) (mps_cons me_str me_int mps_nil)))))))))

noncomputable def g__law_pick : G :=
(gSeq (gWhile (tAnd' (tOf (eBin (dOrd true) (eVar 1) (eC (.int 1)))) (tAnd' (tOf (eBin (dOrd false) (eBin dIx (eVar 0) (eC (.str "left"))) (eC (.int 2)))) (tOf (eBin (dOrd true) (eCall bLen (aCons (eBin dIx (eVar 0) (eC (.str "cells"))) aNil)) (eC (.int 0))))))
(gAsg (eMt "list" mPop (eBin dIx (eVar 0) (eC (.str "cells"))) aNil) (pSub dSet (eVar 0) (eC (.str "left")))))
(gSeq (gAsg (eBin dIx (eVar 0) (eC (.str "left"))) (pName 2))
(gSeq (gIf (tOr' (tOf (eBin (dOrd false) (eVar 1) (eC (.int 2)))) (tOf (eBin (dOrd true) (eVar 2) (eC (.int 1)))))
(gSeq (gAsg (eBin dDiv (eVar 2) (eCall bMax (aCons (eC (.int 1)) (aCons (eVar 1) aNil)))) (pSub dSet (eVar 0) (eC (.str "left"))))
(gRet (eBin dMod (eCall bInt (aCons (eVar 2) aNil)) (eCall bMax (aCons (eC (.int 1)) (aCons (eVar 1) aNil))))))
gNext)
(gSeq (gAsg (eBin dAdd (eBin dIx (eVar 0) (eC (.str "turn"))) (eC (.int 1))) (pSub dSet (eVar 0) (eC (.str "turn"))))
(gSeq (gAsg (eBin dMod (eCall bInt (aCons (eBin dAdd (eBin dIx (eVar 0) (eC (.str "mixed"))) (eBin dMul (eBin dIx (eVar 0) (eC (.str "turn"))) (eC (.int 104729)))) aNil)) (eC (.int 998244353))) (pName 3))
(gSeq (gAsg (eBin dMod (eCall bInt (aCons (eBin dAdd (eBin dMul (eVar 3) (eVar 3)) (eBin dMul (eBin dIx (eVar 0) (eC (.str "turn"))) (eC (.int 17)))) aNil)) (eC (.int 2147483647))) (pName 3))
(gSeq (gAsg (eVar 3) (pSub dSet (eVar 0) (eC (.str "mixed"))))
(gRet (eBin dMod (eCall bInt (aCons (eBin dDiv (eVar 3) (eC (.int 16))) aNil)) (eVar 1))))))))))
noncomputable def sem__law_pick : List D → M D := semOf 4 g__law_pick
theorem sc__law_pick : FnScope ["source", "many", "left", "mixed"] ["source", "many"] (defScope (top 21)) := ⟨rfl, rfl, rfl, by decide +kernel, rfl, by decide +kernel, by decide +kernel⟩
theorem has__law_pick (M : HdX PW sup fa fn K mg) : HasFn PW w K mg base 2 "_law_pick" ["source", "many"] [] sem__law_pick :=
  hasFn_of M.hd 13 14 (d := d__law_pick) (N := ["source", "many", "left", "mixed"]) (ps := ["source", "many"]) (k := 1) (g := g__law_pick) rfl rfl rfl rfl rfl sc__law_pick (fun _ _ _ _ _ _ us hl => match us, hl with | [_, _], _ => rfl)
    fun f cdv A outer s H E c o => show MSs _ _ _ g__law_pick from by
      unfold g__law_pick
      exact (mss_cons (ms_while o (mt_and (mw_and (mt_cmp (op_gtD c.un64) (me_var 1) me_int) (mw_and (mt_cmp (op_ltD c.un64) (me_ix (ix_D c.un1) (me_var 0) me_str) me_int) (mw_and1 (mt_cmp (op_gtD c.un64) (me_blt call_lenM (M.free 27) boot_len (ma_cons (me_ix (ix_D c.un1) (me_var 0) me_str) ma_nil)) me_int))))) (mss_one (ms_asg (me_mt0 F.plainAttrs_list F.slot_list_pop F.type_list_pop mt_popD (me_ix (ix_D c.un1) (me_var 0) me_str)) (mg_sub (W := fun c d _ H' => E c d H') (set_D c.un1) (me_var 0) me_str))))
(mss_cons (ms_set c.nd (me_ix (ix_D c.un1) (me_var 0) me_str))
(mss_cons (ms_if (mt_or (mw_or (mt_cmp (op_ltD c.un64) (me_var 1) me_int) (mw_or1 (mt_cmp (op_gtD c.un64) (me_var 2) me_int)))) (mss_cons (ms_asg (me_bin op_divD (me_var 2) (me_blt (call_maxM c.calm) (M.free 34) boot_max (ma_cons me_int (ma_cons (me_var 1) ma_nil)))) (mg_sub (W := fun c d _ H' => E c d H') (set_D c.un1) (me_var 0) me_str))
(mss_one (ms_ret (me_bin op_modD (me_ty call_intM (M.free 33) boot_int (ma_cons (me_var 2) ma_nil)) (me_blt (call_maxM c.calm) (M.free 34) boot_max (ma_cons me_int (ma_cons (me_var 1) ma_nil))))))) mss_nil)
(mss_cons (ms_asg (me_bin op_addD (me_ix (ix_D c.un1) (me_var 0) me_str) me_int) (mg_sub (W := fun c d _ H' => E c d H') (set_D c.un1) (me_var 0) me_str))
(mss_cons (ms_set c.nd (me_bin op_modD (me_ty call_intM (M.free 33) boot_int (ma_cons (me_bin op_addD (me_ix (ix_D c.un1) (me_var 0) me_str) (me_bin op_mulD (me_ix (ix_D c.un1) (me_var 0) me_str) me_int)) ma_nil)) me_int))
(mss_cons (ms_set c.nd (me_bin op_modD (me_ty call_intM (M.free 33) boot_int (ma_cons (me_bin op_addD (me_bin op_mulD (me_var 3) (me_var 3)) (me_bin op_mulD (me_ix (ix_D c.un1) (me_var 0) me_str) me_int)) ma_nil)) me_int))
(mss_cons (ms_asg (me_var 3) (mg_sub (W := fun c d _ H' => E c d H') (set_D c.un1) (me_var 0) me_str))
(mss_one (ms_ret (me_bin op_modD (me_ty call_intM (M.free 33) boot_int (ma_cons (me_bin op_divD (me_var 3) me_int) ma_nil)) (me_var 1)))))))))))

noncomputable def g__law_of : G :=
(gRet (eBin dIx (eVar 1) (eFn sem__law_pick [] (aCons (eVar 0) (aCons (eCall bLen (aCons (eVar 1) aNil)) aNil)))))
noncomputable def sem__law_of : List D → M D := semOf 2 g__law_of
theorem sc__law_of : FnScope ["source", "some"] ["source", "some"] (defScope (top 22)) := ⟨rfl, rfl, rfl, by decide +kernel, rfl, by decide +kernel, by decide +kernel⟩
theorem has__law_of (M : HdX PW sup fa fn K mg) : HasFn PW w K mg base 3 "_law_of" ["source", "some"] [] sem__law_of :=
  hasFn_of M.hd 14 15 (d := d__law_of) (N := ["source", "some"]) (ps := ["source", "some"]) (k := 2) (g := g__law_of) rfl rfl rfl rfl rfl sc__law_of (fun _ _ _ _ _ _ us hl => match us, hl with | [_, _], _ => rfl)
    fun f cdv A outer s H E c o => show MSs _ _ _ g__law_of from by
      unfold g__law_of
      exact (mss_one (ms_ret (me_ix (ix_D c.un1) (me_var 1) (me_fn (has__law_pick M) c (ma_cons (me_var 0) (ma_cons (me_blt call_lenM (M.free 27) boot_len (ma_cons (me_var 1) ma_nil)) ma_nil)) (len_cons (len_cons len_nil))))))

noncomputable def g__law_then : G :=
(gSeq (gIf (tOf (eBin dEq (eVar 1) (eTup aNil)))
(gRet (eVar 0))
gNext)
(gSeq (gAsg (eLc (sSeq (eVar 0)) (pName 4) (tOf (eBin (dOrd true) (eBin dIx (eVar 4) (eC (.int 0))) (eBin dIx (eBin dIx (eVar 1) (eC (.int 0))) (eC (.int 0))))) (eVar 4) [4]) (pName 2))
(gSeq (gAsg (eLc (sSeq (eVar 0)) (pUnp 2 (psCons (pName 5) (psCons (pName 6) psNil))) (tOf (eBin dEq (eVar 5) (eBin dIx (eBin dIx (eVar 1) (eC (.int 0))) (eC (.int 0))))) (eVar 6) [5, 6]) (pName 3))
(gRet (eBin dAdd (eBin dAdd (eCall bTuple (aCons (eVar 2) aNil)) (eTup (aCons (eTup (aCons (eBin dIx (eBin dIx (eVar 1) (eC (.int 0))) (eC (.int 0))) (aCons (eBin dAdd (eBin dIx (eBin dIx (eVar 1) (eC (.int 0))) (eC (.int 1))) (eCall bSum (aCons (eVar 3) aNil))) aNil))) aNil))) (eSl dSl (eVar 1) (oSome (eC (.int 1))) oNone))))))
noncomputable def sem__law_then : List D → M D := semOf 7 g__law_then
theorem sc__law_then : FnScope ["one", "other", "kept", "same", "pair", "power", "many"] ["one", "other"] (defScope (top 23)) := ⟨rfl, rfl, rfl, by decide +kernel, rfl, by decide +kernel, by decide +kernel⟩
theorem has__law_then (M : HdX PW sup fa fn K mg) : HasFn PW w K mg base 2 "_law_then" ["one", "other"] [] sem__law_then :=
  hasFn_of M.hd 15 16 (d := d__law_then) (N := ["one", "other", "kept", "same", "pair", "power", "many"]) (ps := ["one", "other"]) (k := 1) (g := g__law_then) rfl rfl rfl rfl rfl sc__law_then (fun _ _ _ _ _ _ us hl => match us, hl with | [_, _], _ => rfl)
    fun f cdv A outer s H E c o => show MSs _ _ _ g__law_then from by
      unfold g__law_then
      exact (mss_cons (ms_if (mt_cmp (op_eqDD c.un64) (me_var 1) (me_tup ma_nil)) (mss_one (ms_ret (me_var 0))) mss_nil)
(mss_cons (ms_setLc c.calm c.nd (blkOk_by (own := [("pair", 4)]) (by rfl)) (by decide) (mi_seq (me_var 0)) (fun s0 H0 _ _ _ => (mg_name (c.blk s0 H0 _ _ _).nd)) (fun s0 H0 _ _ _ => (mts_one (mt_cmp (op_gtD (c.blk s0 H0 _ _ _).un64) (me_ix (ix_D (c.blk s0 H0 _ _ _).un1) (me_var 4) me_int) (me_ix (ix_D (c.blk s0 H0 _ _ _).un1) (me_ix (ix_D (c.blk s0 H0 _ _ _).un1) (me_var 1) me_int) me_int)))) (fun s0 H0 _ _ _ => (me_var 4)))
(mss_cons (ms_setLc c.calm c.nd (blkOk_by (own := [("power", 5), ("many", 6)]) (by rfl)) (by decide) (mi_seq (me_var 0)) (fun s0 H0 _ _ _ => (mg_unp (c.blk s0 H0 _ _ _).calm (mgs_cons (mg_name (c.blk s0 H0 _ _ _).nd) (mgs_cons (mg_name (c.blk s0 H0 _ _ _).nd) mgs_nil)))) (fun s0 H0 _ _ _ => (mts_one (mt_cmp (op_eqDD (c.blk s0 H0 _ _ _).un64) (me_var 5) (me_ix (ix_D (c.blk s0 H0 _ _ _).un1) (me_ix (ix_D (c.blk s0 H0 _ _ _).un1) (me_var 1) me_int) me_int)))) (fun s0 H0 _ _ _ => (me_var 6)))
(mss_one (ms_ret (me_bin op_addD (me_bin op_addD (me_ty call_tupleM (M.free 31) boot_tuple (ma_cons (me_var 2) ma_nil)) (me_tup (ma_cons (me_tup (ma_cons (me_ix (ix_D c.un1) (me_ix (ix_D c.un1) (me_var 1) me_int) me_int) (ma_cons (me_bin op_addD (me_ix (ix_D c.un1) (me_ix (ix_D c.un1) (me_var 1) me_int) me_int) (me_blt (call_sumM c.calm) (M.free 35) boot_sum (ma_cons (me_var 3) ma_nil))) ma_nil))) ma_nil))) (me_slice sl_D (me_var 1) (mo_some me_int) mo_none)))))))

noncomputable def g__law_length : G :=
(gSeq (gAsg eDict0 (pName 2))
(gSeq (gFor (sRng1 (aCons (eFn sem__law_pick [] (aCons (eVar 0) (aCons (eC (.int 7)) aNil))) aNil)) (pName 3)
(gAsg (eC (.int 0)) (pSub dSet (eVar 2) (eFn sem__law_of [] (aCons (eVar 0) (aCons (eLst (aCons (eC (.int 0)) (aCons (eC (.int 0)) (aCons (eC (.int 1)) (aCons (eC (.int 1)) (aCons (eC (.int 2)) (aCons (eC (.int 3)) (aCons (eC (.int 5)) (aCons (eC (.int 9)) (aCons (eVar 1) aNil)))))))))) aNil))))))
(gRet (eCall bTuple (aCons (eLc (sSeq (eUn oRev (eCall bSorted (aCons (eVar 2) aNil)))) (pName 4) tYes' (eTup (aCons (eVar 4) (aCons (eFn sem__law_of [] (aCons (eVar 0) (aCons (eLst (aCons (eC (.int 1)) (aCons (eC (.int 1)) (aCons (eC (.int 2)) (aCons (eC (.int 3)) (aCons (eC (.int 7)) (aCons (eVar 1) aNil))))))) aNil))) aNil))) [4]) aNil)))))
noncomputable def sem__law_length : List D → M D := semOf 5 g__law_length
theorem sc__law_length : FnScope ["source", "far", "powers", "lap", "power"] ["source", "far"] (defScope (top 24)) := ⟨rfl, rfl, rfl, by decide +kernel, rfl, by decide +kernel, by decide +kernel⟩
theorem has__law_length (M : HdX PW sup fa fn K mg) : HasFn PW w K mg base 4 "_law_length" ["source", "far"] [] sem__law_length :=
  hasFn_of M.hd 16 17 (d := d__law_length) (N := ["source", "far", "powers", "lap", "power"]) (ps := ["source", "far"]) (k := 3) (g := g__law_length) rfl rfl rfl rfl rfl sc__law_length (fun _ _ _ _ _ _ us hl => match us, hl with | [_, _], _ => rfl)
    fun f cdv A outer s H E c o => show MSs _ _ _ g__law_length from by
      unfold g__law_length
      exact (mss_cons (ms_set c.nd me_dict0)
(mss_cons (ms_for o c.calm (mi_range1 (M.free 37) (ma_cons (me_fn (has__law_pick M) c (ma_cons (me_var 0) (ma_cons me_int ma_nil)) (len_cons (len_cons len_nil))) ma_nil)) (mg_name c.nd) (mss_one (ms_asg me_int (mg_sub (W := fun c d _ H' => E c d H') (set_D c.un1) (me_var 2) (me_fn (has__law_of M) c (ma_cons (me_var 0) (ma_cons (me_lst (ma_cons me_int (ma_cons me_int (ma_cons me_int (ma_cons me_int (ma_cons me_int (ma_cons me_int (ma_cons me_int (ma_cons me_int (ma_cons (me_var 1) ma_nil)))))))))) ma_nil)) (len_cons (len_cons len_nil)))))))
(mss_one (ms_ret (me_ty call_tupleM (M.free 31) boot_tuple (ma_cons (me_lc c.calm c.nd (blkOk_by (own := [("power", 4)]) (by rfl)) (by decide) (mi_seq (me_revL (me_blt (call_sortedM c.calm) (M.free 36) boot_sorted (ma_cons (me_var 2) ma_nil)))) (fun s0 H0 _ _ _ => (mg_name (c.blk s0 H0 _ _ _).nd)) (fun s0 H0 _ _ _ => mts_nil) (fun s0 H0 _ _ _ => (me_tup (ma_cons (me_var 4) (ma_cons (me_fn (has__law_of M) (c.blk s0 H0 _ _ _) (ma_cons (me_var 0) (ma_cons (me_lst (ma_cons me_int (ma_cons me_int (ma_cons me_int (ma_cons me_int (ma_cons me_int (ma_cons (me_var 1) ma_nil))))))) ma_nil)) (len_cons (len_cons len_nil))) ma_nil))))) ma_nil))))))

noncomputable def g__law_near : G :=
(gSeq (gAsg (eFn sem__law_pick [] (aCons (eVar 0) (aCons (eC (.int 6)) aNil))) (pName 3))
(gSeq (gIf (tOr' (tOf (eBin dEq (eVar 3) (eC (.int 0)))) (tOf (eBin dEq (eVar 1) (eTup aNil))))
(gRet (eVar 1))
gNext)
(gSeq (gAsg (eFn sem__law_pick [] (aCons (eVar 0) (aCons (eCall bLen (aCons (eVar 1) aNil)) aNil))) (pName 4))
(gSeq (gAsg (eBin dIx (eVar 1) (eVar 4)) (pUnp 2 (psCons (pName 5) (psCons (pName 6) psNil))))
(gSeq (gIf (tOf (eBin dEq (eVar 3) (eC (.int 1))))
(gRet (eSl dSl (eVar 1) oNone (oSome (eVar 4))))
gNext)
(gSeq (gIf (tOf (eBin dEq (eVar 3) (eC (.int 2))))
(gRet (eBin dAdd (eBin dAdd (eSl dSl (eVar 1) oNone (oSome (eVar 4))) (eTup (aCons (eTup (aCons (eVar 5) (aCons (eBin dAdd (eVar 6) (eFn sem__law_of [] (aCons (eVar 0) (aCons (eLst (aCons (eC (.int 1)) (aCons (eC (.int 2)) (aCons (eVar 2) aNil)))) aNil)))) aNil))) aNil))) (eSl dSl (eVar 1) (oSome (eBin dAdd (eVar 4) (eC (.int 1)))) oNone)))
gNext)
(gSeq (gIf (tOf (eBin dEq (eVar 3) (eC (.int 3))))
(gRet (eBin dAdd (eSl dSl (eVar 1) oNone (oSome (eVar 4))) (eSl dSl (eVar 1) (oSome (eBin dAdd (eVar 4) (eC (.int 1)))) oNone)))
gNext)
(gSeq (gIf (tAnd' (tOf (eBin dEq (eVar 3) (eC (.int 4)))) (tOf (eBin (dOrd true) (eVar 5) (eC (.int 0)))))
(gRet (eBin dAdd (eSl dSl (eVar 1) oNone (oSome (eBin dAdd (eVar 4) (eC (.int 1))))) (eTup (aCons (eTup (aCons (eBin dSub (eVar 5) (eC (.int 1))) (aCons (eC (.int 1)) aNil))) aNil))))
gNext)
(gRet (eBin dAdd (eSl dSl (eVar 1) oNone (oSome (eVar 4))) (eTup (aCons (eTup (aCons (eVar 5) (aCons (eVar 6) aNil))) aNil))))))))))))
noncomputable def sem__law_near : List D → M D := semOf 7 g__law_near
theorem sc__law_near : FnScope ["source", "length", "far", "way", "k", "power", "many"] ["source", "length", "far"] (defScope (top 25)) := ⟨rfl, rfl, rfl, by decide +kernel, rfl, by decide +kernel, by decide +kernel⟩
theorem has__law_near (M : HdX PW sup fa fn K mg) : HasFn PW w K mg base 4 "_law_near" ["source", "length", "far"] [] sem__law_near :=
  hasFn_of M.hd 17 18 (d := d__law_near) (N := ["source", "length", "far", "way", "k", "power", "many"]) (ps := ["source", "length", "far"]) (k := 3) (g := g__law_near) rfl rfl rfl rfl rfl sc__law_near (fun _ _ _ _ _ _ us hl => match us, hl with | [_, _, _], _ => rfl)
    fun f cdv A outer s H E c o => show MSs _ _ _ g__law_near from by
      unfold g__law_near
      exact (mss_cons (ms_set c.nd (me_fn (has__law_pick M) c (ma_cons (me_var 0) (ma_cons me_int ma_nil)) (len_cons (len_cons len_nil))))
(mss_cons (ms_if (mt_or (mw_or (mt_cmp (op_eqDD c.un64) (me_var 3) me_int) (mw_or1 (mt_cmp (op_eqDD c.un64) (me_var 1) (me_tup ma_nil))))) (mss_one (ms_ret (me_var 1))) mss_nil)
(mss_cons (ms_set c.nd (me_fn (has__law_pick M) c (ma_cons (me_var 0) (ma_cons (me_blt call_lenM (M.free 27) boot_len (ma_cons (me_var 1) ma_nil)) ma_nil)) (len_cons (len_cons len_nil))))
(mss_cons (ms_asg (me_ix (ix_D c.un1) (me_var 1) (me_var 4)) (mg_unp c.calm (mgs_cons (mg_name c.nd) (mgs_cons (mg_name c.nd) mgs_nil))))
(mss_cons (ms_if (mt_cmp (op_eqDD c.un64) (me_var 3) me_int) (mss_one (ms_ret (me_slice sl_D (me_var 1) mo_none (mo_some (me_var 4))))) mss_nil)
(mss_cons (ms_if (mt_cmp (op_eqDD c.un64) (me_var 3) me_int) (mss_one (ms_ret (me_bin op_addD (me_bin op_addD (me_slice sl_D (me_var 1) mo_none (mo_some (me_var 4))) (me_tup (ma_cons (me_tup (ma_cons (me_var 5) (ma_cons (me_bin op_addD (me_var 6) (me_fn (has__law_of M) c (ma_cons (me_var 0) (ma_cons (me_lst (ma_cons me_int (ma_cons me_int (ma_cons (me_var 2) ma_nil)))) ma_nil)) (len_cons (len_cons len_nil)))) ma_nil))) ma_nil))) (me_slice sl_D (me_var 1) (mo_some (me_bin op_addD (me_var 4) me_int)) mo_none)))) mss_nil)
(mss_cons (ms_if (mt_cmp (op_eqDD c.un64) (me_var 3) me_int) (mss_one (ms_ret (me_bin op_addD (me_slice sl_D (me_var 1) mo_none (mo_some (me_var 4))) (me_slice sl_D (me_var 1) (mo_some (me_bin op_addD (me_var 4) me_int)) mo_none)))) mss_nil)
(mss_cons (ms_if (mt_and (mw_and (mt_cmp (op_eqDD c.un64) (me_var 3) me_int) (mw_and1 (mt_cmp (op_gtD c.un64) (me_var 5) me_int)))) (mss_one (ms_ret (me_bin op_addD (me_slice sl_D (me_var 1) mo_none (mo_some (me_bin op_addD (me_var 4) me_int))) (me_tup (ma_cons (me_tup (ma_cons (me_bin op_subD (me_var 5) me_int) (ma_cons me_int ma_nil))) ma_nil))))) mss_nil)
(mss_one (ms_ret (me_bin op_addD (me_slice sl_D (me_var 1) mo_none (mo_some (me_var 4))) (me_tup (ma_cons (me_tup (ma_cons (me_var 5) (ma_cons (me_var 6) ma_nil))) ma_nil)))))))))))))

noncomputable def g__law_order : G :=
(gSeq (gFor (sZip (aCons (eVar 0) (aCons (eVar 1) aNil))) (pUnp 2 (psCons (pName 2) (psCons (pName 3) psNil)))
(gIf (tOf (eBin dNe (eVar 2) (eVar 3)))
(gSeq (gAsg (eOr (eBin (dOrd true) (eBin dIx (eVar 2) (eC (.int 0))) (eBin dIx (eVar 3) (eC (.int 0)))) (eAnd (eBin dEq (eBin dIx (eVar 2) (eC (.int 0))) (eBin dIx (eVar 3) (eC (.int 0)))) (eBin (dOrd true) (eBin dIx (eVar 2) (eC (.int 1))) (eBin dIx (eVar 3) (eC (.int 1)))))) (pName 4))
(gRet (eIf (tTr (eVar 4)) (eC (.int 1)) (eUn dNeg (eC (.int 1))))))
gNext))
(gRet (eBin dSub (eCall bInt (aCons (eBin (dOrd true) (eCall bLen (aCons (eVar 0) aNil)) (eCall bLen (aCons (eVar 1) aNil))) aNil)) (eCall bInt (aCons (eBin (dOrd false) (eCall bLen (aCons (eVar 0) aNil)) (eCall bLen (aCons (eVar 1) aNil))) aNil)))))
noncomputable def sem__law_order : List D → M D := semOf 5 g__law_order
theorem sc__law_order : FnScope ["one", "other", "here", "there", "is_more"] ["one", "other"] (defScope (top 26)) := ⟨rfl, rfl, rfl, by decide +kernel, rfl, by decide +kernel, by decide +kernel⟩
theorem has__law_order (M : HdX PW sup fa fn K mg) : HasFn PW w K mg base 2 "_law_order" ["one", "other"] [] sem__law_order :=
  hasFn_of M.hd 18 19 (d := d__law_order) (N := ["one", "other", "here", "there", "is_more"]) (ps := ["one", "other"]) (k := 1) (g := g__law_order) rfl rfl rfl rfl rfl sc__law_order (fun _ _ _ _ _ _ us hl => match us, hl with | [_, _], _ => rfl)
    fun f cdv A outer s H E c o => show MSs _ _ _ g__law_order from by
      unfold g__law_order
      exact (mss_cons (ms_for o c.calm (mi_zip (M.free 38) (ma_cons (me_var 0) (ma_cons (me_var 1) ma_nil))) (mg_unp c.calm (mgs_cons (mg_name c.nd) (mgs_cons (mg_name c.nd) mgs_nil))) (mss_one (ms_if (mt_cmp (op_neDD c.un64) (me_var 2) (me_var 3)) (mss_cons (ms_set c.nd (me_or (me_cmp (op_gtD c.un64) (me_ix (ix_D c.un1) (me_var 2) me_int) (me_ix (ix_D c.un1) (me_var 3) me_int)) (me_one (me_and (me_cmp (op_eqDD c.un64) (me_ix (ix_D c.un1) (me_var 2) me_int) (me_ix (ix_D c.un1) (me_var 3) me_int)) (me_one (me_cmp (op_gtD c.un64) (me_ix (ix_D c.un1) (me_var 2) me_int) (me_ix (ix_D c.un1) (me_var 3) me_int)))))))
(mss_one (ms_ret (me_ifExp (mt_val (me_var 4)) me_int (me_un un_negD me_int))))) mss_nil)))
(mss_one (ms_ret (me_bin op_subD (me_ty call_intM (M.free 33) boot_int (ma_cons (me_cmp (op_gtD c.un64) (me_blt call_lenM (M.free 27) boot_len (ma_cons (me_var 0) ma_nil)) (me_blt call_lenM (M.free 27) boot_len (ma_cons (me_var 1) ma_nil))) ma_nil)) (me_ty call_intM (M.free 33) boot_int (ma_cons (me_cmp (op_ltD c.un64) (me_blt call_lenM (M.free 27) boot_len (ma_cons (me_var 0) ma_nil)) (me_blt call_lenM (M.free 27) boot_len (ma_cons (me_var 1) ma_nil))) ma_nil))))))

noncomputable def g__law_behind : G :=
(gSeq (gIf (tOf (eBin (dOrd false) (eFn sem__law_order [] (aCons (eVar 0) (aCons (eVar 1) aNil))) (eC (.int 0))))
(gRet (eC .non))
gNext)
(gSeq (gIf (tOf (eBin dEq (eVar 0) (eVar 1)))
(gRet (eTup aNil))
gNext)
(gSeq (gFor (sEnum (aCons (eVar 0) aNil)) (pUnp 2 (psCons (pName 2) (psCons (pUnp 2 (psCons (pName 3) (psCons (pName 4) psNil))) psNil)))
(gIf (tOr' (tOf (eBin dGe (eVar 2) (eCall bLen (aCons (eVar 1) aNil)))) (tOf (eBin dNe (eBin dIx (eVar 1) (eVar 2)) (eTup (aCons (eVar 3) (aCons (eVar 4) aNil))))))
(gSeq (gAsg (eIf (tAnd' (tOf (eBin (dOrd false) (eVar 2) (eCall bLen (aCons (eVar 1) aNil)))) (tOf (eBin dEq (eBin dIx (eBin dIx (eVar 1) (eVar 2)) (eC (.int 0))) (eVar 3)))) (eBin dIx (eBin dIx (eVar 1) (eVar 2)) (eC (.int 1))) (eC (.int 0))) (pName 5))
(gRet (eBin dAdd (eTup (aCons (eTup (aCons (eVar 3) (aCons (eBin dSub (eVar 4) (eVar 5)) aNil))) aNil)) (eSl dSl (eVar 0) (oSome (eBin dAdd (eVar 2) (eC (.int 1)))) oNone))))
gNext))
(gRet (eC .non)))))
noncomputable def sem__law_behind : List D → M D := semOf 6 g__law_behind
theorem sc__law_behind : FnScope ["whole", "begin", "k", "power", "many", "less"] ["whole", "begin"] (defScope (top 27)) := ⟨rfl, rfl, rfl, by decide +kernel, rfl, by decide +kernel, by decide +kernel⟩
theorem has__law_behind (M : HdX PW sup fa fn K mg) : HasFn PW w K mg base 3 "_law_behind" ["whole", "begin"] [] sem__law_behind :=
  hasFn_of M.hd 19 20 (d := d__law_behind) (N := ["whole", "begin", "k", "power", "many", "less"]) (ps := ["whole", "begin"]) (k := 2) (g := g__law_behind) rfl rfl rfl rfl rfl sc__law_behind (fun _ _ _ _ _ _ us hl => match us, hl with | [_, _], _ => rfl)
    fun f cdv A outer s H E c o => show MSs _ _ _ g__law_behind from by
      unfold g__law_behind
      exact (mss_cons (ms_if (mt_cmp (op_ltD c.un64) (me_fn (has__law_order M) c (ma_cons (me_var 0) (ma_cons (me_var 1) ma_nil)) (len_cons (len_cons len_nil))) me_int) (mss_one (ms_ret me_non)) mss_nil)
(mss_cons (ms_if (mt_cmp (op_eqDD c.un64) (me_var 0) (me_var 1)) (mss_one (ms_ret (me_tup ma_nil))) mss_nil)
(mss_cons (ms_for o c.calm (mi_enum (M.free 32) (ma_cons (me_var 0) ma_nil)) (mg_unp c.calm (mgs_cons (mg_name c.nd) (mgs_cons (mg_unp c.calm (mgs_cons (mg_name c.nd) (mgs_cons (mg_name c.nd) mgs_nil))) mgs_nil))) (mss_one (ms_if (mt_or (mw_or (mt_cmp op_geD (me_var 2) (me_blt call_lenM (M.free 27) boot_len (ma_cons (me_var 1) ma_nil))) (mw_or1 (mt_cmp (op_neDD c.un64) (me_ix (ix_D c.un1) (me_var 1) (me_var 2)) (me_tup (ma_cons (me_var 3) (ma_cons (me_var 4) ma_nil))))))) (mss_cons (ms_set c.nd (me_ifExp (mt_and (mw_and (mt_cmp (op_ltD c.un64) (me_var 2) (me_blt call_lenM (M.free 27) boot_len (ma_cons (me_var 1) ma_nil))) (mw_and1 (mt_cmp (op_eqDD c.un64) (me_ix (ix_D c.un1) (me_ix (ix_D c.un1) (me_var 1) (me_var 2)) me_int) (me_var 3))))) (me_ix (ix_D c.un1) (me_ix (ix_D c.un1) (me_var 1) (me_var 2)) me_int) me_int))
(mss_one (ms_ret (me_bin op_addD (me_tup (ma_cons (me_tup (ma_cons (me_var 3) (ma_cons (me_bin op_subD (me_var 4) (me_var 5)) ma_nil))) ma_nil)) (me_slice sl_D (me_var 0) (mo_some (me_bin op_addD (me_var 2) me_int)) mo_none))))) mss_nil)))
(mss_one (ms_ret me_non)))))

noncomputable def thk__law_made : M D → M D := thkTry 2 [("TooGreat", true)] 1 (fun a d => (gRet (eTup (aCons (eC (.str "great")) (aCons (eXf a d "number" (eVar 1)) aNil))))) (wTag "told")
theorem sc__law_made : FnScope ["call", "error"] ["call"] (defScope (top 28)) := ⟨rfl, rfl, rfl, by decide +kernel, rfl, by decide +kernel, by decide +kernel⟩
theorem has__law_made {k : Nat} (M : HdX PW sup fa fn K mg) : HasThk PW w K mg base k "_law_made" thk__law_made :=
  hasThk_of M.hd 20 21 (d := d__law_made) (N := ["call", "error"]) (a := "call") (C := "TooGreat") (n := "error") (ci := 1) (cs := [("TooGreat", true)]) (gs := fun a d => (gRet (eTup (aCons (eC (.str "great")) (aCons (eXf a d "number" (eVar 1)) aNil))))) rfl rfl rfl rfl rfl sc__law_made (fun _ _ _ _ _ _ us hl => match us, hl with | [_], _ => rfl)
    rfl wr_tag (M.glo 0) (List.forall_mem_cons.mpr ⟨M.exm 39, fun _ h => nomatch h⟩) (List.forall_mem_cons.mpr ⟨fun _ => rfl, fun _ h => nomatch h⟩)
    (fun g cdv A outer s H a oe d pn hz hv => (mss_one (ms_ret (me_tup (ma_cons me_str (ma_cons (me_xf (C := "TooGreat") (M.xf (d := sup_TooGreat) 0) (M.noat 24) hz hv (me_var 1)) ma_nil)))))) rfl (Or.inl rfl) (fun _ _ _ _ _ _ => rfl) rfl (fun _ _ _ _ _ _ => rfl) (fun _ => rfl)

noncomputable def g_law (tb : Nat → Addr) : G :=
(gSeq (gAsg (eFn sem__law_source [] (aCons (eVar 0) aNil)) (pName 1))
(gSeq (gAsg (eCall bInt (aCons (eBin dAdd (eC (.str "1")) (eBin dMul (eC (.str "0")) (eC (.int 300)))) aNil)) (pName 2))
(gSeq (gAsg (eFn sem__law_of [] (aCons (eVar 1) (aCons (eLst (aCons (eC (.int 4)) (aCons (eC (.int 60)) (aCons (eBin dPow (eC (.int 10)) (eC (.int 40))) (aCons (eBin dSub (eVar 2) (eC (.int 1))) aNil))))) aNil))) (pName 3))
(gSeq (gFor (sRng1 (aCons (eC (.int 8)) aNil)) (pName 4)
(gSeq (gAsg (eFn sem__law_length [] (aCons (eVar 1) (aCons (eVar 3) aNil))) (pName 5))
(gSeq (gAsg (eIf (tOf (eBin (dOrd true) (eFn sem__law_pick [] (aCons (eVar 1) (aCons (eC (.int 3)) aNil))) (eC (.int 0)))) (eFn sem__law_near [] (aCons (eVar 1) (aCons (eVar 5) (aCons (eVar 3) aNil)))) (eFn sem__law_length [] (aCons (eVar 1) (aCons (eVar 3) aNil)))) (pName 6))
(gSeq (gAsg (eFn sem__law_order [] (aCons (eVar 5) (aCons (eVar 6) aNil))) (pName 7))
(gSeq (gIf (tOr' (tOf (eBin dNe (eFn sem_lengths_compared [] (aCons (eVar 5) (aCons (eVar 6) aNil))) (eVar 7))) (tOf (eBin dNe (eFn sem_lengths_compared [] (aCons (eVar 6) (aCons (eVar 5) aNil))) (eBin dSub (eC (.int 0)) (eVar 7)))))
(gRet (eC (.bl false)))
gNext)
(gSeq (gIf (tOr' (tOf (eBin dNe (eFn sem_is_below [] (aCons (eVar 5) (aCons (eVar 6) aNil))) (eBin (dOrd false) (eVar 7) (eC (.int 0))))) (tOf (eBin dNe (eFn sem_is_limit [] (aCons (eVar 5) aNil)) (eAnd (eBin dNe (eVar 5) (eTup aNil)) (eBin (dOrd true) (eBin dIx (eBin dIx (eVar 5) (eUn dNeg (eC (.int 1)))) (eC (.int 0))) (eC (.int 0)))))))
(gRet (eC (.bl false)))
gNext)
(gSeq (gFor (sSeq (eTup (aCons (eTup (aCons (eVar 5) (aCons (eVar 6) aNil))) (aCons (eTup (aCons (eVar 6) (aCons (eVar 5) aNil))) (aCons (eTup (aCons (eFn sem__law_then [] (aCons (eVar 5) (aCons (eVar 6) aNil))) (aCons (eVar 5) aNil))) aNil))))) (pUnp 2 (psCons (pName 8) (psCons (pName 9) psNil)))
(gSeq (gAsg (eFn sem_length_behind [] (aCons (eVar 8) (aCons (eVar 9) aNil))) (pName 10))
(gSeq (gIf (tOf (eBin dNe (eCall bRepr (aCons (eVar 10) aNil)) (eCall bRepr (aCons (eFn sem__law_behind [] (aCons (eVar 8) (aCons (eVar 9) aNil))) aNil))))
(gRet (eC (.bl false)))
gNext)
(gIf (tAnd' (tOf (eBin dIsNot (eVar 10) (eC .non))) (tOf (eBin dNe (eCall bRepr (aCons (eFn sem_length_then [] (aCons (eVar 9) (aCons (eVar 10) aNil))) aNil)) (eCall bRepr (aCons (eVar 8) aNil)))))
(gRet (eC (.bl false)))
gNext))))
(gSeq (gPar 11 12 (aCons (eFn sem__law_pick [] (aCons (eVar 1) (aCons (eC (.int 6)) aNil))) (aCons (eTup aNil) aNil)))
(gSeq (gFor (sRng1 (aCons (eVar 11) aNil)) (pName 13)
(gAsg (eFn sem__law_then [] (aCons (eVar 12) (aCons (eVar 5) aNil))) (pName 12)))
(gSeq (gIf (tOf (eBin dNe (eCall bRepr (aCons (eFn sem_length_taken [] (aCons (eVar 5) (aCons (eVar 11) aNil))) aNil)) (eCall bRepr (aCons (eVar 12) aNil))))
(gRet (eC (.bl false)))
gNext)
(gSeq (gAsg (eIf (tOf (eBin dNe (eVar 5) (eTup aNil))) (eTup (aCons (eTup (aCons (eBin dAdd (eBin dIx (eBin dIx (eVar 5) (eC (.int 0))) (eC (.int 0))) (eC (.int 1))) (aCons (eC (.int 1)) aNil))) aNil)) (eTup aNil)) (pName 14))
(gSeq (gIf (tOr' (tOf (eBin dNe (eCall bRepr (aCons (eFn sem_length_endless [] (aCons (eVar 5) aNil)) aNil)) (eCall bRepr (aCons (eVar 14) aNil)))) (tOf (eBin dNe (eCall bRepr (aCons (eFn sem_length_then [] (aCons (eVar 5) (aCons (eVar 14) aNil))) aNil)) (eCall bRepr (aCons (eVar 14) aNil)))))
(gRet (eC (.bl false)))
gNext)
(gSeq (gIf (tAnd' (tOf (eBin dNe (eVar 5) (eTup aNil))) (tOr' (tNot' (tTr (eFn sem_is_below [] (aCons (eVar 12) (aCons (eVar 14) aNil))))) (tOf (eBin dIsNot (eFn sem_is_limit [] (aCons (eVar 14) aNil)) (eC (.bl true))))))
(gRet (eC (.bl false)))
gNext)
(gSeq (gIf (tOf (eBin dNe (eCall bRepr (aCons (eFn sem_length_behind [] (aCons (eVar 14) (aCons (eVar 12) aNil))) aNil)) (eCall bRepr (aCons (eVar 14) aNil))))
(gRet (eC (.bl false)))
gNext)
(gSeq (gAsg (eLc (sRng1 (aCons (eFn sem__law_pick [] (aCons (eVar 1) (aCons (eC (.int 6)) aNil))) aNil)) (pName 13) tYes' (eTup (aCons (eFn sem__law_pick [] (aCons (eVar 1) (aCons (eC (.int 4)) aNil))) (aCons (eFn sem__law_pick [] (aCons (eVar 1) (aCons (eC (.int 4)) aNil))) aNil))) [13]) (pName 15))
(gSeq (gAsg (eTup aNil) (pName 16))
(gSeq (gFor (sSeq (eVar 15)) (pUnp 2 (psCons (pName 17) (psCons (pName 18) psNil)))
(gAsg (eFn sem__law_then [] (aCons (eVar 16) (aCons (eIf (tOf (eBin (dOrd true) (eVar 18) (eC (.int 0)))) (eTup (aCons (eTup (aCons (eVar 17) (aCons (eVar 18) aNil))) aNil)) (eTup aNil)) aNil))) (pName 16)))
(gIf (tOr' (tOf (eBin dNe (eCall bRepr (aCons (eFn sem_length_told [] (aCons (eVar 15) aNil)) aNil)) (eCall bRepr (aCons (eVar 16) aNil)))) (tOf (eBin dNe (eCall bRepr (aCons (eFn sem_lengths_then [] (aCons (eLst (aCons (eVar 5) (aCons (eVar 6) (aCons (eVar 16) aNil)))) aNil)) aNil)) (eCall bRepr (aCons (eFn sem__law_then [] (aCons (eFn sem__law_then [] (aCons (eVar 5) (aCons (eVar 6) aNil))) (aCons (eVar 16) aNil))) aNil)))))
(gRet (eC (.bl false)))
gNext))))))))))))))))))
(gSeq (gAsg (eBin dAdd (eBin dSub (eVar 2) (eC (.int 2))) (eFn sem__law_pick [] (aCons (eVar 1) (aCons (eC (.int 4)) aNil)))) (pName 18))
(gSeq (gAsg (eIf (tOf (eBin (dOrd false) (eVar 18) (eVar 2))) (eTup (aCons (eC (.str "told")) (aCons (eVar 18) aNil))) (eTup (aCons (eC (.str "great")) (aCons (eC (.int 1)) aNil)))) (pName 12))
(gSeq (gIf (tOr' (tOf (eBin dNe (eCall bRepr (aCons (eThk (tb 0) "law.<locals>.<lambda>" 1 thk__law_made (eFn sem_not_long [] (aCons (eVar 18) aNil))) aNil)) (eCall bRepr (aCons (eVar 12) aNil)))) (tOf (eBin dNe (eFn sem_is_long [] (aCons (eVar 18) aNil)) (eBin dGe (eVar 18) (eVar 2)))))
(gRet (eC (.bl false)))
gNext)
(gSeq (gFor (sSeq (eTup (aCons (eTup (aCons (eTup (aCons (eC (.int 5)) (aCons (eC (.int 2)) aNil))) (aCons (eTup (aCons (eC (.int 0)) (aCons (eVar 18) aNil))) aNil))) (aCons (eTup (aCons (eTup (aCons (eVar 18) (aCons (eC (.int 1)) aNil))) aNil)) (aCons (eTup (aCons (eTup (aCons (eVar 18) (aCons (eC (.int 3)) aNil))) (aCons (eTup (aCons (eC (.int 2)) (aCons (eC (.int 1)) aNil))) aNil))) aNil))))) (pName 19)
(gSeq (gAsg (eIf (tOf (eBin (dOrd false) (eVar 18) (eVar 2))) (eTup (aCons (eC (.str "told")) (aCons (eVar 19) aNil))) (eTup (aCons (eC (.str "great")) (aCons (eC (.int 1)) aNil)))) (pName 12))
(gIf (tOf (eBin dNe (eCall bRepr (aCons (eThk (tb 0) "law.<locals>.<lambda>" 1 thk__law_made (eFn sem_length_made [] (aCons (eVar 19) aNil))) aNil)) (eCall bRepr (aCons (eVar 12) aNil))))
(gRet (eC (.bl false)))
gNext)))
(gRet (eBin dEq (eThk (tb 0) "law.<locals>.<lambda>" 1 thk__law_made (eFn sem_length_made [] (aCons (eTup aNil) aNil))) (eTup (aCons (eC (.str "told")) (aCons (eTup aNil) aNil)))))))))))))
noncomputable def sem_law (tb : Nat → Addr) : List D → M D := semOf 20 (g_law tb)
theorem sc_law : FnScope ["script", "source", "bound", "far", "lap", "one", "other", "order", "whole", "begin", "told", "many", "due", "turn", "endless", "pairs", "late", "power", "number", "length"] ["script"] (defScope (top 29)) := ⟨rfl, rfl, rfl, by decide +kernel, rfl, by decide +kernel, by decide +kernel⟩
theorem has_law (M : HdX PW sup fa fn K mg) (TB : ∀ t ∈ tf, LamX.TabB base mg (He.cT K t.1).1 (He.cT K t.1).2) : HasFn PW w K mg base 8 "law" ["script"] [] (sem_law (tbl K)) :=
  hasFn_ofT M.hd 21 22 (d := d_law) (N := ["script", "source", "bound", "far", "lap", "one", "other", "order", "whole", "begin", "told", "many", "due", "turn", "endless", "pairs", "late", "power", "number", "length"]) (ps := ["script"]) (k := 7) (g := g_law (tbl K)) rfl rfl rfl rfl rfl sc_law (fun _ _ _ _ _ _ us hl => match us, hl with | [_], _ => rfl)
    fun f cdv A outer s H E hc c o => show MSs _ _ _ (g_law (tbl K)) from by
      unfold g_law
      exact (mss_cons (ms_set c.nd (me_fn (has__law_source M) c (ma_cons (me_var 0) ma_nil) (len_cons len_nil)))
(mss_cons (ms_set c.nd (me_ty call_intM (M.free 33) boot_int (ma_cons (me_bin op_addD me_str (me_bin op_mulD me_str me_int)) ma_nil)))
(mss_cons (ms_set c.nd (me_fn (has__law_of M) c (ma_cons (me_var 1) (ma_cons (me_lst (ma_cons me_int (ma_cons me_int (ma_cons (me_bin op_powD me_int me_int) (ma_cons (me_bin op_subD (me_var 2) me_int) ma_nil))))) ma_nil)) (len_cons (len_cons len_nil))))
(mss_cons (ms_for o c.calm (mi_range1 (M.free 37) (ma_cons me_int ma_nil)) (mg_name c.nd) (mss_cons (ms_set c.nd (me_fn (has__law_length M) c (ma_cons (me_var 1) (ma_cons (me_var 3) ma_nil)) (len_cons (len_cons len_nil))))
(mss_cons (ms_set c.nd (me_ifExp (mt_cmp (op_gtD c.un64) (me_fn (has__law_pick M) c (ma_cons (me_var 1) (ma_cons me_int ma_nil)) (len_cons (len_cons len_nil))) me_int) (me_fn (has__law_near M) c (ma_cons (me_var 1) (ma_cons (me_var 5) (ma_cons (me_var 3) ma_nil))) (len_cons (len_cons (len_cons len_nil)))) (me_fn (has__law_length M) c (ma_cons (me_var 1) (ma_cons (me_var 3) ma_nil)) (len_cons (len_cons len_nil)))))
(mss_cons (ms_set c.nd (me_fn (has__law_order M) c (ma_cons (me_var 5) (ma_cons (me_var 6) ma_nil)) (len_cons (len_cons len_nil))))
(mss_cons (ms_if (mt_or (mw_or (mt_cmp (op_neDD c.un64) (me_fn (has_lengths_compared M) c (ma_cons (me_var 5) (ma_cons (me_var 6) ma_nil)) (len_cons (len_cons len_nil))) (me_var 7)) (mw_or1 (mt_cmp (op_neDD c.un64) (me_fn (has_lengths_compared M) c (ma_cons (me_var 6) (ma_cons (me_var 5) ma_nil)) (len_cons (len_cons len_nil))) (me_bin op_subD me_int (me_var 7)))))) (mss_one (ms_ret me_bl)) mss_nil)
(mss_cons (ms_if (mt_or (mw_or (mt_cmp (op_neDD c.un64) (me_fn (has_is_below M) c (ma_cons (me_var 5) (ma_cons (me_var 6) ma_nil)) (len_cons (len_cons len_nil))) (me_cmp (op_ltD c.un64) (me_var 7) me_int)) (mw_or1 (mt_cmp (op_neDD c.un64) (me_fn (has_is_limit M) c (ma_cons (me_var 5) ma_nil) (len_cons len_nil)) (me_and (me_cmp (op_neDD c.un64) (me_var 5) (me_tup ma_nil)) (me_one (me_cmp (op_gtD c.un64) (me_ix (ix_D c.un1) (me_ix (ix_D c.un1) (me_var 5) (me_un un_negD me_int)) me_int) me_int))))))) (mss_one (ms_ret me_bl)) mss_nil)
(mss_cons (ms_for o c.calm (mi_seq (me_tup (ma_cons (me_tup (ma_cons (me_var 5) (ma_cons (me_var 6) ma_nil))) (ma_cons (me_tup (ma_cons (me_var 6) (ma_cons (me_var 5) ma_nil))) (ma_cons (me_tup (ma_cons (me_fn (has__law_then M) c (ma_cons (me_var 5) (ma_cons (me_var 6) ma_nil)) (len_cons (len_cons len_nil))) (ma_cons (me_var 5) ma_nil))) ma_nil))))) (mg_unp c.calm (mgs_cons (mg_name c.nd) (mgs_cons (mg_name c.nd) mgs_nil))) (mss_cons (ms_set c.nd (me_fn (has_length_behind M) c (ma_cons (me_var 8) (ma_cons (me_var 9) ma_nil)) (len_cons (len_cons len_nil))))
(mss_cons (ms_if (mt_cmp (op_neDD c.un64) (me_blt (call_reprM c.gd c.un) (M.free 40) boot_repr (ma_cons (me_var 10) ma_nil)) (me_blt (call_reprM c.gd c.un) (M.free 40) boot_repr (ma_cons (me_fn (has__law_behind M) c (ma_cons (me_var 8) (ma_cons (me_var 9) ma_nil)) (len_cons (len_cons len_nil))) ma_nil))) (mss_one (ms_ret me_bl)) mss_nil)
(mss_one (ms_if (mt_and (mw_and (mt_cmp op_isNotD (me_var 10) me_non) (mw_and1 (mt_cmp (op_neDD c.un64) (me_blt (call_reprM c.gd c.un) (M.free 40) boot_repr (ma_cons (me_fn (has_length_then M) c (ma_cons (me_var 9) (ma_cons (me_var 10) ma_nil)) (len_cons (len_cons len_nil))) ma_nil)) (me_blt (call_reprM c.gd c.un) (M.free 40) boot_repr (ma_cons (me_var 8) ma_nil)))))) (mss_one (ms_ret me_bl)) mss_nil)))))
(mss_cons (ms_par c.calm c.nd (ma_cons (me_fn (has__law_pick M) c (ma_cons (me_var 1) (ma_cons me_int ma_nil)) (len_cons (len_cons len_nil))) (ma_cons (me_tup ma_nil) ma_nil)))
(mss_cons (ms_for o c.calm (mi_range1 (M.free 37) (ma_cons (me_var 11) ma_nil)) (mg_name c.nd) (mss_one (ms_set c.nd (me_fn (has__law_then M) c (ma_cons (me_var 12) (ma_cons (me_var 5) ma_nil)) (len_cons (len_cons len_nil))))))
(mss_cons (ms_if (mt_cmp (op_neDD c.un64) (me_blt (call_reprM c.gd c.un) (M.free 40) boot_repr (ma_cons (me_fn (has_length_taken M) c (ma_cons (me_var 5) (ma_cons (me_var 11) ma_nil)) (len_cons (len_cons len_nil))) ma_nil)) (me_blt (call_reprM c.gd c.un) (M.free 40) boot_repr (ma_cons (me_var 12) ma_nil))) (mss_one (ms_ret me_bl)) mss_nil)
(mss_cons (ms_set c.nd (me_ifExp (mt_cmp (op_neDD c.un64) (me_var 5) (me_tup ma_nil)) (me_tup (ma_cons (me_tup (ma_cons (me_bin op_addD (me_ix (ix_D c.un1) (me_ix (ix_D c.un1) (me_var 5) me_int) me_int) me_int) (ma_cons me_int ma_nil))) ma_nil)) (me_tup ma_nil)))
(mss_cons (ms_if (mt_or (mw_or (mt_cmp (op_neDD c.un64) (me_blt (call_reprM c.gd c.un) (M.free 40) boot_repr (ma_cons (me_fn (has_length_endless M) c (ma_cons (me_var 5) ma_nil) (len_cons len_nil)) ma_nil)) (me_blt (call_reprM c.gd c.un) (M.free 40) boot_repr (ma_cons (me_var 14) ma_nil))) (mw_or1 (mt_cmp (op_neDD c.un64) (me_blt (call_reprM c.gd c.un) (M.free 40) boot_repr (ma_cons (me_fn (has_length_then M) c (ma_cons (me_var 5) (ma_cons (me_var 14) ma_nil)) (len_cons (len_cons len_nil))) ma_nil)) (me_blt (call_reprM c.gd c.un) (M.free 40) boot_repr (ma_cons (me_var 14) ma_nil)))))) (mss_one (ms_ret me_bl)) mss_nil)
(mss_cons (ms_if (mt_and (mw_and (mt_cmp (op_neDD c.un64) (me_var 5) (me_tup ma_nil)) (mw_and1 (mt_or (mw_or (mt_not (mt_val (me_fn (has_is_below M) c (ma_cons (me_var 12) (ma_cons (me_var 14) ma_nil)) (len_cons (len_cons len_nil))))) (mw_or1 (mt_cmp op_isNotD (me_fn (has_is_limit M) c (ma_cons (me_var 14) ma_nil) (len_cons len_nil)) me_bl))))))) (mss_one (ms_ret me_bl)) mss_nil)
(mss_cons (ms_if (mt_cmp (op_neDD c.un64) (me_blt (call_reprM c.gd c.un) (M.free 40) boot_repr (ma_cons (me_fn (has_length_behind M) c (ma_cons (me_var 14) (ma_cons (me_var 12) ma_nil)) (len_cons (len_cons len_nil))) ma_nil)) (me_blt (call_reprM c.gd c.un) (M.free 40) boot_repr (ma_cons (me_var 14) ma_nil))) (mss_one (ms_ret me_bl)) mss_nil)
(mss_cons (ms_setLc c.calm c.nd (blkOk_by (own := [("turn", 13)]) (by rfl)) (by decide) (mi_range1 (M.free 37) (ma_cons (me_fn (has__law_pick M) c (ma_cons (me_var 1) (ma_cons me_int ma_nil)) (len_cons (len_cons len_nil))) ma_nil)) (fun s0 H0 _ _ _ => (mg_name (c.blk s0 H0 _ _ _).nd)) (fun s0 H0 _ _ _ => mts_nil) (fun s0 H0 _ _ _ => (me_tup (ma_cons (me_fn (has__law_pick M) (c.blk s0 H0 _ _ _) (ma_cons (me_var 1) (ma_cons me_int ma_nil)) (len_cons (len_cons len_nil))) (ma_cons (me_fn (has__law_pick M) (c.blk s0 H0 _ _ _) (ma_cons (me_var 1) (ma_cons me_int ma_nil)) (len_cons (len_cons len_nil))) ma_nil)))))
(mss_cons (ms_set c.nd (me_tup ma_nil))
(mss_cons (ms_for o c.calm (mi_seq (me_var 15)) (mg_unp c.calm (mgs_cons (mg_name c.nd) (mgs_cons (mg_name c.nd) mgs_nil))) (mss_one (ms_set c.nd (me_fn (has__law_then M) c (ma_cons (me_var 16) (ma_cons (me_ifExp (mt_cmp (op_gtD c.un64) (me_var 18) me_int) (me_tup (ma_cons (me_tup (ma_cons (me_var 17) (ma_cons (me_var 18) ma_nil))) ma_nil)) (me_tup ma_nil)) ma_nil)) (len_cons (len_cons len_nil))))))
(mss_one (ms_if (mt_or (mw_or (mt_cmp (op_neDD c.un64) (me_blt (call_reprM c.gd c.un) (M.free 40) boot_repr (ma_cons (me_fn (has_length_told M) c (ma_cons (me_var 15) ma_nil) (len_cons len_nil)) ma_nil)) (me_blt (call_reprM c.gd c.un) (M.free 40) boot_repr (ma_cons (me_var 16) ma_nil))) (mw_or1 (mt_cmp (op_neDD c.un64) (me_blt (call_reprM c.gd c.un) (M.free 40) boot_repr (ma_cons (me_fn (has_lengths_then M) c (ma_cons (me_lst (ma_cons (me_var 5) (ma_cons (me_var 6) (ma_cons (me_var 16) ma_nil)))) ma_nil) (len_cons len_nil)) ma_nil)) (me_blt (call_reprM c.gd c.un) (M.free 40) boot_repr (ma_cons (me_fn (has__law_then M) c (ma_cons (me_fn (has__law_then M) c (ma_cons (me_var 5) (ma_cons (me_var 6) ma_nil)) (len_cons (len_cons len_nil))) (ma_cons (me_var 16) ma_nil)) (len_cons (len_cons len_nil))) ma_nil)))))) (mss_one (ms_ret me_bl)) mss_nil)))))))))))))))))))
(mss_cons (ms_set c.nd (me_bin op_addD (me_bin op_subD (me_var 2) me_int) (me_fn (has__law_pick M) c (ma_cons (me_var 1) (ma_cons me_int ma_nil)) (len_cons (len_cons len_nil)))))
(mss_cons (ms_set c.nd (me_ifExp (mt_cmp (op_ltD c.un64) (me_var 18) (me_var 2)) (me_tup (ma_cons me_str (ma_cons (me_var 18) ma_nil))) (me_tup (ma_cons me_str (ma_cons me_int ma_nil)))))
(mss_cons (ms_if (mt_or (mw_or (mt_cmp (op_neDD c.un64) (me_blt (call_reprM c.gd c.un) (M.free 40) boot_repr (ma_cons (me_thk (k := 3) (has__law_made M) c (TB _ (by simp [tf])) hc (LamX.lamS_by (by rfl)) (by rfl) (fun _ _ _ _ _ => rfl) (fun f c' A outer s H E cl => (me_fn (has_not_long M) cl (ma_cons (me_var 18) ma_nil) (len_cons len_nil)))) ma_nil)) (me_blt (call_reprM c.gd c.un) (M.free 40) boot_repr (ma_cons (me_var 12) ma_nil))) (mw_or1 (mt_cmp (op_neDD c.un64) (me_fn (has_is_long M) c (ma_cons (me_var 18) ma_nil) (len_cons len_nil)) (me_cmp op_geD (me_var 18) (me_var 2)))))) (mss_one (ms_ret me_bl)) mss_nil)
(mss_cons (ms_for o c.calm (mi_seq (me_tup (ma_cons (me_tup (ma_cons (me_tup (ma_cons me_int (ma_cons me_int ma_nil))) (ma_cons (me_tup (ma_cons me_int (ma_cons (me_var 18) ma_nil))) ma_nil))) (ma_cons (me_tup (ma_cons (me_tup (ma_cons (me_var 18) (ma_cons me_int ma_nil))) ma_nil)) (ma_cons (me_tup (ma_cons (me_tup (ma_cons (me_var 18) (ma_cons me_int ma_nil))) (ma_cons (me_tup (ma_cons me_int (ma_cons me_int ma_nil))) ma_nil))) ma_nil))))) (mg_name c.nd) (mss_cons (ms_set c.nd (me_ifExp (mt_cmp (op_ltD c.un64) (me_var 18) (me_var 2)) (me_tup (ma_cons me_str (ma_cons (me_var 19) ma_nil))) (me_tup (ma_cons me_str (ma_cons me_int ma_nil)))))
(mss_one (ms_if (mt_cmp (op_neDD c.un64) (me_blt (call_reprM c.gd c.un) (M.free 40) boot_repr (ma_cons (me_thk (k := 4) (has__law_made M) c (TB _ (by simp [tf])) hc (LamX.lamS_by (by rfl)) (by rfl) (fun _ _ _ _ _ => rfl) (fun f c' A outer s H E cl => (me_fn (has_length_made M) cl (ma_cons (me_var 19) ma_nil) (len_cons len_nil)))) ma_nil)) (me_blt (call_reprM c.gd c.un) (M.free 40) boot_repr (ma_cons (me_var 12) ma_nil))) (mss_one (ms_ret me_bl)) mss_nil))))
(mss_one (ms_ret (me_cmp (op_eqDD c.un64) (me_thk (k := 4) (has__law_made M) c (TB _ (by simp [tf])) hc (LamX.lamS_by (by rfl)) (by rfl) (fun _ _ _ _ _ => rfl) (fun f c' A outer s H E cl => (me_fn (has_length_made M) cl (ma_cons (me_tup ma_nil) ma_nil) (len_cons len_nil)))) (me_tup (ma_cons me_str (ma_cons (me_tup ma_nil) ma_nil))))))))))))))

end
def loose0 : List PySem.Str := ["WordError", "TooGreat", "LONG_NUMBER", "MOST_FIGURES", "SURE_BITS", "is_long", "not_long", "length_made", "length_then", "lengths_then", "length_told", "lengths_compared", "is_below", "length_behind", "length_taken", "length_endless", "is_limit", "_law_source", "_law_pick", "_law_of", "_law_then", "_law_length", "_law_near", "_law_order", "_law_behind", "_law_made"]
abbrev loose : List PySem.Str := loose0
abbrev RR : PySem.W.OpenRow := PySem.W.OpenLaw.row PySem.Challenge.rw_wordsbeyond_k08_behind_order_endless
abbrev hk : PySem.W.Hook := hookT 4 (fun _ => true) PW sup fa fn tf
def ob (s : PySem.W.SharedT) : AlT := obsT 4 (fun _ => true) PW sup fa fn tf (HandSHeadRun.getT s)
theorem ob_eq (s : PySem.W.SharedT) : ob s = hk.obs s.abs := obsT_eq (HandSHeadRun.getT_eq s)
theorem run (w : World) : HandSHeadRun.RunEq RR (PySem.W.view RR.prog [29]) hk ob 4000 loose w := by
  intro os
  kernel_rfl
theorem law_fn (w : World) (mg : Str → Option Value) (K : PySem.W.Frag) (G : ∃ h : Heap, K.In h ∧ h.Ns mainGlobals mg) (c : SaysX (fun _ => true) PW sup fa fn K) :
    ∃ (f : Addr) (fd : FuncData), mg "law" = some (.ref f) ∧ (∀ (s : Shared) (u : Value), BindsTo s fd ⟨[u], []⟩ [("script", u)]) ∧ ∀ base : Heap, (∀ t ∈ tf, LamX.TabB base mg (He.cT K t.1).1 (He.cT K t.1).2) → FnG PW w K mg base 8 f fd ["script"] (spM K (sem_law (tbl K)) 1) := by
  have M : HdX PW sup fa fn K mg := ⟨⟨G, c.says⟩, c.sup⟩
  refine law_endsT M.hd.says (fun base TB => has_law M TB) 21 (d := d_law) rfl rfl rfl rfl (fun _ _ _ _ _ _ us hl => match us, hl with | [_], _ => rfl) (M.glo 22)
end K08
set_option Elab.async false
set_option linter.all false
set_option maxRecDepth 100000
set_option maxHeartbeats 4000000
namespace K08
open MP ML PySem
section
variable {S : Store} {a b l : L} {X : Exc → Store → Prop} {Q : D → Store → Prop}
theorem kept_eq (h : Desc a) (p : Int) : (a.filter fun x => decide (p ≤ x.1)) = hi a p ++ eqs a p := by
  induction a with
  | nil => rfl
  | cons x a ih =>
    have h1 := List.pairwise_cons.mp h
    unfold hi eqs at ih ⊢
    rw [List.filter_cons, List.filter_cons, List.filter_cons, ih h1.2]
    by_cases c1 : p < x.1
    · have e1 : p ≤ x.1 := by omega
      have e2 : ¬ x.1 = p := by omega
      simp [c1, e1, e2]
    · by_cases c2 : x.1 = p
      · have e1 : p ≤ x.1 := by omega
        have : (a.filter fun x => decide (p < x.1)) = [] := hi_none fun y hy => by have := h1.1 y hy; omega
        simp [c1, c2, this]
      · have e1 : ¬ p ≤ x.1 := by omega
        simp [c1, c2, e1]
theorem eqs_one (h : Desc a) (p : Int) : (eqs a p = [] ∧ coef a p = 0) ∨ ∃ m, eqs a p = [(p, m)] ∧ coef a p = m := by
  induction a with
  | nil => exact .inl ⟨rfl, rfl⟩
  | cons x a ih =>
    have h1 := List.pairwise_cons.mp h
    obtain ⟨q, m⟩ := x
    rw [coef_cons]
    unfold eqs at ih ⊢
    rw [List.filter_cons]
    by_cases c : q = p
    · subst c
      have e : (a.filter fun x => decide (x.1 = q)) = [] := by
        rw [List.filter_eq_nil_iff]
        intro y hy
        have := h1.1 y hy
        simp; omega
      have e2 : coef a q = 0 := coef_none fun y hy => by have := h1.1 y hy; omega
      simp [e, e2]
    · simp [c]
      simpa using ih h1.2
theorem then_pu (ha : Ok a) (hb : Ok b) (hl : a.length + b.length ≤ sizeLine) : Pu (sem_length_then [lenD a, lenD b]) (lenD (thenL a b)) S := by
  refine Pu.of ?_
  unfold sem_length_then
  rw [wp_sem]
  unfold g_length_then
  show sp (gSeq _ _ [some (lenD a), some (lenD b), none, none, none, none] S) _
  simp only [sp_seq, sp_asg, sp_par, sp_par3, sp_if, sp_for, sp_ret, sp_retN, sp_next, sp_brk, sp_cont, sp_expr, wp_bin, wp_un, wp_c, wp_tOf, wp_tTr, wp_tAnd, wp_tOr, wp_tNot, wp_eAnd, wp_eOr, wp_eNot, wp_eIf, wp_aNil, wp_aCons, wp_eCall, wp_eFn, wp_eSl, wp_oNone, wp_oSome, wp_eMt, wp_eLst, wp_eTup, wp_ok, wp_tYes, oq_some, bq_bl, iq_int, uq_some, l2q_ok, l3q_ok, pName_eq, List.set_cons_zero, List.set_cons_succ, v0, v1, v2, v3, v4, v5, v6, v7, v8, v9, v10, v11, v12, v13, v14, v15, v16, v17, v18, v19, dAdd_int, dSub_int, dSub_bl, dNeg_int, bInt_int, dOrd_int, dGe_int, dLe_int, dIs_non, dIsNot_non, true_bl, isNon_ref, isNon_tup, isNon_non, isNon_int, Bool.false_eq_true, if_true, if_false, ite_true, ite_false, not_true, not_false_iff, Bool.not_true, Bool.not_false, Bool.not_not, decide_true, decide_false, List.append_nil, List.nil_append, List.length_cons, List.length_nil, reduceIte, reduceCtorEq, dEq_len0, decide_eq_true_eq]
  refine ⟨Nat.zero_le _, ?_⟩
  cases b with
  | nil => rw [if_pos rfl]; exact ⟨rfl, [], by simp⟩
  | cons x r =>
    obtain ⟨p, m⟩ := x
    rw [if_neg (by simp)]
    simp only [sp_seq, sp_asg, sp_par, sp_par3, sp_if, sp_for, sp_ret, sp_retN, sp_next, sp_brk, sp_cont, sp_expr, wp_bin, wp_un, wp_c, wp_tOf, wp_tTr, wp_tAnd, wp_tOr, wp_tNot, wp_eAnd, wp_eOr, wp_eNot, wp_eIf, wp_aNil, wp_aCons, wp_eCall, wp_eFn, wp_eSl, wp_oNone, wp_oSome, wp_eMt, wp_eLst, wp_eTup, wp_ok, wp_tYes, oq_some, bq_bl, iq_int, uq_some, l2q_ok, l3q_ok, pName_eq, List.set_cons_zero, List.set_cons_succ, v0, v1, v2, v3, v4, v5, v6, v7, v8, v9, v10, v11, v12, v13, v14, v15, v16, v17, v18, v19, dAdd_int, dSub_int, dSub_bl, dNeg_int, bInt_int, dOrd_int, dGe_int, dLe_int, dIs_non, dIsNot_non, true_bl, isNon_ref, isNon_tup, isNon_non, isNon_int, Bool.false_eq_true, if_true, if_false, ite_true, ite_false, not_true, not_false_iff, Bool.not_true, Bool.not_false, Bool.not_not, decide_true, decide_false, List.append_nil, List.nil_append, List.length_cons, List.length_nil, reduceIte, reduceCtorEq, ix_len0, unp_pair]
    refine wp_eLc (sSeq_len ?_)
    simp only [sp_seq, sp_asg, sp_par, sp_par3, sp_if, sp_for, sp_ret, sp_retN, sp_next, sp_brk, sp_cont, sp_expr, wp_bin, wp_un, wp_c, wp_tOf, wp_tTr, wp_tAnd, wp_tOr, wp_tNot, wp_eAnd, wp_eOr, wp_eNot, wp_eIf, wp_aNil, wp_aCons, wp_eCall, wp_eFn, wp_eSl, wp_oNone, wp_oSome, wp_eMt, wp_eLst, wp_eTup, wp_ok, wp_tYes, oq_some, bq_bl, iq_int, uq_some, l2q_ok, l3q_ok, pName_eq, List.set_cons_zero, List.set_cons_succ, v0, v1, v2, v3, v4, v5, v6, v7, v8, v9, v10, v11, v12, v13, v14, v15, v16, v17, v18, v19, dAdd_int, dSub_int, dSub_bl, dNeg_int, bInt_int, dOrd_int, dGe_int, dLe_int, dIs_non, dIsNot_non, true_bl, isNon_ref, isNon_tup, isNon_non, isNon_int, Bool.false_eq_true, if_true, if_false, ite_true, ite_false, not_true, not_false_iff, Bool.not_true, Bool.not_false, Bool.not_not, decide_true, decide_false, List.append_nil, List.nil_append, List.length_cons, List.length_nil, reduceIte, reduceCtorEq]
    refine ⟨a, rfl, by rw [List.length_map]; omega, ?_⟩
    refine lc_plain (l := a) (enc := pairD) (h := pairD) (f := fun x => decide (p ≤ x.1)) trivial (fun x hx => ?_) ?_
    · refine ⟨rfl, ?_, fun _ => ?_⟩
      · show wp (tOf _ [some (lenD a), some (lenD ((p, m) :: r)), some (.int p), some (.int m), none, some (pairD x)] S) _ _
        simp only [sp_seq, sp_asg, sp_par, sp_par3, sp_if, sp_for, sp_ret, sp_retN, sp_next, sp_brk, sp_cont, sp_expr, wp_bin, wp_un, wp_c, wp_tOf, wp_tTr, wp_tAnd, wp_tOr, wp_tNot, wp_eAnd, wp_eOr, wp_eNot, wp_eIf, wp_aNil, wp_aCons, wp_eCall, wp_eFn, wp_eSl, wp_oNone, wp_oSome, wp_eMt, wp_eLst, wp_eTup, wp_ok, wp_tYes, oq_some, bq_bl, iq_int, uq_some, l2q_ok, l3q_ok, pName_eq, List.set_cons_zero, List.set_cons_succ, v0, v1, v2, v3, v4, v5, v6, v7, v8, v9, v10, v11, v12, v13, v14, v15, v16, v17, v18, v19, dAdd_int, dSub_int, dSub_bl, dNeg_int, bInt_int, dOrd_int, dGe_int, dLe_int, dIs_non, dIsNot_non, true_bl, isNon_ref, isNon_tup, isNon_non, isNon_int, Bool.false_eq_true, if_true, if_false, ite_true, ite_false, not_true, not_false_iff, Bool.not_true, Bool.not_false, Bool.not_not, decide_true, decide_false, List.append_nil, List.nil_append, List.length_cons, List.length_nil, reduceIte, reduceCtorEq, ix_pair0, and_self]
      · exact ⟨rfl, rfl⟩
    · rw [kept_eq ha.desc p]
      have hhi : (hi a p).length ≤ a.length := List.length_filter_le ..
      simp only [List.length_cons] at hl
      have fin : ∀ (k : L) (q : Nat) (m' : Int) (S2 : Store) (X : Exc → Store → Prop), S2[q]? = some (.lst (k.map pairD)) → k.length ≤ a.length → (∃ t, S2 = S ++ t) → wp (aStar (eVar 4) (aCons (eTup (aCons (eVar 2) (aCons (eVar 3) aNil))) (aStar (eSl dSl (eVar 1) (oSome (eC (.int 1))) oNone) aNil)) [some (lenD a), some (lenD ((p, m) :: r)), some (.int p), some (.int m'), some (.ref q), none] S2) (fun ds S' => ds.length ≤ sizeLine ∧ D.tup ds = lenD (k ++ (p, m') :: r) ∧ ∃ t, S' = S ++ t) X := fun k q m' S2 X h2 hk ht => by
        simp only [sp_seq, sp_asg, sp_par, sp_par3, sp_if, sp_for, sp_ret, sp_retN, sp_next, sp_brk, sp_cont, sp_expr, wp_bin, wp_un, wp_c, wp_tOf, wp_tTr, wp_tAnd, wp_tOr, wp_tNot, wp_eAnd, wp_eOr, wp_eNot, wp_eIf, wp_aNil, wp_aCons, wp_eCall, wp_eFn, wp_eSl, wp_oNone, wp_oSome, wp_eMt, wp_eLst, wp_eTup, wp_ok, wp_tYes, oq_some, bq_bl, iq_int, uq_some, l2q_ok, l3q_ok, pName_eq, List.set_cons_zero, List.set_cons_succ, v0, v1, v2, v3, v4, v5, v6, v7, v8, v9, v10, v11, v12, v13, v14, v15, v16, v17, v18, v19, dAdd_int, dSub_int, dSub_bl, dNeg_int, bInt_int, dOrd_int, dGe_int, dLe_int, dIs_non, dIsNot_non, true_bl, isNon_ref, isNon_tup, isNon_non, isNon_int, Bool.false_eq_true, if_true, if_false, ite_true, ite_false, not_true, not_false_iff, Bool.not_true, Bool.not_false, Bool.not_not, decide_true, decide_false, List.append_nil, List.nil_append, List.length_cons, List.length_nil, reduceIte, reduceCtorEq, wp_aStar, seqOf_lst h2, sl_len1, seqOf_len]
        refine ⟨by rw [sizeLine_eq]; omega, by simp; omega, ?_, ht⟩
        unfold lenD
        rw [List.map_append]
        rfl
      rcases eqs_one ha.desc p with ⟨e1, e2⟩ | ⟨n, e1, e2⟩
      · rw [e1, List.append_nil]
        have hr : (S ++ [O.lst ((hi a p).map pairD)])[S.length]? = some (.lst ((hi a p).map pairD)) := at_last
        have hne : ∀ x ∈ hi a p, x.1 ≠ p := fun x hx => by have := (mem_hi.mp hx).2; omega
        have hthen : thenL a ((p, m) :: r) = hi a p ++ (p, m) :: r := by rw [then_cons, e2, Int.add_zero]
        rw [hthen]
        generalize hi a p = k at hr hne hhi ⊢
        simp only [sp_seq, sp_asg, sp_par, sp_par3, sp_if, sp_for, sp_ret, sp_retN, sp_next, sp_brk, sp_cont, sp_expr, wp_bin, wp_un, wp_c, wp_tOf, wp_tTr, wp_tAnd, wp_tOr, wp_tNot, wp_eAnd, wp_eOr, wp_eNot, wp_eIf, wp_aNil, wp_aCons, wp_eCall, wp_eFn, wp_eSl, wp_oNone, wp_oSome, wp_eMt, wp_eLst, wp_eTup, wp_ok, wp_tYes, oq_some, bq_bl, iq_int, uq_some, l2q_ok, l3q_ok, pName_eq, List.set_cons_zero, List.set_cons_succ, v0, v1, v2, v3, v4, v5, v6, v7, v8, v9, v10, v11, v12, v13, v14, v15, v16, v17, v18, v19, dAdd_int, dSub_int, dSub_bl, dNeg_int, bInt_int, dOrd_int, dGe_int, dLe_int, dIs_non, dIsNot_non, true_bl, isNon_ref, isNon_tup, isNon_non, isNon_int, Bool.false_eq_true, if_true, if_false, ite_true, ite_false, not_true, not_false_iff, Bool.not_true, Bool.not_false, Bool.not_not, decide_true, decide_false, List.append_nil, List.nil_append, List.length_cons, List.length_nil, reduceIte, reduceCtorEq, Nat.zero_le, true_and]
        rw [dNe_lst0 (at_ext hr) at_last]
        simp only [sp_seq, sp_asg, sp_par, sp_par3, sp_if, sp_for, sp_ret, sp_retN, sp_next, sp_brk, sp_cont, sp_expr, wp_bin, wp_un, wp_c, wp_tOf, wp_tTr, wp_tAnd, wp_tOr, wp_tNot, wp_eAnd, wp_eOr, wp_eNot, wp_eIf, wp_aNil, wp_aCons, wp_eCall, wp_eFn, wp_eSl, wp_oNone, wp_oSome, wp_eMt, wp_eLst, wp_eTup, wp_ok, wp_tYes, oq_some, bq_bl, iq_int, uq_some, l2q_ok, l3q_ok, pName_eq, List.set_cons_zero, List.set_cons_succ, v0, v1, v2, v3, v4, v5, v6, v7, v8, v9, v10, v11, v12, v13, v14, v15, v16, v17, v18, v19, dAdd_int, dSub_int, dSub_bl, dNeg_int, bInt_int, dOrd_int, dGe_int, dLe_int, dIs_non, dIsNot_non, true_bl, isNon_ref, isNon_tup, isNon_non, isNon_int, Bool.false_eq_true, if_true, if_false, ite_true, ite_false, not_true, not_false_iff, Bool.not_true, Bool.not_false, Bool.not_not, decide_true, decide_false, List.append_nil, List.nil_append, List.length_cons, List.length_nil, reduceIte, reduceCtorEq, decide_eq_true_eq, Bool.not_eq_true', decide_eq_false_iff_not]
        have fin := fin k S.length m _ (fun _ _ => False) (at_ext (t := [.lst []]) hr) hhi ⟨_, List.append_assoc ..⟩
        by_cases hk : k = []
        · rw [if_neg (fun e => e hk)]
          exact fin
        · rw [if_pos hk]
          obtain ⟨k', z, rfl⟩ : ∃ k' z, k = k' ++ [z] := ⟨k.dropLast, k.getLast hk, (List.dropLast_concat_getLast hk).symm⟩
          rw [ix_lstE (at_ext hr)]
          simp only [sp_seq, sp_asg, sp_par, sp_par3, sp_if, sp_for, sp_ret, sp_retN, sp_next, sp_brk, sp_cont, sp_expr, wp_bin, wp_un, wp_c, wp_tOf, wp_tTr, wp_tAnd, wp_tOr, wp_tNot, wp_eAnd, wp_eOr, wp_eNot, wp_eIf, wp_aNil, wp_aCons, wp_eCall, wp_eFn, wp_eSl, wp_oNone, wp_oSome, wp_eMt, wp_eLst, wp_eTup, wp_ok, wp_tYes, oq_some, bq_bl, iq_int, uq_some, l2q_ok, l3q_ok, pName_eq, List.set_cons_zero, List.set_cons_succ, v0, v1, v2, v3, v4, v5, v6, v7, v8, v9, v10, v11, v12, v13, v14, v15, v16, v17, v18, v19, dAdd_int, dSub_int, dSub_bl, dNeg_int, bInt_int, dOrd_int, dGe_int, dLe_int, dIs_non, dIsNot_non, true_bl, isNon_ref, isNon_tup, isNon_non, isNon_int, Bool.false_eq_true, if_true, if_false, ite_true, ite_false, not_true, not_false_iff, Bool.not_true, Bool.not_false, Bool.not_not, decide_true, decide_false, List.append_nil, List.nil_append, List.length_cons, List.length_nil, reduceIte, reduceCtorEq, ix_pair0, dEq_int, decide_eq_true_eq]
          rw [if_neg (hne z (by simp))]
          exact fin
      · rw [e1]
        have hr : (S ++ [O.lst ((hi a p ++ [(p, n)]).map pairD)])[S.length]? = some (.lst ((hi a p ++ [(p, n)]).map pairD)) := at_last
        have hthen : thenL a ((p, m) :: r) = hi a p ++ (p, n + m) :: r := by rw [then_cons, e2, Int.add_comm]
        rw [hthen]
        generalize hi a p = k at hr hhi ⊢
        simp only [sp_seq, sp_asg, sp_par, sp_par3, sp_if, sp_for, sp_ret, sp_retN, sp_next, sp_brk, sp_cont, sp_expr, wp_bin, wp_un, wp_c, wp_tOf, wp_tTr, wp_tAnd, wp_tOr, wp_tNot, wp_eAnd, wp_eOr, wp_eNot, wp_eIf, wp_aNil, wp_aCons, wp_eCall, wp_eFn, wp_eSl, wp_oNone, wp_oSome, wp_eMt, wp_eLst, wp_eTup, wp_ok, wp_tYes, oq_some, bq_bl, iq_int, uq_some, l2q_ok, l3q_ok, pName_eq, List.set_cons_zero, List.set_cons_succ, v0, v1, v2, v3, v4, v5, v6, v7, v8, v9, v10, v11, v12, v13, v14, v15, v16, v17, v18, v19, dAdd_int, dSub_int, dSub_bl, dNeg_int, bInt_int, dOrd_int, dGe_int, dLe_int, dIs_non, dIsNot_non, true_bl, isNon_ref, isNon_tup, isNon_non, isNon_int, Bool.false_eq_true, if_true, if_false, ite_true, ite_false, not_true, not_false_iff, Bool.not_true, Bool.not_false, Bool.not_not, decide_true, decide_false, List.append_nil, List.nil_append, List.length_cons, List.length_nil, reduceIte, reduceCtorEq, Nat.zero_le, true_and]
        rw [dNe_lst0 (at_ext hr) at_last]
        simp only [sp_seq, sp_asg, sp_par, sp_par3, sp_if, sp_for, sp_ret, sp_retN, sp_next, sp_brk, sp_cont, sp_expr, wp_bin, wp_un, wp_c, wp_tOf, wp_tTr, wp_tAnd, wp_tOr, wp_tNot, wp_eAnd, wp_eOr, wp_eNot, wp_eIf, wp_aNil, wp_aCons, wp_eCall, wp_eFn, wp_eSl, wp_oNone, wp_oSome, wp_eMt, wp_eLst, wp_eTup, wp_ok, wp_tYes, oq_some, bq_bl, iq_int, uq_some, l2q_ok, l3q_ok, pName_eq, List.set_cons_zero, List.set_cons_succ, v0, v1, v2, v3, v4, v5, v6, v7, v8, v9, v10, v11, v12, v13, v14, v15, v16, v17, v18, v19, dAdd_int, dSub_int, dSub_bl, dNeg_int, bInt_int, dOrd_int, dGe_int, dLe_int, dIs_non, dIsNot_non, true_bl, isNon_ref, isNon_tup, isNon_non, isNon_int, Bool.false_eq_true, if_true, if_false, ite_true, ite_false, not_true, not_false_iff, Bool.not_true, Bool.not_false, Bool.not_not, decide_true, decide_false, List.append_nil, List.nil_append, List.length_cons, List.length_nil, reduceIte, reduceCtorEq, decide_eq_true_eq, Bool.not_eq_true', decide_eq_false_iff_not]
        rw [if_pos (by simp)]
        have h2 : ((S ++ [O.lst ((k ++ [(p, n)]).map pairD)]) ++ [O.lst []])[S.length]? = some (.lst ((k ++ [(p, n)]).map pairD)) := at_ext hr
        rw [ix_lstE h2]
        simp only [sp_seq, sp_asg, sp_par, sp_par3, sp_if, sp_for, sp_ret, sp_retN, sp_next, sp_brk, sp_cont, sp_expr, wp_bin, wp_un, wp_c, wp_tOf, wp_tTr, wp_tAnd, wp_tOr, wp_tNot, wp_eAnd, wp_eOr, wp_eNot, wp_eIf, wp_aNil, wp_aCons, wp_eCall, wp_eFn, wp_eSl, wp_oNone, wp_oSome, wp_eMt, wp_eLst, wp_eTup, wp_ok, wp_tYes, oq_some, bq_bl, iq_int, uq_some, l2q_ok, l3q_ok, pName_eq, List.set_cons_zero, List.set_cons_succ, v0, v1, v2, v3, v4, v5, v6, v7, v8, v9, v10, v11, v12, v13, v14, v15, v16, v17, v18, v19, dAdd_int, dSub_int, dSub_bl, dNeg_int, bInt_int, dOrd_int, dGe_int, dLe_int, dIs_non, dIsNot_non, true_bl, isNon_ref, isNon_tup, isNon_non, isNon_int, Bool.false_eq_true, if_true, if_false, ite_true, ite_false, not_true, not_false_iff, Bool.not_true, Bool.not_false, Bool.not_not, decide_true, decide_false, List.append_nil, List.nil_append, List.length_cons, List.length_nil, reduceIte, reduceCtorEq, ix_pair0, dEq_int, decide_eq_true_eq]
        rw [sl_lstD h2, cutD_neg1 (by simp)]
        simp only [sp_seq, sp_asg, sp_par, sp_par3, sp_if, sp_for, sp_ret, sp_retN, sp_next, sp_brk, sp_cont, sp_expr, wp_bin, wp_un, wp_c, wp_tOf, wp_tTr, wp_tAnd, wp_tOr, wp_tNot, wp_eAnd, wp_eOr, wp_eNot, wp_eIf, wp_aNil, wp_aCons, wp_eCall, wp_eFn, wp_eSl, wp_oNone, wp_oSome, wp_eMt, wp_eLst, wp_eTup, wp_ok, wp_tYes, oq_some, bq_bl, iq_int, uq_some, l2q_ok, l3q_ok, pName_eq, List.set_cons_zero, List.set_cons_succ, v0, v1, v2, v3, v4, v5, v6, v7, v8, v9, v10, v11, v12, v13, v14, v15, v16, v17, v18, v19, dAdd_int, dSub_int, dSub_bl, dNeg_int, bInt_int, dOrd_int, dGe_int, dLe_int, dIs_non, dIsNot_non, true_bl, isNon_ref, isNon_tup, isNon_non, isNon_int, Bool.false_eq_true, if_true, if_false, ite_true, ite_false, not_true, not_false_iff, Bool.not_true, Bool.not_false, Bool.not_not, decide_true, decide_false, List.append_nil, List.nil_append, List.length_cons, List.length_nil, reduceIte, reduceCtorEq]
        rw [ix_lstE (at_ext h2)]
        simp only [sp_seq, sp_asg, sp_par, sp_par3, sp_if, sp_for, sp_ret, sp_retN, sp_next, sp_brk, sp_cont, sp_expr, wp_bin, wp_un, wp_c, wp_tOf, wp_tTr, wp_tAnd, wp_tOr, wp_tNot, wp_eAnd, wp_eOr, wp_eNot, wp_eIf, wp_aNil, wp_aCons, wp_eCall, wp_eFn, wp_eSl, wp_oNone, wp_oSome, wp_eMt, wp_eLst, wp_eTup, wp_ok, wp_tYes, oq_some, bq_bl, iq_int, uq_some, l2q_ok, l3q_ok, pName_eq, List.set_cons_zero, List.set_cons_succ, v0, v1, v2, v3, v4, v5, v6, v7, v8, v9, v10, v11, v12, v13, v14, v15, v16, v17, v18, v19, dAdd_int, dSub_int, dSub_bl, dNeg_int, bInt_int, dOrd_int, dGe_int, dLe_int, dIs_non, dIsNot_non, true_bl, isNon_ref, isNon_tup, isNon_non, isNon_int, Bool.false_eq_true, if_true, if_false, ite_true, ite_false, not_true, not_false_iff, Bool.not_true, Bool.not_false, Bool.not_not, decide_true, decide_false, List.append_nil, List.nil_append, List.length_cons, List.length_nil, reduceIte, reduceCtorEq, ix_pair1, List.map_append, List.map_cons, List.map_nil, List.dropLast_concat]
        exact fin k _ (n + m) _ _ at_last hhi ⟨_, by rw [List.append_assoc, List.append_assoc]⟩
end
end K08
set_option Elab.async false
set_option linter.all false
set_option maxRecDepth 100000
set_option maxHeartbeats 4000000
namespace K08
open MP ML
open PySem (sizeLine sizeLine_eq)
open PyProof.Rows (b2i)
section
variable {S : Store} {a b l : L} {X : Exc → Store → Prop} {Q : D → Store → Prop}
theorem then_ok (ha : Ok a) (hb : Ok b) (hl : a.length + b.length ≤ sizeLine) (hq : ∀ t, Q (lenD (thenL a b)) (S ++ t)) : wp (sem_length_then [lenD a, lenD b] S) Q X := (then_pu ha hb hl).wp hq
/-- a source of items that is a sequence -/
theorem sSeq_seq {ρ : Env} {fa : F} {Q : List D × (Store → Prop) → Store → Prop} (h : wp (fa ρ S) (fun x S1 => ∃ ds, seqOf S1 x = some ds ∧ ∀ ok : Store → Prop, (∀ t, ok (S1 ++ t)) → Q (ds, ok) S1) X) : wp (sSeq fa ρ S) Q X := by
  refine wp_sSeq (wp_mono h (fun x S1 ⟨ds, e, q⟩ => ?_) fun _ _ h => h)
  cases x with
  | tup xs => cases e; exact .inl ⟨_, rfl, q _ fun _ => trivial⟩
  | ref r =>
    have e' : listOf S1 (.ref r) = some ds := e
    cases g : S1[r]? with
    | none => simp only [listOf, g] at e'; cases e'
    | some o =>
      cases o with
      | lst xs => simp only [listOf, g] at e'; cases e'; exact .inr ⟨r, _, rfl, .inl g, q _ fun t => .inl (at_ext g)⟩
      | ro xs => simp only [listOf, g] at e'; cases e'; exact .inr ⟨r, _, rfl, .inr g, q _ fun t => .inr (at_ext g)⟩
      | dict xs => simp only [listOf, g] at e'; cases e'
      | tab _ _ => simp only [listOf, g] at e'; cases e'
  | _ => cases e
def tot (ls : List L) : Nat := (ls.map List.length).sum
theorem then_len {a b : L} : (thenL a b).length ≤ a.length + b.length := by
  cases b with
  | nil => exact Nat.le_add_right ..
  | cons x r =>
    obtain ⟨p, m⟩ := x
    rw [then_cons, List.length_append, List.length_cons, List.length_cons]
    have : (hi a p).length ≤ a.length := List.length_filter_le ..
    omega
theorem lengths_then_pu {d : D} {ls : List L} (hd : seqOf S d = some (ls.map lenD)) (ho : ∀ l ∈ ls, Ok l) (hl : tot ls ≤ sizeLine) : Pu (sem_lengths_then [d]) (lenD (ls.foldl thenL [])) S := by
  refine Pu.of ?_
  unfold sem_lengths_then
  rw [wp_sem]
  unfold g_lengths_then
  show sp (gSeq _ _ [some d, none, none] S) _
  simp only [sp_seq, sp_asg, sp_par, sp_par3, sp_if, sp_for, sp_ret, sp_retN, sp_next, sp_brk, sp_cont, sp_expr, wp_bin, wp_un, wp_c, wp_tOf, wp_tTr, wp_tAnd, wp_tOr, wp_tNot, wp_eAnd, wp_eOr, wp_eNot, wp_eIf, wp_aNil, wp_aCons, wp_eCall, wp_eFn, wp_eSl, wp_oNone, wp_oSome, wp_eMt, wp_eLst, wp_eTup, wp_ok, wp_tYes, oq_some, bq_bl, iq_int, uq_some, l2q_ok, l3q_ok, pName_eq, List.set_cons_zero, List.set_cons_succ, v0, v1, v2, v3, v4, v5, v6, v7, v8, v9, v10, v11, v12, v13, v14, v15, v16, v17, v18, v19, dAdd_int, dSub_int, dSub_bl, dNeg_int, bInt_int, dOrd_int, dGe_int, dLe_int, dIs_non, dIsNot_non, true_bl, isNon_ref, isNon_tup, isNon_non, isNon_int, Bool.false_eq_true, if_true, if_false, ite_true, ite_false, not_true, not_false_iff, Bool.not_true, Bool.not_false, Bool.not_not, decide_true, decide_false, List.append_nil, List.nil_append, List.length_cons, List.length_nil, reduceIte, reduceCtorEq, Nat.zero_le, true_and]
  refine sSeq_seq ?_
  simp only [sp_seq, sp_asg, sp_par, sp_par3, sp_if, sp_for, sp_ret, sp_retN, sp_next, sp_brk, sp_cont, sp_expr, wp_bin, wp_un, wp_c, wp_tOf, wp_tTr, wp_tAnd, wp_tOr, wp_tNot, wp_eAnd, wp_eOr, wp_eNot, wp_eIf, wp_aNil, wp_aCons, wp_eCall, wp_eFn, wp_eSl, wp_oNone, wp_oSome, wp_eMt, wp_eLst, wp_eTup, wp_ok, wp_tYes, oq_some, bq_bl, iq_int, uq_some, l2q_ok, l3q_ok, pName_eq, List.set_cons_zero, List.set_cons_succ, v0, v1, v2, v3, v4, v5, v6, v7, v8, v9, v10, v11, v12, v13, v14, v15, v16, v17, v18, v19, dAdd_int, dSub_int, dSub_bl, dNeg_int, bInt_int, dOrd_int, dGe_int, dLe_int, dIs_non, dIsNot_non, true_bl, isNon_ref, isNon_tup, isNon_non, isNon_int, Bool.false_eq_true, if_true, if_false, ite_true, ite_false, not_true, not_false_iff, Bool.not_true, Bool.not_false, Bool.not_not, decide_true, decide_false, List.append_nil, List.nil_append, List.length_cons, List.length_nil, reduceIte, reduceCtorEq]
  refine ⟨_, hd, fun ok hok => ?_⟩
  refine for_over (fun r ρ S' => ∃ t acc o, S' = S ++ t ∧ ρ = [some d, some (lenD acc), o] ∧ Ok acc ∧ (∀ l ∈ r, Ok l) ∧ acc.length + tot r ≤ sizeLine ∧ r.foldl thenL acc = ls.foldl thenL []) (fun x r ρ S' h => ?_) (fun ρ S' h => ?_) ⟨[], [], none, by simp, rfl, Ok.nil, ho, by simpa using hl, rfl⟩
  · obtain ⟨t, acc, o, rfl, rfl, h1, h2, h3, h4⟩ := h
    refine ⟨hok t, ?_⟩
    simp only [sp_seq, sp_asg, sp_par, sp_par3, sp_if, sp_for, sp_ret, sp_retN, sp_next, sp_brk, sp_cont, sp_expr, wp_bin, wp_un, wp_c, wp_tOf, wp_tTr, wp_tAnd, wp_tOr, wp_tNot, wp_eAnd, wp_eOr, wp_eNot, wp_eIf, wp_aNil, wp_aCons, wp_eCall, wp_eFn, wp_eSl, wp_oNone, wp_oSome, wp_eMt, wp_eLst, wp_eTup, wp_ok, wp_tYes, oq_some, bq_bl, iq_int, uq_some, l2q_ok, l3q_ok, pName_eq, List.set_cons_zero, List.set_cons_succ, v0, v1, v2, v3, v4, v5, v6, v7, v8, v9, v10, v11, v12, v13, v14, v15, v16, v17, v18, v19, dAdd_int, dSub_int, dSub_bl, dNeg_int, bInt_int, dOrd_int, dGe_int, dLe_int, dIs_non, dIsNot_non, true_bl, isNon_ref, isNon_tup, isNon_non, isNon_int, Bool.false_eq_true, if_true, if_false, ite_true, ite_false, not_true, not_false_iff, Bool.not_true, Bool.not_false, Bool.not_not, decide_true, decide_false, List.append_nil, List.nil_append, List.length_cons, List.length_nil, reduceIte, reduceCtorEq]
    have h3' : acc.length + (x.length + tot r) ≤ sizeLine := by simpa [tot] using h3
    refine then_ok h1 (h2 x (List.mem_cons_self ..)) (by omega) fun t2 => ?_
    refine ⟨t ++ t2, thenL acc x, some (lenD x), (List.append_assoc ..), rfl, ok_then h1 (h2 x (List.mem_cons_self ..)), fun y hy => h2 y (List.mem_cons_of_mem _ hy), ?_, h4⟩
    have := then_len (a := acc) (b := x)
    omega
  · obtain ⟨t, acc, o, rfl, rfl, h1, h2, h3, h4⟩ := h
    refine ⟨hok t, ?_⟩
    simp only [sp_seq, sp_asg, sp_par, sp_par3, sp_if, sp_for, sp_ret, sp_retN, sp_next, sp_brk, sp_cont, sp_expr, wp_bin, wp_un, wp_c, wp_tOf, wp_tTr, wp_tAnd, wp_tOr, wp_tNot, wp_eAnd, wp_eOr, wp_eNot, wp_eIf, wp_aNil, wp_aCons, wp_eCall, wp_eFn, wp_eSl, wp_oNone, wp_oSome, wp_eMt, wp_eLst, wp_eTup, wp_ok, wp_tYes, oq_some, bq_bl, iq_int, uq_some, l2q_ok, l3q_ok, pName_eq, List.set_cons_zero, List.set_cons_succ, v0, v1, v2, v3, v4, v5, v6, v7, v8, v9, v10, v11, v12, v13, v14, v15, v16, v17, v18, v19, dAdd_int, dSub_int, dSub_bl, dNeg_int, bInt_int, dOrd_int, dGe_int, dLe_int, dIs_non, dIsNot_non, true_bl, isNon_ref, isNon_tup, isNon_non, isNon_int, Bool.false_eq_true, if_true, if_false, ite_true, ite_false, not_true, not_false_iff, Bool.not_true, Bool.not_false, Bool.not_not, decide_true, decide_false, List.append_nil, List.nil_append, List.length_cons, List.length_nil, reduceIte, reduceCtorEq]
    exact ⟨by rw [← h4]; rfl, t, rfl⟩
theorem one_filter {ps : L} : ((ps.filter fun x => decide (0 < x.2)).map fun x => D.tup [D.tup [.int x.1, .int x.2]]) = (((ps.filter fun x => decide (0 < x.2)).map fun x => [x])).map lenD := by
  rw [List.map_map]; rfl
theorem length_told_pu {d : D} {ps : L} (hd : seqOf S d = some (ps.map pairD)) (h0 : ∀ x ∈ ps, 0 ≤ x.1) (hl : ps.length ≤ sizeLine) : Pu (sem_length_told [d]) (lenD (putL ps)) S := by
  refine Pu.of ?_
  unfold sem_length_told
  rw [wp_sem]
  unfold g_length_told
  show sp (gRet _ [some d, none, none] S) _
  simp only [sp_seq, sp_asg, sp_par, sp_par3, sp_if, sp_for, sp_ret, sp_retN, sp_next, sp_brk, sp_cont, sp_expr, wp_bin, wp_un, wp_c, wp_tOf, wp_tTr, wp_tAnd, wp_tOr, wp_tNot, wp_eAnd, wp_eOr, wp_eNot, wp_eIf, wp_aNil, wp_aCons, wp_eCall, wp_eFn, wp_eSl, wp_oNone, wp_oSome, wp_eMt, wp_eLst, wp_eTup, wp_ok, wp_tYes, oq_some, bq_bl, iq_int, uq_some, l2q_ok, l3q_ok, pName_eq, List.set_cons_zero, List.set_cons_succ, v0, v1, v2, v3, v4, v5, v6, v7, v8, v9, v10, v11, v12, v13, v14, v15, v16, v17, v18, v19, dAdd_int, dSub_int, dSub_bl, dNeg_int, bInt_int, dOrd_int, dGe_int, dLe_int, dIs_non, dIsNot_non, true_bl, isNon_ref, isNon_tup, isNon_non, isNon_int, Bool.false_eq_true, if_true, if_false, ite_true, ite_false, not_true, not_false_iff, Bool.not_true, Bool.not_false, Bool.not_not, decide_true, decide_false, List.append_nil, List.nil_append, List.length_cons, List.length_nil, reduceIte, reduceCtorEq]
  refine wp_eLc (sSeq_seq ?_)
  simp only [sp_seq, sp_asg, sp_par, sp_par3, sp_if, sp_for, sp_ret, sp_retN, sp_next, sp_brk, sp_cont, sp_expr, wp_bin, wp_un, wp_c, wp_tOf, wp_tTr, wp_tAnd, wp_tOr, wp_tNot, wp_eAnd, wp_eOr, wp_eNot, wp_eIf, wp_aNil, wp_aCons, wp_eCall, wp_eFn, wp_eSl, wp_oNone, wp_oSome, wp_eMt, wp_eLst, wp_eTup, wp_ok, wp_tYes, oq_some, bq_bl, iq_int, uq_some, l2q_ok, l3q_ok, pName_eq, List.set_cons_zero, List.set_cons_succ, v0, v1, v2, v3, v4, v5, v6, v7, v8, v9, v10, v11, v12, v13, v14, v15, v16, v17, v18, v19, dAdd_int, dSub_int, dSub_bl, dNeg_int, bInt_int, dOrd_int, dGe_int, dLe_int, dIs_non, dIsNot_non, true_bl, isNon_ref, isNon_tup, isNon_non, isNon_int, Bool.false_eq_true, if_true, if_false, ite_true, ite_false, not_true, not_false_iff, Bool.not_true, Bool.not_false, Bool.not_not, decide_true, decide_false, List.append_nil, List.nil_append, List.length_cons, List.length_nil, reduceIte, reduceCtorEq]
  refine ⟨_, hd, fun ok hok => ⟨by simpa using hl, ?_⟩⟩
  refine lc_plain (l := ps) (enc := pairD) (h := fun x => D.tup [D.tup [.int x.1, .int x.2]]) (f := fun x => decide (0 < x.2)) (by simpa using hok []) (fun x hx => ?_) ?_
  · refine ⟨rfl, ?_, fun _ => ?_⟩
    · show wp (tOf _ [some d, some (.int x.1), some (.int x.2)] S) _ _
      simp only [sp_seq, sp_asg, sp_par, sp_par3, sp_if, sp_for, sp_ret, sp_retN, sp_next, sp_brk, sp_cont, sp_expr, wp_bin, wp_un, wp_c, wp_tOf, wp_tTr, wp_tAnd, wp_tOr, wp_tNot, wp_eAnd, wp_eOr, wp_eNot, wp_eIf, wp_aNil, wp_aCons, wp_eCall, wp_eFn, wp_eSl, wp_oNone, wp_oSome, wp_eMt, wp_eLst, wp_eTup, wp_ok, wp_tYes, oq_some, bq_bl, iq_int, uq_some, l2q_ok, l3q_ok, pName_eq, List.set_cons_zero, List.set_cons_succ, v0, v1, v2, v3, v4, v5, v6, v7, v8, v9, v10, v11, v12, v13, v14, v15, v16, v17, v18, v19, dAdd_int, dSub_int, dSub_bl, dNeg_int, bInt_int, dOrd_int, dGe_int, dLe_int, dIs_non, dIsNot_non, true_bl, isNon_ref, isNon_tup, isNon_non, isNon_int, Bool.false_eq_true, if_true, if_false, ite_true, ite_false, not_true, not_false_iff, Bool.not_true, Bool.not_false, Bool.not_not, decide_true, decide_false, List.append_nil, List.nil_append, List.length_cons, List.length_nil, reduceIte, reduceCtorEq, and_self]
    · show wp (eTup _ [some d, some (.int x.1), some (.int x.2)] S) _ _
      simp only [sp_seq, sp_asg, sp_par, sp_par3, sp_if, sp_for, sp_ret, sp_retN, sp_next, sp_brk, sp_cont, sp_expr, wp_bin, wp_un, wp_c, wp_tOf, wp_tTr, wp_tAnd, wp_tOr, wp_tNot, wp_eAnd, wp_eOr, wp_eNot, wp_eIf, wp_aNil, wp_aCons, wp_eCall, wp_eFn, wp_eSl, wp_oNone, wp_oSome, wp_eMt, wp_eLst, wp_eTup, wp_ok, wp_tYes, oq_some, bq_bl, iq_int, uq_some, l2q_ok, l3q_ok, pName_eq, List.set_cons_zero, List.set_cons_succ, v0, v1, v2, v3, v4, v5, v6, v7, v8, v9, v10, v11, v12, v13, v14, v15, v16, v17, v18, v19, dAdd_int, dSub_int, dSub_bl, dNeg_int, bInt_int, dOrd_int, dGe_int, dLe_int, dIs_non, dIsNot_non, true_bl, isNon_ref, isNon_tup, isNon_non, isNon_int, Bool.false_eq_true, if_true, if_false, ite_true, ite_false, not_true, not_false_iff, Bool.not_true, Bool.not_false, Bool.not_not, decide_true, decide_false, List.append_nil, List.nil_append, List.length_cons, List.length_nil, reduceIte, reduceCtorEq, and_self, and_true]
      rw [sizeLine_eq]; decide
  · rw [one_filter]
    have hlen : tot ((ps.filter fun x => decide (0 < x.2)).map fun x => [x]) ≤ sizeLine := by
      have : ∀ k : L, tot (k.map fun x => [x]) = k.length := fun k => by
        induction k with
        | nil => rfl
        | cons x k ih =>
          have e : tot ((x :: k).map fun x => [x]) = 1 + tot (k.map fun x => [x]) := by simp [tot]
          rw [e, ih, List.length_cons]; omega
      rw [this]
      have : (ps.filter fun x => decide (0 < x.2)).length ≤ ps.length := List.length_filter_le ..
      omega
    have hok : ∀ l ∈ (ps.filter fun x => decide (0 < x.2)).map (fun x => [x]), Ok l := fun l hl => by
      obtain ⟨x, hx, rfl⟩ := List.mem_map.mp hl
      have := List.mem_filter.mp hx
      exact Ok.one (h0 x this.1) (by simpa using this.2)
    have h := lengths_then_pu (S := S ++ [.lst (((ps.filter fun x => decide (0 < x.2)).map fun x => [x]).map lenD)]) (seqOf_lst at_last) hok hlen
    refine h.wp fun t => ⟨?_, _, List.append_assoc ..⟩
    rw [← told_put, toldL]
theorem compared_ok (hq : Q (.int (ordL a b)) S) : wp (sem_lengths_compared [lenD a, lenD b] S) Q X := by
  unfold sem_lengths_compared
  rw [wp_sem]
  unfold g_lengths_compared
  show sp (gRet _ [some (lenD a), some (lenD b)] S) _
  simp only [sp_seq, sp_asg, sp_par, sp_par3, sp_if, sp_for, sp_ret, sp_retN, sp_next, sp_brk, sp_cont, sp_expr, wp_bin, wp_un, wp_c, wp_tOf, wp_tTr, wp_tAnd, wp_tOr, wp_tNot, wp_eAnd, wp_eOr, wp_eNot, wp_eIf, wp_aNil, wp_aCons, wp_eCall, wp_eFn, wp_eSl, wp_oNone, wp_oSome, wp_eMt, wp_eLst, wp_eTup, wp_ok, wp_tYes, oq_some, bq_bl, iq_int, uq_some, l2q_ok, l3q_ok, pName_eq, List.set_cons_zero, List.set_cons_succ, v0, v1, v2, v3, v4, v5, v6, v7, v8, v9, v10, v11, v12, v13, v14, v15, v16, v17, v18, v19, dAdd_int, dSub_int, dSub_bl, dNeg_int, bInt_int, dOrd_int, dGe_int, dLe_int, dIs_non, dIsNot_non, true_bl, isNon_ref, isNon_tup, isNon_non, isNon_int, Bool.false_eq_true, if_true, if_false, ite_true, ite_false, not_true, not_false_iff, Bool.not_true, Bool.not_false, Bool.not_not, decide_true, decide_false, List.append_nil, List.nil_append, List.length_cons, List.length_nil, reduceIte, reduceCtorEq, dOrd_len]
  rcases ord_three a b with h | h | h
  · simpa [h, b2i] using hq
  · simpa [h, b2i] using hq
  · simpa [h, b2i] using hq
theorem below_ok (hq : Q (.bl (decide (ordL a b = -1))) S) : wp (sem_is_below [lenD a, lenD b] S) Q X := by
  unfold sem_is_below
  rw [wp_sem]
  unfold g_is_below
  show sp (gRet _ [some (lenD a), some (lenD b)] S) _
  simp only [sp_seq, sp_asg, sp_par, sp_par3, sp_if, sp_for, sp_ret, sp_retN, sp_next, sp_brk, sp_cont, sp_expr, wp_bin, wp_un, wp_c, wp_tOf, wp_tTr, wp_tAnd, wp_tOr, wp_tNot, wp_eAnd, wp_eOr, wp_eNot, wp_eIf, wp_aNil, wp_aCons, wp_eCall, wp_eFn, wp_eSl, wp_oNone, wp_oSome, wp_eMt, wp_eLst, wp_eTup, wp_ok, wp_tYes, oq_some, bq_bl, iq_int, uq_some, l2q_ok, l3q_ok, pName_eq, List.set_cons_zero, List.set_cons_succ, v0, v1, v2, v3, v4, v5, v6, v7, v8, v9, v10, v11, v12, v13, v14, v15, v16, v17, v18, v19, dAdd_int, dSub_int, dSub_bl, dNeg_int, bInt_int, dOrd_int, dGe_int, dLe_int, dIs_non, dIsNot_non, true_bl, isNon_ref, isNon_tup, isNon_non, isNon_int, Bool.false_eq_true, if_true, if_false, ite_true, ite_false, not_true, not_false_iff, Bool.not_true, Bool.not_false, Bool.not_not, decide_true, decide_false, List.append_nil, List.nil_append, List.length_cons, List.length_nil, reduceIte, reduceCtorEq, dOrd_len]
  rcases ord_three a b with h | h | h
  · simpa [h] using hq
  · simpa [h] using hq
  · simpa [h] using hq
/-! ### behind -/
theorem enum_len (l : L) : enumD (l.map pairD) = (l.zipIdx 0).map fun y => D.tup [.int (y.2 : Nat), pairD y.1] := by
  unfold enumD
  rw [List.mapIdx_eq_zipIdx_map, List.zipIdx_map, List.map_map]
  rfl
theorem behind_pre : ∀ (x w b : L), behindL (x ++ w) (x ++ b) = behindL w b
  | [], _, _ => rfl
  | y :: x, w, b => by rw [List.cons_append, List.cons_append, behindL, if_pos rfl, behind_pre]
noncomputable def behD (w b : L) : D := if ordL w b = -1 then .non else lenD (behindL w b)
theorem behind_wp {w b : L} (hl : w.length ≤ 1000000) (hq : Q (behD w b) S) : wp (sem_length_behind [lenD w, lenD b] S) Q X := by
  unfold sem_length_behind
  rw [wp_sem]
  unfold g_length_behind
  show sp (gSeq _ _ [some (lenD w), some (lenD b), none, none, none, none] S) _
  simp only [sp_seq, sp_asg, sp_par, sp_par3, sp_if, sp_for, sp_ret, sp_retN, sp_next, sp_brk, sp_cont, sp_expr, wp_bin, wp_un, wp_c, wp_tOf, wp_tTr, wp_tAnd, wp_tOr, wp_tNot, wp_eAnd, wp_eOr, wp_eNot, wp_eIf, wp_aNil, wp_aCons, wp_eCall, wp_eFn, wp_eSl, wp_oNone, wp_oSome, wp_eMt, wp_eLst, wp_eTup, wp_ok, wp_tYes, oq_some, bq_bl, iq_int, uq_some, l2q_ok, l3q_ok, pName_eq, List.set_cons_zero, List.set_cons_succ, v0, v1, v2, v3, v4, v5, v6, v7, v8, v9, v10, v11, v12, v13, v14, v15, v16, v17, v18, v19, dAdd_int, dSub_int, dSub_bl, dNeg_int, bInt_int, dOrd_int, dGe_int, dLe_int, dIs_non, dIsNot_non, true_bl, isNon_ref, isNon_tup, isNon_non, isNon_int, Bool.false_eq_true, if_true, if_false, ite_true, ite_false, not_true, not_false_iff, Bool.not_true, Bool.not_false, Bool.not_not, decide_true, decide_false, List.append_nil, List.nil_append, List.length_cons, List.length_nil, reduceIte, reduceCtorEq]
  refine below_ok ?_
  simp only [sp_seq, sp_asg, sp_par, sp_par3, sp_if, sp_for, sp_ret, sp_retN, sp_next, sp_brk, sp_cont, sp_expr, wp_bin, wp_un, wp_c, wp_tOf, wp_tTr, wp_tAnd, wp_tOr, wp_tNot, wp_eAnd, wp_eOr, wp_eNot, wp_eIf, wp_aNil, wp_aCons, wp_eCall, wp_eFn, wp_eSl, wp_oNone, wp_oSome, wp_eMt, wp_eLst, wp_eTup, wp_ok, wp_tYes, oq_some, bq_bl, iq_int, uq_some, l2q_ok, l3q_ok, pName_eq, List.set_cons_zero, List.set_cons_succ, v0, v1, v2, v3, v4, v5, v6, v7, v8, v9, v10, v11, v12, v13, v14, v15, v16, v17, v18, v19, dAdd_int, dSub_int, dSub_bl, dNeg_int, bInt_int, dOrd_int, dGe_int, dLe_int, dIs_non, dIsNot_non, true_bl, isNon_ref, isNon_tup, isNon_non, isNon_int, Bool.false_eq_true, if_true, if_false, ite_true, ite_false, not_true, not_false_iff, Bool.not_true, Bool.not_false, Bool.not_not, decide_true, decide_false, List.append_nil, List.nil_append, List.length_cons, List.length_nil, reduceIte, reduceCtorEq, decide_eq_true_eq]
  unfold behD at hq
  by_cases hb : ordL w b = -1
  · rw [if_pos hb] at hq
    rw [if_pos hb]
    exact hq
  · rw [if_neg hb] at hq
    rw [if_neg hb]
    refine wp_sEnum ?_
    simp only [sp_seq, sp_asg, sp_par, sp_par3, sp_if, sp_for, sp_ret, sp_retN, sp_next, sp_brk, sp_cont, sp_expr, wp_bin, wp_un, wp_c, wp_tOf, wp_tTr, wp_tAnd, wp_tOr, wp_tNot, wp_eAnd, wp_eOr, wp_eNot, wp_eIf, wp_aNil, wp_aCons, wp_eCall, wp_eFn, wp_eSl, wp_oNone, wp_oSome, wp_eMt, wp_eLst, wp_eTup, wp_ok, wp_tYes, oq_some, bq_bl, iq_int, uq_some, l2q_ok, l3q_ok, pName_eq, List.set_cons_zero, List.set_cons_succ, v0, v1, v2, v3, v4, v5, v6, v7, v8, v9, v10, v11, v12, v13, v14, v15, v16, v17, v18, v19, dAdd_int, dSub_int, dSub_bl, dNeg_int, bInt_int, dOrd_int, dGe_int, dLe_int, dIs_non, dIsNot_non, true_bl, isNon_ref, isNon_tup, isNon_non, isNon_int, Bool.false_eq_true, if_true, if_false, ite_true, ite_false, not_true, not_false_iff, Bool.not_true, Bool.not_false, Bool.not_not, decide_true, decide_false, List.append_nil, List.nil_append, List.length_cons, List.length_nil, reduceIte, reduceCtorEq]
    refine .inl ⟨b.map pairD, rfl, ?_⟩
    rw [enum_len]
    refine for_over (fun r ρ S' => S' = S ∧ ∃ pre wr rest o2 o3 o4, r = rest.zipIdx pre.length ∧ w = pre ++ wr ∧ b = pre ++ rest ∧ ρ = [some (lenD w), some (lenD b), o2, o3, o4, none]) (fun y r ρ S' h => ⟨trivial, ?_⟩) (fun ρ S' h => ⟨trivial, ?_⟩) ⟨rfl, [], w, b, none, none, none, rfl, rfl, rfl, rfl⟩
    · obtain ⟨rfl, pre, wr, rest, o2, o3, o4, h1, rfl, rfl, rfl⟩ := h
      cases rest with
      | nil => cases h1
      | cons x rest =>
        rw [List.zipIdx_cons] at h1
        cases h1
        rw [ord_pre] at hb
        cases wr with
        | nil => exact absurd rfl hb
        | cons z wr =>
          obtain ⟨p, m⟩ := x
          have hz : (pre ++ z :: wr)[pre.length]? = some z := by simp
          show sp (gIf _ _ _ [some (lenD (pre ++ z :: wr)), some (lenD (pre ++ (p, m) :: rest)), some (.int (pre.length : Nat)), some (.int p), some (.int m), none] S') _
          simp only [sp_seq, sp_asg, sp_par, sp_par3, sp_if, sp_for, sp_ret, sp_retN, sp_next, sp_brk, sp_cont, sp_expr, wp_bin, wp_un, wp_c, wp_tOf, wp_tTr, wp_tAnd, wp_tOr, wp_tNot, wp_eAnd, wp_eOr, wp_eNot, wp_eIf, wp_aNil, wp_aCons, wp_eCall, wp_eFn, wp_eSl, wp_oNone, wp_oSome, wp_eMt, wp_eLst, wp_eTup, wp_ok, wp_tYes, oq_some, bq_bl, iq_int, uq_some, l2q_ok, l3q_ok, pName_eq, List.set_cons_zero, List.set_cons_succ, v0, v1, v2, v3, v4, v5, v6, v7, v8, v9, v10, v11, v12, v13, v14, v15, v16, v17, v18, v19, dAdd_int, dSub_int, dSub_bl, dNeg_int, bInt_int, dOrd_int, dGe_int, dLe_int, dIs_non, dIsNot_non, true_bl, isNon_ref, isNon_tup, isNon_non, isNon_int, Bool.false_eq_true, if_true, if_false, ite_true, ite_false, not_true, not_false_iff, Bool.not_true, Bool.not_false, Bool.not_not, decide_true, decide_false, List.append_nil, List.nil_append, List.length_cons, List.length_nil, reduceIte, reduceCtorEq, ix_lenN hz, Nat.add_zero]
          have e2 : (2 : Nat) ≤ sizeLine := by rw [sizeLine_eq]; decide
          refine ⟨e2, ?_⟩
          rw [show D.tup [D.int p, D.int m] = pairD (p, m) from rfl, dNe_pair]
          simp only [sp_seq, sp_asg, sp_par, sp_par3, sp_if, sp_for, sp_ret, sp_retN, sp_next, sp_brk, sp_cont, sp_expr, wp_bin, wp_un, wp_c, wp_tOf, wp_tTr, wp_tAnd, wp_tOr, wp_tNot, wp_eAnd, wp_eOr, wp_eNot, wp_eIf, wp_aNil, wp_aCons, wp_eCall, wp_eFn, wp_eSl, wp_oNone, wp_oSome, wp_eMt, wp_eLst, wp_eTup, wp_ok, wp_tYes, oq_some, bq_bl, iq_int, uq_some, l2q_ok, l3q_ok, pName_eq, List.set_cons_zero, List.set_cons_succ, v0, v1, v2, v3, v4, v5, v6, v7, v8, v9, v10, v11, v12, v13, v14, v15, v16, v17, v18, v19, dAdd_int, dSub_int, dSub_bl, dNeg_int, bInt_int, dOrd_int, dGe_int, dLe_int, dIs_non, dIsNot_non, true_bl, isNon_ref, isNon_tup, isNon_non, isNon_int, Bool.false_eq_true, if_true, if_false, ite_true, ite_false, not_true, not_false_iff, Bool.not_true, Bool.not_false, Bool.not_not, decide_true, decide_false, List.append_nil, List.nil_append, List.length_cons, List.length_nil, reduceIte, reduceCtorEq, ix_lenN hz, ix_pair0, ix_pair1, dEq_int, decide_eq_true_eq, Bool.not_eq_true', decide_eq_false_iff_not]
          by_cases e : z = (p, m)
          · rw [if_neg (fun h => h e)]
            subst e
            refine ⟨trivial, pre ++ [(p, m)], wr, rest, _, _, _, ?_, ?_, ?_, rfl⟩
            · simp
            · simp
            · simp
          · rw [if_pos e]
            have e3 : ((pre.length : Nat) : Int) + 1 = ((pre.length + 1 : Nat) : Int) := by simp
            have e4 : (pre ++ z :: wr).drop (pre.length + 1) = wr := by rw [List.drop_append, List.drop_eq_nil_of_le (by omega)]; simp
            have e5 : pre.length + 1 ≤ (pre ++ z :: wr).length := by simp
            rw [behind_pre, behindL, if_neg e] at hq
            have hl' : wr.length + 1 ≤ sizeLine := by rw [sizeLine_eq]; simp at hl; omega
            by_cases e1 : z.1 = p
            · rw [if_pos e1] at hq ⊢
              simp only [sp_seq, sp_asg, sp_par, sp_par3, sp_if, sp_for, sp_ret, sp_retN, sp_next, sp_brk, sp_cont, sp_expr, wp_bin, wp_un, wp_c, wp_tOf, wp_tTr, wp_tAnd, wp_tOr, wp_tNot, wp_eAnd, wp_eOr, wp_eNot, wp_eIf, wp_aNil, wp_aCons, wp_eCall, wp_eFn, wp_eSl, wp_oNone, wp_oSome, wp_eMt, wp_eLst, wp_eTup, wp_ok, wp_tYes, oq_some, bq_bl, iq_int, uq_some, l2q_ok, l3q_ok, pName_eq, List.set_cons_zero, List.set_cons_succ, v0, v1, v2, v3, v4, v5, v6, v7, v8, v9, v10, v11, v12, v13, v14, v15, v16, v17, v18, v19, dAdd_int, dSub_int, dSub_bl, dNeg_int, bInt_int, dOrd_int, dGe_int, dLe_int, dIs_non, dIsNot_non, true_bl, isNon_ref, isNon_tup, isNon_non, isNon_int, Bool.false_eq_true, if_true, if_false, ite_true, ite_false, not_true, not_false_iff, Bool.not_true, Bool.not_false, Bool.not_not, decide_true, decide_false, List.append_nil, List.nil_append, List.length_cons, List.length_nil, reduceIte, reduceCtorEq, wp_aStar, ix_lenN hz, ix_pair0, ix_pair1, e3, sl_len e5, e4, seqOf_len]
              refine ⟨e2, by simpa using hl', ?_⟩
              exact hq
            · rw [if_neg e1] at hq ⊢
              simp only [sp_seq, sp_asg, sp_par, sp_par3, sp_if, sp_for, sp_ret, sp_retN, sp_next, sp_brk, sp_cont, sp_expr, wp_bin, wp_un, wp_c, wp_tOf, wp_tTr, wp_tAnd, wp_tOr, wp_tNot, wp_eAnd, wp_eOr, wp_eNot, wp_eIf, wp_aNil, wp_aCons, wp_eCall, wp_eFn, wp_eSl, wp_oNone, wp_oSome, wp_eMt, wp_eLst, wp_eTup, wp_ok, wp_tYes, oq_some, bq_bl, iq_int, uq_some, l2q_ok, l3q_ok, pName_eq, List.set_cons_zero, List.set_cons_succ, v0, v1, v2, v3, v4, v5, v6, v7, v8, v9, v10, v11, v12, v13, v14, v15, v16, v17, v18, v19, dAdd_int, dSub_int, dSub_bl, dNeg_int, bInt_int, dOrd_int, dGe_int, dLe_int, dIs_non, dIsNot_non, true_bl, isNon_ref, isNon_tup, isNon_non, isNon_int, Bool.false_eq_true, if_true, if_false, ite_true, ite_false, not_true, not_false_iff, Bool.not_true, Bool.not_false, Bool.not_not, decide_true, decide_false, List.append_nil, List.nil_append, List.length_cons, List.length_nil, reduceIte, reduceCtorEq, wp_aStar, ix_lenN hz, ix_pair0, ix_pair1, e3, sl_len e5, e4, seqOf_len]
              refine ⟨e2, by simpa using hl', ?_⟩
              exact hq
    · obtain ⟨rfl, pre, wr, rest, o2, o3, o4, h1, rfl, rfl, rfl⟩ := h
      have hr : rest = [] := by
        cases rest with
        | nil => rfl
        | cons x rest => rw [List.zipIdx_cons] at h1; cases h1
      subst hr
      simp only [sp_seq, sp_asg, sp_par, sp_par3, sp_if, sp_for, sp_ret, sp_retN, sp_next, sp_brk, sp_cont, sp_expr, wp_bin, wp_un, wp_c, wp_tOf, wp_tTr, wp_tAnd, wp_tOr, wp_tNot, wp_eAnd, wp_eOr, wp_eNot, wp_eIf, wp_aNil, wp_aCons, wp_eCall, wp_eFn, wp_eSl, wp_oNone, wp_oSome, wp_eMt, wp_eLst, wp_eTup, wp_ok, wp_tYes, oq_some, bq_bl, iq_int, uq_some, l2q_ok, l3q_ok, pName_eq, List.set_cons_zero, List.set_cons_succ, v0, v1, v2, v3, v4, v5, v6, v7, v8, v9, v10, v11, v12, v13, v14, v15, v16, v17, v18, v19, dAdd_int, dSub_int, dSub_bl, dNeg_int, bInt_int, dOrd_int, dGe_int, dLe_int, dIs_non, dIsNot_non, true_bl, isNon_ref, isNon_tup, isNon_non, isNon_int, Bool.false_eq_true, if_true, if_false, ite_true, ite_false, not_true, not_false_iff, Bool.not_true, Bool.not_false, Bool.not_not, decide_true, decide_false, List.append_nil, List.nil_append, List.length_cons, List.length_nil, reduceIte, reduceCtorEq, bLen_len]
      rw [behind_pre] at hq
      have e : behindL wr [] = wr := by cases wr <;> rfl
      rw [e] at hq
      rw [sl_len (by simp)]
      simpa using hq
end
end K08
set_option Elab.async false
set_option linter.all false
set_option maxRecDepth 100000
set_option maxHeartbeats 4000000
namespace K08
open MP ML
open PySem (sizeLine sizeLine_eq)
open PyProof.Rows (b2i)
section
variable {S : Store} {a b l : L} {X : Exc → Store → Prop} {Q : D → Store → Prop}
theorem two_le : (2 : Nat) ≤ sizeLine := by rw [sizeLine_eq]; decide
theorem one_le : (1 : Nat) ≤ sizeLine := by rw [sizeLine_eq]; decide
theorem log_lt {i : Int} (h0 : 0 ≤ i) {k : Nat} (hk : 0 < k) (h : i < 2 ^ k) : i.natAbs.log2 < k := by
  have e : (2 : Int) ^ k = ((2 ^ k : Nat) : Int) := by norm_cast
  have : i.natAbs < 2 ^ k := by rw [e] at h; omega
  by_cases h1 : i.natAbs = 0
  · rw [h1]; exact Nat.lt_of_le_of_lt (Nat.le_of_eq (by decide)) hk
  · exact (Nat.log2_lt h1).mpr this
theorem taken_wp {n : Int} {k : Nat} {B : Int} (h : Ok l) (hb : Bd k B l) (hB : B < 2 ^ 2000) (hn : 0 ≤ n) (hn2 : n < 2 ^ 2000) (hl : l.length ≤ 1000000) (hq : Q (lenD (takenL l n)) S) : wp (sem_length_taken [lenD l, .int n] S) Q X := by
  unfold sem_length_taken
  rw [wp_sem]
  unfold g_length_taken
  show sp (gSeq _ _ [some (lenD l), some (.int n), none, none] S) _
  simp only [sp_seq, sp_asg, sp_par, sp_par3, sp_if, sp_for, sp_ret, sp_retN, sp_next, sp_brk, sp_cont, sp_expr, wp_bin, wp_un, wp_c, wp_tOf, wp_tTr, wp_tAnd, wp_tOr, wp_tNot, wp_eAnd, wp_eOr, wp_eNot, wp_eIf, wp_aNil, wp_aCons, wp_eCall, wp_eFn, wp_eSl, wp_oNone, wp_oSome, wp_eMt, wp_eLst, wp_eTup, wp_ok, wp_tYes, oq_some, bq_bl, iq_int, uq_some, l2q_ok, l3q_ok, pName_eq, List.set_cons_zero, List.set_cons_succ, v0, v1, v2, v3, v4, v5, v6, v7, v8, v9, v10, v11, v12, v13, v14, v15, v16, v17, v18, v19, dAdd_int, dSub_int, dSub_bl, dNeg_int, bInt_int, dOrd_int, dGe_int, dLe_int, dIs_non, dIsNot_non, true_bl, isNon_ref, isNon_tup, isNon_non, isNon_int, Bool.false_eq_true, if_true, if_false, ite_true, ite_false, not_true, not_false_iff, Bool.not_true, Bool.not_false, Bool.not_not, decide_true, decide_false, List.append_nil, List.nil_append, List.length_cons, List.length_nil, reduceIte, reduceCtorEq, Nat.zero_le, true_and, dEq_len0, decide_eq_true_eq, dEq_int]
  cases l with
  | nil => rw [if_pos rfl]; exact hq
  | cons x r =>
    obtain ⟨p, m⟩ := x
    rw [if_neg (by simp)]
    by_cases hn0 : n = 0
    · subst hn0
      rw [if_pos rfl]; exact hq
    · rw [if_neg hn0]
      have hm := h.head.2
      have hmB := hb.cf _ (List.mem_cons_self ..)
      simp only at hm hmB
      have e1 : dMul (.int m) (.int n) S = some (.int (m * n), S) := by
        refine if_pos (.inl ?_)
        have h1 := log_lt (i := m) (by omega) (k := 2000) (by decide) (by omega)
        have h2 := log_lt hn (k := 2000) (by decide) hn2
        omega
      simp only [sp_seq, sp_asg, sp_par, sp_par3, sp_if, sp_for, sp_ret, sp_retN, sp_next, sp_brk, sp_cont, sp_expr, wp_bin, wp_un, wp_c, wp_tOf, wp_tTr, wp_tAnd, wp_tOr, wp_tNot, wp_eAnd, wp_eOr, wp_eNot, wp_eIf, wp_aNil, wp_aCons, wp_eCall, wp_eFn, wp_eSl, wp_oNone, wp_oSome, wp_eMt, wp_eLst, wp_eTup, wp_ok, wp_tYes, oq_some, bq_bl, iq_int, uq_some, l2q_ok, l3q_ok, pName_eq, List.set_cons_zero, List.set_cons_succ, v0, v1, v2, v3, v4, v5, v6, v7, v8, v9, v10, v11, v12, v13, v14, v15, v16, v17, v18, v19, dAdd_int, dSub_int, dSub_bl, dNeg_int, bInt_int, dOrd_int, dGe_int, dLe_int, dIs_non, dIsNot_non, true_bl, isNon_ref, isNon_tup, isNon_non, isNon_int, Bool.false_eq_true, if_true, if_false, ite_true, ite_false, not_true, not_false_iff, Bool.not_true, Bool.not_false, Bool.not_not, decide_true, decide_false, List.append_nil, List.nil_append, List.length_cons, List.length_nil, reduceIte, reduceCtorEq, ix_len0, unp_pair, wp_aStar, e1, sl_len1, seqOf_len]
      have hl' : r.length + 1 ≤ sizeLine := by rw [sizeLine_eq]; simp at hl; omega
      refine ⟨two_le, by simpa using hl', ?_⟩
      unfold takenL at hq
      simp only [hn0, if_false] at hq
      exact hq
theorem endless_wp (hq : Q (lenD (endlessL l)) S) : wp (sem_length_endless [lenD l] S) Q X := by
  unfold sem_length_endless
  rw [wp_sem]
  unfold g_length_endless
  show sp (gRet _ [some (lenD l)] S) _
  simp only [sp_seq, sp_asg, sp_par, sp_par3, sp_if, sp_for, sp_ret, sp_retN, sp_next, sp_brk, sp_cont, sp_expr, wp_bin, wp_un, wp_c, wp_tOf, wp_tTr, wp_tAnd, wp_tOr, wp_tNot, wp_eAnd, wp_eOr, wp_eNot, wp_eIf, wp_aNil, wp_aCons, wp_eCall, wp_eFn, wp_eSl, wp_oNone, wp_oSome, wp_eMt, wp_eLst, wp_eTup, wp_ok, wp_tYes, oq_some, bq_bl, iq_int, uq_some, l2q_ok, l3q_ok, pName_eq, List.set_cons_zero, List.set_cons_succ, v0, v1, v2, v3, v4, v5, v6, v7, v8, v9, v10, v11, v12, v13, v14, v15, v16, v17, v18, v19, dAdd_int, dSub_int, dSub_bl, dNeg_int, bInt_int, dOrd_int, dGe_int, dLe_int, dIs_non, dIsNot_non, true_bl, isNon_ref, isNon_tup, isNon_non, isNon_int, Bool.false_eq_true, if_true, if_false, ite_true, ite_false, not_true, not_false_iff, Bool.not_true, Bool.not_false, Bool.not_not, decide_true, decide_false, List.append_nil, List.nil_append, List.length_cons, List.length_nil, reduceIte, reduceCtorEq, Nat.zero_le, true_and, dNe_len0, Bool.not_eq_true', decide_eq_false_iff_not]
  cases l with
  | nil => rw [if_neg (by simp)]; exact hq
  | cons x r =>
    rw [if_pos (by simp)]
    simp only [sp_seq, sp_asg, sp_par, sp_par3, sp_if, sp_for, sp_ret, sp_retN, sp_next, sp_brk, sp_cont, sp_expr, wp_bin, wp_un, wp_c, wp_tOf, wp_tTr, wp_tAnd, wp_tOr, wp_tNot, wp_eAnd, wp_eOr, wp_eNot, wp_eIf, wp_aNil, wp_aCons, wp_eCall, wp_eFn, wp_eSl, wp_oNone, wp_oSome, wp_eMt, wp_eLst, wp_eTup, wp_ok, wp_tYes, oq_some, bq_bl, iq_int, uq_some, l2q_ok, l3q_ok, pName_eq, List.set_cons_zero, List.set_cons_succ, v0, v1, v2, v3, v4, v5, v6, v7, v8, v9, v10, v11, v12, v13, v14, v15, v16, v17, v18, v19, dAdd_int, dSub_int, dSub_bl, dNeg_int, bInt_int, dOrd_int, dGe_int, dLe_int, dIs_non, dIsNot_non, true_bl, isNon_ref, isNon_tup, isNon_non, isNon_int, Bool.false_eq_true, if_true, if_false, ite_true, ite_false, not_true, not_false_iff, Bool.not_true, Bool.not_false, Bool.not_not, decide_true, decide_false, List.append_nil, List.nil_append, List.length_cons, List.length_nil, reduceIte, reduceCtorEq, ix_len0, ix_pair0]
    exact ⟨two_le, one_le, hq⟩
noncomputable def limitB (l : L) : Bool := match l.reverse with
  | [] => false
  | x :: _ => decide (0 < x.1)
theorem limit_eq {ρ : Env} {Q : D → Store → Prop} {i : Nat} (hρ : ρ[i]? = some (some (lenD l))) (hq : Q (.bl (limitB l)) S) : wp (eAnd (eBin dNe (eVar i) (eTup aNil)) (eBin (dOrd true) (eBin dIx (eBin dIx (eVar i) (eUn dNeg (eC (.int 1)))) (eC (.int 0))) (eC (.int 0))) ρ S) Q X := by
  simp only [sp_seq, sp_asg, sp_par, sp_par3, sp_if, sp_for, sp_ret, sp_retN, sp_next, sp_brk, sp_cont, sp_expr, wp_bin, wp_un, wp_c, wp_tOf, wp_tTr, wp_tAnd, wp_tOr, wp_tNot, wp_eAnd, wp_eOr, wp_eNot, wp_eIf, wp_aNil, wp_aCons, wp_eCall, wp_eFn, wp_eSl, wp_oNone, wp_oSome, wp_eMt, wp_eLst, wp_eTup, wp_ok, wp_tYes, oq_some, bq_bl, iq_int, uq_some, l2q_ok, l3q_ok, pName_eq, List.set_cons_zero, List.set_cons_succ, v0, v1, v2, v3, v4, v5, v6, v7, v8, v9, v10, v11, v12, v13, v14, v15, v16, v17, v18, v19, dAdd_int, dSub_int, dSub_bl, dNeg_int, bInt_int, dOrd_int, dGe_int, dLe_int, dIs_non, dIsNot_non, true_bl, isNon_ref, isNon_tup, isNon_non, isNon_int, Bool.false_eq_true, if_true, if_false, ite_true, ite_false, not_true, not_false_iff, Bool.not_true, Bool.not_false, Bool.not_not, decide_true, decide_false, List.append_nil, List.nil_append, List.length_cons, List.length_nil, reduceIte, reduceCtorEq, wp_var hρ, Nat.zero_le, true_and, dNe_len0, Bool.not_eq_true', decide_eq_false_iff_not]
  by_cases h : l = []
  · subst h
    rw [if_neg (by simp)]
    simpa [limitB] using hq
  · rw [if_pos h]
    obtain ⟨k', z, rfl⟩ : ∃ k' z, l = k' ++ [z] := ⟨l.dropLast, l.getLast h, (List.dropLast_concat_getLast h).symm⟩
    rw [ix_lenE]
    simp only [sp_seq, sp_asg, sp_par, sp_par3, sp_if, sp_for, sp_ret, sp_retN, sp_next, sp_brk, sp_cont, sp_expr, wp_bin, wp_un, wp_c, wp_tOf, wp_tTr, wp_tAnd, wp_tOr, wp_tNot, wp_eAnd, wp_eOr, wp_eNot, wp_eIf, wp_aNil, wp_aCons, wp_eCall, wp_eFn, wp_eSl, wp_oNone, wp_oSome, wp_eMt, wp_eLst, wp_eTup, wp_ok, wp_tYes, oq_some, bq_bl, iq_int, uq_some, l2q_ok, l3q_ok, pName_eq, List.set_cons_zero, List.set_cons_succ, v0, v1, v2, v3, v4, v5, v6, v7, v8, v9, v10, v11, v12, v13, v14, v15, v16, v17, v18, v19, dAdd_int, dSub_int, dSub_bl, dNeg_int, bInt_int, dOrd_int, dGe_int, dLe_int, dIs_non, dIsNot_non, true_bl, isNon_ref, isNon_tup, isNon_non, isNon_int, Bool.false_eq_true, if_true, if_false, ite_true, ite_false, not_true, not_false_iff, Bool.not_true, Bool.not_false, Bool.not_not, decide_true, decide_false, List.append_nil, List.nil_append, List.length_cons, List.length_nil, reduceIte, reduceCtorEq, ix_pair0]
    simpa [limitB] using hq
theorem limit_wp (hq : Q (.bl (limitB l)) S) : wp (sem_is_limit [lenD l] S) Q X := by
  unfold sem_is_limit
  rw [wp_sem]
  unfold g_is_limit
  show sp (gRet _ [some (lenD l)] S) _
  rw [sp_ret]
  exact limit_eq rfl hq
/-! ### too great -/
theorem long_301 : (PySem.Str.ofString (toString ((10 : Int) ^ 300 + 1))).length = 301 := by decide +kernel
theorem long_wp {i : Int} (h0 : 0 ≤ i) (h1 : i ≤ 10 ^ 300 + 1) (hq : Q (.bl (decide (10 ^ 300 ≤ i))) S) : wp (sem_is_long [.int i] S) Q X := by
  unfold sem_is_long
  rw [wp_sem]
  unfold g_is_long
  show sp (gRet _ [some (.int i)] S) _
  have hlog : i.natAbs.log2 < 997 := log_lt h0 (by decide) (Int.lt_of_le_of_lt h1 (by decide))
  have hbits : ((PySem.Builtin.Int.intBits i : Nat) : Int) ≤ 997 := by
    unfold PySem.Builtin.Int.intBits
    split <;> omega
  have e1 : oBits (.int i) S = some (.int (PySem.Builtin.Int.intBits i : Nat), S) := rfl
  have e2 : bStr [.int i] S = some (.str (PySem.Str.ofString (toString i)), S) := if_pos (by omega)
  have e4 : (PySem.Str.ofString (toString i)).length ≤ 301 := PyProof.Rows.toString_length_le h0 (by decide) (Int.lt_of_le_of_lt h1 (by decide))
  have e3 : bLen [.str (PySem.Str.ofString (toString i))] S = some (.int (PySem.Str.ofString (toString i)).length, S) := if_pos (by rw [sizeLine_eq]; omega)
  simp only [sp_seq, sp_asg, sp_par, sp_par3, sp_if, sp_for, sp_ret, sp_retN, sp_next, sp_brk, sp_cont, sp_expr, wp_bin, wp_un, wp_c, wp_tOf, wp_tTr, wp_tAnd, wp_tOr, wp_tNot, wp_eAnd, wp_eOr, wp_eNot, wp_eIf, wp_aNil, wp_aCons, wp_eCall, wp_eFn, wp_eSl, wp_oNone, wp_oSome, wp_eMt, wp_eLst, wp_eTup, wp_ok, wp_tYes, oq_some, bq_bl, iq_int, uq_some, l2q_ok, l3q_ok, pName_eq, List.set_cons_zero, List.set_cons_succ, v0, v1, v2, v3, v4, v5, v6, v7, v8, v9, v10, v11, v12, v13, v14, v15, v16, v17, v18, v19, dAdd_int, dSub_int, dSub_bl, dNeg_int, bInt_int, dOrd_int, dGe_int, dLe_int, dIs_non, dIsNot_non, true_bl, isNon_ref, isNon_tup, isNon_non, isNon_int, Bool.false_eq_true, if_true, if_false, ite_true, ite_false, not_true, not_false_iff, Bool.not_true, Bool.not_false, Bool.not_not, decide_true, decide_false, List.append_nil, List.nil_append, List.length_cons, List.length_nil, reduceIte, reduceCtorEq, e1]
  rw [decide_eq_false (by omega)]
  simp only [sp_seq, sp_asg, sp_par, sp_par3, sp_if, sp_for, sp_ret, sp_retN, sp_next, sp_brk, sp_cont, sp_expr, wp_bin, wp_un, wp_c, wp_tOf, wp_tTr, wp_tAnd, wp_tOr, wp_tNot, wp_eAnd, wp_eOr, wp_eNot, wp_eIf, wp_aNil, wp_aCons, wp_eCall, wp_eFn, wp_eSl, wp_oNone, wp_oSome, wp_eMt, wp_eLst, wp_eTup, wp_ok, wp_tYes, oq_some, bq_bl, iq_int, uq_some, l2q_ok, l3q_ok, pName_eq, List.set_cons_zero, List.set_cons_succ, v0, v1, v2, v3, v4, v5, v6, v7, v8, v9, v10, v11, v12, v13, v14, v15, v16, v17, v18, v19, dAdd_int, dSub_int, dSub_bl, dNeg_int, bInt_int, dOrd_int, dGe_int, dLe_int, dIs_non, dIsNot_non, true_bl, isNon_ref, isNon_tup, isNon_non, isNon_int, Bool.false_eq_true, if_true, if_false, ite_true, ite_false, not_true, not_false_iff, Bool.not_true, Bool.not_false, Bool.not_not, decide_true, decide_false, List.append_nil, List.nil_append, List.length_cons, List.length_nil, reduceIte, reduceCtorEq, bAbs_int]
  rw [if_neg (by omega), e2]
  simp only [sp_seq, sp_asg, sp_par, sp_par3, sp_if, sp_for, sp_ret, sp_retN, sp_next, sp_brk, sp_cont, sp_expr, wp_bin, wp_un, wp_c, wp_tOf, wp_tTr, wp_tAnd, wp_tOr, wp_tNot, wp_eAnd, wp_eOr, wp_eNot, wp_eIf, wp_aNil, wp_aCons, wp_eCall, wp_eFn, wp_eSl, wp_oNone, wp_oSome, wp_eMt, wp_eLst, wp_eTup, wp_ok, wp_tYes, oq_some, bq_bl, iq_int, uq_some, l2q_ok, l3q_ok, pName_eq, List.set_cons_zero, List.set_cons_succ, v0, v1, v2, v3, v4, v5, v6, v7, v8, v9, v10, v11, v12, v13, v14, v15, v16, v17, v18, v19, dAdd_int, dSub_int, dSub_bl, dNeg_int, bInt_int, dOrd_int, dGe_int, dLe_int, dIs_non, dIsNot_non, true_bl, isNon_ref, isNon_tup, isNon_non, isNon_int, Bool.false_eq_true, if_true, if_false, ite_true, ite_false, not_true, not_false_iff, Bool.not_true, Bool.not_false, Bool.not_not, decide_true, decide_false, List.append_nil, List.nil_append, List.length_cons, List.length_nil, reduceIte, reduceCtorEq]
  rw [e3]
  simp only [sp_seq, sp_asg, sp_par, sp_par3, sp_if, sp_for, sp_ret, sp_retN, sp_next, sp_brk, sp_cont, sp_expr, wp_bin, wp_un, wp_c, wp_tOf, wp_tTr, wp_tAnd, wp_tOr, wp_tNot, wp_eAnd, wp_eOr, wp_eNot, wp_eIf, wp_aNil, wp_aCons, wp_eCall, wp_eFn, wp_eSl, wp_oNone, wp_oSome, wp_eMt, wp_eLst, wp_eTup, wp_ok, wp_tYes, oq_some, bq_bl, iq_int, uq_some, l2q_ok, l3q_ok, pName_eq, List.set_cons_zero, List.set_cons_succ, v0, v1, v2, v3, v4, v5, v6, v7, v8, v9, v10, v11, v12, v13, v14, v15, v16, v17, v18, v19, dAdd_int, dSub_int, dSub_bl, dNeg_int, bInt_int, dOrd_int, dGe_int, dLe_int, dIs_non, dIsNot_non, true_bl, isNon_ref, isNon_tup, isNon_non, isNon_int, Bool.false_eq_true, if_true, if_false, ite_true, ite_false, not_true, not_false_iff, Bool.not_true, Bool.not_false, Bool.not_not, decide_true, decide_false, List.append_nil, List.nil_append, List.length_cons, List.length_nil, reduceIte, reduceCtorEq]
  by_cases h : 10 ^ 300 ≤ i
  · have e5 : (PySem.Str.ofString (toString i)).length = 301 := by
      by_cases h2 : i = 10 ^ 300
      · subst h2; exact long_300
      · have : i = 10 ^ 300 + 1 := by omega
        subst this; exact long_301
    rw [e5]
    simpa [h] using hq
  · have e4 : (PySem.Str.ofString (toString i)).length ≤ 300 := PyProof.Rows.toString_length_le h0 (by decide) (by omega)
    rw [decide_eq_false (by omega)]
    simpa [h] using hq
def greatX : Exc := ⟨"TooGreat", [("number", .int 1)]⟩
theorem not_long_wp {i : Int} (h0 : 0 ≤ i) (h1 : i ≤ 10 ^ 300 + 1) (hq : i < 10 ^ 300 → Q (.int i) S) (hx : 10 ^ 300 ≤ i → X greatX S) : wp (sem_not_long [.int i] S) Q X := by
  unfold sem_not_long
  rw [wp_sem]
  unfold g_not_long
  show sp (gSeq _ _ [some (.int i)] S) _
  simp only [sp_seq, sp_asg, sp_par, sp_par3, sp_if, sp_for, sp_ret, sp_retN, sp_next, sp_brk, sp_cont, sp_expr, wp_bin, wp_un, wp_c, wp_tOf, wp_tTr, wp_tAnd, wp_tOr, wp_tNot, wp_eAnd, wp_eOr, wp_eNot, wp_eIf, wp_aNil, wp_aCons, wp_eCall, wp_eFn, wp_eSl, wp_oNone, wp_oSome, wp_eMt, wp_eLst, wp_eTup, wp_ok, wp_tYes, oq_some, bq_bl, iq_int, uq_some, l2q_ok, l3q_ok, pName_eq, List.set_cons_zero, List.set_cons_succ, v0, v1, v2, v3, v4, v5, v6, v7, v8, v9, v10, v11, v12, v13, v14, v15, v16, v17, v18, v19, dAdd_int, dSub_int, dSub_bl, dNeg_int, bInt_int, dOrd_int, dGe_int, dLe_int, dIs_non, dIsNot_non, true_bl, isNon_ref, isNon_tup, isNon_non, isNon_int, Bool.false_eq_true, if_true, if_false, ite_true, ite_false, not_true, not_false_iff, Bool.not_true, Bool.not_false, Bool.not_not, decide_true, decide_false, List.append_nil, List.nil_append, List.length_cons, List.length_nil, reduceIte, reduceCtorEq]
  refine long_wp h0 h1 ?_
  simp only [sp_seq, sp_asg, sp_par, sp_par3, sp_if, sp_for, sp_ret, sp_retN, sp_next, sp_brk, sp_cont, sp_expr, wp_bin, wp_un, wp_c, wp_tOf, wp_tTr, wp_tAnd, wp_tOr, wp_tNot, wp_eAnd, wp_eOr, wp_eNot, wp_eIf, wp_aNil, wp_aCons, wp_eCall, wp_eFn, wp_eSl, wp_oNone, wp_oSome, wp_eMt, wp_eLst, wp_eTup, wp_ok, wp_tYes, oq_some, bq_bl, iq_int, uq_some, l2q_ok, l3q_ok, pName_eq, List.set_cons_zero, List.set_cons_succ, v0, v1, v2, v3, v4, v5, v6, v7, v8, v9, v10, v11, v12, v13, v14, v15, v16, v17, v18, v19, dAdd_int, dSub_int, dSub_bl, dNeg_int, bInt_int, dOrd_int, dGe_int, dLe_int, dIs_non, dIsNot_non, true_bl, isNon_ref, isNon_tup, isNon_non, isNon_int, Bool.false_eq_true, if_true, if_false, ite_true, ite_false, not_true, not_false_iff, Bool.not_true, Bool.not_false, Bool.not_not, decide_true, decide_false, List.append_nil, List.nil_append, List.length_cons, List.length_nil, reduceIte, reduceCtorEq, decide_eq_true_eq]
  by_cases h : 10 ^ 300 ≤ i
  · rw [if_pos h]
    exact hx h
  · rw [if_neg h]
    exact hq (by omega)
def great (l : L) : Prop := ∃ x ∈ l, 10 ^ 300 ≤ x.1 ∨ 10 ^ 300 ≤ x.2
theorem made_wp {l : L} (h0 : ∀ x ∈ l, 0 ≤ x.1 ∧ 0 ≤ x.2 ∧ x.1 ≤ 10 ^ 300 + 1 ∧ x.2 ≤ 10 ^ 300 + 1) (hl : l.length ≤ sizeLine) (hq : ¬ great l → ∀ t, Q (lenD l) (S ++ t)) (hx : great l → X greatX S) : wp (sem_length_made [lenD l] S) Q X := by
  unfold sem_length_made
  rw [wp_sem]
  unfold g_length_made
  show sp (gRet _ [some (lenD l), none, none] S) _
  simp only [sp_seq, sp_asg, sp_par, sp_par3, sp_if, sp_for, sp_ret, sp_retN, sp_next, sp_brk, sp_cont, sp_expr, wp_bin, wp_un, wp_c, wp_tOf, wp_tTr, wp_tAnd, wp_tOr, wp_tNot, wp_eAnd, wp_eOr, wp_eNot, wp_eIf, wp_aNil, wp_aCons, wp_eCall, wp_eFn, wp_eSl, wp_oNone, wp_oSome, wp_eMt, wp_eLst, wp_eTup, wp_ok, wp_tYes, oq_some, bq_bl, iq_int, uq_some, l2q_ok, l3q_ok, pName_eq, List.set_cons_zero, List.set_cons_succ, v0, v1, v2, v3, v4, v5, v6, v7, v8, v9, v10, v11, v12, v13, v14, v15, v16, v17, v18, v19, dAdd_int, dSub_int, dSub_bl, dNeg_int, bInt_int, dOrd_int, dGe_int, dLe_int, dIs_non, dIsNot_non, true_bl, isNon_ref, isNon_tup, isNon_non, isNon_int, Bool.false_eq_true, if_true, if_false, ite_true, ite_false, not_true, not_false_iff, Bool.not_true, Bool.not_false, Bool.not_not, decide_true, decide_false, List.append_nil, List.nil_append, List.length_cons, List.length_nil, reduceIte, reduceCtorEq]
  refine wp_eLcX (sSeq_len ?_)
  simp only [sp_seq, sp_asg, sp_par, sp_par3, sp_if, sp_for, sp_ret, sp_retN, sp_next, sp_brk, sp_cont, sp_expr, wp_bin, wp_un, wp_c, wp_tOf, wp_tTr, wp_tAnd, wp_tOr, wp_tNot, wp_eAnd, wp_eOr, wp_eNot, wp_eIf, wp_aNil, wp_aCons, wp_eCall, wp_eFn, wp_eSl, wp_oNone, wp_oSome, wp_eMt, wp_eLst, wp_eTup, wp_ok, wp_tYes, oq_some, bq_bl, iq_int, uq_some, l2q_ok, l3q_ok, pName_eq, List.set_cons_zero, List.set_cons_succ, v0, v1, v2, v3, v4, v5, v6, v7, v8, v9, v10, v11, v12, v13, v14, v15, v16, v17, v18, v19, dAdd_int, dSub_int, dSub_bl, dNeg_int, bInt_int, dOrd_int, dGe_int, dLe_int, dIs_non, dIsNot_non, true_bl, isNon_ref, isNon_tup, isNon_non, isNon_int, Bool.false_eq_true, if_true, if_false, ite_true, ite_false, not_true, not_false_iff, Bool.not_true, Bool.not_false, Bool.not_not, decide_true, decide_false, List.append_nil, List.nil_append, List.length_cons, List.length_nil, reduceIte, reduceCtorEq]
  refine ⟨l, rfl, by simpa using hl, ?_⟩
  refine wp_mono (wp_lcS (X := fun x S' => x = greatX ∧ S' = S ∧ great l) (Q := fun acc S' => S' = S ∧ acc = l.map pairD ∧ ¬ great l) (fun items acc S' => S' = S ∧ ∃ pre rest, l = pre ++ rest ∧ items = rest.map pairD ∧ acc = pre.map pairD ∧ ¬ great pre) (fun d ds acc S' h => ?_) (fun acc S' h => ?_) (acc := []) ⟨rfl, [], l, rfl, rfl, rfl, fun ⟨_, h, _⟩ => by cases h⟩) (fun ys S' h => ?_) (fun x S' h => ?_)
  · obtain ⟨rfl, pre, rest, rfl, h2, rfl, h3⟩ := h
    refine ⟨trivial, ?_⟩
    cases rest with
    | nil => cases h2
    | cons x rest =>
      rw [List.map_cons] at h2
      cases h2
      have hx0 := h0 x (by simp)
      rw [unp_pair]
      show wp (Res.ok true S') _ _
      simp only [sp_seq, sp_asg, sp_par, sp_par3, sp_if, sp_for, sp_ret, sp_retN, sp_next, sp_brk, sp_cont, sp_expr, wp_bin, wp_un, wp_c, wp_tOf, wp_tTr, wp_tAnd, wp_tOr, wp_tNot, wp_eAnd, wp_eOr, wp_eNot, wp_eIf, wp_aNil, wp_aCons, wp_eCall, wp_eFn, wp_eSl, wp_oNone, wp_oSome, wp_eMt, wp_eLst, wp_eTup, wp_ok, wp_tYes, oq_some, bq_bl, iq_int, uq_some, l2q_ok, l3q_ok, pName_eq, List.set_cons_zero, List.set_cons_succ, v0, v1, v2, v3, v4, v5, v6, v7, v8, v9, v10, v11, v12, v13, v14, v15, v16, v17, v18, v19, dAdd_int, dSub_int, dSub_bl, dNeg_int, bInt_int, dOrd_int, dGe_int, dLe_int, dIs_non, dIsNot_non, true_bl, isNon_ref, isNon_tup, isNon_non, isNon_int, Bool.false_eq_true, if_true, if_false, ite_true, ite_false, not_true, not_false_iff, Bool.not_true, Bool.not_false, Bool.not_not, decide_true, decide_false, List.append_nil, List.nil_append, List.length_cons, List.length_nil, reduceIte, reduceCtorEq]
      have hin : x ∈ pre ++ x :: rest := by simp
      refine not_long_wp hx0.1 hx0.2.2.1 (fun g1 => ?_) fun g1 => ⟨rfl, rfl, x, hin, .inl g1⟩
      refine not_long_wp hx0.2.1 hx0.2.2.2 (fun g2 => ?_) fun g1 => ⟨rfl, rfl, x, hin, .inr g1⟩
      refine ⟨two_le, rfl, pre ++ [x], rest, by simp, rfl, by simp [MP.pairD], ?_⟩
      rintro ⟨y, hy, g⟩
      rcases List.mem_append.mp hy with hy | hy
      · exact h3 ⟨y, hy, g⟩
      · rw [List.mem_singleton.mp hy] at g; omega
  · obtain ⟨rfl, pre, rest, rfl, h2, rfl, h3⟩ := h
    refine ⟨trivial, rfl, ?_⟩
    cases rest with
    | nil => simp only [List.append_nil]; exact ⟨trivial, h3⟩
    | cons x rest => cases h2
  · obtain ⟨rfl, h2, h3⟩ := h
    rw [List.nil_append] at h2
    subst h2
    rw [bTuple_lst at_last]
    simp only [sp_seq, sp_asg, sp_par, sp_par3, sp_if, sp_for, sp_ret, sp_retN, sp_next, sp_brk, sp_cont, sp_expr, wp_bin, wp_un, wp_c, wp_tOf, wp_tTr, wp_tAnd, wp_tOr, wp_tNot, wp_eAnd, wp_eOr, wp_eNot, wp_eIf, wp_aNil, wp_aCons, wp_eCall, wp_eFn, wp_eSl, wp_oNone, wp_oSome, wp_eMt, wp_eLst, wp_eTup, wp_ok, wp_tYes, oq_some, bq_bl, iq_int, uq_some, l2q_ok, l3q_ok, pName_eq, List.set_cons_zero, List.set_cons_succ, v0, v1, v2, v3, v4, v5, v6, v7, v8, v9, v10, v11, v12, v13, v14, v15, v16, v17, v18, v19, dAdd_int, dSub_int, dSub_bl, dNeg_int, bInt_int, dOrd_int, dGe_int, dLe_int, dIs_non, dIsNot_non, true_bl, isNon_ref, isNon_tup, isNon_non, isNon_int, Bool.false_eq_true, if_true, if_false, ite_true, ite_false, not_true, not_false_iff, Bool.not_true, Bool.not_false, Bool.not_not, decide_true, decide_false, List.append_nil, List.nil_append, List.length_cons, List.length_nil, reduceIte, reduceCtorEq]
    exact hq h3 _
  · obtain ⟨rfl, rfl, h⟩ := h
    exact hx h
end
end K08
set_option Elab.async false
set_option linter.all false
set_option maxRecDepth 100000
set_option maxHeartbeats 4000000
namespace K08
open MP ML
open PySem (sizeLine sizeLine_eq)
open PyProof.Rows (b2i)
section
variable {S : Store} {a b l : L} {X : Exc → Store → Prop} {Q : D → Store → Prop}
theorem addT (h : a.length + b.length ≤ 1000000) : dAdd (lenD a) (lenD b) S = some (lenD (a ++ b), S) := by
  unfold lenD
  rw [List.map_append]
  exact if_pos (by simp; rw [sizeLine_eq]; omega)
theorem intsOf_map : ∀ (ns : List Int), intsOf (ns.map D.int) = some ns
  | [] => rfl
  | n :: r => by rw [List.map_cons, intsOf, intsOf_map r]; rfl
theorem bSum_lst {q : Nat} {ns : List Int} (h : S[q]? = some (.lst (ns.map D.int))) : bSum [.ref q] S = some (.int ns.sum, S) := by
  unfold bSum
  simp only [listOf_lst h, intsOf_map]
theorem lthen_wp (hl : a.length + b.length ≤ 1000000) (hq : ∀ t, Q (lenD (thenL a b)) (S ++ t)) : wp (sem__law_then [lenD a, lenD b] S) Q X := by
  unfold sem__law_then
  rw [wp_sem]
  unfold g__law_then
  show sp (gSeq _ _ [some (lenD a), some (lenD b), none, none, none, none, none] S) _
  refine sp_seq.mpr ?_
  simp only [sp_asg, sp_par, sp_par3, sp_if, sp_for, sp_ret, sp_retN, sp_next, sp_brk, sp_cont, sp_expr, wp_bin, wp_un, wp_c, wp_tOf, wp_tTr, wp_tAnd, wp_tOr, wp_tNot, wp_eAnd, wp_eOr, wp_eNot, wp_eIf, wp_aNil, wp_aCons, wp_eCall, wp_eFn, wp_eSl, wp_oNone, wp_oSome, wp_eMt, wp_eLst, wp_eTup, wp_ok, wp_tYes, oq_some, bq_bl, iq_int, uq_some, l2q_ok, l3q_ok, pName_eq, List.set_cons_zero, List.set_cons_succ, v0, v1, v2, v3, v4, v5, v6, v7, v8, v9, v10, v11, v12, v13, v14, v15, v16, v17, v18, v19, dAdd_int, dSub_int, dSub_bl, dNeg_int, bInt_int, dOrd_int, dGe_int, dLe_int, dIs_non, dIsNot_non, true_bl, isNon_ref, isNon_tup, isNon_non, isNon_int, Bool.false_eq_true, if_true, if_false, ite_true, ite_false, not_true, not_false_iff, Bool.not_true, Bool.not_false, Bool.not_not, decide_true, decide_false, List.append_nil, List.nil_append, List.length_cons, List.length_nil, reduceIte, reduceCtorEq, Nat.zero_le, true_and, dEq_len0, decide_eq_true_eq]
  cases b with
  | nil =>
    rw [if_pos rfl]
    have h := hq []
    rw [List.append_nil] at h
    exact h
  | cons x r =>
    obtain ⟨p, m⟩ := x
    rw [if_neg (by simp)]
    simp only [List.length_cons] at hl
    refine sp_seq.mpr ?_
    rw [sp_asg]
    refine wp_eLc (sSeq_len ?_)
    simp only [sp_asg, sp_par, sp_par3, sp_if, sp_for, sp_ret, sp_retN, sp_next, sp_brk, sp_cont, sp_expr, wp_bin, wp_un, wp_c, wp_tOf, wp_tTr, wp_tAnd, wp_tOr, wp_tNot, wp_eAnd, wp_eOr, wp_eNot, wp_eIf, wp_aNil, wp_aCons, wp_eCall, wp_eFn, wp_eSl, wp_oNone, wp_oSome, wp_eMt, wp_eLst, wp_eTup, wp_ok, wp_tYes, oq_some, bq_bl, iq_int, uq_some, l2q_ok, l3q_ok, pName_eq, List.set_cons_zero, List.set_cons_succ, v0, v1, v2, v3, v4, v5, v6, v7, v8, v9, v10, v11, v12, v13, v14, v15, v16, v17, v18, v19, dAdd_int, dSub_int, dSub_bl, dNeg_int, bInt_int, dOrd_int, dGe_int, dLe_int, dIs_non, dIsNot_non, true_bl, isNon_ref, isNon_tup, isNon_non, isNon_int, Bool.false_eq_true, if_true, if_false, ite_true, ite_false, not_true, not_false_iff, Bool.not_true, Bool.not_false, Bool.not_not, decide_true, decide_false, List.append_nil, List.nil_append, List.length_cons, List.length_nil, reduceIte, reduceCtorEq]
    refine ⟨a, rfl, by rw [List.length_map, sizeLine_eq]; omega, ?_⟩
    refine lc_plain (l := a) (enc := pairD) (h := pairD) (f := fun x => decide (p < x.1)) trivial (fun x hx => ?_) ?_
    · refine ⟨rfl, ?_, fun _ => ⟨rfl, rfl⟩⟩
      show wp (tOf _ [some (lenD a), some (lenD ((p, m) :: r)), none, none, some (pairD x), none, none] S) _ _
      simp only [sp_asg, sp_par, sp_par3, sp_if, sp_for, sp_ret, sp_retN, sp_next, sp_brk, sp_cont, sp_expr, wp_bin, wp_un, wp_c, wp_tOf, wp_tTr, wp_tAnd, wp_tOr, wp_tNot, wp_eAnd, wp_eOr, wp_eNot, wp_eIf, wp_aNil, wp_aCons, wp_eCall, wp_eFn, wp_eSl, wp_oNone, wp_oSome, wp_eMt, wp_eLst, wp_eTup, wp_ok, wp_tYes, oq_some, bq_bl, iq_int, uq_some, l2q_ok, l3q_ok, pName_eq, List.set_cons_zero, List.set_cons_succ, v0, v1, v2, v3, v4, v5, v6, v7, v8, v9, v10, v11, v12, v13, v14, v15, v16, v17, v18, v19, dAdd_int, dSub_int, dSub_bl, dNeg_int, bInt_int, dOrd_int, dGe_int, dLe_int, dIs_non, dIsNot_non, true_bl, isNon_ref, isNon_tup, isNon_non, isNon_int, Bool.false_eq_true, if_true, if_false, ite_true, ite_false, not_true, not_false_iff, Bool.not_true, Bool.not_false, Bool.not_not, decide_true, decide_false, List.append_nil, List.nil_append, List.length_cons, List.length_nil, reduceIte, reduceCtorEq, ix_pair0, ix_len0, and_self]
    · refine sp_seq.mpr ?_
      rw [sp_asg]
      refine wp_eLc (sSeq_len ?_)
      simp only [sp_asg, sp_par, sp_par3, sp_if, sp_for, sp_ret, sp_retN, sp_next, sp_brk, sp_cont, sp_expr, wp_bin, wp_un, wp_c, wp_tOf, wp_tTr, wp_tAnd, wp_tOr, wp_tNot, wp_eAnd, wp_eOr, wp_eNot, wp_eIf, wp_aNil, wp_aCons, wp_eCall, wp_eFn, wp_eSl, wp_oNone, wp_oSome, wp_eMt, wp_eLst, wp_eTup, wp_ok, wp_tYes, oq_some, bq_bl, iq_int, uq_some, l2q_ok, l3q_ok, pName_eq, List.set_cons_zero, List.set_cons_succ, v0, v1, v2, v3, v4, v5, v6, v7, v8, v9, v10, v11, v12, v13, v14, v15, v16, v17, v18, v19, dAdd_int, dSub_int, dSub_bl, dNeg_int, bInt_int, dOrd_int, dGe_int, dLe_int, dIs_non, dIsNot_non, true_bl, isNon_ref, isNon_tup, isNon_non, isNon_int, Bool.false_eq_true, if_true, if_false, ite_true, ite_false, not_true, not_false_iff, Bool.not_true, Bool.not_false, Bool.not_not, decide_true, decide_false, List.append_nil, List.nil_append, List.length_cons, List.length_nil, reduceIte, reduceCtorEq]
      refine ⟨a, rfl, by rw [List.length_map, sizeLine_eq]; omega, ?_⟩
      refine lc_plain (l := a) (enc := pairD) (h := fun x => D.int x.2) (f := fun x => decide (x.1 = p)) trivial (fun x hx => ?_) ?_
      · refine ⟨rfl, ?_, fun _ => ⟨rfl, rfl⟩⟩
        show wp (tOf _ [some (lenD a), some (lenD ((p, m) :: r)), some (.ref S.length), none, none, some (.int x.1), some (.int x.2)] _) _ _
        simp only [sp_asg, sp_par, sp_par3, sp_if, sp_for, sp_ret, sp_retN, sp_next, sp_brk, sp_cont, sp_expr, wp_bin, wp_un, wp_c, wp_tOf, wp_tTr, wp_tAnd, wp_tOr, wp_tNot, wp_eAnd, wp_eOr, wp_eNot, wp_eIf, wp_aNil, wp_aCons, wp_eCall, wp_eFn, wp_eSl, wp_oNone, wp_oSome, wp_eMt, wp_eLst, wp_eTup, wp_ok, wp_tYes, oq_some, bq_bl, iq_int, uq_some, l2q_ok, l3q_ok, pName_eq, List.set_cons_zero, List.set_cons_succ, v0, v1, v2, v3, v4, v5, v6, v7, v8, v9, v10, v11, v12, v13, v14, v15, v16, v17, v18, v19, dAdd_int, dSub_int, dSub_bl, dNeg_int, bInt_int, dOrd_int, dGe_int, dLe_int, dIs_non, dIsNot_non, true_bl, isNon_ref, isNon_tup, isNon_non, isNon_int, Bool.false_eq_true, if_true, if_false, ite_true, ite_false, not_true, not_false_iff, Bool.not_true, Bool.not_false, Bool.not_not, decide_true, decide_false, List.append_nil, List.nil_append, List.length_cons, List.length_nil, reduceIte, reduceCtorEq, ix_pair0, ix_len0, dEq_int, and_self]
      · have e : ((a.filter fun x => decide (x.1 = p)).map fun x => D.int x.2) = ((eqs a p).map (·.2)).map D.int := by rw [List.map_map]; rfl
        rw [e, show (a.filter fun x => decide (p < x.1)) = hi a p from rfl]
        have h1 : (S ++ [O.lst ((hi a p).map pairD)] ++ [O.lst (((eqs a p).map (·.2)).map D.int)])[S.length]? = some (.lst ((hi a p).map pairD)) := at_ext at_last
        have hhi : (hi a p).length ≤ a.length := List.length_filter_le ..
        simp only [sp_asg, sp_par, sp_par3, sp_if, sp_for, sp_ret, sp_retN, sp_next, sp_brk, sp_cont, sp_expr, wp_bin, wp_un, wp_c, wp_tOf, wp_tTr, wp_tAnd, wp_tOr, wp_tNot, wp_eAnd, wp_eOr, wp_eNot, wp_eIf, wp_aNil, wp_aCons, wp_eCall, wp_eFn, wp_eSl, wp_oNone, wp_oSome, wp_eMt, wp_eLst, wp_eTup, wp_ok, wp_tYes, oq_some, bq_bl, iq_int, uq_some, l2q_ok, l3q_ok, pName_eq, List.set_cons_zero, List.set_cons_succ, v0, v1, v2, v3, v4, v5, v6, v7, v8, v9, v10, v11, v12, v13, v14, v15, v16, v17, v18, v19, dAdd_int, dSub_int, dSub_bl, dNeg_int, bInt_int, dOrd_int, dGe_int, dLe_int, dIs_non, dIsNot_non, true_bl, isNon_ref, isNon_tup, isNon_non, isNon_int, Bool.false_eq_true, if_true, if_false, ite_true, ite_false, not_true, not_false_iff, Bool.not_true, Bool.not_false, Bool.not_not, decide_true, decide_false, List.append_nil, List.nil_append, List.length_cons, List.length_nil, reduceIte, reduceCtorEq, bTuple_lst h1, ix_len0, ix_pair0, ix_pair1, bSum_lst at_last, sl_len1]
        refine ⟨two_le, one_le, ?_⟩
        rw [show D.tup [D.tup [D.int p, D.int (m + ((eqs a p).map (·.2)).sum)]] = lenD [(p, m + coef a p)] from rfl, addT (by simp; omega)]
        simp only [oq_some]
        rw [addT (by simp; omega)]
        simp only [oq_some]
        have := hq ([O.lst ((hi a p).map pairD)] ++ [O.lst (((eqs a p).map (·.2)).map D.int)])
        rw [then_cons] at this
        simpa using this
theorem bInt_bl {k : Bool} : bInt [.bl k] S = some (.int (if k then 1 else 0), S) := rfl
def duoP (x : (Int × Int) × (Int × Int)) : D := .tup [pairD x.1, pairD x.2]
theorem zip_len : ∀ (a b : L), zipD (a.map pairD) (b.map pairD) = (a.zip b).map duoP
  | [], _ => rfl
  | _ :: _, [] => rfl
  | x :: a, y :: b => by
    have := zip_len a b
    unfold zipD at this ⊢
    rw [List.map_cons, List.map_cons, List.zipWith_cons_cons, this]
    rfl
theorem order_wp (hq : Q (.int (ordL a b)) S) : wp (sem__law_order [lenD a, lenD b] S) Q X := by
  unfold sem__law_order
  rw [wp_sem]
  unfold g__law_order
  show sp (gSeq _ _ [some (lenD a), some (lenD b), none, none, none] S) _
  refine sp_seq.mpr ?_
  rw [sp_for]
  refine wp_sZipT ?_
  simp only [sp_asg, sp_par, sp_par3, sp_if, sp_for, sp_ret, sp_retN, sp_next, sp_brk, sp_cont, sp_expr, wp_bin, wp_un, wp_c, wp_tOf, wp_tTr, wp_tAnd, wp_tOr, wp_tNot, wp_eAnd, wp_eOr, wp_eNot, wp_eIf, wp_aNil, wp_aCons, wp_eCall, wp_eFn, wp_eSl, wp_oNone, wp_oSome, wp_eMt, wp_eLst, wp_eTup, wp_ok, wp_tYes, oq_some, bq_bl, iq_int, uq_some, l2q_ok, l3q_ok, pName_eq, List.set_cons_zero, List.set_cons_succ, v0, v1, v2, v3, v4, v5, v6, v7, v8, v9, v10, v11, v12, v13, v14, v15, v16, v17, v18, v19, dAdd_int, dSub_int, dSub_bl, dNeg_int, bInt_int, dOrd_int, dGe_int, dLe_int, dIs_non, dIsNot_non, true_bl, isNon_ref, isNon_tup, isNon_non, isNon_int, Bool.false_eq_true, if_true, if_false, ite_true, ite_false, not_true, not_false_iff, Bool.not_true, Bool.not_false, Bool.not_not, decide_true, decide_false, List.append_nil, List.nil_append, List.length_cons, List.length_nil, reduceIte, reduceCtorEq]
  refine ⟨_, _, rfl, ?_⟩
  rw [zip_len]
  refine for_over (fun r ρ S' => S' = S ∧ ∃ pre u v o2 o3, r = u.zip v ∧ a = pre ++ u ∧ b = pre ++ v ∧ ρ = [some (lenD a), some (lenD b), o2, o3, none]) (fun y r ρ S' h => ⟨trivial, ?_⟩) (fun ρ S' h => ⟨trivial, ?_⟩) ⟨rfl, [], a, b, none, none, rfl, rfl, rfl, rfl⟩
  · obtain ⟨rfl, pre, u, v, o2, o3, h1, rfl, rfl, rfl⟩ := h
    cases u with
    | nil => cases h1
    | cons x u =>
      cases v with
      | nil => cases h1
      | cons z v =>
        rw [List.zip_cons_cons] at h1
        cases h1
        rw [ord_pre, ordL] at hq
        show sp (gIf _ _ _ [some (lenD (pre ++ x :: u)), some (lenD (pre ++ z :: v)), some (pairD x), some (pairD z), none] S') _
        simp only [sp_asg, sp_par, sp_par3, sp_if, sp_for, sp_ret, sp_retN, sp_next, sp_brk, sp_cont, sp_expr, wp_bin, wp_un, wp_c, wp_tOf, wp_tTr, wp_tAnd, wp_tOr, wp_tNot, wp_eAnd, wp_eOr, wp_eNot, wp_eIf, wp_aNil, wp_aCons, wp_eCall, wp_eFn, wp_eSl, wp_oNone, wp_oSome, wp_eMt, wp_eLst, wp_eTup, wp_ok, wp_tYes, oq_some, bq_bl, iq_int, uq_some, l2q_ok, l3q_ok, pName_eq, List.set_cons_zero, List.set_cons_succ, v0, v1, v2, v3, v4, v5, v6, v7, v8, v9, v10, v11, v12, v13, v14, v15, v16, v17, v18, v19, dAdd_int, dSub_int, dSub_bl, dNeg_int, bInt_int, dOrd_int, dGe_int, dLe_int, dIs_non, dIsNot_non, true_bl, isNon_ref, isNon_tup, isNon_non, isNon_int, Bool.false_eq_true, if_true, if_false, ite_true, ite_false, not_true, not_false_iff, Bool.not_true, Bool.not_false, Bool.not_not, decide_true, decide_false, List.append_nil, List.nil_append, List.length_cons, List.length_nil, reduceIte, reduceCtorEq, dNe_pair, Bool.not_eq_true', decide_eq_false_iff_not]
        by_cases e : x = z
        · rw [if_neg (fun h => h e)]
          subst e
          exact ⟨trivial, pre ++ [x], u, v, _, _, rfl, by simp, by simp, rfl⟩
        · rw [if_pos e]
          rw [if_neg e] at hq
          refine sp_seq.mpr ?_
          simp only [sp_asg, sp_par, sp_par3, sp_if, sp_for, sp_ret, sp_retN, sp_next, sp_brk, sp_cont, sp_expr, wp_bin, wp_un, wp_c, wp_tOf, wp_tTr, wp_tAnd, wp_tOr, wp_tNot, wp_eAnd, wp_eOr, wp_eNot, wp_eIf, wp_aNil, wp_aCons, wp_eCall, wp_eFn, wp_eSl, wp_oNone, wp_oSome, wp_eMt, wp_eLst, wp_eTup, wp_ok, wp_tYes, oq_some, bq_bl, iq_int, uq_some, l2q_ok, l3q_ok, pName_eq, List.set_cons_zero, List.set_cons_succ, v0, v1, v2, v3, v4, v5, v6, v7, v8, v9, v10, v11, v12, v13, v14, v15, v16, v17, v18, v19, dAdd_int, dSub_int, dSub_bl, dNeg_int, bInt_int, dOrd_int, dGe_int, dLe_int, dIs_non, dIsNot_non, true_bl, isNon_ref, isNon_tup, isNon_non, isNon_int, Bool.false_eq_true, if_true, if_false, ite_true, ite_false, not_true, not_false_iff, Bool.not_true, Bool.not_false, Bool.not_not, decide_true, decide_false, List.append_nil, List.nil_append, List.length_cons, List.length_nil, reduceIte, reduceCtorEq, ix_pair0, ix_pair1, dEq_int, decide_eq_true_eq]
          by_cases c1 : z.1 < x.1
          · simp only [c1, if_true, decide_true, true_or] at hq ⊢
            exact hq
          · by_cases c2 : x.1 = z.1
            · by_cases c3 : z.2 < x.2
              · simpa [c1, c2, c3] using hq
              · simpa [c1, c2, c3] using hq
            · simpa [c1, c2] using hq
  · obtain ⟨rfl, pre, u, v, o2, o3, h1, rfl, rfl, rfl⟩ := h
    simp only [sp_asg, sp_par, sp_par3, sp_if, sp_for, sp_ret, sp_retN, sp_next, sp_brk, sp_cont, sp_expr, wp_bin, wp_un, wp_c, wp_tOf, wp_tTr, wp_tAnd, wp_tOr, wp_tNot, wp_eAnd, wp_eOr, wp_eNot, wp_eIf, wp_aNil, wp_aCons, wp_eCall, wp_eFn, wp_eSl, wp_oNone, wp_oSome, wp_eMt, wp_eLst, wp_eTup, wp_ok, wp_tYes, oq_some, bq_bl, iq_int, uq_some, l2q_ok, l3q_ok, pName_eq, List.set_cons_zero, List.set_cons_succ, v0, v1, v2, v3, v4, v5, v6, v7, v8, v9, v10, v11, v12, v13, v14, v15, v16, v17, v18, v19, dAdd_int, dSub_int, dSub_bl, dNeg_int, bInt_int, dOrd_int, dGe_int, dLe_int, dIs_non, dIsNot_non, true_bl, isNon_ref, isNon_tup, isNon_non, isNon_int, Bool.false_eq_true, if_true, if_false, ite_true, ite_false, not_true, not_false_iff, Bool.not_true, Bool.not_false, Bool.not_not, decide_true, decide_false, List.append_nil, List.nil_append, List.length_cons, List.length_nil, reduceIte, reduceCtorEq, bLen_len, bInt_bl]
    rw [ord_pre] at hq
    cases u with
    | nil =>
      cases v with
      | nil => simpa [ordL] using hq
      | cons z v =>
        simp [ordL] at hq ⊢
        rw [if_neg (by omega), if_pos (by omega)]
        exact hq
    | cons x u =>
      cases v with
      | nil =>
        simp [ordL] at hq ⊢
        rw [if_pos (by omega), if_neg (by omega)]
        exact hq
      | cons z v => cases h1
end
end K08
set_option Elab.async false
set_option linter.all false
set_option maxRecDepth 100000
set_option maxHeartbeats 4000000
namespace K08
open MP ML
open PySem (sizeLine sizeLine_eq)
open PyProof.Rows (b2i)
section
variable {S : Store} {a b l : L} {X : Exc → Store → Prop} {Q : D → Store → Prop} {r c : Nat}
theorem pick_eq : sem__law_pick = semPick := rfl
theorem of_eq : sem__law_of = semOf1 := rfl
theorem source_eq : sem__law_source = semSource := rfl
theorem Sc_lt (h : Sc r c S) : r < S.length ∧ c < S.length := by
  obtain ⟨_, _, _, _, h1, h2, h3⟩ := h
  exact ⟨(List.getElem?_eq_some_iff.mp h2).1, (List.getElem?_eq_some_iff.mp h3).1⟩
theorem Sc_set {q : Nat} {o : O} (h : Sc r c S) (h1 : q ≠ r) (h2 : q ≠ c) : Sc r c (S.set q o) := by
  obtain ⟨x, y, z, w, h3, h4, h5⟩ := h
  exact ⟨x, y, z, w, h3, by rw [List.getElem?_set_ne h1]; exact h4, by rw [List.getElem?_set_ne h2]; exact h5⟩
theorem Kp_set {S' : Store} {q : Nat} {o : O} (h : Kp r c S S') (h1 : S.length ≤ q) : Kp r c S (S'.set q o) :=
  ⟨by simpa using h.1, fun i o' e n1 n2 => by
    have hi := (List.getElem?_eq_some_iff.mp e).1
    rw [List.getElem?_set_ne (by omega)]
    exact h.2 i o' e n1 n2⟩
theorem Kp_add {S' t : Store} (h : Kp r c S S') : Kp r c S (S' ++ t) := h.trans .ext
theorem pick2 {n : Int} (hn : n.natAbs.log2 < 9000) (hn1 : 1 < n) (h : Sc r c S) (hq : ∀ (k : Int) (S' : Store), 0 ≤ k → k < n → Sc r c S' → Kp r c S S' → Q (.int k) S') : wp (sem__law_pick [.ref r, .int n] S) Q X := by
  rw [pick_eq]
  refine pick_ok hn h fun k S' h1 h2 h3 h4 => hq k S' h1 ?_ h3 h4
  split at h2 <;> omega
theorem of_lst {ds : List D} {q : Nat} (hs : Sc r c S) (h : S[q]? = some (.lst ds)) (h0 : ds ≠ []) (hl : ds.length < 2 ^ 62) (h1 : q ≠ r) (h2 : q ≠ c) (hq : ∀ x S', x ∈ ds → Sc r c S' → Kp r c S S' → Q x S') : wp (sem__law_of [.ref r, .ref q] S) Q X := by
  rw [of_eq]
  exact of_ok hs (seqOf_lst h) h0 hl (fun e => h1 (by cases e; rfl)) (fun e => h2 (by cases e; rfl)) hq
theorem mul_str {a : PySem.Str} {k : Int} (h : 0 ≤ k) (h2 : k ≤ 1000) (h3 : a.length ≤ 100) : dMul (.str a) (.int k) S = some (.str (PySem.Txt.mul a k), S) := by
  refine if_pos ⟨by omega, by omega, ?_⟩
  rw [sizeLine_eq]
  have : a.length * k.toNat ≤ 100 * 1000 := Nat.mul_le_mul h3 (by omega)
  omega
theorem add_str {a b : PySem.Str} (h : a.length + b.length ≤ sizeLine) : dAdd (.str a) (.str b) S = some (.str (a ++ b), S) := if_pos h
theorem int_str {a : PySem.Str} {n : Int} (h : a.length ≤ 640) (h2 : PySem.intText? a = some n) : bInt [.str a] S = some (.int n, S) := by
  unfold bInt
  simp only [h, if_true, h2]
theorem pow_int {i j : Int} (h : 0 ≤ j) (h1 : j ≤ 1000) (h2 : i.natAbs < 2 ^ 64) : dPow (.int i) (.int j) S = some (.int (i ^ j.toNat), S) := if_pos ⟨h, by omega, h2⟩
theorem len_add (a b : PySem.Str) : (a ++ b).length = a.length + b.length := PySem.strLen_append a b
theorem behind_self (a : L) : behindL a a = [] := by
  have := behind_pre a [] []
  simpa [behindL] using this
theorem lbehind_wp {w b : L} (hl : w.length ≤ 1000000) (hq : Q (behD w b) S) : wp (sem__law_behind [lenD w, lenD b] S) Q X := by
  unfold sem__law_behind
  rw [wp_sem]
  unfold g__law_behind
  show sp (gSeq _ _ [some (lenD w), some (lenD b), none, none, none, none] S) _
  refine sp_seq.mpr ?_
  simp only [sp_asg, sp_par, sp_par3, sp_if, sp_for, sp_ret, sp_retN, sp_next, sp_brk, sp_cont, sp_expr, wp_bin, wp_un, wp_c, wp_tOf, wp_tTr, wp_tAnd, wp_tOr, wp_tNot, wp_eAnd, wp_eOr, wp_eNot, wp_eIf, wp_aNil, wp_aCons, wp_eCall, wp_eFn, wp_eSl, wp_oNone, wp_oSome, wp_eMt, wp_eLst, wp_eTup, wp_ok, wp_tYes, oq_some, bq_bl, iq_int, uq_some, l2q_ok, l3q_ok, pName_eq, List.set_cons_zero, List.set_cons_succ, v0, v1, v2, v3, v4, v5, v6, v7, v8, v9, v10, v11, v12, v13, v14, v15, v16, v17, v18, v19, dAdd_int, dSub_int, dSub_bl, dNeg_int, bInt_int, dOrd_int, dGe_int, dLe_int, dIs_non, dIsNot_non, true_bl, isNon_ref, isNon_tup, isNon_non, isNon_int, Bool.false_eq_true, if_true, if_false, ite_true, ite_false, not_true, not_false_iff, Bool.not_true, Bool.not_false, Bool.not_not, decide_true, decide_false, List.append_nil, List.nil_append, List.length_cons, List.length_nil, reduceIte, reduceCtorEq]
  refine order_wp ?_
  simp only [sp_asg, sp_par, sp_par3, sp_if, sp_for, sp_ret, sp_retN, sp_next, sp_brk, sp_cont, sp_expr, wp_bin, wp_un, wp_c, wp_tOf, wp_tTr, wp_tAnd, wp_tOr, wp_tNot, wp_eAnd, wp_eOr, wp_eNot, wp_eIf, wp_aNil, wp_aCons, wp_eCall, wp_eFn, wp_eSl, wp_oNone, wp_oSome, wp_eMt, wp_eLst, wp_eTup, wp_ok, wp_tYes, oq_some, bq_bl, iq_int, uq_some, l2q_ok, l3q_ok, pName_eq, List.set_cons_zero, List.set_cons_succ, v0, v1, v2, v3, v4, v5, v6, v7, v8, v9, v10, v11, v12, v13, v14, v15, v16, v17, v18, v19, dAdd_int, dSub_int, dSub_bl, dNeg_int, bInt_int, dOrd_int, dGe_int, dLe_int, dIs_non, dIsNot_non, true_bl, isNon_ref, isNon_tup, isNon_non, isNon_int, Bool.false_eq_true, if_true, if_false, ite_true, ite_false, not_true, not_false_iff, Bool.not_true, Bool.not_false, Bool.not_not, decide_true, decide_false, List.append_nil, List.nil_append, List.length_cons, List.length_nil, reduceIte, reduceCtorEq, decide_eq_true_eq]
  unfold behD at hq
  by_cases hb : ordL w b = -1
  · rw [if_pos hb] at hq
    rw [if_pos (by omega)]
    exact hq
  · rw [if_neg hb] at hq
    have h3 := ord_three w b
    rw [if_neg (by omega)]
    refine sp_seq.mpr ?_
    simp only [sp_asg, sp_par, sp_par3, sp_if, sp_for, sp_ret, sp_retN, sp_next, sp_brk, sp_cont, sp_expr, wp_bin, wp_un, wp_c, wp_tOf, wp_tTr, wp_tAnd, wp_tOr, wp_tNot, wp_eAnd, wp_eOr, wp_eNot, wp_eIf, wp_aNil, wp_aCons, wp_eCall, wp_eFn, wp_eSl, wp_oNone, wp_oSome, wp_eMt, wp_eLst, wp_eTup, wp_ok, wp_tYes, oq_some, bq_bl, iq_int, uq_some, l2q_ok, l3q_ok, pName_eq, List.set_cons_zero, List.set_cons_succ, v0, v1, v2, v3, v4, v5, v6, v7, v8, v9, v10, v11, v12, v13, v14, v15, v16, v17, v18, v19, dAdd_int, dSub_int, dSub_bl, dNeg_int, bInt_int, dOrd_int, dGe_int, dLe_int, dIs_non, dIsNot_non, true_bl, isNon_ref, isNon_tup, isNon_non, isNon_int, Bool.false_eq_true, if_true, if_false, ite_true, ite_false, not_true, not_false_iff, Bool.not_true, Bool.not_false, Bool.not_not, decide_true, decide_false, List.append_nil, List.nil_append, List.length_cons, List.length_nil, reduceIte, reduceCtorEq, dEq_len, decide_eq_true_eq]
    by_cases hwb : w = b
    · subst hwb
      rw [if_pos rfl]
      rw [behind_self] at hq
      exact ⟨Nat.zero_le _, hq⟩
    · rw [if_neg hwb]
      refine sp_seq.mpr ?_
      rw [sp_for]
      refine wp_sEnum ?_
      simp only [sp_asg, sp_par, sp_par3, sp_if, sp_for, sp_ret, sp_retN, sp_next, sp_brk, sp_cont, sp_expr, wp_bin, wp_un, wp_c, wp_tOf, wp_tTr, wp_tAnd, wp_tOr, wp_tNot, wp_eAnd, wp_eOr, wp_eNot, wp_eIf, wp_aNil, wp_aCons, wp_eCall, wp_eFn, wp_eSl, wp_oNone, wp_oSome, wp_eMt, wp_eLst, wp_eTup, wp_ok, wp_tYes, oq_some, bq_bl, iq_int, uq_some, l2q_ok, l3q_ok, pName_eq, List.set_cons_zero, List.set_cons_succ, v0, v1, v2, v3, v4, v5, v6, v7, v8, v9, v10, v11, v12, v13, v14, v15, v16, v17, v18, v19, dAdd_int, dSub_int, dSub_bl, dNeg_int, bInt_int, dOrd_int, dGe_int, dLe_int, dIs_non, dIsNot_non, true_bl, isNon_ref, isNon_tup, isNon_non, isNon_int, Bool.false_eq_true, if_true, if_false, ite_true, ite_false, not_true, not_false_iff, Bool.not_true, Bool.not_false, Bool.not_not, decide_true, decide_false, List.append_nil, List.nil_append, List.length_cons, List.length_nil, reduceIte, reduceCtorEq]
      refine .inl ⟨w.map pairD, rfl, ?_⟩
      rw [enum_len]
      refine for_over (fun r ρ S' => S' = S ∧ ∃ pre wr br o2 o3 o4, r = wr.zipIdx pre.length ∧ w = pre ++ wr ∧ b = pre ++ br ∧ ρ = [some (lenD w), some (lenD b), o2, o3, o4, none]) (fun y r ρ S' h => ⟨trivial, ?_⟩) (fun ρ S' h => ⟨trivial, ?_⟩) ⟨rfl, [], w, b, none, none, none, rfl, rfl, rfl, rfl⟩
      · obtain ⟨rfl, pre, wr, br, o2, o3, o4, h1, rfl, rfl, rfl⟩ := h
        cases wr with
        | nil => cases h1
        | cons z wr =>
          rw [List.zipIdx_cons] at h1
          cases h1
          rw [behind_pre] at hq
          obtain ⟨p, m⟩ := z
          have e3 : ((pre.length : Nat) : Int) + 1 = ((pre.length + 1 : Nat) : Int) := by simp
          have e4 : (pre ++ (p, m) :: wr).drop (pre.length + 1) = wr := by rw [List.drop_append, List.drop_eq_nil_of_le (by omega)]; simp
          have e5 : pre.length + 1 ≤ (pre ++ (p, m) :: wr).length := by simp
          have hl' : 1 + wr.length ≤ 1000000 := by simp at hl; omega
          show sp (gIf _ _ _ [some (lenD (pre ++ (p, m) :: wr)), some (lenD (pre ++ br)), some (.int (pre.length : Nat)), some (.int p), some (.int m), none] S') _
          have fin : ∀ (n : Int), behindL ((p, m) :: wr) br = (p, m - n) :: wr → (0 + 1 + 1 ≤ sizeLine ∧ 0 + 1 ≤ sizeLine ∧ oq (dSl (lenD (pre ++ (p, m) :: wr)) (some (((pre.length : Nat) : Int) + 1)) none S') fun y S2 => oq (dAdd (D.tup [D.tup [D.int p, D.int (m - n)]]) y S2) Q) := fun n hn => by
            simp only [e3, sl_len e5, e4, oq_some]
            refine ⟨two_le, one_le, ?_⟩
            rw [show D.tup [D.tup [D.int p, D.int (m - n)]] = lenD [(p, m - n)] from rfl, addT (by simpa using hl')]
            rw [hn] at hq
            exact hq
          cases br with
          | nil =>
            have e0 : (pre ++ ([] : L)).length = pre.length := by simp
            simp only [sp_asg, sp_par, sp_par3, sp_if, sp_for, sp_ret, sp_retN, sp_next, sp_brk, sp_cont, sp_expr, wp_bin, wp_un, wp_c, wp_tOf, wp_tTr, wp_tAnd, wp_tOr, wp_tNot, wp_eAnd, wp_eOr, wp_eNot, wp_eIf, wp_aNil, wp_aCons, wp_eCall, wp_eFn, wp_eSl, wp_oNone, wp_oSome, wp_eMt, wp_eLst, wp_eTup, wp_ok, wp_tYes, oq_some, bq_bl, iq_int, uq_some, l2q_ok, l3q_ok, pName_eq, List.set_cons_zero, List.set_cons_succ, v0, v1, v2, v3, v4, v5, v6, v7, v8, v9, v10, v11, v12, v13, v14, v15, v16, v17, v18, v19, dAdd_int, dSub_int, dSub_bl, dNeg_int, bInt_int, dOrd_int, dGe_int, dLe_int, dIs_non, dIsNot_non, true_bl, isNon_ref, isNon_tup, isNon_non, isNon_int, Bool.false_eq_true, if_true, if_false, ite_true, ite_false, not_true, not_false_iff, Bool.not_true, Bool.not_false, Bool.not_not, decide_true, decide_false, List.append_nil, List.nil_append, List.length_cons, List.length_nil, reduceIte, reduceCtorEq, bLen_len, e0, Int.le_refl]
            refine sp_seq.mpr ?_
            simp only [sp_asg, sp_par, sp_par3, sp_if, sp_for, sp_ret, sp_retN, sp_next, sp_brk, sp_cont, sp_expr, wp_bin, wp_un, wp_c, wp_tOf, wp_tTr, wp_tAnd, wp_tOr, wp_tNot, wp_eAnd, wp_eOr, wp_eNot, wp_eIf, wp_aNil, wp_aCons, wp_eCall, wp_eFn, wp_eSl, wp_oNone, wp_oSome, wp_eMt, wp_eLst, wp_eTup, wp_ok, wp_tYes, oq_some, bq_bl, iq_int, uq_some, l2q_ok, l3q_ok, pName_eq, List.set_cons_zero, List.set_cons_succ, v0, v1, v2, v3, v4, v5, v6, v7, v8, v9, v10, v11, v12, v13, v14, v15, v16, v17, v18, v19, dAdd_int, dSub_int, dSub_bl, dNeg_int, bInt_int, dOrd_int, dGe_int, dLe_int, dIs_non, dIsNot_non, true_bl, isNon_ref, isNon_tup, isNon_non, isNon_int, Bool.false_eq_true, if_true, if_false, ite_true, ite_false, not_true, not_false_iff, Bool.not_true, Bool.not_false, Bool.not_not, decide_true, decide_false, List.append_nil, List.nil_append, List.length_cons, List.length_nil, reduceIte, reduceCtorEq, bLen_len, e0, Int.lt_irrefl]
            exact fin 0 (by simp [behindL])
          | cons y br =>
            have hz : (pre ++ y :: br)[pre.length]? = some y := by simp
            have e6 : ¬ (((pre ++ y :: br).length : Nat) : Int) ≤ (pre.length : Nat) := by simp; omega
            have e7 : ((pre.length : Nat) : Int) < ((pre ++ y :: br).length : Nat) := by simp; omega
            simp only [sp_asg, sp_par, sp_par3, sp_if, sp_for, sp_ret, sp_retN, sp_next, sp_brk, sp_cont, sp_expr, wp_bin, wp_un, wp_c, wp_tOf, wp_tTr, wp_tAnd, wp_tOr, wp_tNot, wp_eAnd, wp_eOr, wp_eNot, wp_eIf, wp_aNil, wp_aCons, wp_eCall, wp_eFn, wp_eSl, wp_oNone, wp_oSome, wp_eMt, wp_eLst, wp_eTup, wp_ok, wp_tYes, oq_some, bq_bl, iq_int, uq_some, l2q_ok, l3q_ok, pName_eq, List.set_cons_zero, List.set_cons_succ, v0, v1, v2, v3, v4, v5, v6, v7, v8, v9, v10, v11, v12, v13, v14, v15, v16, v17, v18, v19, dAdd_int, dSub_int, dSub_bl, dNeg_int, bInt_int, dOrd_int, dGe_int, dLe_int, dIs_non, dIsNot_non, true_bl, isNon_ref, isNon_tup, isNon_non, isNon_int, Bool.false_eq_true, if_true, if_false, ite_true, ite_false, not_true, not_false_iff, Bool.not_true, Bool.not_false, Bool.not_not, decide_true, decide_false, List.append_nil, List.nil_append, List.length_cons, List.length_nil, reduceIte, reduceCtorEq, bLen_len, e6, ix_lenN hz]
            refine ⟨two_le, ?_⟩
            rw [show D.tup [D.int p, D.int m] = pairD (p, m) from rfl, dNe_pair]
            simp only [sp_asg, sp_par, sp_par3, sp_if, sp_for, sp_ret, sp_retN, sp_next, sp_brk, sp_cont, sp_expr, wp_bin, wp_un, wp_c, wp_tOf, wp_tTr, wp_tAnd, wp_tOr, wp_tNot, wp_eAnd, wp_eOr, wp_eNot, wp_eIf, wp_aNil, wp_aCons, wp_eCall, wp_eFn, wp_eSl, wp_oNone, wp_oSome, wp_eMt, wp_eLst, wp_eTup, wp_ok, wp_tYes, oq_some, bq_bl, iq_int, uq_some, l2q_ok, l3q_ok, pName_eq, List.set_cons_zero, List.set_cons_succ, v0, v1, v2, v3, v4, v5, v6, v7, v8, v9, v10, v11, v12, v13, v14, v15, v16, v17, v18, v19, dAdd_int, dSub_int, dSub_bl, dNeg_int, bInt_int, dOrd_int, dGe_int, dLe_int, dIs_non, dIsNot_non, true_bl, isNon_ref, isNon_tup, isNon_non, isNon_int, Bool.false_eq_true, if_true, if_false, ite_true, ite_false, not_true, not_false_iff, Bool.not_true, Bool.not_false, Bool.not_not, decide_true, decide_false, List.append_nil, List.nil_append, List.length_cons, List.length_nil, reduceIte, reduceCtorEq, Bool.not_eq_true', decide_eq_false_iff_not]
            by_cases e : y = (p, m)
            · rw [if_neg (fun h => h e)]
              subst e
              exact ⟨trivial, pre ++ [(p, m)], wr, br, _, _, _, by simp, by simp, by simp, rfl⟩
            · rw [if_pos e]
              have e8 : ¬ (p, m) = y := fun h => e h.symm
              refine sp_seq.mpr ?_
              simp only [sp_asg, sp_par, sp_par3, sp_if, sp_for, sp_ret, sp_retN, sp_next, sp_brk, sp_cont, sp_expr, wp_bin, wp_un, wp_c, wp_tOf, wp_tTr, wp_tAnd, wp_tOr, wp_tNot, wp_eAnd, wp_eOr, wp_eNot, wp_eIf, wp_aNil, wp_aCons, wp_eCall, wp_eFn, wp_eSl, wp_oNone, wp_oSome, wp_eMt, wp_eLst, wp_eTup, wp_ok, wp_tYes, oq_some, bq_bl, iq_int, uq_some, l2q_ok, l3q_ok, pName_eq, List.set_cons_zero, List.set_cons_succ, v0, v1, v2, v3, v4, v5, v6, v7, v8, v9, v10, v11, v12, v13, v14, v15, v16, v17, v18, v19, dAdd_int, dSub_int, dSub_bl, dNeg_int, bInt_int, dOrd_int, dGe_int, dLe_int, dIs_non, dIsNot_non, true_bl, isNon_ref, isNon_tup, isNon_non, isNon_int, Bool.false_eq_true, if_true, if_false, ite_true, ite_false, not_true, not_false_iff, Bool.not_true, Bool.not_false, Bool.not_not, decide_true, decide_false, List.append_nil, List.nil_append, List.length_cons, List.length_nil, reduceIte, reduceCtorEq, bLen_len, e7, ix_lenN hz, ix_pair0, ix_pair1, dEq_int, decide_eq_true_eq]
              by_cases e9 : y.1 = p
              · rw [if_pos e9]
                exact fin y.2 (by rw [behindL, if_neg e8]; simp [e9])
              · rw [if_neg e9]
                exact fin 0 (by rw [behindL, if_neg e8]; simp [show ¬ p = y.1 from fun h => e9 h.symm])
      · obtain ⟨rfl, pre, wr, br, o2, o3, o4, h1, rfl, rfl, rfl⟩ := h
        exfalso
        have hr : wr = [] := by
          cases wr with
          | nil => rfl
          | cons x rest => rw [List.zipIdx_cons] at h1; cases h1
        subst hr
        cases br with
        | nil => exact hwb rfl
        | cons y br =>
          rw [ord_pre] at hb
          exact hb rfl
end
end K08
set_option Elab.async false
set_option linter.all false
set_option maxRecDepth 100000
set_option maxHeartbeats 4000000
namespace K08
open MP ML
open PySem (sizeLine sizeLine_eq)
open PyProof.Rows (b2i)
section
variable {S : Store} {a b l : L} {X : Exc → Store → Prop} {Q : D → Store → Prop} {r c : Nat}
structure Small (l : L) : Prop where
  ok : Ok l
  len : l.length ≤ 6
  sm : ∀ x ∈ l, x.1 < 10 ^ 300 ∧ x.2 < 10 ^ 300
structure Fit (l : L) : Prop where
  ok : Ok l
  len : l.length ≤ 8
  sm : ∀ x ∈ l, x.1 ≤ 10 ^ 300 ∧ x.2 ≤ 2 * 10 ^ 300
theorem Small.fit (h : Small l) : Fit l := ⟨h.ok, by have := h.len; omega, fun x hx => by have := h.sm x hx; omega⟩
theorem _root_.ML.Ok.sub {l' : L} (h : Ok l) (s : l'.Sublist l) : Ok l' := ⟨h.desc.sublist s, fun x hx => h.pos x (s.subset hx)⟩
theorem Fit.sub {l' : L} (h : Fit l) (s : l'.Sublist l) : Fit l' := ⟨h.ok.sub s, Nat.le_trans s.length_le h.len, fun x hx => h.sm x (s.subset hx)⟩
theorem ok_mid {u v : L} {p m m' : Int} (h : Ok (u ++ (p, m) :: v)) (hm : 0 < m') : Ok (u ++ (p, m') :: v) := by
  refine ⟨?_, fun x hx => ?_⟩
  · have := h.desc
    unfold Desc at this ⊢
    rw [List.pairwise_append, List.pairwise_cons] at this ⊢
    refine ⟨this.1, this.2.1, fun x hx y hy => ?_⟩
    rcases List.mem_cons.mp hy with rfl | hy
    · exact this.2.2 x hx (p, m) (List.mem_cons_self ..)
    · exact this.2.2 x hx y (List.mem_cons_of_mem _ hy)
  · rcases List.mem_append.mp hx with hx | hx
    · exact h.pos x (List.mem_append_left _ hx)
    · rcases List.mem_cons.mp hx with rfl | hx
      · exact ⟨(h.pos (p, m) (by simp)).1, hm⟩
      · exact h.pos x (by simp [hx])
theorem ok_end {u v : L} {p m : Int} (h : Ok (u ++ (p, m) :: v)) (hp : 0 < p) : Ok (u ++ [(p, m)] ++ [(p - 1, 1)]) := by
  have h1 : Ok (u ++ [(p, m)]) := h.sub (List.Sublist.append_left (by simp) _)
  refine ⟨?_, fun x hx => ?_⟩
  · have := h1.desc
    unfold Desc at this ⊢
    rw [List.pairwise_append]
    refine ⟨this, by simp, fun x hx y hy => ?_⟩
    rw [List.mem_singleton.mp hy]
    rcases List.mem_append.mp hx with hx | hx
    · have := (List.pairwise_append.mp this).2.2 x hx (p, m) (by simp)
      show p - 1 < x.1
      have e : p < x.1 := this
      omega
    · rw [List.mem_singleton.mp hx]; show p - 1 < p; omega
  · rcases List.mem_append.mp hx with hx | hx
    · exact h1.pos x hx
    · rw [List.mem_singleton.mp hx]; exact ⟨by show 0 ≤ p - 1; omega, by show (0 : Int) < 1; decide⟩
theorem split_at : ∀ {l : L} {k : Nat}, k < l.length → ∃ u p m v, l = u ++ (p, m) :: v ∧ u.length = k
  | [], _, h => by simp at h
  | (p, m) :: l, 0, _ => ⟨[], p, m, l, rfl, rfl⟩
  | x :: l, k + 1, h => by
    obtain ⟨u, p, m, v, e, hk⟩ := split_at (l := l) (k := k) (by simpa using h)
    exact ⟨x :: u, p, m, v, by rw [e]; rfl, by simp [hk]⟩
theorem near_wp {far : Int} (hs : Sc r c S) (h : Small l) (f0 : 1 ≤ far) (f1 : far < 10 ^ 300) (hq : ∀ l' S', Fit l' → Sc r c S' → Kp r c S S' → Q (lenD l') S') : wp (sem__law_near [.ref r, lenD l, .int far] S) Q X := by
  unfold sem__law_near
  rw [wp_sem]
  unfold g__law_near
  show sp (gSeq _ _ [some (.ref r), some (lenD l), some (.int far), none, none, none, none] S) _
  refine sp_seq.mpr ?_
  simp only [sp_asg, sp_par, sp_par3, sp_if, sp_for, sp_ret, sp_retN, sp_next, sp_brk, sp_cont, sp_expr, wp_bin, wp_un, wp_c, wp_tOf, wp_tTr, wp_tAnd, wp_tOr, wp_tNot, wp_eAnd, wp_eOr, wp_eNot, wp_eIf, wp_aNil, wp_aCons, wp_eCall, wp_eFn, wp_eSl, wp_oNone, wp_oSome, wp_eMt, wp_eLst, wp_eTup, wp_ok, wp_tYes, oq_some, bq_bl, iq_int, uq_some, l2q_ok, l3q_ok, pName_eq, List.set_cons_zero, List.set_cons_succ, v0, v1, v2, v3, v4, v5, v6, v7, v8, v9, v10, v11, v12, v13, v14, v15, v16, v17, v18, v19, dAdd_int, dSub_int, dSub_bl, dNeg_int, bInt_int, dOrd_int, dGe_int, dLe_int, dIs_non, dIsNot_non, true_bl, isNon_ref, isNon_tup, isNon_non, isNon_int, Bool.false_eq_true, if_true, if_false, ite_true, ite_false, not_true, not_false_iff, Bool.not_true, Bool.not_false, Bool.not_not, decide_true, decide_false, List.append_nil, List.nil_append, List.length_cons, List.length_nil, reduceIte, reduceCtorEq]
  refine pick2 (by decide) (by decide) hs fun way S1 w0 w1 hs1 kp1 => ?_
  refine sp_seq.mpr ?_
  simp only [sp_asg, sp_par, sp_par3, sp_if, sp_for, sp_ret, sp_retN, sp_next, sp_brk, sp_cont, sp_expr, wp_bin, wp_un, wp_c, wp_tOf, wp_tTr, wp_tAnd, wp_tOr, wp_tNot, wp_eAnd, wp_eOr, wp_eNot, wp_eIf, wp_aNil, wp_aCons, wp_eCall, wp_eFn, wp_eSl, wp_oNone, wp_oSome, wp_eMt, wp_eLst, wp_eTup, wp_ok, wp_tYes, oq_some, bq_bl, iq_int, uq_some, l2q_ok, l3q_ok, pName_eq, List.set_cons_zero, List.set_cons_succ, v0, v1, v2, v3, v4, v5, v6, v7, v8, v9, v10, v11, v12, v13, v14, v15, v16, v17, v18, v19, dAdd_int, dSub_int, dSub_bl, dNeg_int, bInt_int, dOrd_int, dGe_int, dLe_int, dIs_non, dIsNot_non, true_bl, isNon_ref, isNon_tup, isNon_non, isNon_int, Bool.false_eq_true, if_true, if_false, ite_true, ite_false, not_true, not_false_iff, Bool.not_true, Bool.not_false, Bool.not_not, decide_true, decide_false, List.append_nil, List.nil_append, List.length_cons, List.length_nil, reduceIte, reduceCtorEq, dEq_int, dEq_len0, decide_eq_true_eq, Nat.zero_le, true_and]
  have one : Q (lenD l) S1 := hq l S1 h.fit hs1 kp1
  by_cases hw0 : way = 0
  · rw [if_pos hw0]; exact one
  rw [if_neg hw0]
  by_cases hl0 : l = []
  · rw [if_pos hl0]; exact one
  rw [if_neg hl0]
  have hlen := h.len
  have hpos : 0 < l.length := List.length_pos_iff.mpr hl0
  refine sp_seq.mpr ?_
  simp only [sp_asg, sp_par, sp_par3, sp_if, sp_for, sp_ret, sp_retN, sp_next, sp_brk, sp_cont, sp_expr, wp_bin, wp_un, wp_c, wp_tOf, wp_tTr, wp_tAnd, wp_tOr, wp_tNot, wp_eAnd, wp_eOr, wp_eNot, wp_eIf, wp_aNil, wp_aCons, wp_eCall, wp_eFn, wp_eSl, wp_oNone, wp_oSome, wp_eMt, wp_eLst, wp_eTup, wp_ok, wp_tYes, oq_some, bq_bl, iq_int, uq_some, l2q_ok, l3q_ok, pName_eq, List.set_cons_zero, List.set_cons_succ, v0, v1, v2, v3, v4, v5, v6, v7, v8, v9, v10, v11, v12, v13, v14, v15, v16, v17, v18, v19, dAdd_int, dSub_int, dSub_bl, dNeg_int, bInt_int, dOrd_int, dGe_int, dLe_int, dIs_non, dIsNot_non, true_bl, isNon_ref, isNon_tup, isNon_non, isNon_int, Bool.false_eq_true, if_true, if_false, ite_true, ite_false, not_true, not_false_iff, Bool.not_true, Bool.not_false, Bool.not_not, decide_true, decide_false, List.append_nil, List.nil_append, List.length_cons, List.length_nil, reduceIte, reduceCtorEq, bLen_len]
  rw [pick_eq]
  refine pick_ok ?_ hs1 fun k S2 k0 k1 hs2 kp2 => ?_
  · have : ((l.length : Int).natAbs) = l.length := by simp
    rw [this]
    exact Nat.lt_of_le_of_lt (Nat.log2_le_self _) (by omega)
  have hk : k.toNat < l.length := by split at k1 <;> omega
  obtain ⟨u, p, m, v, rfl, hu⟩ := split_at hk
  have ek : k = ((u.length : Nat) : Int) := by omega
  subst ek
  have kp := kp1.trans kp2
  have hz : (u ++ (p, m) :: v)[u.length]? = some (p, m) := by simp
  have ht : (u ++ (p, m) :: v).take u.length = u := by simp
  have e1 : ((u.length : Nat) : Int) + 1 = ((u.length + 1 : Nat) : Int) := by simp
  have hd : (u ++ (p, m) :: v).drop (u.length + 1) = v := by rw [List.drop_append, List.drop_eq_nil_of_le (by omega)]; simp
  have ht1 : (u ++ (p, m) :: v).take (u.length + 1) = u ++ [(p, m)] := by rw [show u ++ (p, m) :: v = (u ++ [(p, m)]) ++ v by simp, List.take_left' (by simp)]
  have hle : u.length ≤ (u ++ (p, m) :: v).length := by simp
  have hle1 : u.length + 1 ≤ (u ++ (p, m) :: v).length := by simp
  have hlen' : u.length + (v.length + 1) ≤ 6 := by simpa using hlen
  have hpm := h.ok.pos (p, m) (by simp)
  have hsm := h.sm (p, m) (by simp)
  have fits : Fit (u ++ (p, m) :: v) := h.fit
  refine sp_seq.mpr ?_
  simp only [sp_asg, sp_par, sp_par3, sp_if, sp_for, sp_ret, sp_retN, sp_next, sp_brk, sp_cont, sp_expr, wp_bin, wp_un, wp_c, wp_tOf, wp_tTr, wp_tAnd, wp_tOr, wp_tNot, wp_eAnd, wp_eOr, wp_eNot, wp_eIf, wp_aNil, wp_aCons, wp_eCall, wp_eFn, wp_eSl, wp_oNone, wp_oSome, wp_eMt, wp_eLst, wp_eTup, wp_ok, wp_tYes, oq_some, bq_bl, iq_int, uq_some, l2q_ok, l3q_ok, pName_eq, List.set_cons_zero, List.set_cons_succ, v0, v1, v2, v3, v4, v5, v6, v7, v8, v9, v10, v11, v12, v13, v14, v15, v16, v17, v18, v19, dAdd_int, dSub_int, dSub_bl, dNeg_int, bInt_int, dOrd_int, dGe_int, dLe_int, dIs_non, dIsNot_non, true_bl, isNon_ref, isNon_tup, isNon_non, isNon_int, Bool.false_eq_true, if_true, if_false, ite_true, ite_false, not_true, not_false_iff, Bool.not_true, Bool.not_false, Bool.not_not, decide_true, decide_false, List.append_nil, List.nil_append, List.length_cons, List.length_nil, reduceIte, reduceCtorEq, ix_lenN hz, unp_pair]
  refine sp_seq.mpr ?_
  simp only [sp_asg, sp_par, sp_par3, sp_if, sp_for, sp_ret, sp_retN, sp_next, sp_brk, sp_cont, sp_expr, wp_bin, wp_un, wp_c, wp_tOf, wp_tTr, wp_tAnd, wp_tOr, wp_tNot, wp_eAnd, wp_eOr, wp_eNot, wp_eIf, wp_aNil, wp_aCons, wp_eCall, wp_eFn, wp_eSl, wp_oNone, wp_oSome, wp_eMt, wp_eLst, wp_eTup, wp_ok, wp_tYes, oq_some, bq_bl, iq_int, uq_some, l2q_ok, l3q_ok, pName_eq, List.set_cons_zero, List.set_cons_succ, v0, v1, v2, v3, v4, v5, v6, v7, v8, v9, v10, v11, v12, v13, v14, v15, v16, v17, v18, v19, dAdd_int, dSub_int, dSub_bl, dNeg_int, bInt_int, dOrd_int, dGe_int, dLe_int, dIs_non, dIsNot_non, true_bl, isNon_ref, isNon_tup, isNon_non, isNon_int, Bool.false_eq_true, if_true, if_false, ite_true, ite_false, not_true, not_false_iff, Bool.not_true, Bool.not_false, Bool.not_not, decide_true, decide_false, List.append_nil, List.nil_append, List.length_cons, List.length_nil, reduceIte, reduceCtorEq, dEq_int, decide_eq_true_eq, sl_lenT hle, ht]
  by_cases hw1 : way = 1
  · rw [if_pos hw1]
    exact hq _ _ (fits.sub (List.sublist_append_left ..)) hs2 kp
  rw [if_neg hw1]
  have last : oq (dSl (lenD (u ++ (p, m) :: v)) none (some ((u.length : Nat) : Int)) S2) fun x S1 => 0 + 1 + 1 ≤ sizeLine ∧ 0 + 1 ≤ sizeLine ∧ oq (dAdd x (D.tup [D.tup [D.int p, D.int m]]) S1) Q := by
    simp only [sl_lenT hle, ht, oq_some]
    refine ⟨two_le, one_le, ?_⟩
    rw [show D.tup [D.tup [D.int p, D.int m]] = lenD [(p, m)] from rfl, addT (by simp; omega)]
    exact hq _ _ (fits.sub (List.Sublist.append_left (by simp) _)) hs2 kp
  refine sp_seq.mpr ?_
  simp only [sp_asg, sp_par, sp_par3, sp_if, sp_for, sp_ret, sp_retN, sp_next, sp_brk, sp_cont, sp_expr, wp_bin, wp_un, wp_c, wp_tOf, wp_tTr, wp_tAnd, wp_tOr, wp_tNot, wp_eAnd, wp_eOr, wp_eNot, wp_eIf, wp_aNil, wp_aCons, wp_eCall, wp_eFn, wp_eSl, wp_oNone, wp_oSome, wp_eMt, wp_eLst, wp_eTup, wp_ok, wp_tYes, oq_some, bq_bl, iq_int, uq_some, l2q_ok, l3q_ok, pName_eq, List.set_cons_zero, List.set_cons_succ, v0, v1, v2, v3, v4, v5, v6, v7, v8, v9, v10, v11, v12, v13, v14, v15, v16, v17, v18, v19, dAdd_int, dSub_int, dSub_bl, dNeg_int, bInt_int, dOrd_int, dGe_int, dLe_int, dIs_non, dIsNot_non, true_bl, isNon_ref, isNon_tup, isNon_non, isNon_int, Bool.false_eq_true, if_true, if_false, ite_true, ite_false, not_true, not_false_iff, Bool.not_true, Bool.not_false, Bool.not_not, decide_true, decide_false, List.append_nil, List.nil_append, List.length_cons, List.length_nil, reduceIte, reduceCtorEq, dEq_int, decide_eq_true_eq, sl_lenT hle, ht]
  by_cases hw2 : way = 2
  · rw [if_pos hw2]
    have h3 : (0 + 1 + 1 + 1 : Nat) ≤ sizeLine := by rw [sizeLine_eq]; decide
    have hlt := Sc_lt hs2
    refine ⟨h3, ?_⟩
    refine of_lst hs2.ext at_last (by simp) (by simp) (by omega) (by omega) fun x S3 hx hs3 kp3 => ?_
    have fin : ∀ i : Int, x = .int i → 1 ≤ i → i < 10 ^ 300 → oq (dAdd (.int m) x S3) fun x S1 => 0 + 1 + 1 ≤ sizeLine ∧ 0 + 1 ≤ sizeLine ∧ oq (dAdd (lenD u) (D.tup [D.tup [D.int p, x]]) S1) fun x S1 => oq (dSl (lenD (u ++ (p, m) :: v)) (some (((u.length : Nat) : Int) + 1)) none S1) fun y S2 => oq (dAdd x y S2) Q := fun i e i1 i2 => by
      subst e
      simp only [dAdd_int, oq_some]
      refine ⟨two_le, one_le, ?_⟩
      rw [show D.tup [D.tup [D.int p, D.int (m + i)]] = lenD [(p, m + i)] from rfl, addT (by simp; omega)]
      simp only [oq_some, e1, sl_len hle1, hd]
      rw [addT (by simp; omega)]
      simp only [oq_some, List.append_assoc, List.cons_append, List.nil_append]
      refine hq _ _ ⟨ok_mid h.ok (by omega), by simp; omega, fun x hx => ?_⟩ hs3 ((kp.trans .ext).trans kp3)
      rcases List.mem_append.mp hx with hx | hx
      · exact fits.sm x (List.mem_append_left _ hx)
      · rcases List.mem_cons.mp hx with rfl | hx
        · exact ⟨by show p ≤ _; omega, by show m + i ≤ _; omega⟩
        · exact fits.sm x (by simp [hx])
    simp only [List.mem_cons, List.not_mem_nil, or_false] at hx
    rcases hx with rfl | rfl | rfl
    · exact fin 1 rfl (by decide) (by decide)
    · exact fin 2 rfl (by decide) (by decide)
    · exact fin far rfl f0 f1
  rw [if_neg hw2]
  refine sp_seq.mpr ?_
  simp only [sp_asg, sp_par, sp_par3, sp_if, sp_for, sp_ret, sp_retN, sp_next, sp_brk, sp_cont, sp_expr, wp_bin, wp_un, wp_c, wp_tOf, wp_tTr, wp_tAnd, wp_tOr, wp_tNot, wp_eAnd, wp_eOr, wp_eNot, wp_eIf, wp_aNil, wp_aCons, wp_eCall, wp_eFn, wp_eSl, wp_oNone, wp_oSome, wp_eMt, wp_eLst, wp_eTup, wp_ok, wp_tYes, oq_some, bq_bl, iq_int, uq_some, l2q_ok, l3q_ok, pName_eq, List.set_cons_zero, List.set_cons_succ, v0, v1, v2, v3, v4, v5, v6, v7, v8, v9, v10, v11, v12, v13, v14, v15, v16, v17, v18, v19, dAdd_int, dSub_int, dSub_bl, dNeg_int, bInt_int, dOrd_int, dGe_int, dLe_int, dIs_non, dIsNot_non, true_bl, isNon_ref, isNon_tup, isNon_non, isNon_int, Bool.false_eq_true, if_true, if_false, ite_true, ite_false, not_true, not_false_iff, Bool.not_true, Bool.not_false, Bool.not_not, decide_true, decide_false, List.append_nil, List.nil_append, List.length_cons, List.length_nil, reduceIte, reduceCtorEq, dEq_int, decide_eq_true_eq, sl_lenT hle, ht, e1, sl_len hle1, hd]
  by_cases hw3 : way = 3
  · rw [if_pos hw3]
    rw [addT (by omega)]
    exact hq _ _ (fits.sub (List.Sublist.append_left (by simp) _)) hs2 kp
  rw [if_neg hw3]
  refine sp_seq.mpr ?_
  simp only [sp_asg, sp_par, sp_par3, sp_if, sp_for, sp_ret, sp_retN, sp_next, sp_brk, sp_cont, sp_expr, wp_bin, wp_un, wp_c, wp_tOf, wp_tTr, wp_tAnd, wp_tOr, wp_tNot, wp_eAnd, wp_eOr, wp_eNot, wp_eIf, wp_aNil, wp_aCons, wp_eCall, wp_eFn, wp_eSl, wp_oNone, wp_oSome, wp_eMt, wp_eLst, wp_eTup, wp_ok, wp_tYes, oq_some, bq_bl, iq_int, uq_some, l2q_ok, l3q_ok, pName_eq, List.set_cons_zero, List.set_cons_succ, v0, v1, v2, v3, v4, v5, v6, v7, v8, v9, v10, v11, v12, v13, v14, v15, v16, v17, v18, v19, dAdd_int, dSub_int, dSub_bl, dNeg_int, bInt_int, dOrd_int, dGe_int, dLe_int, dIs_non, dIsNot_non, true_bl, isNon_ref, isNon_tup, isNon_non, isNon_int, Bool.false_eq_true, if_true, if_false, ite_true, ite_false, not_true, not_false_iff, Bool.not_true, Bool.not_false, Bool.not_not, decide_true, decide_false, List.append_nil, List.nil_append, List.length_cons, List.length_nil, reduceIte, reduceCtorEq, dEq_int, decide_eq_true_eq, e1, sl_lenT hle1, ht1]
  by_cases hw4 : way = 4
  · rw [if_pos hw4]
    by_cases hp : 0 < p
    · rw [if_pos hp]
      refine ⟨two_le, one_le, ?_⟩
      rw [show D.tup [D.tup [D.int (p - 1), D.int 1]] = lenD [(p - 1, 1)] from rfl, addT (by simp; omega)]
      refine hq _ _ ⟨ok_end h.ok hp, by simp; omega, fun x hx => ?_⟩ hs2 kp
      rcases List.mem_append.mp hx with hx | hx
      · exact fits.sm x ((List.Sublist.append_left (by simp) u).subset hx)
      · rw [List.mem_singleton.mp hx]; exact ⟨by show p - 1 ≤ _; omega, by show (1 : Int) ≤ 2 * 10 ^ 300; decide⟩
    · rw [if_neg hp]; exact last
  · rw [if_neg hw4]; exact last
end
end K08
set_option Elab.async false
set_option linter.all false
set_option maxRecDepth 100000
set_option maxHeartbeats 4000000
namespace K08
open MP ML
open PySem (sizeLine sizeLine_eq)
open PyProof.Rows (b2i)
section
variable {S : Store} {a b l : L} {X : Exc → Store → Prop} {Q : D → Store → Prop} {r c : Nat}
/-- the powers as keys -/
def keyD (ks : List Int) : List (L2.Key × D) := ks.map fun p => (Sum.inl p, D.int 0)
theorem keysI_keyD : ∀ ks, keysI (keyD ks) = some ks
  | [] => rfl
  | p :: ks => by
    show (keysI (keyD ks)).map (p :: ·) = _
    rw [keysI_keyD ks]; rfl
theorem setK_keyD (ks : List Int) (p : Int) : setK (keyD ks) (Sum.inl p) (.int 0) = if p ∈ ks then keyD ks else keyD (ks ++ [p]) := by
  unfold setK
  have e1 : ((keyD ks).any fun e => decide (e.1 = (Sum.inl p : L2.Key))) = decide (p ∈ ks) := by
    unfold keyD
    rw [List.any_map]
    induction ks with
    | nil => rfl
    | cons x ks ih =>
      rw [List.any_cons, ih]
      by_cases h : p = x
      · subst h; simp
      · have h2 : ¬ x = p := fun e => h e.symm
        simp [h, h2]
  by_cases h : p ∈ ks
  · rw [if_pos h]
    simp only [e1, h, decide_true, if_true]
    unfold keyD
    rw [List.map_map]
    refine List.map_congr_left fun x hx => ?_
    simp only [Function.comp]
    split
    · rename_i e
      have e' : x = p := by simpa using e
      rw [e']
    · rfl
  · rw [if_neg h]
    simp only [e1, h, decide_false, Bool.false_eq_true, if_false]
    unfold keyD
    simp
theorem sorted_desc {ks : List Int} (h : ks.Nodup) : (sortI ks).reverse.Pairwise (fun x y => y < x) := by
  rw [List.pairwise_reverse]
  have hp : (sortI ks).Perm ks := List.mergeSort_perm ks _
  have h1 : (sortI ks).Nodup := hp.nodup_iff.mpr h
  have h2 : (sortI ks).Pairwise (fun x y => x ≤ y) := by
    have := List.pairwise_mergeSort (le := fun a b : Int => decide (a ≤ b)) (by intro a b c h1 h2; simp at *; omega) (by intro a b; simp; omega) ks
    exact this.imp (by intro a b h; simpa using h)
  exact (h2.and h1).imp fun h => by omega
theorem bSorted_dict {q : Nat} {ks : List Int} (h : S[q]? = some (.dict (keyD ks))) (hl : ks.length < 64) : bSorted [.ref q] S = some (.ref S.length, S ++ [.lst ((sortI ks).map D.int)]) := by
  unfold bSorted
  simp only [listOf, dictOf, h, keysI_keyD, hl, if_true]
theorem length_wp {far : Int} (hs : Sc r c S) (f0 : 1 ≤ far) (f1 : far < 10 ^ 300) (hq : ∀ l' S', Small l' → Sc r c S' → Kp r c S S' → Q (lenD l') S') : wp (sem__law_length [.ref r, .int far] S) Q X := by
  unfold sem__law_length
  rw [wp_sem]
  unfold g__law_length
  show sp (gSeq _ _ [some (.ref r), some (.int far), none, none, none] S) _
  have hlt := Sc_lt hs
  refine sp_seq.mpr ?_
  rw [sp_name]
  unfold eDict0 mkDict0
  rw [wp_lift]
  simp only [oq_some, List.set_cons_zero, List.set_cons_succ]
  refine sp_seq.mpr ?_
  rw [sp_for]
  refine wp_sRng1 ?_
  simp only [sp_asg, sp_par, sp_par3, sp_if, sp_for, sp_ret, sp_retN, sp_next, sp_brk, sp_cont, sp_expr, wp_bin, wp_un, wp_c, wp_tOf, wp_tTr, wp_tAnd, wp_tOr, wp_tNot, wp_eAnd, wp_eOr, wp_eNot, wp_eIf, wp_aNil, wp_aCons, wp_eCall, wp_eFn, wp_eSl, wp_oNone, wp_oSome, wp_eMt, wp_eLst, wp_eTup, wp_ok, wp_tYes, oq_some, bq_bl, iq_int, uq_some, l2q_ok, l3q_ok, pName_eq, List.set_cons_zero, List.set_cons_succ, v0, v1, v2, v3, v4, v5, v6, v7, v8, v9, v10, v11, v12, v13, v14, v15, v16, v17, v18, v19, dAdd_int, dSub_int, dSub_bl, dNeg_int, bInt_int, dOrd_int, dGe_int, dLe_int, dIs_non, dIsNot_non, true_bl, isNon_ref, isNon_tup, isNon_non, isNon_int, Bool.false_eq_true, if_true, if_false, ite_true, ite_false, not_true, not_false_iff, Bool.not_true, Bool.not_false, Bool.not_not, decide_true, decide_false, List.append_nil, List.nil_append, List.length_cons, List.length_nil, reduceIte, reduceCtorEq]
  refine pick2 (by decide) (by decide) hs.ext fun laps S1 n0 n1 hs1 kp1 => ?_
  refine ⟨laps, rfl, by omega, by omega, ?_⟩
  unfold rangeD
  have e0 : S1[S.length]? = some (.dict []) := kp1.2 _ _ at_last (by omega) (by omega)
  refine for_over (fun rest ρ S' => ∃ ks o, S'[S.length]? = some (.dict (keyD ks)) ∧ ks.Nodup ∧ (∀ p ∈ ks, 0 ≤ p ∧ p < 10 ^ 300) ∧ ks.length + rest.length ≤ 6 ∧ Sc r c S' ∧ Kp r c S S' ∧ ρ = [some (.ref r), some (.int far), some (.ref S.length), o, none]) (fun i rest ρ S' h => ⟨trivial, ?_⟩) (fun ρ S' h => ⟨trivial, ?_⟩) ⟨[], none, e0, by simp, by simp, by simp; omega, hs1, Kp.ext.trans kp1, rfl⟩
  · obtain ⟨ks, o, h1, h2, h3, h4, h5, h6, rfl⟩ := h
    simp only [pName_eq, oq_some, List.set_cons_zero, List.set_cons_succ, sp_asg, wp_c]
    have hlt5 := Sc_lt h5
    refine pSub_eq ?_
    have h9 : (0 + 1 + 1 + 1 + 1 + 1 + 1 + 1 + 1 + 1 : Nat) ≤ sizeLine := by rw [sizeLine_eq]; decide
    simp only [sp_asg, sp_par, sp_par3, sp_if, sp_for, sp_ret, sp_retN, sp_next, sp_brk, sp_cont, sp_expr, wp_bin, wp_un, wp_c, wp_tOf, wp_tTr, wp_tAnd, wp_tOr, wp_tNot, wp_eAnd, wp_eOr, wp_eNot, wp_eIf, wp_aNil, wp_aCons, wp_eCall, wp_eFn, wp_eSl, wp_oNone, wp_oSome, wp_eMt, wp_eLst, wp_eTup, wp_ok, wp_tYes, oq_some, bq_bl, iq_int, uq_some, l2q_ok, l3q_ok, pName_eq, List.set_cons_zero, List.set_cons_succ, v0, v1, v2, v3, v4, v5, v6, v7, v8, v9, v10, v11, v12, v13, v14, v15, v16, v17, v18, v19, dAdd_int, dSub_int, dSub_bl, dNeg_int, bInt_int, dOrd_int, dGe_int, dLe_int, dIs_non, dIsNot_non, true_bl, isNon_ref, isNon_tup, isNon_non, isNon_int, Bool.false_eq_true, if_true, if_false, ite_true, ite_false, not_true, not_false_iff, Bool.not_true, Bool.not_false, Bool.not_not, decide_true, decide_false, List.append_nil, List.nil_append, List.length_cons, List.length_nil, reduceIte, reduceCtorEq]
    refine ⟨h9, ?_⟩
    refine of_lst h5.ext at_last (by simp) (by simp) (by omega) (by omega) fun x S2 hx hs2 kp2 => ?_
    have g1 : S2[S.length]? = some (.dict (keyD ks)) := kp2.2 _ _ (at_ext h1) (by omega) (by omega)
    have fin : ∀ p : Int, x = .int p → 0 ≤ p → p < 10 ^ 300 → uq (dSet (.ref S.length) x (.int 0) S2) fun S3 => ∃ ks o, S3[S.length]? = some (.dict (keyD ks)) ∧ ks.Nodup ∧ (∀ p ∈ ks, 0 ≤ p ∧ p < 10 ^ 300) ∧ ks.length + rest.length ≤ 6 ∧ Sc r c S3 ∧ Kp r c S S3 ∧ [some (D.ref r), some (D.int far), some (D.ref S.length), some (D.int (0 + (i : Nat))), none] = [some (.ref r), some (.int far), some (.ref S.length), o, none] := fun p e p0 p1 => by
      subst e
      have hkl : ks.length ≤ 6 := by simp at h4; omega
      have h4' : ks.length + (rest.length + 1) ≤ 6 := h4
      have es : dSet (.ref S.length) (.int p) (.int 0) S2 = some (S2.set S.length (.dict (setK (keyD ks) (Sum.inl p) (.int 0)))) := by
        simp only [dSet, g1, keyOf]
        rw [if_pos (by unfold keyD; rw [List.length_map, sizeLine_eq]; omega)]
      rw [es, setK_keyD]
      simp only [uq_some]
      have hlt2 := (List.getElem?_eq_some_iff.mp g1).1
      have hs3 : ∀ o, Sc r c (S2.set S.length o) := fun o => Sc_set hs2 (by omega) (by omega)
      have kp3 : ∀ o, Kp r c S (S2.set S.length o) := fun o => Kp_set ((h6.trans .ext).trans kp2) (Nat.le_refl _)
      by_cases hp : p ∈ ks
      · rw [if_pos hp]
        exact ⟨ks, _, by rw [List.getElem?_set_self hlt2], h2, h3, by omega, hs3 _, kp3 _, rfl⟩
      · rw [if_neg hp]
        refine ⟨ks ++ [p], _, by rw [List.getElem?_set_self hlt2], ?_, fun y hy => ?_, by simp; omega, hs3 _, kp3 _, rfl⟩
        · rw [List.nodup_append]
          exact ⟨h2, by simp, fun y hy z hz => by rw [List.mem_singleton.mp hz]; rintro rfl; exact hp hy⟩
        · rcases List.mem_append.mp hy with hy | hy
          · exact h3 y hy
          · rw [List.mem_singleton.mp hy]; exact ⟨p0, p1⟩
    simp only [List.mem_cons, List.not_mem_nil, or_false] at hx
    rcases hx with rfl | rfl | rfl | rfl | rfl | rfl | rfl | rfl | rfl
    all_goals first | exact fin _ rfl (by decide) (by decide) | exact fin far rfl (by omega) f1
  · obtain ⟨ks, o, h1, h2, h3, h4, h5, h6, rfl⟩ := h
    simp only [sp_ret, wp_eCall, wp_aCons, wp_aNil]
    have hkl : ks.length ≤ 6 := by simp at h4; omega
    have hlt5 := Sc_lt h5
    refine wp_eLc (sSeq_lst ?_)
    simp only [sp_asg, sp_par, sp_par3, sp_if, sp_for, sp_ret, sp_retN, sp_next, sp_brk, sp_cont, sp_expr, wp_bin, wp_un, wp_c, wp_tOf, wp_tTr, wp_tAnd, wp_tOr, wp_tNot, wp_eAnd, wp_eOr, wp_eNot, wp_eIf, wp_aNil, wp_aCons, wp_eCall, wp_eFn, wp_eSl, wp_oNone, wp_oSome, wp_eMt, wp_eLst, wp_eTup, wp_ok, wp_tYes, oq_some, bq_bl, iq_int, uq_some, l2q_ok, l3q_ok, pName_eq, List.set_cons_zero, List.set_cons_succ, v0, v1, v2, v3, v4, v5, v6, v7, v8, v9, v10, v11, v12, v13, v14, v15, v16, v17, v18, v19, dAdd_int, dSub_int, dSub_bl, dNeg_int, bInt_int, dOrd_int, dGe_int, dLe_int, dIs_non, dIsNot_non, true_bl, isNon_ref, isNon_tup, isNon_non, isNon_int, Bool.false_eq_true, if_true, if_false, ite_true, ite_false, not_true, not_false_iff, Bool.not_true, Bool.not_false, Bool.not_not, decide_true, decide_false, List.append_nil, List.nil_append, List.length_cons, List.length_nil, reduceIte, reduceCtorEq, bSorted_dict h1 (show ks.length < 64 by omega)]
    have el : listOf (S' ++ [O.lst ((sortI ks).map D.int)]) (.ref S'.length) = some ((sortI ks).map D.int) := listOf_lst at_last
    have er : oRev (.ref S'.length) (S' ++ [O.lst ((sortI ks).map D.int)]) = some (.ref (S' ++ [O.lst ((sortI ks).map D.int)]).length, (S' ++ [O.lst ((sortI ks).map D.int)]) ++ [O.lst ((sortI ks).reverse.map D.int)]) := by
      unfold oRev
      simp only [el, List.map_reverse]
    rw [er]
    simp only [oq_some]
    have hd := sorted_desc h2
    have hmem : ∀ p ∈ (sortI ks).reverse, 0 ≤ p ∧ p < 10 ^ 300 := fun p hp => h3 p ((List.mergeSort_perm ks _).mem_iff.mp (List.mem_reverse.mp hp))
    have hsz : (sortI ks).reverse.length = ks.length := by rw [List.length_reverse]; exact (List.mergeSort_perm ks _).length_eq
    generalize hks : (sortI ks).reverse = ps at hd hmem hsz ⊢
    generalize hS1 : S' ++ [O.lst ((sortI ks).map D.int)] = S1
    have hs1 : Sc r c S1 := by rw [← hS1]; exact h5.ext
    have kp1 : Kp r c S S1 := by rw [← hS1]; exact h6.trans .ext
    have hlt1 := Sc_lt hs1
    refine ⟨S1.length, _, rfl, at_last, by rw [List.length_map, sizeLine_eq]; omega, ?_⟩
    refine wp_mono (wp_lcS (X := fun _ _ => False) (Q := fun acc S2 => ∃ done, acc = done.map pairD ∧ Small done ∧ Sc r c S2 ∧ Kp r c S S2) (fun items acc S2 => ∃ done rest, items = rest.map D.int ∧ acc = done.map pairD ∧ Ok done ∧ (∀ x ∈ done, x.1 < 10 ^ 300 ∧ x.2 < 10 ^ 300) ∧ (∀ x ∈ done, ∀ p ∈ rest, p < x.1) ∧ rest.Pairwise (fun x y => y < x) ∧ (∀ p ∈ rest, 0 ≤ p ∧ p < 10 ^ 300) ∧ done.length + rest.length ≤ 6 ∧ Sc r c S2 ∧ Kp r c S S2 ∧ S2[S1.length]? = some (.lst (ps.map D.int))) (fun d ds acc S2 h => ?_) (fun acc S2 h => ?_) (acc := []) ⟨[], ps, rfl, rfl, Ok.nil, by simp, by simp, hd, hmem, by simp; omega, hs1.ext, kp1.trans .ext, at_last⟩) (fun ys S2 h => ?_) (fun x S2 h => h.elim)
    · obtain ⟨done, rest, e1, rfl, g1, g2, g3, g4, g5, g6, g7, g8, g9⟩ := h
      refine ⟨.inl g9, ?_⟩
      cases rest with
      | nil => cases e1
      | cons p rest =>
        rw [List.map_cons] at e1
        cases e1
        have g4' := List.pairwise_cons.mp g4
        have hp := g5 p (List.mem_cons_self ..)
        have hlt2 := Sc_lt g7
        have h6' : (0 + 1 + 1 + 1 + 1 + 1 + 1 : Nat) ≤ sizeLine := by rw [sizeLine_eq]; decide
        simp only [pName_eq, oq_some, wp_tYes, if_true]
        show wp (eTup _ [some (.ref r), some (.int far), some (.ref S.length), o, some (.int p)] S2) _ _
        simp only [sp_asg, sp_par, sp_par3, sp_if, sp_for, sp_ret, sp_retN, sp_next, sp_brk, sp_cont, sp_expr, wp_bin, wp_un, wp_c, wp_tOf, wp_tTr, wp_tAnd, wp_tOr, wp_tNot, wp_eAnd, wp_eOr, wp_eNot, wp_eIf, wp_aNil, wp_aCons, wp_eCall, wp_eFn, wp_eSl, wp_oNone, wp_oSome, wp_eMt, wp_eLst, wp_eTup, wp_ok, wp_tYes, oq_some, bq_bl, iq_int, uq_some, l2q_ok, l3q_ok, pName_eq, List.set_cons_zero, List.set_cons_succ, v0, v1, v2, v3, v4, v5, v6, v7, v8, v9, v10, v11, v12, v13, v14, v15, v16, v17, v18, v19, dAdd_int, dSub_int, dSub_bl, dNeg_int, bInt_int, dOrd_int, dGe_int, dLe_int, dIs_non, dIsNot_non, true_bl, isNon_ref, isNon_tup, isNon_non, isNon_int, Bool.false_eq_true, if_true, if_false, ite_true, ite_false, not_true, not_false_iff, Bool.not_true, Bool.not_false, Bool.not_not, decide_true, decide_false, List.append_nil, List.nil_append, List.length_cons, List.length_nil, reduceIte, reduceCtorEq]
        refine ⟨h6', ?_⟩
        refine of_lst g7.ext at_last (by simp) (by simp) (by omega) (by omega) fun x S3 hx hs3 kp3 => ?_
        have f9 : S3[S1.length]? = some (.lst (ps.map D.int)) := kp3.2 _ _ (at_ext g9) (by have := g8.1; have := kp1.1; have := Sc_lt hs; omega) (by have := g8.1; have := kp1.1; have := Sc_lt hs; omega)
        have fin : ∀ m : Int, x = .int m → 1 ≤ m → m < 10 ^ 300 → (0 + 1 + 1 ≤ sizeLine ∧ ∃ (done_1 : L) (rest_1 : List Int), rest.map D.int = rest_1.map D.int ∧ done.map pairD ++ [D.tup [D.int p, x]] = done_1.map pairD ∧ Ok done_1 ∧ (∀ x ∈ done_1, x.1 < 10 ^ 300 ∧ x.2 < 10 ^ 300) ∧ (∀ x ∈ done_1, ∀ p ∈ rest_1, p < x.1) ∧ rest_1.Pairwise (fun x y => y < x) ∧ (∀ p ∈ rest_1, 0 ≤ p ∧ p < 10 ^ 300) ∧ done_1.length + rest_1.length ≤ 6 ∧ Sc r c S3 ∧ Kp r c S S3 ∧ S3[S1.length]? = some (.lst (ps.map D.int))) := fun m e m0 m1 => by
          subst e
          have g6' : done.length + (rest.length + 1) ≤ 6 := g6
          refine ⟨two_le, done ++ [(p, m)], rest, rfl, by simp [MP.pairD], ⟨?_, fun x hx => ?_⟩, fun x hx => ?_, fun x hx p' hp' => ?_, g4'.2, fun p' hp' => g5 p' (List.mem_cons_of_mem _ hp'), by simp; omega, hs3, (g8.trans .ext).trans kp3, f9⟩
          · unfold Desc
            rw [List.pairwise_append]
            refine ⟨g1.desc, by simp, fun x hx y hy => ?_⟩
            rw [List.mem_singleton.mp hy]
            exact g3 x hx p (List.mem_cons_self ..)
          · rcases List.mem_append.mp hx with hx | hx
            · exact g1.pos x hx
            · rw [List.mem_singleton.mp hx]; exact ⟨hp.1, by show 0 < m; omega⟩
          · rcases List.mem_append.mp hx with hx | hx
            · exact g2 x hx
            · rw [List.mem_singleton.mp hx]; exact ⟨hp.2, m1⟩
          · rcases List.mem_append.mp hx with hx | hx
            · exact g3 x hx p' (List.mem_cons_of_mem _ hp')
            · rw [List.mem_singleton.mp hx]; exact g4'.1 p' hp'
        simp only [List.mem_cons, List.not_mem_nil, or_false] at hx
        rcases hx with rfl | rfl | rfl | rfl | rfl | rfl
        all_goals first | exact fin _ rfl (by decide) (by decide) | exact fin far rfl f0 f1
    · obtain ⟨done, rest, e1, rfl, g1, g2, g3, g4, g5, g6, g7, g8, g9⟩ := h
      exact ⟨.inl g9, done, rfl, ⟨g1, by omega, g2⟩, g7, g8⟩
    · obtain ⟨done, e, g1, g2, g3⟩ := h
      rw [List.nil_append] at e
      subst e
      rw [bTuple_lst at_last]
      exact hq _ _ g1 g2.ext (g3.trans .ext)
end
end K08
set_option Elab.async false
set_option linter.all false
set_option maxRecDepth 100000
set_option maxHeartbeats 4000000
namespace K08
open MP ML
open PySem (sizeLine sizeLine_eq)
open PyProof.Rows (b2i)
noncomputable def glb3_b5_2 : G := (gIf (tAnd' (tOf (eBin dIsNot (eVar 10) (eC .non))) (tOf (eBin dNe (eCall bRepr (aCons (eFn sem_length_then [] (aCons (eVar 9) (aCons (eVar 10) aNil))) aNil)) (eCall bRepr (aCons (eVar 8) aNil))))) (gRet (eC (.bl false))) gNext)
noncomputable def glb3_b5_1 : G := gSeq (gIf (tOf (eBin dNe (eCall bRepr (aCons (eVar 10) aNil)) (eCall bRepr (aCons (eFn sem__law_behind [] (aCons (eVar 8) (aCons (eVar 9) aNil))) aNil)))) (gRet (eC (.bl false))) gNext) glb3_b5_2
noncomputable def glb3_b5_0 : G := gSeq (gAsg (eFn sem_length_behind [] (aCons (eVar 8) (aCons (eVar 9) aNil))) (pName 10)) glb3_b5_1
noncomputable def glb3_16 : G := (gIf (tOr' (tOf (eBin dNe (eCall bRepr (aCons (eFn sem_length_told [] (aCons (eVar 15) aNil)) aNil)) (eCall bRepr (aCons (eVar 16) aNil)))) (tOf (eBin dNe (eCall bRepr (aCons (eFn sem_lengths_then [] (aCons (eLst (aCons (eVar 5) (aCons (eVar 6) (aCons (eVar 16) aNil)))) aNil)) aNil)) (eCall bRepr (aCons (eFn sem__law_then [] (aCons (eFn sem__law_then [] (aCons (eVar 5) (aCons (eVar 6) aNil))) (aCons (eVar 16) aNil))) aNil))))) (gRet (eC (.bl false))) gNext)
noncomputable def glb3_15 : G := gSeq (gFor (sSeq (eVar 15)) (pUnp 2 (psCons (pName 17) (psCons (pName 18) psNil))) (gAsg (eFn sem__law_then [] (aCons (eVar 16) (aCons (eIf (tOf (eBin (dOrd true) (eVar 18) (eC (.int 0)))) (eTup (aCons (eTup (aCons (eVar 17) (aCons (eVar 18) aNil))) aNil)) (eTup aNil)) aNil))) (pName 16))) glb3_16
noncomputable def glb3_14 : G := gSeq (gAsg (eTup aNil) (pName 16)) glb3_15
noncomputable def glb3_13 : G := gSeq (gAsg (eLc (sRng1 (aCons (eFn sem__law_pick [] (aCons (eVar 1) (aCons (eC (.int 6)) aNil))) aNil)) (pName 13) tYes' (eTup (aCons (eFn sem__law_pick [] (aCons (eVar 1) (aCons (eC (.int 4)) aNil))) (aCons (eFn sem__law_pick [] (aCons (eVar 1) (aCons (eC (.int 4)) aNil))) aNil))) [13]) (pName 15)) glb3_14
noncomputable def glb3_12 : G := gSeq (gIf (tOf (eBin dNe (eCall bRepr (aCons (eFn sem_length_behind [] (aCons (eVar 14) (aCons (eVar 12) aNil))) aNil)) (eCall bRepr (aCons (eVar 14) aNil)))) (gRet (eC (.bl false))) gNext) glb3_13
noncomputable def glb3_11 : G := gSeq (gIf (tAnd' (tOf (eBin dNe (eVar 5) (eTup aNil))) (tOr' (tNot' (tTr (eFn sem_is_below [] (aCons (eVar 12) (aCons (eVar 14) aNil))))) (tOf (eBin dIsNot (eFn sem_is_limit [] (aCons (eVar 14) aNil)) (eC (.bl true)))))) (gRet (eC (.bl false))) gNext) glb3_12
noncomputable def glb3_10 : G := gSeq (gIf (tOr' (tOf (eBin dNe (eCall bRepr (aCons (eFn sem_length_endless [] (aCons (eVar 5) aNil)) aNil)) (eCall bRepr (aCons (eVar 14) aNil)))) (tOf (eBin dNe (eCall bRepr (aCons (eFn sem_length_then [] (aCons (eVar 5) (aCons (eVar 14) aNil))) aNil)) (eCall bRepr (aCons (eVar 14) aNil))))) (gRet (eC (.bl false))) gNext) glb3_11
noncomputable def glb3_9 : G := gSeq (gAsg (eIf (tOf (eBin dNe (eVar 5) (eTup aNil))) (eTup (aCons (eTup (aCons (eBin dAdd (eBin dIx (eBin dIx (eVar 5) (eC (.int 0))) (eC (.int 0))) (eC (.int 1))) (aCons (eC (.int 1)) aNil))) aNil)) (eTup aNil)) (pName 14)) glb3_10
noncomputable def glb3_8 : G := gSeq (gIf (tOf (eBin dNe (eCall bRepr (aCons (eFn sem_length_taken [] (aCons (eVar 5) (aCons (eVar 11) aNil))) aNil)) (eCall bRepr (aCons (eVar 12) aNil)))) (gRet (eC (.bl false))) gNext) glb3_9
noncomputable def glb3_7 : G := gSeq (gFor (sRng1 (aCons (eVar 11) aNil)) (pName 13) (gAsg (eFn sem__law_then [] (aCons (eVar 12) (aCons (eVar 5) aNil))) (pName 12))) glb3_8
noncomputable def glb3_6 : G := gSeq (gPar 11 12 (aCons (eFn sem__law_pick [] (aCons (eVar 1) (aCons (eC (.int 6)) aNil))) (aCons (eTup aNil) aNil))) glb3_7
noncomputable def glb3_5 : G := gSeq (gFor (sSeq (eTup (aCons (eTup (aCons (eVar 5) (aCons (eVar 6) aNil))) (aCons (eTup (aCons (eVar 6) (aCons (eVar 5) aNil))) (aCons (eTup (aCons (eFn sem__law_then [] (aCons (eVar 5) (aCons (eVar 6) aNil))) (aCons (eVar 5) aNil))) aNil))))) (pUnp 2 (psCons (pName 8) (psCons (pName 9) psNil))) glb3_b5_0) glb3_6
noncomputable def glb3_4 : G := gSeq (gIf (tOr' (tOf (eBin dNe (eFn sem_is_below [] (aCons (eVar 5) (aCons (eVar 6) aNil))) (eBin (dOrd false) (eVar 7) (eC (.int 0))))) (tOf (eBin dNe (eFn sem_is_limit [] (aCons (eVar 5) aNil)) (eAnd (eBin dNe (eVar 5) (eTup aNil)) (eBin (dOrd true) (eBin dIx (eBin dIx (eVar 5) (eUn dNeg (eC (.int 1)))) (eC (.int 0))) (eC (.int 0))))))) (gRet (eC (.bl false))) gNext) glb3_5
noncomputable def glb3_3 : G := gSeq (gIf (tOr' (tOf (eBin dNe (eFn sem_lengths_compared [] (aCons (eVar 5) (aCons (eVar 6) aNil))) (eVar 7))) (tOf (eBin dNe (eFn sem_lengths_compared [] (aCons (eVar 6) (aCons (eVar 5) aNil))) (eBin dSub (eC (.int 0)) (eVar 7))))) (gRet (eC (.bl false))) gNext) glb3_4
noncomputable def glb3_2 : G := gSeq (gAsg (eFn sem__law_order [] (aCons (eVar 5) (aCons (eVar 6) aNil))) (pName 7)) glb3_3
noncomputable def glb3_1 : G := gSeq (gAsg (eIf (tOf (eBin (dOrd true) (eFn sem__law_pick [] (aCons (eVar 1) (aCons (eC (.int 3)) aNil))) (eC (.int 0)))) (eFn sem__law_near [] (aCons (eVar 1) (aCons (eVar 5) (aCons (eVar 3) aNil)))) (eFn sem__law_length [] (aCons (eVar 1) (aCons (eVar 3) aNil)))) (pName 6)) glb3_2
noncomputable def glb3_0 : G := gSeq (gAsg (eFn sem__law_length [] (aCons (eVar 1) (aCons (eVar 3) aNil))) (pName 5)) glb3_1
noncomputable def glb7_1 (tb : Nat → PySem.Addr) : G := (gIf (tOf (eBin dNe (eCall bRepr (aCons (eThk (tb 0) "law.<locals>.<lambda>" 1 thk__law_made (eFn sem_length_made [] (aCons (eVar 19) aNil))) aNil)) (eCall bRepr (aCons (eVar 12) aNil)))) (gRet (eC (.bl false))) gNext)
noncomputable def glb7_0 (tb : Nat → PySem.Addr) : G := gSeq (gAsg (eIf (tOf (eBin (dOrd false) (eVar 18) (eVar 2))) (eTup (aCons (eC (.str "told")) (aCons (eVar 19) aNil))) (eTup (aCons (eC (.str "great")) (aCons (eC (.int 1)) aNil)))) (pName 12)) (glb7_1 tb)
noncomputable def gl8 (tb : Nat → PySem.Addr) : G := (gRet (eBin dEq (eThk (tb 0) "law.<locals>.<lambda>" 1 thk__law_made (eFn sem_length_made [] (aCons (eTup aNil) aNil))) (eTup (aCons (eC (.str "told")) (aCons (eTup aNil) aNil)))))
noncomputable def gl7 (tb : Nat → PySem.Addr) : G := gSeq (gFor (sSeq (eTup (aCons (eTup (aCons (eTup (aCons (eC (.int 5)) (aCons (eC (.int 2)) aNil))) (aCons (eTup (aCons (eC (.int 0)) (aCons (eVar 18) aNil))) aNil))) (aCons (eTup (aCons (eTup (aCons (eVar 18) (aCons (eC (.int 1)) aNil))) aNil)) (aCons (eTup (aCons (eTup (aCons (eVar 18) (aCons (eC (.int 3)) aNil))) (aCons (eTup (aCons (eC (.int 2)) (aCons (eC (.int 1)) aNil))) aNil))) aNil))))) (pName 19) (glb7_0 tb)) (gl8 tb)
noncomputable def gl6 (tb : Nat → PySem.Addr) : G := gSeq (gIf (tOr' (tOf (eBin dNe (eCall bRepr (aCons (eThk (tb 0) "law.<locals>.<lambda>" 1 thk__law_made (eFn sem_not_long [] (aCons (eVar 18) aNil))) aNil)) (eCall bRepr (aCons (eVar 12) aNil)))) (tOf (eBin dNe (eFn sem_is_long [] (aCons (eVar 18) aNil)) (eBin dGe (eVar 18) (eVar 2))))) (gRet (eC (.bl false))) gNext) (gl7 tb)
noncomputable def gl5 (tb : Nat → PySem.Addr) : G := gSeq (gAsg (eIf (tOf (eBin (dOrd false) (eVar 18) (eVar 2))) (eTup (aCons (eC (.str "told")) (aCons (eVar 18) aNil))) (eTup (aCons (eC (.str "great")) (aCons (eC (.int 1)) aNil)))) (pName 12)) (gl6 tb)
noncomputable def gl4 (tb : Nat → PySem.Addr) : G := gSeq (gAsg (eBin dAdd (eBin dSub (eVar 2) (eC (.int 2))) (eFn sem__law_pick [] (aCons (eVar 1) (aCons (eC (.int 4)) aNil)))) (pName 18)) (gl5 tb)
noncomputable def gl3 (tb : Nat → PySem.Addr) : G := gSeq (gFor (sRng1 (aCons (eC (.int 8)) aNil)) (pName 4) glb3_0) (gl4 tb)
noncomputable def gl2 (tb : Nat → PySem.Addr) : G := gSeq (gAsg (eFn sem__law_of [] (aCons (eVar 1) (aCons (eLst (aCons (eC (.int 4)) (aCons (eC (.int 60)) (aCons (eBin dPow (eC (.int 10)) (eC (.int 40))) (aCons (eBin dSub (eVar 2) (eC (.int 1))) aNil))))) aNil))) (pName 3)) (gl3 tb)
noncomputable def gl1 (tb : Nat → PySem.Addr) : G := gSeq (gAsg (eCall bInt (aCons (eBin dAdd (eC (.str "1")) (eBin dMul (eC (.str "0")) (eC (.int 300)))) aNil)) (pName 2)) (gl2 tb)
noncomputable def gl0 (tb : Nat → PySem.Addr) : G := gSeq (gAsg (eFn sem__law_source [] (aCons (eVar 0) aNil)) (pName 1)) (gl1 tb)
theorem gleq (tb : Nat → PySem.Addr) : g_law tb = gl0 tb := rfl
end K08
set_option Elab.async false
set_option linter.all false
set_option maxRecDepth 100000
set_option maxHeartbeats 4000000
namespace K08
open MP ML
open PySem (sizeLine sizeLine_eq)
open PyProof.Rows (b2i)
section
variable {S : Store} {a b l : L} {X : Exc → Store → Prop} {Q : D → Store → Prop} {r c : Nat} {P : PySem.Addr} {s : D} {far : Int} {o4 o5 o6 o7 o8 o9 o10 o11 o12 o13 o14 o15 o16 o17 o18 o19 : Option D}
/-- the world of the law: the source, its table of code objects -/
structure Wd (P : PySem.Addr) (r c : Nat) (S : Store) : Prop where
  sc : Sc r c S
  hr : 2 ≤ r
  hc : 2 ≤ c
  tb : S[1]? = some (.tab P "law.<locals>.<lambda>")
theorem Wd.to {S' : Store} (h : Wd P r c S) (hs : Sc r c S') (kp : Kp r c S S') : Wd P r c S' := ⟨hs, h.hr, h.hc, kp.2 _ _ h.tb (by have := h.hr; omega) (by have := h.hc; omega)⟩
theorem Wd.ext {t : Store} (h : Wd P r c S) : Wd P r c (S ++ t) := h.to h.sc.ext .ext
structure Big (l : L) : Prop where
  ok : Ok l
  bd : Bd 60 (10 ^ 302) l
theorem Fit.bd (h : Fit l) : Bd 8 (2 * 10 ^ 300) l := ⟨h.len, fun x hx => Int.le_trans (h.sm x hx).1 (by decide), fun x hx => (h.sm x hx).2⟩
theorem Fit.big (h : Fit l) : Big l := ⟨h.ok, h.bd.mono (by decide) (by decide)⟩
theorem repr_big (h : Big l) : bRepr [lenD l] S = some (.str (lenP l).shown, S) := bRepr_len h.ok h.bd (by decide) (by decide)
theorem repr_oq {Q : D → Store → Prop} (h : Big l) (hq : Q (.str (lenP l).shown) S) : oq (bRepr [lenD l] S) Q := by
  rw [repr_big h]; exact hq
theorem bd_fold : ∀ {ps acc : L} {k : Nat} {K B : Int}, Ok acc → Bd k K acc → 0 ≤ K → 0 ≤ B → (∀ x ∈ ps, 0 ≤ x.1 ∧ x.1 ≤ 2 ^ 1000 ∧ x.2 ≤ B) → Bd (k + ps.length) (K + ps.length * B) (ps.foldl stepL acc)
  | [], acc, k, K, B, _, h, _, _, _ => h.mono (by simp) (by simp)
  | x :: ps, acc, k, K, B, ho, h, hK, hB, hx => by
    rw [List.foldl_cons]
    have h1 := hx x (List.mem_cons_self ..)
    have e : ((ps.length + 1 : Nat) : Int) * B = B + (ps.length : Nat) * B := by
      rw [Int.natCast_add, Int.add_mul]; omega
    rw [List.length_cons, e]
    have ho' : Ok (stepL acc x) := by
      unfold stepL
      split
      · rename_i h2; exact ok_then ho (Ok.one h1.1 h2)
      · exact ho
    have h' : Bd (k + 1) (K + B) (stepL acc x) := by
      unfold stepL
      split
      · rename_i h2
        exact bd_then ho (Ok.one h1.1 h2) hK h ⟨by simp, fun y hy => by rw [List.mem_singleton.mp hy]; exact h1.2.1, fun y hy => by rw [List.mem_singleton.mp hy]; exact h1.2.2⟩ hB
      · exact h.mono (by omega) (by omega)
    have := bd_fold ho' h' (by omega) hB fun y hy => hx y (List.mem_cons_of_mem _ hy)
    exact this.mono (by omega) (by omega)
theorem behind_bd : ∀ {w b : L} {n : Nat} {B : Int}, (∀ x ∈ b, 0 < x.2) → Bd n B w → Bd n B (behindL w b)
  | w, [], n, B, _, h => by
    have e : behindL w [] = w := by cases w <;> rfl
    rw [e]; exact h
  | [], y :: ys, n, B, _, h => h
  | x :: xs, y :: ys, n, B, hp, h => by
    rw [behindL]
    split
    · exact behind_bd (fun z hz => hp z (List.mem_cons_of_mem _ hz)) ⟨by have := h.len; simp at this; omega, fun z hz => h.pw z (List.mem_cons_of_mem _ hz), fun z hz => h.cf z (List.mem_cons_of_mem _ hz)⟩
    · have hy := hp y (List.mem_cons_self ..)
      have hx := h.cf x (List.mem_cons_self ..)
      refine ⟨by simpa using h.len, fun z hz => ?_, fun z hz => ?_⟩
      · rcases List.mem_cons.mp hz with rfl | hz
        · exact h.pw x (List.mem_cons_self ..)
        · exact h.pw z (List.mem_cons_of_mem _ hz)
      · rcases List.mem_cons.mp hz with rfl | hz
        · show (if x.1 = y.1 then x.2 - y.2 else x.2) ≤ B
          split <;> omega
        · exact h.cf z (List.mem_cons_of_mem _ hz)
def IB (P : PySem.Addr) (s : D) (r c : Nat) (far : Int) : Env → Store → Prop := fun ρ S => Wd P r c S ∧ ∃ o4 o5 o6 o7 o8 o9 o10 o11 o12 o13 o14 o15 o16 o17 o18 o19, ρ = [some s, some (.ref r), some (.int (10 ^ 300)), some (.int far), o4, o5, o6, o7, o8, o9, o10, o11, o12, o13, o14, o15, o16, o17, o18, o19]
def PB (P : PySem.Addr) (s : D) (r c : Nat) (far : Int) : Pst := ⟨IB P s r c far, fun _ _ => False, fun _ _ => False, fun _ _ => False, fun _ _ _ => False⟩
abbrev ev (s : D) (r : Nat) (far : Int) (o4 : Option D) (a b : L) (o7 o8 o9 o10 o11 o12 o13 o14 o15 o16 o17 o18 o19 : Option D) : Env := [some s, some (.ref r), some (.int (10 ^ 300)), some (.int far), o4, some (lenD a), some (lenD b), o7, o8, o9, o10, o11, o12, o13, o14, o15, o16, o17, o18, o19]
theorem PB_N {ρ : Env} (hw : Wd P r c S) (h : ∃ o4 o5 o6 o7 o8 o9 o10 o11 o12 o13 o14 o15 o16 o17 o18 o19, ρ = [some s, some (.ref r), some (.int (10 ^ 300)), some (.int far), o4, o5, o6, o7, o8, o9, o10, o11, o12, o13, o14, o15, o16, o17, o18, o19]) : (PB P s r c far).N ρ S := ⟨hw, h⟩
theorem b16 {q : Nat} {ps : L} (hw : Wd P r c S) (ha : Small a) (hb : Fit b) (h15 : S[q]? = some (.lst (ps.map pairD))) (hp : ∀ x ∈ ps, 0 ≤ x.1 ∧ x.1 ≤ 2 ^ 1000 ∧ x.2 ≤ 4) (hl : ps.length ≤ 6) :
    sp (glb3_16 (ev s r far o4 a b o7 o8 o9 o10 o11 o12 o13 o14 (some (.ref q)) (some (lenD (putL ps))) o17 o18 o19) S) (PB P s r c far) := by
  have hp0 : ∀ x ∈ ps, 0 ≤ x.1 := fun x hx => (hp x hx).1
  have hls : ps.length ≤ sizeLine := by rw [sizeLine_eq]; omega
  have bp := bd_fold (k := 0) (K := 0) (B := 4) Ok.nil ⟨by simp, by simp, by simp⟩ (by decide) (by decide) hp
  have okp := ok_put hp0
  have bp6 : Bd 6 24 (putL ps) := bp.mono (by omega) (by omega)
  have bigp : Big (putL ps) := ⟨okp, bp6.mono (by decide) (by decide)⟩
  have h3 : (0 + 1 + 1 + 1 : Nat) ≤ sizeLine := by rw [sizeLine_eq]; decide
  have la := ha.len
  have lb := hb.len
  have lp : (putL ps).length ≤ 6 := by have := bp.len; have e : putL ps = ps.foldl stepL [] := rfl; rw [e]; omega
  unfold glb3_16 ev
  simp only [sp_asg, sp_par, sp_par3, sp_if, sp_for, sp_ret, sp_retN, sp_next, sp_brk, sp_cont, sp_expr, wp_bin, wp_un, wp_c, wp_tOf, wp_tTr, wp_tAnd, wp_tOr, wp_tNot, wp_eAnd, wp_eOr, wp_eNot, wp_eIf, wp_aNil, wp_aCons, wp_eCall, wp_eFn, wp_eSl, wp_oNone, wp_oSome, wp_eMt, wp_eLst, wp_eTup, wp_ok, wp_tYes, oq_some, bq_bl, iq_int, uq_some, l2q_ok, l3q_ok, pName_eq, List.set_cons_zero, List.set_cons_succ, v0, v1, v2, v3, v4, v5, v6, v7, v8, v9, v10, v11, v12, v13, v14, v15, v16, v17, v18, v19, dAdd_int, dSub_int, dSub_bl, dNeg_int, bInt_int, dOrd_int, dGe_int, dLe_int, dIs_non, dIsNot_non, true_bl, isNon_ref, isNon_tup, isNon_non, isNon_int, Bool.false_eq_true, if_true, if_false, ite_true, ite_false, not_true, not_false_iff, Bool.not_true, Bool.not_false, Bool.not_not, decide_true, decide_false, List.append_nil, List.nil_append, List.length_cons, List.length_nil, reduceIte, reduceCtorEq]
  refine (length_told_pu (seqOf_lst h15) hp0 hls).wp fun t => ?_
  refine repr_oq bigp (repr_oq bigp ?_)
  simp only [sp_asg, sp_par, sp_par3, sp_if, sp_for, sp_ret, sp_retN, sp_next, sp_brk, sp_cont, sp_expr, wp_bin, wp_un, wp_c, wp_tOf, wp_tTr, wp_tAnd, wp_tOr, wp_tNot, wp_eAnd, wp_eOr, wp_eNot, wp_eIf, wp_aNil, wp_aCons, wp_eCall, wp_eFn, wp_eSl, wp_oNone, wp_oSome, wp_eMt, wp_eLst, wp_eTup, wp_ok, wp_tYes, oq_some, bq_bl, iq_int, uq_some, l2q_ok, l3q_ok, pName_eq, List.set_cons_zero, List.set_cons_succ, v0, v1, v2, v3, v4, v5, v6, v7, v8, v9, v10, v11, v12, v13, v14, v15, v16, v17, v18, v19, dAdd_int, dSub_int, dSub_bl, dNeg_int, bInt_int, dOrd_int, dGe_int, dLe_int, dIs_non, dIsNot_non, true_bl, isNon_ref, isNon_tup, isNon_non, isNon_int, Bool.false_eq_true, if_true, if_false, ite_true, ite_false, not_true, not_false_iff, Bool.not_true, Bool.not_false, Bool.not_not, decide_true, decide_false, List.append_nil, List.nil_append, List.length_cons, List.length_nil, reduceIte, reduceCtorEq, dNe_repr]
  refine ⟨h3, ?_⟩
  refine (lengths_then_pu (ls := [a, b, putL ps]) (seqOf_lst at_last) (by simp [ha.ok, hb.ok, okp]) (by simp [tot]; rw [sizeLine_eq]; omega)).wp fun t2 => ?_
  have e : [a, b, putL ps].foldl thenL [] = thenL (thenL a b) (putL ps) := by
    show thenL (thenL (thenL [] a) b) (putL ps) = _
    rw [nil_then]
  have okab := ok_then ha.ok hb.ok
  have bdab : Bd 16 (4 * 10 ^ 300) (thenL a b) := (bd_then ha.ok hb.ok (by decide) ha.fit.bd hb.bd (by decide)).mono (by decide) (by decide)
  have big3 : Big (thenL (thenL a b) (putL ps)) := ⟨ok_then okab okp, (bd_then okab okp (by decide) bdab bp6 (by decide)).mono (by decide) (by decide)⟩
  rw [e]
  refine repr_oq big3 ?_
  have lab : (thenL a b).length ≤ 14 := by have := then_len (a := a) (b := b); omega
  refine lthen_wp (by omega) fun t3 => lthen_wp (by omega) fun t4 => ?_
  refine repr_oq big3 ?_
  simp only [sp_asg, sp_par, sp_par3, sp_if, sp_for, sp_ret, sp_retN, sp_next, sp_brk, sp_cont, sp_expr, wp_bin, wp_un, wp_c, wp_tOf, wp_tTr, wp_tAnd, wp_tOr, wp_tNot, wp_eAnd, wp_eOr, wp_eNot, wp_eIf, wp_aNil, wp_aCons, wp_eCall, wp_eFn, wp_eSl, wp_oNone, wp_oSome, wp_eMt, wp_eLst, wp_eTup, wp_ok, wp_tYes, oq_some, bq_bl, iq_int, uq_some, l2q_ok, l3q_ok, pName_eq, List.set_cons_zero, List.set_cons_succ, v0, v1, v2, v3, v4, v5, v6, v7, v8, v9, v10, v11, v12, v13, v14, v15, v16, v17, v18, v19, dAdd_int, dSub_int, dSub_bl, dNeg_int, bInt_int, dOrd_int, dGe_int, dLe_int, dIs_non, dIsNot_non, true_bl, isNon_ref, isNon_tup, isNon_non, isNon_int, Bool.false_eq_true, if_true, if_false, ite_true, ite_false, not_true, not_false_iff, Bool.not_true, Bool.not_false, Bool.not_not, decide_true, decide_false, List.append_nil, List.nil_append, List.length_cons, List.length_nil, reduceIte, reduceCtorEq, dNe_repr]
  exact PB_N hw.ext.ext.ext.ext.ext ⟨_, _, _, _, _, _, _, _, _, _, _, _, _, _, _, _, rfl⟩
end
end K08
set_option Elab.async false
set_option linter.all false
set_option maxRecDepth 100000
set_option maxHeartbeats 4000000
namespace K08
open MP ML
open PySem (sizeLine sizeLine_eq)
open PyProof.Rows (b2i)
section
variable {S : Store} {a b l : L} {X : Exc → Store → Prop} {Q : D → Store → Prop} {r c : Nat} {P : PySem.Addr} {s : D} {far : Int} {o4 o5 o6 o7 o8 o9 o10 o11 o12 o13 o14 o15 o16 o17 o18 o19 : Option D}
theorem b15 {q : Nat} {ps : L} (hw : Wd P r c S) (ha : Small a) (hb : Fit b) (h15 : S[q]? = some (.lst (ps.map pairD))) (hp : ∀ x ∈ ps, 0 ≤ x.1 ∧ x.1 ≤ 2 ^ 1000 ∧ x.2 ≤ 4) (hl : ps.length ≤ 6) :
    sp (glb3_15 (ev s r far o4 a b o7 o8 o9 o10 o11 o12 o13 o14 (some (.ref q)) (some (lenD [])) o17 o18 o19) S) (PB P s r c far) := by
  unfold glb3_15 ev
  refine sp_seq.mpr ?_
  rw [sp_for]
  refine sSeq_lst ?_
  simp only [sp_asg, sp_par, sp_par3, sp_if, sp_for, sp_ret, sp_retN, sp_next, sp_brk, sp_cont, sp_expr, wp_bin, wp_un, wp_c, wp_tOf, wp_tTr, wp_tAnd, wp_tOr, wp_tNot, wp_eAnd, wp_eOr, wp_eNot, wp_eIf, wp_aNil, wp_aCons, wp_eCall, wp_eFn, wp_eSl, wp_oNone, wp_oSome, wp_eMt, wp_eLst, wp_eTup, wp_ok, wp_tYes, oq_some, bq_bl, iq_int, uq_some, l2q_ok, l3q_ok, pName_eq, List.set_cons_zero, List.set_cons_succ, v0, v1, v2, v3, v4, v5, v6, v7, v8, v9, v10, v11, v12, v13, v14, v15, v16, v17, v18, v19, dAdd_int, dSub_int, dSub_bl, dNeg_int, bInt_int, dOrd_int, dGe_int, dLe_int, dIs_non, dIsNot_non, true_bl, isNon_ref, isNon_tup, isNon_non, isNon_int, Bool.false_eq_true, if_true, if_false, ite_true, ite_false, not_true, not_false_iff, Bool.not_true, Bool.not_false, Bool.not_not, decide_true, decide_false, List.append_nil, List.nil_append, List.length_cons, List.length_nil, reduceIte, reduceCtorEq]
  refine ⟨q, _, rfl, h15, ?_⟩
  refine for_over (fun rest ρ S' => ∃ t acc o17 o18, S' = S ++ t ∧ Ok acc ∧ (∀ x ∈ rest, 0 ≤ x.1) ∧ acc.length + rest.length ≤ 6 ∧ rest.foldl stepL acc = putL ps ∧ ρ = ev s r far o4 a b o7 o8 o9 o10 o11 o12 o13 o14 (some (.ref q)) (some (lenD acc)) o17 o18 o19) (fun x rest ρ S' h => ?_) (fun ρ S' h => ?_) ⟨[], [], o17, o18, by simp, Ok.nil, fun x hx => (hp x hx).1, by simpa using hl, rfl, rfl⟩
  · obtain ⟨t, acc, o17, o18, rfl, h1, h2, h3, h4, rfl⟩ := h
    refine ⟨.inl (at_ext h15), ?_⟩
    obtain ⟨p, m⟩ := x
    rw [unp_pair, List.foldl_cons] at *
    have h3' : acc.length + (rest.length + 1) ≤ 6 := h3
    have h2' : ∀ x ∈ rest, 0 ≤ x.1 := fun x hx => h2 x (List.mem_cons_of_mem _ hx)
    unfold ev
    simp only [sp_asg, sp_par, sp_par3, sp_if, sp_for, sp_ret, sp_retN, sp_next, sp_brk, sp_cont, sp_expr, wp_bin, wp_un, wp_c, wp_tOf, wp_tTr, wp_tAnd, wp_tOr, wp_tNot, wp_eAnd, wp_eOr, wp_eNot, wp_eIf, wp_aNil, wp_aCons, wp_eCall, wp_eFn, wp_eSl, wp_oNone, wp_oSome, wp_eMt, wp_eLst, wp_eTup, wp_ok, wp_tYes, oq_some, bq_bl, iq_int, uq_some, l2q_ok, l3q_ok, pName_eq, List.set_cons_zero, List.set_cons_succ, v0, v1, v2, v3, v4, v5, v6, v7, v8, v9, v10, v11, v12, v13, v14, v15, v16, v17, v18, v19, dAdd_int, dSub_int, dSub_bl, dNeg_int, bInt_int, dOrd_int, dGe_int, dLe_int, dIs_non, dIsNot_non, true_bl, isNon_ref, isNon_tup, isNon_non, isNon_int, Bool.false_eq_true, if_true, if_false, ite_true, ite_false, not_true, not_false_iff, Bool.not_true, Bool.not_false, Bool.not_not, decide_true, decide_false, List.append_nil, List.nil_append, List.length_cons, List.length_nil, reduceIte, reduceCtorEq, decide_eq_true_eq]
    by_cases hm : 0 < m
    · rw [if_pos hm]
      refine ⟨two_le, one_le, ?_⟩
      have hok2 : Ok (stepL acc (p, m)) := by
        unfold stepL; rw [if_pos hm]; exact ok_then h1 (Ok.one (h2 _ (List.mem_cons_self ..)) hm)
      have e : stepL acc (p, m) = thenL acc [(p, m)] := if_pos hm
      rw [e] at h4 hok2
      have hlen := then_len (a := acc) (b := [(p, m)])
      simp only [List.length_cons, List.length_nil] at hlen
      rw [show D.tup [D.tup [D.int p, D.int m]] = lenD [(p, m)] from rfl]
      refine lthen_wp (by simp; omega) fun t2 => ?_
      exact ⟨t ++ t2, _, _, _, List.append_assoc .., hok2, h2', by omega, h4, rfl⟩
    · rw [if_neg hm]
      refine ⟨Nat.zero_le _, ?_⟩
      have e : stepL acc (p, m) = acc := if_neg hm
      rw [e] at h4
      rw [show D.tup [] = lenD [] from rfl]
      refine lthen_wp (by simp; omega) fun t2 => ?_
      exact ⟨t ++ t2, acc, _, _, List.append_assoc .., h1, h2', by omega, h4, rfl⟩
  · obtain ⟨t, acc, o17, o18, rfl, h1, h2, h3, h4, rfl⟩ := h
    refine ⟨.inl (at_ext h15), ?_⟩
    have e : acc = putL ps := h4
    rw [e]
    exact b16 hw.ext ha hb (at_ext h15) hp hl
theorem b13 (hw : Wd P r c S) (ha : Small a) (hb : Fit b) : sp (glb3_13 (ev s r far o4 a b o7 o8 o9 o10 o11 o12 o13 o14 o15 o16 o17 o18 o19) S) (PB P s r c far) := by
  unfold glb3_13 ev
  refine sp_seq.mpr ?_
  rw [sp_asg]
  refine wp_eLc (wp_sRng1 ?_)
  simp only [sp_asg, sp_par, sp_par3, sp_if, sp_for, sp_ret, sp_retN, sp_next, sp_brk, sp_cont, sp_expr, wp_bin, wp_un, wp_c, wp_tOf, wp_tTr, wp_tAnd, wp_tOr, wp_tNot, wp_eAnd, wp_eOr, wp_eNot, wp_eIf, wp_aNil, wp_aCons, wp_eCall, wp_eFn, wp_eSl, wp_oNone, wp_oSome, wp_eMt, wp_eLst, wp_eTup, wp_ok, wp_tYes, oq_some, bq_bl, iq_int, uq_some, l2q_ok, l3q_ok, pName_eq, List.set_cons_zero, List.set_cons_succ, v0, v1, v2, v3, v4, v5, v6, v7, v8, v9, v10, v11, v12, v13, v14, v15, v16, v17, v18, v19, dAdd_int, dSub_int, dSub_bl, dNeg_int, bInt_int, dOrd_int, dGe_int, dLe_int, dIs_non, dIsNot_non, true_bl, isNon_ref, isNon_tup, isNon_non, isNon_int, Bool.false_eq_true, if_true, if_false, ite_true, ite_false, not_true, not_false_iff, Bool.not_true, Bool.not_false, Bool.not_not, decide_true, decide_false, List.append_nil, List.nil_append, List.length_cons, List.length_nil, reduceIte, reduceCtorEq]
  refine pick2 (by decide) (by decide) hw.sc fun k S1 k0 k1 hs1 kp1 => ?_
  refine ⟨k, rfl, by omega, by omega, by simp [rangeD]; rw [sizeLine_eq]; omega, ?_⟩
  have hw1 := hw.to hs1 kp1
  refine wp_mono (wp_lcS (X := fun _ _ => False) (fun items acc S' => Wd P r c S' ∧ items.length + acc.length ≤ 6 ∧ ∃ ps : L, acc = ps.map pairD ∧ ∀ x ∈ ps, 0 ≤ x.1 ∧ x.1 ≤ 2 ^ 1000 ∧ x.2 ≤ 4) (Q := fun acc S' => Wd P r c S' ∧ acc.length ≤ 6 ∧ ∃ ps : L, acc = ps.map pairD ∧ ∀ x ∈ ps, 0 ≤ x.1 ∧ x.1 ≤ 2 ^ 1000 ∧ x.2 ≤ 4) (fun x items acc S' h => ?_) (fun acc S' h => ?_) (acc := []) ⟨hw1, ?_, [], rfl, by simp⟩) (fun acc S' h => ?_) (fun _ _ h => h.elim)
  · obtain ⟨hw', hl, ps, rfl, hp⟩ := h
    refine ⟨trivial, ?_⟩
    simp only [sp_asg, sp_par, sp_par3, sp_if, sp_for, sp_ret, sp_retN, sp_next, sp_brk, sp_cont, sp_expr, wp_bin, wp_un, wp_c, wp_tOf, wp_tTr, wp_tAnd, wp_tOr, wp_tNot, wp_eAnd, wp_eOr, wp_eNot, wp_eIf, wp_aNil, wp_aCons, wp_eCall, wp_eFn, wp_eSl, wp_oNone, wp_oSome, wp_eMt, wp_eLst, wp_eTup, wp_ok, wp_tYes, oq_some, bq_bl, iq_int, uq_some, l2q_ok, l3q_ok, pName_eq, List.set_cons_zero, List.set_cons_succ, v0, v1, v2, v3, v4, v5, v6, v7, v8, v9, v10, v11, v12, v13, v14, v15, v16, v17, v18, v19, dAdd_int, dSub_int, dSub_bl, dNeg_int, bInt_int, dOrd_int, dGe_int, dLe_int, dIs_non, dIsNot_non, true_bl, isNon_ref, isNon_tup, isNon_non, isNon_int, Bool.false_eq_true, if_true, if_false, ite_true, ite_false, not_true, not_false_iff, Bool.not_true, Bool.not_false, Bool.not_not, decide_true, decide_false, List.append_nil, List.nil_append, List.length_cons, List.length_nil, reduceIte, reduceCtorEq, wipeE]
    refine pick2 (by decide) (by decide) hw'.sc fun i S2 i0 i1 hs2 kp2 => ?_
    refine pick2 (by decide) (by decide) hs2 fun j S3 j0 j1 hs3 kp3 => ?_
    refine ⟨two_le, (hw'.to hs2 kp2).to hs3 kp3, by simp only [List.length_cons] at hl; simp at hl ⊢; omega, ps ++ [(i, j)], by simp [MP.pairD], fun x hx => ?_⟩
    rcases List.mem_append.mp hx with hx | hx
    · exact hp x hx
    · rw [List.mem_singleton.mp hx]
      exact ⟨i0, Int.le_trans (show i ≤ 4 by omega) (by decide), show j ≤ 4 by omega⟩
  · obtain ⟨hw', hl, ps, rfl, hp⟩ := h
    exact ⟨trivial, hw', by simpa using hl, ps, rfl, hp⟩
  · simp [rangeD]; omega
  · obtain ⟨hw', hl, ps, h, hp⟩ := h
    rw [List.nil_append] at h hl
    subst h
    unfold glb3_14
    refine sp_seq.mpr ?_
    simp only [sp_asg, sp_par, sp_par3, sp_if, sp_for, sp_ret, sp_retN, sp_next, sp_brk, sp_cont, sp_expr, wp_bin, wp_un, wp_c, wp_tOf, wp_tTr, wp_tAnd, wp_tOr, wp_tNot, wp_eAnd, wp_eOr, wp_eNot, wp_eIf, wp_aNil, wp_aCons, wp_eCall, wp_eFn, wp_eSl, wp_oNone, wp_oSome, wp_eMt, wp_eLst, wp_eTup, wp_ok, wp_tYes, oq_some, bq_bl, iq_int, uq_some, l2q_ok, l3q_ok, pName_eq, List.set_cons_zero, List.set_cons_succ, v0, v1, v2, v3, v4, v5, v6, v7, v8, v9, v10, v11, v12, v13, v14, v15, v16, v17, v18, v19, dAdd_int, dSub_int, dSub_bl, dNeg_int, bInt_int, dOrd_int, dGe_int, dLe_int, dIs_non, dIsNot_non, true_bl, isNon_ref, isNon_tup, isNon_non, isNon_int, Bool.false_eq_true, if_true, if_false, ite_true, ite_false, not_true, not_false_iff, Bool.not_true, Bool.not_false, Bool.not_not, decide_true, decide_false, List.append_nil, List.nil_append, List.length_cons, List.length_nil, reduceIte, reduceCtorEq, Nat.zero_le, true_and]
    exact b15 hw'.ext ha hb at_last hp (by simpa using hl)
/-! ### endless -/
theorem endless_taken {n : Int} (h : Ok a) (hn : 0 ≤ n) : thenL (takenL a n) (endlessL a) = endlessL a := by
  have ht := ok_taken h hn
  cases a with
  | nil => rfl
  | cons x t =>
    by_cases h0 : n = 0
    · subst h0
      show thenL (takenL (x :: t) 0) _ = _
      rw [show takenL (x :: t) 0 = [] from by simp [takenL]]
      rw [nil_then]
    · have e : endlessL (takenL (x :: t) n) = endlessL (x :: t) := by
        simp [takenL, h0, endlessL]
      rw [← e]
      exact then_endless ht
theorem behind_endless {n : Int} (h : Ok a) (hn : 0 ≤ n) : behD (endlessL a) (takenL a n) = lenD (endlessL a) := by
  have e := endless_taken h hn
  have ht := ok_taken h hn
  have he := ok_endless h
  have h1 := ord_then_ne ht he
  have h2 := behind_then ht he
  rw [e] at h1 h2
  unfold behD
  rw [if_neg h1, h2]
theorem big_endless (h : Small a) : Big (endlessL a) := by
  refine ⟨ok_endless h.ok, ?_⟩
  cases a with
  | nil => exact ⟨by simp [endlessL], by simp [endlessL], by simp [endlessL]⟩
  | cons x t =>
    have hx := h.sm x (List.mem_cons_self ..)
    refine ⟨by simp [endlessL], fun y hy => ?_, fun y hy => ?_⟩
    · have : y = (x.1 + 1, 1) := by simpa [endlessL] using hy
      rw [this]
      exact Int.le_trans (show x.1 + 1 ≤ 10 ^ 300 + 1 by omega) (by decide)
    · have : y = (x.1 + 1, 1) := by simpa [endlessL] using hy
      rw [this]
      show (1 : Int) ≤ 10 ^ 302
      decide
theorem big_taken {n : Int} (h : Small a) (h0 : 0 ≤ n) (h1 : n ≤ 5) : Big (takenL a n) := by
  refine ⟨ok_taken h.ok h0, ?_⟩
  cases a with
  | nil => exact ⟨by simp [takenL], by simp [takenL], by simp [takenL]⟩
  | cons x t =>
    have hl := h.len
    have hx := h.sm x (List.mem_cons_self ..)
    have hx0 := h.ok.head
    have hb := h.fit.bd
    unfold takenL
    simp only
    split
    · exact ⟨by simp, by simp, by simp⟩
    · refine ⟨by simp at hl ⊢; omega, fun y hy => ?_, fun y hy => ?_⟩
      · rcases List.mem_cons.mp hy with rfl | hy
        · exact hb.pw x (List.mem_cons_self ..)
        · exact hb.pw y (List.mem_cons_of_mem _ hy)
      · rcases List.mem_cons.mp hy with rfl | hy
        · show x.2 * n ≤ 10 ^ 302
          have h2 : x.2 * n ≤ x.2 * 5 := Int.mul_le_mul_of_nonneg_left h1 (by omega)
          exact Int.le_trans h2 (Int.le_trans (show x.2 * 5 ≤ 5 * 10 ^ 300 by omega) (by decide))
        · exact Int.le_trans (hb.cf y (List.mem_cons_of_mem _ hy)) (by decide)
theorem taken_len {n : Int} : (takenL a n).length ≤ a.length := by
  cases a with
  | nil => exact Nat.le_refl _
  | cons x t =>
    unfold takenL
    simp only
    split
    · exact Nat.zero_le _
    · exact Nat.le_refl _
theorem endless_len : (endlessL a).length ≤ 1 := by
  cases a with
  | nil => exact Nat.zero_le _
  | cons x t => exact Nat.le_refl _
theorem b12 {n : Int} (hw : Wd P r c S) (ha : Small a) (hb : Fit b) (n0 : 0 ≤ n) (n1 : n ≤ 5) : sp (glb3_12 (ev s r far o4 a b o7 o8 o9 o10 (some (.int n)) (some (lenD (takenL a n))) o13 (some (lenD (endlessL a))) o15 o16 o17 o18 o19) S) (PB P s r c far) := by
  unfold glb3_12 ev
  refine sp_seq.mpr ?_
  simp only [sp_asg, sp_par, sp_par3, sp_if, sp_for, sp_ret, sp_retN, sp_next, sp_brk, sp_cont, sp_expr, wp_bin, wp_un, wp_c, wp_tOf, wp_tTr, wp_tAnd, wp_tOr, wp_tNot, wp_eAnd, wp_eOr, wp_eNot, wp_eIf, wp_aNil, wp_aCons, wp_eCall, wp_eFn, wp_eSl, wp_oNone, wp_oSome, wp_eMt, wp_eLst, wp_eTup, wp_ok, wp_tYes, oq_some, bq_bl, iq_int, uq_some, l2q_ok, l3q_ok, pName_eq, List.set_cons_zero, List.set_cons_succ, v0, v1, v2, v3, v4, v5, v6, v7, v8, v9, v10, v11, v12, v13, v14, v15, v16, v17, v18, v19, dAdd_int, dSub_int, dSub_bl, dNeg_int, bInt_int, dOrd_int, dGe_int, dLe_int, dIs_non, dIsNot_non, true_bl, isNon_ref, isNon_tup, isNon_non, isNon_int, Bool.false_eq_true, if_true, if_false, ite_true, ite_false, not_true, not_false_iff, Bool.not_true, Bool.not_false, Bool.not_not, decide_true, decide_false, List.append_nil, List.nil_append, List.length_cons, List.length_nil, reduceIte, reduceCtorEq]
  refine behind_wp (by have := endless_len (a := a); omega) ?_
  rw [behind_endless ha.ok n0]
  refine repr_oq (big_endless ha) (repr_oq (big_endless ha) ?_)
  simp only [sp_asg, sp_par, sp_par3, sp_if, sp_for, sp_ret, sp_retN, sp_next, sp_brk, sp_cont, sp_expr, wp_bin, wp_un, wp_c, wp_tOf, wp_tTr, wp_tAnd, wp_tOr, wp_tNot, wp_eAnd, wp_eOr, wp_eNot, wp_eIf, wp_aNil, wp_aCons, wp_eCall, wp_eFn, wp_eSl, wp_oNone, wp_oSome, wp_eMt, wp_eLst, wp_eTup, wp_ok, wp_tYes, oq_some, bq_bl, iq_int, uq_some, l2q_ok, l3q_ok, pName_eq, List.set_cons_zero, List.set_cons_succ, v0, v1, v2, v3, v4, v5, v6, v7, v8, v9, v10, v11, v12, v13, v14, v15, v16, v17, v18, v19, dAdd_int, dSub_int, dSub_bl, dNeg_int, bInt_int, dOrd_int, dGe_int, dLe_int, dIs_non, dIsNot_non, true_bl, isNon_ref, isNon_tup, isNon_non, isNon_int, Bool.false_eq_true, if_true, if_false, ite_true, ite_false, not_true, not_false_iff, Bool.not_true, Bool.not_false, Bool.not_not, decide_true, decide_false, List.append_nil, List.nil_append, List.length_cons, List.length_nil, reduceIte, reduceCtorEq, dNe_repr]
  exact b13 hw ha hb
theorem below_endless {n : Int} (h0 : a ≠ []) : ordL (takenL a n) (endlessL a) = -1 := by
  by_cases hn : n = 0
  · subst hn
    cases a with
    | nil => exact absurd rfl h0
    | cons x t => simp [takenL, endlessL, ordL]
  · exact taken_below h0 hn
theorem limit_endless (h : Ok a) (h0 : a ≠ []) : limitB (endlessL a) = true := by
  cases a with
  | nil => exact absurd rfl h0
  | cons x t =>
    have := h.head.1
    simp [endlessL, limitB]
    omega
theorem b11 {n : Int} (hw : Wd P r c S) (ha : Small a) (hb : Fit b) (n0 : 0 ≤ n) (n1 : n ≤ 5) : sp (glb3_11 (ev s r far o4 a b o7 o8 o9 o10 (some (.int n)) (some (lenD (takenL a n))) o13 (some (lenD (endlessL a))) o15 o16 o17 o18 o19) S) (PB P s r c far) := by
  unfold glb3_11 ev
  refine sp_seq.mpr ?_
  simp only [sp_asg, sp_par, sp_par3, sp_if, sp_for, sp_ret, sp_retN, sp_next, sp_brk, sp_cont, sp_expr, wp_bin, wp_un, wp_c, wp_tOf, wp_tTr, wp_tAnd, wp_tOr, wp_tNot, wp_eAnd, wp_eOr, wp_eNot, wp_eIf, wp_aNil, wp_aCons, wp_eCall, wp_eFn, wp_eSl, wp_oNone, wp_oSome, wp_eMt, wp_eLst, wp_eTup, wp_ok, wp_tYes, oq_some, bq_bl, iq_int, uq_some, l2q_ok, l3q_ok, pName_eq, List.set_cons_zero, List.set_cons_succ, v0, v1, v2, v3, v4, v5, v6, v7, v8, v9, v10, v11, v12, v13, v14, v15, v16, v17, v18, v19, dAdd_int, dSub_int, dSub_bl, dNeg_int, bInt_int, dOrd_int, dGe_int, dLe_int, dIs_non, dIsNot_non, true_bl, isNon_ref, isNon_tup, isNon_non, isNon_int, Bool.false_eq_true, if_true, if_false, ite_true, ite_false, not_true, not_false_iff, Bool.not_true, Bool.not_false, Bool.not_not, decide_true, decide_false, List.append_nil, List.nil_append, List.length_cons, List.length_nil, reduceIte, reduceCtorEq, Nat.zero_le, true_and, dNe_len0, Bool.not_eq_true', decide_eq_false_iff_not]
  by_cases h0 : a = []
  · rw [if_neg (fun h => h h0)]
    exact b12 hw ha hb n0 n1
  · rw [if_pos h0]
    refine below_ok ?_
    rw [below_endless h0]
    simp only [sp_asg, sp_par, sp_par3, sp_if, sp_for, sp_ret, sp_retN, sp_next, sp_brk, sp_cont, sp_expr, wp_bin, wp_un, wp_c, wp_tOf, wp_tTr, wp_tAnd, wp_tOr, wp_tNot, wp_eAnd, wp_eOr, wp_eNot, wp_eIf, wp_aNil, wp_aCons, wp_eCall, wp_eFn, wp_eSl, wp_oNone, wp_oSome, wp_eMt, wp_eLst, wp_eTup, wp_ok, wp_tYes, oq_some, bq_bl, iq_int, uq_some, l2q_ok, l3q_ok, pName_eq, List.set_cons_zero, List.set_cons_succ, v0, v1, v2, v3, v4, v5, v6, v7, v8, v9, v10, v11, v12, v13, v14, v15, v16, v17, v18, v19, dAdd_int, dSub_int, dSub_bl, dNeg_int, bInt_int, dOrd_int, dGe_int, dLe_int, dIs_non, dIsNot_non, true_bl, isNon_ref, isNon_tup, isNon_non, isNon_int, Bool.false_eq_true, if_true, if_false, ite_true, ite_false, not_true, not_false_iff, Bool.not_true, Bool.not_false, Bool.not_not, decide_true, decide_false, List.append_nil, List.nil_append, List.length_cons, List.length_nil, reduceIte, reduceCtorEq]
    refine limit_wp ?_
    rw [limit_endless ha.ok h0]
    exact b12 hw ha hb n0 n1
theorem b10 {n : Int} (hw : Wd P r c S) (ha : Small a) (hb : Fit b) (n0 : 0 ≤ n) (n1 : n ≤ 5) : sp (glb3_10 (ev s r far o4 a b o7 o8 o9 o10 (some (.int n)) (some (lenD (takenL a n))) o13 (some (lenD (endlessL a))) o15 o16 o17 o18 o19) S) (PB P s r c far) := by
  have la := ha.len
  have le := endless_len (a := a)
  unfold glb3_10 ev
  refine sp_seq.mpr ?_
  simp only [sp_asg, sp_par, sp_par3, sp_if, sp_for, sp_ret, sp_retN, sp_next, sp_brk, sp_cont, sp_expr, wp_bin, wp_un, wp_c, wp_tOf, wp_tTr, wp_tAnd, wp_tOr, wp_tNot, wp_eAnd, wp_eOr, wp_eNot, wp_eIf, wp_aNil, wp_aCons, wp_eCall, wp_eFn, wp_eSl, wp_oNone, wp_oSome, wp_eMt, wp_eLst, wp_eTup, wp_ok, wp_tYes, oq_some, bq_bl, iq_int, uq_some, l2q_ok, l3q_ok, pName_eq, List.set_cons_zero, List.set_cons_succ, v0, v1, v2, v3, v4, v5, v6, v7, v8, v9, v10, v11, v12, v13, v14, v15, v16, v17, v18, v19, dAdd_int, dSub_int, dSub_bl, dNeg_int, bInt_int, dOrd_int, dGe_int, dLe_int, dIs_non, dIsNot_non, true_bl, isNon_ref, isNon_tup, isNon_non, isNon_int, Bool.false_eq_true, if_true, if_false, ite_true, ite_false, not_true, not_false_iff, Bool.not_true, Bool.not_false, Bool.not_not, decide_true, decide_false, List.append_nil, List.nil_append, List.length_cons, List.length_nil, reduceIte, reduceCtorEq]
  refine endless_wp ?_
  refine repr_oq (big_endless ha) (repr_oq (big_endless ha) ?_)
  simp only [sp_asg, sp_par, sp_par3, sp_if, sp_for, sp_ret, sp_retN, sp_next, sp_brk, sp_cont, sp_expr, wp_bin, wp_un, wp_c, wp_tOf, wp_tTr, wp_tAnd, wp_tOr, wp_tNot, wp_eAnd, wp_eOr, wp_eNot, wp_eIf, wp_aNil, wp_aCons, wp_eCall, wp_eFn, wp_eSl, wp_oNone, wp_oSome, wp_eMt, wp_eLst, wp_eTup, wp_ok, wp_tYes, oq_some, bq_bl, iq_int, uq_some, l2q_ok, l3q_ok, pName_eq, List.set_cons_zero, List.set_cons_succ, v0, v1, v2, v3, v4, v5, v6, v7, v8, v9, v10, v11, v12, v13, v14, v15, v16, v17, v18, v19, dAdd_int, dSub_int, dSub_bl, dNeg_int, bInt_int, dOrd_int, dGe_int, dLe_int, dIs_non, dIsNot_non, true_bl, isNon_ref, isNon_tup, isNon_non, isNon_int, Bool.false_eq_true, if_true, if_false, ite_true, ite_false, not_true, not_false_iff, Bool.not_true, Bool.not_false, Bool.not_not, decide_true, decide_false, List.append_nil, List.nil_append, List.length_cons, List.length_nil, reduceIte, reduceCtorEq, dNe_repr]
  refine then_ok ha.ok (ok_endless ha.ok) (by rw [sizeLine_eq]; omega) fun t => ?_
  rw [then_endless ha.ok]
  refine repr_oq (big_endless ha) (repr_oq (big_endless ha) ?_)
  simp only [sp_asg, sp_par, sp_par3, sp_if, sp_for, sp_ret, sp_retN, sp_next, sp_brk, sp_cont, sp_expr, wp_bin, wp_un, wp_c, wp_tOf, wp_tTr, wp_tAnd, wp_tOr, wp_tNot, wp_eAnd, wp_eOr, wp_eNot, wp_eIf, wp_aNil, wp_aCons, wp_eCall, wp_eFn, wp_eSl, wp_oNone, wp_oSome, wp_eMt, wp_eLst, wp_eTup, wp_ok, wp_tYes, oq_some, bq_bl, iq_int, uq_some, l2q_ok, l3q_ok, pName_eq, List.set_cons_zero, List.set_cons_succ, v0, v1, v2, v3, v4, v5, v6, v7, v8, v9, v10, v11, v12, v13, v14, v15, v16, v17, v18, v19, dAdd_int, dSub_int, dSub_bl, dNeg_int, bInt_int, dOrd_int, dGe_int, dLe_int, dIs_non, dIsNot_non, true_bl, isNon_ref, isNon_tup, isNon_non, isNon_int, Bool.false_eq_true, if_true, if_false, ite_true, ite_false, not_true, not_false_iff, Bool.not_true, Bool.not_false, Bool.not_not, decide_true, decide_false, List.append_nil, List.nil_append, List.length_cons, List.length_nil, reduceIte, reduceCtorEq, dNe_repr]
  exact b11 hw.ext ha hb n0 n1
theorem b9 {n : Int} (hw : Wd P r c S) (ha : Small a) (hb : Fit b) (n0 : 0 ≤ n) (n1 : n ≤ 5) : sp (glb3_9 (ev s r far o4 a b o7 o8 o9 o10 (some (.int n)) (some (lenD (takenL a n))) o13 o14 o15 o16 o17 o18 o19) S) (PB P s r c far) := by
  unfold glb3_9 ev
  refine sp_seq.mpr ?_
  simp only [sp_asg, sp_par, sp_par3, sp_if, sp_for, sp_ret, sp_retN, sp_next, sp_brk, sp_cont, sp_expr, wp_bin, wp_un, wp_c, wp_tOf, wp_tTr, wp_tAnd, wp_tOr, wp_tNot, wp_eAnd, wp_eOr, wp_eNot, wp_eIf, wp_aNil, wp_aCons, wp_eCall, wp_eFn, wp_eSl, wp_oNone, wp_oSome, wp_eMt, wp_eLst, wp_eTup, wp_ok, wp_tYes, oq_some, bq_bl, iq_int, uq_some, l2q_ok, l3q_ok, pName_eq, List.set_cons_zero, List.set_cons_succ, v0, v1, v2, v3, v4, v5, v6, v7, v8, v9, v10, v11, v12, v13, v14, v15, v16, v17, v18, v19, dAdd_int, dSub_int, dSub_bl, dNeg_int, bInt_int, dOrd_int, dGe_int, dLe_int, dIs_non, dIsNot_non, true_bl, isNon_ref, isNon_tup, isNon_non, isNon_int, Bool.false_eq_true, if_true, if_false, ite_true, ite_false, not_true, not_false_iff, Bool.not_true, Bool.not_false, Bool.not_not, decide_true, decide_false, List.append_nil, List.nil_append, List.length_cons, List.length_nil, reduceIte, reduceCtorEq, Nat.zero_le, true_and, dNe_len0, Bool.not_eq_true', decide_eq_false_iff_not]
  cases a with
  | nil =>
    rw [if_neg (by simp)]
    exact b10 hw ha hb n0 n1
  | cons x t =>
    rw [if_pos (by simp)]
    simp only [sp_asg, sp_par, sp_par3, sp_if, sp_for, sp_ret, sp_retN, sp_next, sp_brk, sp_cont, sp_expr, wp_bin, wp_un, wp_c, wp_tOf, wp_tTr, wp_tAnd, wp_tOr, wp_tNot, wp_eAnd, wp_eOr, wp_eNot, wp_eIf, wp_aNil, wp_aCons, wp_eCall, wp_eFn, wp_eSl, wp_oNone, wp_oSome, wp_eMt, wp_eLst, wp_eTup, wp_ok, wp_tYes, oq_some, bq_bl, iq_int, uq_some, l2q_ok, l3q_ok, pName_eq, List.set_cons_zero, List.set_cons_succ, v0, v1, v2, v3, v4, v5, v6, v7, v8, v9, v10, v11, v12, v13, v14, v15, v16, v17, v18, v19, dAdd_int, dSub_int, dSub_bl, dNeg_int, bInt_int, dOrd_int, dGe_int, dLe_int, dIs_non, dIsNot_non, true_bl, isNon_ref, isNon_tup, isNon_non, isNon_int, Bool.false_eq_true, if_true, if_false, ite_true, ite_false, not_true, not_false_iff, Bool.not_true, Bool.not_false, Bool.not_not, decide_true, decide_false, List.append_nil, List.nil_append, List.length_cons, List.length_nil, reduceIte, reduceCtorEq, ix_len0, ix_pair0]
    exact ⟨two_le, one_le, b10 hw ha hb n0 n1⟩
theorem b8 {n : Int} (hw : Wd P r c S) (ha : Small a) (hb : Fit b) (n0 : 0 ≤ n) (n1 : n ≤ 5) : sp (glb3_8 (ev s r far o4 a b o7 o8 o9 o10 (some (.int n)) (some (lenD (takenL a n))) o13 o14 o15 o16 o17 o18 o19) S) (PB P s r c far) := by
  unfold glb3_8 ev
  refine sp_seq.mpr ?_
  simp only [sp_asg, sp_par, sp_par3, sp_if, sp_for, sp_ret, sp_retN, sp_next, sp_brk, sp_cont, sp_expr, wp_bin, wp_un, wp_c, wp_tOf, wp_tTr, wp_tAnd, wp_tOr, wp_tNot, wp_eAnd, wp_eOr, wp_eNot, wp_eIf, wp_aNil, wp_aCons, wp_eCall, wp_eFn, wp_eSl, wp_oNone, wp_oSome, wp_eMt, wp_eLst, wp_eTup, wp_ok, wp_tYes, oq_some, bq_bl, iq_int, uq_some, l2q_ok, l3q_ok, pName_eq, List.set_cons_zero, List.set_cons_succ, v0, v1, v2, v3, v4, v5, v6, v7, v8, v9, v10, v11, v12, v13, v14, v15, v16, v17, v18, v19, dAdd_int, dSub_int, dSub_bl, dNeg_int, bInt_int, dOrd_int, dGe_int, dLe_int, dIs_non, dIsNot_non, true_bl, isNon_ref, isNon_tup, isNon_non, isNon_int, Bool.false_eq_true, if_true, if_false, ite_true, ite_false, not_true, not_false_iff, Bool.not_true, Bool.not_false, Bool.not_not, decide_true, decide_false, List.append_nil, List.nil_append, List.length_cons, List.length_nil, reduceIte, reduceCtorEq]
  refine taken_wp ha.ok ha.fit.bd (by decide) n0 (Int.lt_of_le_of_lt n1 (by decide)) (by have := ha.len; omega) ?_
  refine repr_oq (big_taken ha n0 n1) (repr_oq (big_taken ha n0 n1) ?_)
  simp only [sp_asg, sp_par, sp_par3, sp_if, sp_for, sp_ret, sp_retN, sp_next, sp_brk, sp_cont, sp_expr, wp_bin, wp_un, wp_c, wp_tOf, wp_tTr, wp_tAnd, wp_tOr, wp_tNot, wp_eAnd, wp_eOr, wp_eNot, wp_eIf, wp_aNil, wp_aCons, wp_eCall, wp_eFn, wp_eSl, wp_oNone, wp_oSome, wp_eMt, wp_eLst, wp_eTup, wp_ok, wp_tYes, oq_some, bq_bl, iq_int, uq_some, l2q_ok, l3q_ok, pName_eq, List.set_cons_zero, List.set_cons_succ, v0, v1, v2, v3, v4, v5, v6, v7, v8, v9, v10, v11, v12, v13, v14, v15, v16, v17, v18, v19, dAdd_int, dSub_int, dSub_bl, dNeg_int, bInt_int, dOrd_int, dGe_int, dLe_int, dIs_non, dIsNot_non, true_bl, isNon_ref, isNon_tup, isNon_non, isNon_int, Bool.false_eq_true, if_true, if_false, ite_true, ite_false, not_true, not_false_iff, Bool.not_true, Bool.not_false, Bool.not_not, decide_true, decide_false, List.append_nil, List.nil_append, List.length_cons, List.length_nil, reduceIte, reduceCtorEq, dNe_repr]
  exact b9 hw ha hb n0 n1
theorem b7 {n : Int} (hw : Wd P r c S) (ha : Small a) (hb : Fit b) (n0 : 0 ≤ n) (n1 : n ≤ 5) : sp (glb3_7 (ev s r far o4 a b o7 o8 o9 o10 (some (.int n)) (some (lenD [])) o13 o14 o15 o16 o17 o18 o19) S) (PB P s r c far) := by
  have la := ha.len
  unfold glb3_7 ev
  refine sp_seq.mpr ?_
  rw [sp_for]
  refine wp_sRng1 ?_
  simp only [sp_asg, sp_par, sp_par3, sp_if, sp_for, sp_ret, sp_retN, sp_next, sp_brk, sp_cont, sp_expr, wp_bin, wp_un, wp_c, wp_tOf, wp_tTr, wp_tAnd, wp_tOr, wp_tNot, wp_eAnd, wp_eOr, wp_eNot, wp_eIf, wp_aNil, wp_aCons, wp_eCall, wp_eFn, wp_eSl, wp_oNone, wp_oSome, wp_eMt, wp_eLst, wp_eTup, wp_ok, wp_tYes, oq_some, bq_bl, iq_int, uq_some, l2q_ok, l3q_ok, pName_eq, List.set_cons_zero, List.set_cons_succ, v0, v1, v2, v3, v4, v5, v6, v7, v8, v9, v10, v11, v12, v13, v14, v15, v16, v17, v18, v19, dAdd_int, dSub_int, dSub_bl, dNeg_int, bInt_int, dOrd_int, dGe_int, dLe_int, dIs_non, dIsNot_non, true_bl, isNon_ref, isNon_tup, isNon_non, isNon_int, Bool.false_eq_true, if_true, if_false, ite_true, ite_false, not_true, not_false_iff, Bool.not_true, Bool.not_false, Bool.not_not, decide_true, decide_false, List.append_nil, List.nil_append, List.length_cons, List.length_nil, reduceIte, reduceCtorEq]
  refine ⟨n, rfl, by omega, by omega, ?_⟩
  unfold rangeD
  refine for_over (fun rest ρ S' => ∃ (t : Store) (k : Nat) (o13 : Option D), S' = S ++ t ∧ k + rest.length = n.toNat ∧ ρ = ev s r far o4 a b o7 o8 o9 o10 (some (.int n)) (some (lenD (takenL a k))) o13 o14 o15 o16 o17 o18 o19) (fun x rest ρ S' h => ⟨trivial, ?_⟩) (fun ρ S' h => ⟨trivial, ?_⟩) ⟨[], 0, o13, by simp, by simp, ?_⟩
  · obtain ⟨t, k, o13, rfl, h1, rfl⟩ := h
    unfold ev
    simp only [sp_asg, sp_par, sp_par3, sp_if, sp_for, sp_ret, sp_retN, sp_next, sp_brk, sp_cont, sp_expr, wp_bin, wp_un, wp_c, wp_tOf, wp_tTr, wp_tAnd, wp_tOr, wp_tNot, wp_eAnd, wp_eOr, wp_eNot, wp_eIf, wp_aNil, wp_aCons, wp_eCall, wp_eFn, wp_eSl, wp_oNone, wp_oSome, wp_eMt, wp_eLst, wp_eTup, wp_ok, wp_tYes, oq_some, bq_bl, iq_int, uq_some, l2q_ok, l3q_ok, pName_eq, List.set_cons_zero, List.set_cons_succ, v0, v1, v2, v3, v4, v5, v6, v7, v8, v9, v10, v11, v12, v13, v14, v15, v16, v17, v18, v19, dAdd_int, dSub_int, dSub_bl, dNeg_int, bInt_int, dOrd_int, dGe_int, dLe_int, dIs_non, dIsNot_non, true_bl, isNon_ref, isNon_tup, isNon_non, isNon_int, Bool.false_eq_true, if_true, if_false, ite_true, ite_false, not_true, not_false_iff, Bool.not_true, Bool.not_false, Bool.not_not, decide_true, decide_false, List.append_nil, List.nil_append, List.length_cons, List.length_nil, reduceIte, reduceCtorEq]
    have := taken_len (a := a) (n := k)
    refine lthen_wp (by omega) fun t2 => ?_
    have e : thenL (takenL a k) a = takenL a ((k + 1 : Nat) : Int) := by
      have := taken_then (l := a) (a := (k : Int)) (b := 1) ha.ok (by omega) (by decide)
      rw [taken_one] at this
      rw [this]
      rfl
    rw [e]
    exact ⟨t ++ t2, k + 1, _, List.append_assoc .., by simp at h1 ⊢; omega, rfl⟩
  · obtain ⟨t, k, o13, rfl, h1, rfl⟩ := h
    have : (k : Int) = n := by simp at h1; omega
    rw [this]
    exact b8 hw.ext ha hb n0 n1
  · have : takenL a ((0 : Nat) : Int) = [] := by cases a <;> simp [takenL]
    rw [this]
theorem b6 (hw : Wd P r c S) (ha : Small a) (hb : Fit b) : sp (glb3_6 (ev s r far o4 a b o7 o8 o9 o10 o11 o12 o13 o14 o15 o16 o17 o18 o19) S) (PB P s r c far) := by
  unfold glb3_6 ev
  refine sp_seq.mpr ?_
  simp only [sp_asg, sp_par, sp_par3, sp_if, sp_for, sp_ret, sp_retN, sp_next, sp_brk, sp_cont, sp_expr, wp_bin, wp_un, wp_c, wp_tOf, wp_tTr, wp_tAnd, wp_tOr, wp_tNot, wp_eAnd, wp_eOr, wp_eNot, wp_eIf, wp_aNil, wp_aCons, wp_eCall, wp_eFn, wp_eSl, wp_oNone, wp_oSome, wp_eMt, wp_eLst, wp_eTup, wp_ok, wp_tYes, oq_some, bq_bl, iq_int, uq_some, l2q_ok, l3q_ok, pName_eq, List.set_cons_zero, List.set_cons_succ, v0, v1, v2, v3, v4, v5, v6, v7, v8, v9, v10, v11, v12, v13, v14, v15, v16, v17, v18, v19, dAdd_int, dSub_int, dSub_bl, dNeg_int, bInt_int, dOrd_int, dGe_int, dLe_int, dIs_non, dIsNot_non, true_bl, isNon_ref, isNon_tup, isNon_non, isNon_int, Bool.false_eq_true, if_true, if_false, ite_true, ite_false, not_true, not_false_iff, Bool.not_true, Bool.not_false, Bool.not_not, decide_true, decide_false, List.append_nil, List.nil_append, List.length_cons, List.length_nil, reduceIte, reduceCtorEq]
  refine pick2 (by decide) (by decide) hw.sc fun n S1 n0 n1 hs1 kp1 => ?_
  refine ⟨Nat.zero_le _, ?_⟩
  exact b7 (hw.to hs1 kp1) ha hb n0 (by omega)
end
end K08
set_option Elab.async false
set_option linter.all false
set_option maxRecDepth 100000
set_option maxHeartbeats 4000000
namespace K08
open MP ML
open PySem (sizeLine sizeLine_eq)
open PyProof.Rows (b2i)
section
variable {S : Store} {a b l : L} {X : Exc → Store → Prop} {Q : D → Store → Prop} {r c : Nat} {P : PySem.Addr} {s : D} {far : Int} {o4 o5 o6 o7 o8 o9 o10 o11 o12 o13 o14 o15 o16 o17 o18 o19 : Option D}
/-- whole and begin, as the law takes them -/
def duoD (x : L × L) : D := .tup [lenD x.1, lenD x.2]
theorem unp_duo {i j : Nat} {ρ : Env} {x : L × L} {Q : Env → Store → Prop} : oq (pUnp 2 (psCons (pName i) (psCons (pName j) psNil)) (duoD x) ρ S) Q ↔ Q ((ρ.set i (some (lenD x.1))).set j (some (lenD x.2))) S := Iff.rfl
/-- the text of what is behind, or of None -/
theorem repr_beh {w g : L} (hw : Big w) (hg : Big g) : ∃ x, ∀ S, bRepr [behD w g] S = some (.str x, S) := by
  unfold behD
  by_cases h : ordL w g = -1
  · rw [if_pos h]
    exact ⟨"None", fun S => rfl⟩
  · rw [if_neg h]
    have k := behind_ok hw.ok hg.ok h
    exact ⟨_, fun S => repr_big ⟨k.1, behind_bd (fun x hx => (hg.ok.pos x hx).2) hw.bd⟩⟩
theorem b5 (hw : Wd P r c S) (ha : Small a) (hb : Fit b) : sp (glb3_5 (ev s r far o4 a b o7 o8 o9 o10 o11 o12 o13 o14 o15 o16 o17 o18 o19) S) (PB P s r c far) := by
  have la := ha.len
  have lb := hb.len
  have h3 : (0 + 1 + 1 + 1 : Nat) ≤ sizeLine := by rw [sizeLine_eq]; decide
  unfold glb3_5 ev
  refine sp_seq.mpr ?_
  rw [sp_for]
  refine wp_sSeq ?_
  simp only [sp_asg, sp_par, sp_par3, sp_if, sp_for, sp_ret, sp_retN, sp_next, sp_brk, sp_cont, sp_expr, wp_bin, wp_un, wp_c, wp_tOf, wp_tTr, wp_tAnd, wp_tOr, wp_tNot, wp_eAnd, wp_eOr, wp_eNot, wp_eIf, wp_aNil, wp_aCons, wp_eCall, wp_eFn, wp_eSl, wp_oNone, wp_oSome, wp_eMt, wp_eLst, wp_eTup, wp_ok, wp_tYes, oq_some, bq_bl, iq_int, uq_some, l2q_ok, l3q_ok, pName_eq, List.set_cons_zero, List.set_cons_succ, v0, v1, v2, v3, v4, v5, v6, v7, v8, v9, v10, v11, v12, v13, v14, v15, v16, v17, v18, v19, dAdd_int, dSub_int, dSub_bl, dNeg_int, bInt_int, dOrd_int, dGe_int, dLe_int, dIs_non, dIsNot_non, true_bl, isNon_ref, isNon_tup, isNon_non, isNon_int, Bool.false_eq_true, if_true, if_false, ite_true, ite_false, not_true, not_false_iff, Bool.not_true, Bool.not_false, Bool.not_not, decide_true, decide_false, List.append_nil, List.nil_append, List.length_cons, List.length_nil, reduceIte, reduceCtorEq]
  refine ⟨two_le, two_le, ?_⟩
  refine lthen_wp (by omega) fun t => ?_
  have bab : Big (thenL a b) := ⟨ok_then ha.ok hb.ok, (bd_then ha.ok hb.ok (by decide) ha.fit.bd hb.bd (by decide)).mono (by decide) (by decide)⟩
  refine ⟨two_le, h3, .inl ⟨_, rfl, ?_⟩⟩
  refine for_over (α := L × L) (enc := duoD) (l := [(a, b), (b, a), (thenL a b, a)]) (fun rest ρ S' => Wd P r c S' ∧ (∀ x ∈ rest, Big x.1 ∧ Big x.2) ∧ ∃ o8 o9 o10, ρ = ev s r far o4 a b o7 o8 o9 o10 o11 o12 o13 o14 o15 o16 o17 o18 o19) (fun x rest ρ S' h => ⟨trivial, ?_⟩) (fun ρ S' h => ⟨trivial, ?_⟩) ⟨hw.ext, ?_, _, _, _, rfl⟩
  · obtain ⟨hw', hf, o8, o9, o10, rfl⟩ := h
    obtain ⟨fw, fg⟩ := hf x (List.mem_cons_self ..)
    have hf' : ∀ y ∈ rest, Big y.1 ∧ Big y.2 := fun y hy => hf y (List.mem_cons_of_mem _ hy)
    obtain ⟨w, g⟩ := x
    simp only at fw fg
    have lw := fw.bd.len
    have lg := fg.bd.len
    rw [unp_duo]
    unfold ev
    simp only [List.set_cons_zero, List.set_cons_succ]
    unfold glb3_b5_0
    refine sp_seq.mpr ?_
    simp only [sp_asg, sp_par, sp_par3, sp_if, sp_for, sp_ret, sp_retN, sp_next, sp_brk, sp_cont, sp_expr, wp_bin, wp_un, wp_c, wp_tOf, wp_tTr, wp_tAnd, wp_tOr, wp_tNot, wp_eAnd, wp_eOr, wp_eNot, wp_eIf, wp_aNil, wp_aCons, wp_eCall, wp_eFn, wp_eSl, wp_oNone, wp_oSome, wp_eMt, wp_eLst, wp_eTup, wp_ok, wp_tYes, oq_some, bq_bl, iq_int, uq_some, l2q_ok, l3q_ok, pName_eq, List.set_cons_zero, List.set_cons_succ, v0, v1, v2, v3, v4, v5, v6, v7, v8, v9, v10, v11, v12, v13, v14, v15, v16, v17, v18, v19, dAdd_int, dSub_int, dSub_bl, dNeg_int, bInt_int, dOrd_int, dGe_int, dLe_int, dIs_non, dIsNot_non, true_bl, isNon_ref, isNon_tup, isNon_non, isNon_int, Bool.false_eq_true, if_true, if_false, ite_true, ite_false, not_true, not_false_iff, Bool.not_true, Bool.not_false, Bool.not_not, decide_true, decide_false, List.append_nil, List.nil_append, List.length_cons, List.length_nil, reduceIte, reduceCtorEq]
    refine behind_wp (by omega) ?_
    unfold glb3_b5_1
    refine sp_seq.mpr ?_
    simp only [sp_asg, sp_par, sp_par3, sp_if, sp_for, sp_ret, sp_retN, sp_next, sp_brk, sp_cont, sp_expr, wp_bin, wp_un, wp_c, wp_tOf, wp_tTr, wp_tAnd, wp_tOr, wp_tNot, wp_eAnd, wp_eOr, wp_eNot, wp_eIf, wp_aNil, wp_aCons, wp_eCall, wp_eFn, wp_eSl, wp_oNone, wp_oSome, wp_eMt, wp_eLst, wp_eTup, wp_ok, wp_tYes, oq_some, bq_bl, iq_int, uq_some, l2q_ok, l3q_ok, pName_eq, List.set_cons_zero, List.set_cons_succ, v0, v1, v2, v3, v4, v5, v6, v7, v8, v9, v10, v11, v12, v13, v14, v15, v16, v17, v18, v19, dAdd_int, dSub_int, dSub_bl, dNeg_int, bInt_int, dOrd_int, dGe_int, dLe_int, dIs_non, dIsNot_non, true_bl, isNon_ref, isNon_tup, isNon_non, isNon_int, Bool.false_eq_true, if_true, if_false, ite_true, ite_false, not_true, not_false_iff, Bool.not_true, Bool.not_false, Bool.not_not, decide_true, decide_false, List.append_nil, List.nil_append, List.length_cons, List.length_nil, reduceIte, reduceCtorEq]
    obtain ⟨tx, htx⟩ := repr_beh fw fg
    rw [htx]
    simp only [oq_some]
    refine lbehind_wp (by omega) ?_
    rw [htx]
    simp only [sp_asg, sp_par, sp_par3, sp_if, sp_for, sp_ret, sp_retN, sp_next, sp_brk, sp_cont, sp_expr, wp_bin, wp_un, wp_c, wp_tOf, wp_tTr, wp_tAnd, wp_tOr, wp_tNot, wp_eAnd, wp_eOr, wp_eNot, wp_eIf, wp_aNil, wp_aCons, wp_eCall, wp_eFn, wp_eSl, wp_oNone, wp_oSome, wp_eMt, wp_eLst, wp_eTup, wp_ok, wp_tYes, oq_some, bq_bl, iq_int, uq_some, l2q_ok, l3q_ok, pName_eq, List.set_cons_zero, List.set_cons_succ, v0, v1, v2, v3, v4, v5, v6, v7, v8, v9, v10, v11, v12, v13, v14, v15, v16, v17, v18, v19, dAdd_int, dSub_int, dSub_bl, dNeg_int, bInt_int, dOrd_int, dGe_int, dLe_int, dIs_non, dIsNot_non, true_bl, isNon_ref, isNon_tup, isNon_non, isNon_int, Bool.false_eq_true, if_true, if_false, ite_true, ite_false, not_true, not_false_iff, Bool.not_true, Bool.not_false, Bool.not_not, decide_true, decide_false, List.append_nil, List.nil_append, List.length_cons, List.length_nil, reduceIte, reduceCtorEq, dNe_repr]
    unfold glb3_b5_2 behD
    by_cases h : ordL w g = -1
    · rw [if_pos h]
      simp only [sp_asg, sp_par, sp_par3, sp_if, sp_for, sp_ret, sp_retN, sp_next, sp_brk, sp_cont, sp_expr, wp_bin, wp_un, wp_c, wp_tOf, wp_tTr, wp_tAnd, wp_tOr, wp_tNot, wp_eAnd, wp_eOr, wp_eNot, wp_eIf, wp_aNil, wp_aCons, wp_eCall, wp_eFn, wp_eSl, wp_oNone, wp_oSome, wp_eMt, wp_eLst, wp_eTup, wp_ok, wp_tYes, oq_some, bq_bl, iq_int, uq_some, l2q_ok, l3q_ok, pName_eq, List.set_cons_zero, List.set_cons_succ, v0, v1, v2, v3, v4, v5, v6, v7, v8, v9, v10, v11, v12, v13, v14, v15, v16, v17, v18, v19, dAdd_int, dSub_int, dSub_bl, dNeg_int, bInt_int, dOrd_int, dGe_int, dLe_int, dIs_non, dIsNot_non, true_bl, isNon_ref, isNon_tup, isNon_non, isNon_int, Bool.false_eq_true, if_true, if_false, ite_true, ite_false, not_true, not_false_iff, Bool.not_true, Bool.not_false, Bool.not_not, decide_true, decide_false, List.append_nil, List.nil_append, List.length_cons, List.length_nil, reduceIte, reduceCtorEq]
      exact ⟨hw', hf', _, _, _, rfl⟩
    · rw [if_neg h]
      have elen : ∀ l, isNon (lenD l) = false := fun l => rfl
      obtain ⟨k1, k2⟩ := behind_ok fw.ok fg.ok h
      have lbh := (behind_bd (fun x hx => (fg.ok.pos x hx).2) fw.bd : Bd 60 _ (behindL w g)).len
      simp only [sp_asg, sp_par, sp_par3, sp_if, sp_for, sp_ret, sp_retN, sp_next, sp_brk, sp_cont, sp_expr, wp_bin, wp_un, wp_c, wp_tOf, wp_tTr, wp_tAnd, wp_tOr, wp_tNot, wp_eAnd, wp_eOr, wp_eNot, wp_eIf, wp_aNil, wp_aCons, wp_eCall, wp_eFn, wp_eSl, wp_oNone, wp_oSome, wp_eMt, wp_eLst, wp_eTup, wp_ok, wp_tYes, oq_some, bq_bl, iq_int, uq_some, l2q_ok, l3q_ok, pName_eq, List.set_cons_zero, List.set_cons_succ, v0, v1, v2, v3, v4, v5, v6, v7, v8, v9, v10, v11, v12, v13, v14, v15, v16, v17, v18, v19, dAdd_int, dSub_int, dSub_bl, dNeg_int, bInt_int, dOrd_int, dGe_int, dLe_int, dIs_non, dIsNot_non, true_bl, isNon_ref, isNon_tup, isNon_non, isNon_int, Bool.false_eq_true, if_true, if_false, ite_true, ite_false, not_true, not_false_iff, Bool.not_true, Bool.not_false, Bool.not_not, decide_true, decide_false, List.append_nil, List.nil_append, List.length_cons, List.length_nil, reduceIte, reduceCtorEq, elen]
      refine then_ok fg.ok k1 (by rw [sizeLine_eq]; omega) fun t2 => ?_
      rw [k2]
      refine repr_oq fw (repr_oq fw ?_)
      simp only [sp_asg, sp_par, sp_par3, sp_if, sp_for, sp_ret, sp_retN, sp_next, sp_brk, sp_cont, sp_expr, wp_bin, wp_un, wp_c, wp_tOf, wp_tTr, wp_tAnd, wp_tOr, wp_tNot, wp_eAnd, wp_eOr, wp_eNot, wp_eIf, wp_aNil, wp_aCons, wp_eCall, wp_eFn, wp_eSl, wp_oNone, wp_oSome, wp_eMt, wp_eLst, wp_eTup, wp_ok, wp_tYes, oq_some, bq_bl, iq_int, uq_some, l2q_ok, l3q_ok, pName_eq, List.set_cons_zero, List.set_cons_succ, v0, v1, v2, v3, v4, v5, v6, v7, v8, v9, v10, v11, v12, v13, v14, v15, v16, v17, v18, v19, dAdd_int, dSub_int, dSub_bl, dNeg_int, bInt_int, dOrd_int, dGe_int, dLe_int, dIs_non, dIsNot_non, true_bl, isNon_ref, isNon_tup, isNon_non, isNon_int, Bool.false_eq_true, if_true, if_false, ite_true, ite_false, not_true, not_false_iff, Bool.not_true, Bool.not_false, Bool.not_not, decide_true, decide_false, List.append_nil, List.nil_append, List.length_cons, List.length_nil, reduceIte, reduceCtorEq, dNe_repr]
      exact ⟨hw'.ext, hf', _, _, _, rfl⟩
  · obtain ⟨hw', hf, o8, o9, o10, rfl⟩ := h
    exact b6 hw' ha hb
  · intro x hx
    simp only [List.mem_cons, List.not_mem_nil, or_false] at hx
    have fa := ha.fit.big
    have fb := hb.big
    rcases hx with rfl | rfl | rfl
    · exact ⟨fa, fb⟩
    · exact ⟨fb, fa⟩
    · exact ⟨bab, fa⟩
theorem b4 (hw : Wd P r c S) (ha : Small a) (hb : Fit b) : sp (glb3_4 (ev s r far o4 a b (some (.int (ordL a b))) o8 o9 o10 o11 o12 o13 o14 o15 o16 o17 o18 o19) S) (PB P s r c far) := by
  unfold glb3_4 ev
  refine sp_seq.mpr ?_
  rw [sp_if]
  simp only [wp_tOr, wp_tOf, wp_bin, wp_eFn, wp_aCons, wp_aNil, v5, v6, v7, wp_c, List.append_nil]
  refine below_ok ?_
  have e : decide (ordL a b = -1) = decide (ordL a b < 0) := by
    have := ord_three a b
    rw [decide_eq_decide]
    omega
  rw [e]
  simp only [dOrd_int, oq_some, dNe_bl, beq_self_eq_true, Bool.not_true, bq_bl, Bool.false_eq_true, if_false]
  refine limit_wp (limit_eq rfl ?_)
  simp only [dNe_bl, beq_self_eq_true, Bool.not_true, oq_some, bq_bl, Bool.false_eq_true, if_false, sp_next]
  exact b5 hw ha hb
theorem b3 (hw : Wd P r c S) (ha : Small a) (hb : Fit b) : sp (glb3_3 (ev s r far o4 a b (some (.int (ordL a b))) o8 o9 o10 o11 o12 o13 o14 o15 o16 o17 o18 o19) S) (PB P s r c far) := by
  unfold glb3_3 ev
  refine sp_seq.mpr ?_
  simp only [sp_asg, sp_par, sp_par3, sp_if, sp_for, sp_ret, sp_retN, sp_next, sp_brk, sp_cont, sp_expr, wp_bin, wp_un, wp_c, wp_tOf, wp_tTr, wp_tAnd, wp_tOr, wp_tNot, wp_eAnd, wp_eOr, wp_eNot, wp_eIf, wp_aNil, wp_aCons, wp_eCall, wp_eFn, wp_eSl, wp_oNone, wp_oSome, wp_eMt, wp_eLst, wp_eTup, wp_ok, wp_tYes, oq_some, bq_bl, iq_int, uq_some, l2q_ok, l3q_ok, pName_eq, List.set_cons_zero, List.set_cons_succ, v0, v1, v2, v3, v4, v5, v6, v7, v8, v9, v10, v11, v12, v13, v14, v15, v16, v17, v18, v19, dAdd_int, dSub_int, dSub_bl, dNeg_int, bInt_int, dOrd_int, dGe_int, dLe_int, dIs_non, dIsNot_non, true_bl, isNon_ref, isNon_tup, isNon_non, isNon_int, Bool.false_eq_true, if_true, if_false, ite_true, ite_false, not_true, not_false_iff, Bool.not_true, Bool.not_false, Bool.not_not, decide_true, decide_false, List.append_nil, List.nil_append, List.length_cons, List.length_nil, reduceIte, reduceCtorEq]
  refine compared_ok ?_
  simp only [sp_asg, sp_par, sp_par3, sp_if, sp_for, sp_ret, sp_retN, sp_next, sp_brk, sp_cont, sp_expr, wp_bin, wp_un, wp_c, wp_tOf, wp_tTr, wp_tAnd, wp_tOr, wp_tNot, wp_eAnd, wp_eOr, wp_eNot, wp_eIf, wp_aNil, wp_aCons, wp_eCall, wp_eFn, wp_eSl, wp_oNone, wp_oSome, wp_eMt, wp_eLst, wp_eTup, wp_ok, wp_tYes, oq_some, bq_bl, iq_int, uq_some, l2q_ok, l3q_ok, pName_eq, List.set_cons_zero, List.set_cons_succ, v0, v1, v2, v3, v4, v5, v6, v7, v8, v9, v10, v11, v12, v13, v14, v15, v16, v17, v18, v19, dAdd_int, dSub_int, dSub_bl, dNeg_int, bInt_int, dOrd_int, dGe_int, dLe_int, dIs_non, dIsNot_non, true_bl, isNon_ref, isNon_tup, isNon_non, isNon_int, Bool.false_eq_true, if_true, if_false, ite_true, ite_false, not_true, not_false_iff, Bool.not_true, Bool.not_false, Bool.not_not, decide_true, decide_false, List.append_nil, List.nil_append, List.length_cons, List.length_nil, reduceIte, reduceCtorEq, dNe_int, decide_true]
  refine compared_ok ?_
  rw [ord_swap a b]
  simp only [sp_asg, sp_par, sp_par3, sp_if, sp_for, sp_ret, sp_retN, sp_next, sp_brk, sp_cont, sp_expr, wp_bin, wp_un, wp_c, wp_tOf, wp_tTr, wp_tAnd, wp_tOr, wp_tNot, wp_eAnd, wp_eOr, wp_eNot, wp_eIf, wp_aNil, wp_aCons, wp_eCall, wp_eFn, wp_eSl, wp_oNone, wp_oSome, wp_eMt, wp_eLst, wp_eTup, wp_ok, wp_tYes, oq_some, bq_bl, iq_int, uq_some, l2q_ok, l3q_ok, pName_eq, List.set_cons_zero, List.set_cons_succ, v0, v1, v2, v3, v4, v5, v6, v7, v8, v9, v10, v11, v12, v13, v14, v15, v16, v17, v18, v19, dAdd_int, dSub_int, dSub_bl, dNeg_int, bInt_int, dOrd_int, dGe_int, dLe_int, dIs_non, dIsNot_non, true_bl, isNon_ref, isNon_tup, isNon_non, isNon_int, Bool.false_eq_true, if_true, if_false, ite_true, ite_false, not_true, not_false_iff, Bool.not_true, Bool.not_false, Bool.not_not, decide_true, decide_false, List.append_nil, List.nil_append, List.length_cons, List.length_nil, reduceIte, reduceCtorEq, dNe_int, Int.zero_sub, decide_true]
  exact b4 hw ha hb
theorem b2 (hw : Wd P r c S) (ha : Small a) (hb : Fit b) : sp (glb3_2 (ev s r far o4 a b o7 o8 o9 o10 o11 o12 o13 o14 o15 o16 o17 o18 o19) S) (PB P s r c far) := by
  unfold glb3_2 ev
  refine sp_seq.mpr ?_
  simp only [sp_asg, sp_par, sp_par3, sp_if, sp_for, sp_ret, sp_retN, sp_next, sp_brk, sp_cont, sp_expr, wp_bin, wp_un, wp_c, wp_tOf, wp_tTr, wp_tAnd, wp_tOr, wp_tNot, wp_eAnd, wp_eOr, wp_eNot, wp_eIf, wp_aNil, wp_aCons, wp_eCall, wp_eFn, wp_eSl, wp_oNone, wp_oSome, wp_eMt, wp_eLst, wp_eTup, wp_ok, wp_tYes, oq_some, bq_bl, iq_int, uq_some, l2q_ok, l3q_ok, pName_eq, List.set_cons_zero, List.set_cons_succ, v0, v1, v2, v3, v4, v5, v6, v7, v8, v9, v10, v11, v12, v13, v14, v15, v16, v17, v18, v19, dAdd_int, dSub_int, dSub_bl, dNeg_int, bInt_int, dOrd_int, dGe_int, dLe_int, dIs_non, dIsNot_non, true_bl, isNon_ref, isNon_tup, isNon_non, isNon_int, Bool.false_eq_true, if_true, if_false, ite_true, ite_false, not_true, not_false_iff, Bool.not_true, Bool.not_false, Bool.not_not, decide_true, decide_false, List.append_nil, List.nil_append, List.length_cons, List.length_nil, reduceIte, reduceCtorEq]
  exact order_wp (b3 hw ha hb)
theorem b1 (hw : Wd P r c S) (f0 : 1 ≤ far) (f1 : far < 10 ^ 300) (ha : Small a) : sp (glb3_1 [some s, some (.ref r), some (.int (10 ^ 300)), some (.int far), o4, some (lenD a), o6, o7, o8, o9, o10, o11, o12, o13, o14, o15, o16, o17, o18, o19] S) (PB P s r c far) := by
  unfold glb3_1
  refine sp_seq.mpr ?_
  simp only [sp_asg, sp_par, sp_par3, sp_if, sp_for, sp_ret, sp_retN, sp_next, sp_brk, sp_cont, sp_expr, wp_bin, wp_un, wp_c, wp_tOf, wp_tTr, wp_tAnd, wp_tOr, wp_tNot, wp_eAnd, wp_eOr, wp_eNot, wp_eIf, wp_aNil, wp_aCons, wp_eCall, wp_eFn, wp_eSl, wp_oNone, wp_oSome, wp_eMt, wp_eLst, wp_eTup, wp_ok, wp_tYes, oq_some, bq_bl, iq_int, uq_some, l2q_ok, l3q_ok, pName_eq, List.set_cons_zero, List.set_cons_succ, v0, v1, v2, v3, v4, v5, v6, v7, v8, v9, v10, v11, v12, v13, v14, v15, v16, v17, v18, v19, dAdd_int, dSub_int, dSub_bl, dNeg_int, bInt_int, dOrd_int, dGe_int, dLe_int, dIs_non, dIsNot_non, true_bl, isNon_ref, isNon_tup, isNon_non, isNon_int, Bool.false_eq_true, if_true, if_false, ite_true, ite_false, not_true, not_false_iff, Bool.not_true, Bool.not_false, Bool.not_not, decide_true, decide_false, List.append_nil, List.nil_append, List.length_cons, List.length_nil, reduceIte, reduceCtorEq]
  refine pick2 (by decide) (by decide) hw.sc fun k S1 k0 k1 hs1 kp1 => ?_
  have hw1 := hw.to hs1 kp1
  simp only [sp_asg, sp_par, sp_par3, sp_if, sp_for, sp_ret, sp_retN, sp_next, sp_brk, sp_cont, sp_expr, wp_bin, wp_un, wp_c, wp_tOf, wp_tTr, wp_tAnd, wp_tOr, wp_tNot, wp_eAnd, wp_eOr, wp_eNot, wp_eIf, wp_aNil, wp_aCons, wp_eCall, wp_eFn, wp_eSl, wp_oNone, wp_oSome, wp_eMt, wp_eLst, wp_eTup, wp_ok, wp_tYes, oq_some, bq_bl, iq_int, uq_some, l2q_ok, l3q_ok, pName_eq, List.set_cons_zero, List.set_cons_succ, v0, v1, v2, v3, v4, v5, v6, v7, v8, v9, v10, v11, v12, v13, v14, v15, v16, v17, v18, v19, dAdd_int, dSub_int, dSub_bl, dNeg_int, bInt_int, dOrd_int, dGe_int, dLe_int, dIs_non, dIsNot_non, true_bl, isNon_ref, isNon_tup, isNon_non, isNon_int, Bool.false_eq_true, if_true, if_false, ite_true, ite_false, not_true, not_false_iff, Bool.not_true, Bool.not_false, Bool.not_not, decide_true, decide_false, List.append_nil, List.nil_append, List.length_cons, List.length_nil, reduceIte, reduceCtorEq, decide_eq_true_eq]
  by_cases hk : 0 < k
  · rw [if_pos hk]
    exact near_wp hw1.sc ha f0 f1 fun l' S2 hf hs2 kp2 => b2 (hw1.to hs2 kp2) ha hf
  · rw [if_neg hk]
    exact length_wp hw1.sc f0 f1 fun l' S2 hf hs2 kp2 => b2 (hw1.to hs2 kp2) ha hf.fit
theorem b0 (hw : Wd P r c S) (f0 : 1 ≤ far) (f1 : far < 10 ^ 300) : sp (glb3_0 [some s, some (.ref r), some (.int (10 ^ 300)), some (.int far), o4, o5, o6, o7, o8, o9, o10, o11, o12, o13, o14, o15, o16, o17, o18, o19] S) (PB P s r c far) := by
  unfold glb3_0
  refine sp_seq.mpr ?_
  simp only [sp_asg, sp_par, sp_par3, sp_if, sp_for, sp_ret, sp_retN, sp_next, sp_brk, sp_cont, sp_expr, wp_bin, wp_un, wp_c, wp_tOf, wp_tTr, wp_tAnd, wp_tOr, wp_tNot, wp_eAnd, wp_eOr, wp_eNot, wp_eIf, wp_aNil, wp_aCons, wp_eCall, wp_eFn, wp_eSl, wp_oNone, wp_oSome, wp_eMt, wp_eLst, wp_eTup, wp_ok, wp_tYes, oq_some, bq_bl, iq_int, uq_some, l2q_ok, l3q_ok, pName_eq, List.set_cons_zero, List.set_cons_succ, v0, v1, v2, v3, v4, v5, v6, v7, v8, v9, v10, v11, v12, v13, v14, v15, v16, v17, v18, v19, dAdd_int, dSub_int, dSub_bl, dNeg_int, bInt_int, dOrd_int, dGe_int, dLe_int, dIs_non, dIsNot_non, true_bl, isNon_ref, isNon_tup, isNon_non, isNon_int, Bool.false_eq_true, if_true, if_false, ite_true, ite_false, not_true, not_false_iff, Bool.not_true, Bool.not_false, Bool.not_not, decide_true, decide_false, List.append_nil, List.nil_append, List.length_cons, List.length_nil, reduceIte, reduceCtorEq]
  exact length_wp hw.sc f0 f1 fun l' S2 hf hs2 kp2 => b1 (hw.to hs2 kp2) f0 f1 hf
end
end K08
set_option Elab.async false
set_option linter.all false
set_option maxRecDepth 100000
set_option maxHeartbeats 4000000
namespace K08
open MP ML
open PySem (sizeLine sizeLine_eq)
open PyProof.Rows (b2i)
def PP : Pst := ⟨fun _ _ => False, fun d _ => d = .bl true, fun _ _ => False, fun _ _ => False, fun _ _ _ => False⟩
section
variable {S : Store} {a b l : L} {X : Exc → Store → Prop} {Q : D → Store → Prop} {r c : Nat} {P : PySem.Addr} {s : D} {far n : Int} {o4 o5 o6 o7 o8 o9 o10 o11 o12 o13 o14 o15 o16 o17 o18 o19 : Option D}
noncomputable def toldD (l : L) : D := .tup [.str "told", lenD l]
def greatD : D := .tup [.str "great", .int 1]
theorem toPy_told : toPy cap S (toldD l) = some (.tuple [.str "told", lenP l]) :=
  toPy_tup (n := 63) (optAll_cons (toPy_str (by decide +kernel)) (optAll_cons (toPy_len (n := 61)) rfl))
theorem bRepr_told (h : (lenP l).showable = true) (hl : l.length ≤ 1000) : bRepr [toldD l] S = some (.str (PySem.PyData.tuple [.str "told", lenP l]).shown, S) := by
  refine bRepr_of toPy_told ?_ ?_ rfl
  · simp [PySem.PyData.showable, PySem.PyData.showableAll, h]
  · have := nodes_len (l := l)
    have e : ("told" : PySem.Str).length = 4 := rfl
    simp only [nodes, nodesAll, e]
    omega
theorem bRepr_toldN (h0 : 0 ≤ n) (h1 : n ≤ 10 ^ 300 + 1) : bRepr [.tup [.str "told", .int n]] S = some (.str (PySem.PyData.tuple [.str "told", .int n]).shown, S) := by
  refine bRepr_of (toPy_tup (n := 63) (optAll_cons (toPy_str (by decide +kernel)) (optAll_cons toPy_int rfl))) ?_ ?_ rfl
  · have := show_int h0 (Int.lt_of_le_of_lt h1 (by decide))
    simp [PySem.PyData.showable, PySem.PyData.showableAll] at this ⊢
    exact this
  · have e : ("told" : PySem.Str).length = 4 := rfl
    simp only [nodes, nodesAll, e]
    omega
theorem bRepr_great : bRepr [greatD] S = some (.str (PySem.PyData.tuple [.str "great", .int 1]).shown, S) := by
  refine bRepr_of (toPy_tup (n := 63) (optAll_cons (toPy_str (by decide +kernel)) (optAll_cons toPy_int rfl))) ?_ ?_ rfl
  · decide +kernel
  · have e : ("great" : PySem.Str).length = 5 := rfl
    simp only [nodes, nodesAll, e]
    omega
theorem show_le (h0 : ∀ x ∈ l, 0 ≤ x.1 ∧ 0 ≤ x.2 ∧ x.1 ≤ 10 ^ 300 + 1 ∧ x.2 ≤ 10 ^ 300 + 1) : (lenP l).showable = true := by
  unfold lenP
  rw [PySem.PyData.showable]
  refine showAll_map fun x hx => ?_
  have h1 := h0 x hx
  unfold pairP
  rw [PySem.PyData.showable, PySem.PyData.showableAll, PySem.PyData.showableAll, PySem.PyData.showableAll, show_int h1.1 (Int.lt_of_le_of_lt h1.2.2.1 (by decide)), show_int h1.2.1 (Int.lt_of_le_of_lt h1.2.2.2 (by decide))]
  rfl
/-! ### the def that calls a lambda -/
theorem wp_retOf {x : SRes} (h : sp x ⟨fun _ _ => False, Q, fun _ _ => False, fun _ _ => False, fun _ _ _ => False⟩) : wp (match x with
  | .ret d S' => Res.ok d S'
  | _ => .bad) Q X := by
  cases x <;> exact h
theorem thk_wp {act : M D} (h : wp (act S) (fun d S' => Q (.tup [.str "told", d]) S') (fun x S' => x = greatX ∧ Q greatD S')) : wp (thk__law_made act S) Q X := by
  unfold thk__law_made thkTry
  refine wp_retOf (sp_try ?_)
  rw [sp_bind, wp_bind]
  refine wp_mono h (fun d S' hq => ?_) fun x S' hx => ?_
  · unfold wTag mkTup
    rw [wp_lift]
    rw [if_pos (show [D.str "told", d].length ≤ sizeLine from two_le)]
    exact hq
  · obtain ⟨rfl, hq⟩ := hx
    refine .inl ⟨rfl, .ret greatD S', fun a d => ?_, hq⟩
    show clearS 1 (gRet (eTup (aCons (eC (.str "great")) (aCons (eXf a d "number" (eVar 1)) aNil))) [none, some (.err a d [("number", .int 1)])] S') = _
    rw [sret_of (r := gRet _ _ S') (v := greatD) (S0 := S') ?_]
    · rfl
    · simp only [sp_seq, sp_asg, sp_par, sp_par3, sp_if, sp_for, sp_ret, sp_retN, sp_next, sp_brk, sp_cont, sp_expr, wp_bin, wp_un, wp_c, wp_tOf, wp_tTr, wp_tAnd, wp_tOr, wp_tNot, wp_eAnd, wp_eOr, wp_eNot, wp_eIf, wp_aNil, wp_aCons, wp_eCall, wp_eFn, wp_eSl, wp_oNone, wp_oSome, wp_eMt, wp_eLst, wp_eTup, wp_ok, wp_tYes, oq_some, bq_bl, iq_int, uq_some, l2q_ok, l3q_ok, pName_eq, List.set_cons_zero, List.set_cons_succ, v0, v1, v2, v3, v4, v5, v6, v7, v8, v9, v10, v11, v12, v13, v14, v15, v16, v17, v18, v19, dAdd_int, dSub_int, dSub_bl, dNeg_int, bInt_int, dOrd_int, dGe_int, dLe_int, dIs_non, dIsNot_non, true_bl, isNon_ref, isNon_tup, isNon_non, isNon_int, Bool.false_eq_true, if_true, if_false, ite_true, ite_false, not_true, not_false_iff, Bool.not_true, Bool.not_false, Bool.not_not, decide_true, decide_false, List.append_nil, List.nil_append, List.length_cons, List.length_nil, reduceIte, reduceCtorEq]
      rw [wp_eXf (fs := [("number", .int 1)]) (v := .int 1) rfl rfl]
      simp only [sp_seq, sp_asg, sp_par, sp_par3, sp_if, sp_for, sp_ret, sp_retN, sp_next, sp_brk, sp_cont, sp_expr, wp_bin, wp_un, wp_c, wp_tOf, wp_tTr, wp_tAnd, wp_tOr, wp_tNot, wp_eAnd, wp_eOr, wp_eNot, wp_eIf, wp_aNil, wp_aCons, wp_eCall, wp_eFn, wp_eSl, wp_oNone, wp_oSome, wp_eMt, wp_eLst, wp_eTup, wp_ok, wp_tYes, oq_some, bq_bl, iq_int, uq_some, l2q_ok, l3q_ok, pName_eq, List.set_cons_zero, List.set_cons_succ, v0, v1, v2, v3, v4, v5, v6, v7, v8, v9, v10, v11, v12, v13, v14, v15, v16, v17, v18, v19, dAdd_int, dSub_int, dSub_bl, dNeg_int, bInt_int, dOrd_int, dGe_int, dLe_int, dIs_non, dIsNot_non, true_bl, isNon_ref, isNon_tup, isNon_non, isNon_int, Bool.false_eq_true, if_true, if_false, ite_true, ite_false, not_true, not_false_iff, Bool.not_true, Bool.not_false, Bool.not_not, decide_true, decide_false, List.append_nil, List.nil_append, List.length_cons, List.length_nil, reduceIte, reduceCtorEq]
      exact ⟨two_le, by first | rfl | trivial, by first | rfl | trivial⟩
theorem wp_eThk {q : PySem.Str} {i : Nat} {sem : M D → M D} {fb : F} {ρ : Env} (h : S[i]? = some (.tab P q)) (hw : wp (sem (fb ρ) S) Q fun _ _ => False) : wp (eThk P q i sem fb ρ S) Q X := by
  unfold eThk
  rw [h]
  simp only [and_self, if_true]
  cases e : sem (fb ρ) S with
  | ok d S' => rw [e] at hw; exact hw
  | exc x S' => rw [e] at hw; exact hw.elim
  | bad => rw [e] at hw; exact hw.elim
theorem eqD_told0 : eqD (toldD []) (toldD []) S = some true := by
  exact (eqD_tup (a := toldD []) (xs := [.str "told", lenD []]) rfl toPy_told toPy_told).trans rfl
theorem l8 {tb : Nat → PySem.Addr} (hw : Wd (tb 0) r c S) : sp (gl8 tb [some s, some (.ref r), some (.int (10 ^ 300)), some (.int far), o4, o5, o6, o7, o8, o9, o10, o11, o12, o13, o14, o15, o16, o17, o18, o19] S) PP := by
  unfold gl8
  rw [sp_ret, wp_bin]
  refine wp_eThk hw.tb (thk_wp ?_)
  simp only [sp_asg, sp_par, sp_par3, sp_if, sp_for, sp_ret, sp_retN, sp_next, sp_brk, sp_cont, sp_expr, wp_bin, wp_un, wp_c, wp_tOf, wp_tTr, wp_tAnd, wp_tOr, wp_tNot, wp_eAnd, wp_eOr, wp_eNot, wp_eIf, wp_aNil, wp_aCons, wp_eCall, wp_eFn, wp_eSl, wp_oNone, wp_oSome, wp_eMt, wp_eLst, wp_eTup, wp_ok, wp_tYes, oq_some, bq_bl, iq_int, uq_some, l2q_ok, l3q_ok, pName_eq, List.set_cons_zero, List.set_cons_succ, v0, v1, v2, v3, v4, v5, v6, v7, v8, v9, v10, v11, v12, v13, v14, v15, v16, v17, v18, v19, dAdd_int, dSub_int, dSub_bl, dNeg_int, bInt_int, dOrd_int, dGe_int, dLe_int, dIs_non, dIsNot_non, true_bl, isNon_ref, isNon_tup, isNon_non, isNon_int, Bool.false_eq_true, if_true, if_false, ite_true, ite_false, not_true, not_false_iff, Bool.not_true, Bool.not_false, Bool.not_not, decide_true, decide_false, List.append_nil, List.nil_append, List.length_cons, List.length_nil, reduceIte, reduceCtorEq, Nat.zero_le, true_and]
  rw [show D.tup [] = lenD [] from rfl]
  refine made_wp (l := []) (by simp) (Nat.zero_le _) (fun g t => ?_) fun g => ?_
  · refine ⟨two_le, ?_⟩
    rw [show D.tup [D.str "told", lenD []] = toldD [] from rfl, dEq_of eqD_told0]
    rfl
  · obtain ⟨_, h, _⟩ := g
    cases h
def edges (e : Int) : List L := [[(5, 2), (0, e)], [(e, 1)], [(e, 3), (2, 1)]]
theorem edges_le {e : Int} (h0 : 0 ≤ e) (h1 : e ≤ 10 ^ 300 + 1) (hl : l ∈ edges e) : (∀ x ∈ l, 0 ≤ x.1 ∧ 0 ≤ x.2 ∧ x.1 ≤ 10 ^ 300 + 1 ∧ x.2 ≤ 10 ^ 300 + 1) ∧ l.length ≤ 2 ∧ (great l ↔ 10 ^ 300 ≤ e) := by
  simp only [edges, List.mem_cons, List.not_mem_nil, or_false] at hl
  have big : (10 : Int) < 10 ^ 300 := by decide
  unfold great
  rcases hl with rfl | rfl | rfl
  · refine ⟨fun x hx => ?_, by simp, ⟨fun ⟨x, hx, h⟩ => ?_, fun h => ⟨(0, e), by simp, .inr h⟩⟩⟩
    · simp only [List.mem_cons, List.not_mem_nil, or_false] at hx
      rcases hx with rfl | rfl <;> simp only <;> omega
    · simp only [List.mem_cons, List.not_mem_nil, or_false] at hx
      rcases hx with rfl | rfl <;> simp only at h <;> omega
  · refine ⟨fun x hx => ?_, by simp, ⟨fun ⟨x, hx, h⟩ => ?_, fun h => ⟨(e, 1), by simp, .inl h⟩⟩⟩
    · simp only [List.mem_cons, List.not_mem_nil, or_false] at hx
      subst hx; simp only; omega
    · simp only [List.mem_cons, List.not_mem_nil, or_false] at hx
      subst hx; simp only at h; omega
  · refine ⟨fun x hx => ?_, by simp, ⟨fun ⟨x, hx, h⟩ => ?_, fun h => ⟨(e, 3), by simp, .inl h⟩⟩⟩
    · simp only [List.mem_cons, List.not_mem_nil, or_false] at hx
      rcases hx with rfl | rfl <;> simp only <;> omega
    · simp only [List.mem_cons, List.not_mem_nil, or_false] at hx
      rcases hx with rfl | rfl <;> simp only at h <;> omega
theorem l7 {tb : Nat → PySem.Addr} (hw : Wd (tb 0) r c S) (h0 : 0 ≤ n) (h1 : n ≤ 10 ^ 300 + 1) : sp (gl7 tb [some s, some (.ref r), some (.int (10 ^ 300)), some (.int far), o4, o5, o6, o7, o8, o9, o10, o11, o12, o13, o14, o15, o16, o17, some (.int n), o19] S) PP := by
  have h3 : (0 + 1 + 1 + 1 : Nat) ≤ sizeLine := by rw [sizeLine_eq]; decide
  unfold gl7
  refine sp_seq.mpr ?_
  rw [sp_for]
  refine wp_sSeq ?_
  simp only [sp_asg, sp_par, sp_par3, sp_if, sp_for, sp_ret, sp_retN, sp_next, sp_brk, sp_cont, sp_expr, wp_bin, wp_un, wp_c, wp_tOf, wp_tTr, wp_tAnd, wp_tOr, wp_tNot, wp_eAnd, wp_eOr, wp_eNot, wp_eIf, wp_aNil, wp_aCons, wp_eCall, wp_eFn, wp_eSl, wp_oNone, wp_oSome, wp_eMt, wp_eLst, wp_eTup, wp_ok, wp_tYes, oq_some, bq_bl, iq_int, uq_some, l2q_ok, l3q_ok, pName_eq, List.set_cons_zero, List.set_cons_succ, v0, v1, v2, v3, v4, v5, v6, v7, v8, v9, v10, v11, v12, v13, v14, v15, v16, v17, v18, v19, dAdd_int, dSub_int, dSub_bl, dNeg_int, bInt_int, dOrd_int, dGe_int, dLe_int, dIs_non, dIsNot_non, true_bl, isNon_ref, isNon_tup, isNon_non, isNon_int, Bool.false_eq_true, if_true, if_false, ite_true, ite_false, not_true, not_false_iff, Bool.not_true, Bool.not_false, Bool.not_not, decide_true, decide_false, List.append_nil, List.nil_append, List.length_cons, List.length_nil, reduceIte, reduceCtorEq]
  refine ⟨two_le, two_le, two_le, two_le, one_le, two_le, two_le, two_le, h3, .inl ⟨_, rfl, ?_⟩⟩
  refine for_over (α := L) (enc := lenD) (l := edges n) (fun rest ρ S' => Wd (tb 0) r c S' ∧ (∀ x ∈ rest, x ∈ edges n) ∧ ∃ o12 o19, ρ = [some s, some (.ref r), some (.int (10 ^ 300)), some (.int far), o4, o5, o6, o7, o8, o9, o10, o11, o12, o13, o14, o15, o16, o17, some (.int n), o19]) (fun x rest ρ S' h => ⟨trivial, ?_⟩) (fun ρ S' h => ⟨trivial, ?_⟩) ⟨hw, fun x hx => hx, _, _, rfl⟩
  · obtain ⟨hw', hf, o12, o19, rfl⟩ := h
    obtain ⟨hx1, hx2, hx3⟩ := edges_le h0 h1 (hf x (List.mem_cons_self ..))
    have hf' : ∀ y ∈ rest, y ∈ edges n := fun y hy => hf y (List.mem_cons_of_mem _ hy)
    simp only [pName_eq, oq_some, List.set_cons_zero, List.set_cons_succ]
    unfold glb7_0
    refine sp_seq.mpr ?_
    simp only [sp_asg, sp_par, sp_par3, sp_if, sp_for, sp_ret, sp_retN, sp_next, sp_brk, sp_cont, sp_expr, wp_bin, wp_un, wp_c, wp_tOf, wp_tTr, wp_tAnd, wp_tOr, wp_tNot, wp_eAnd, wp_eOr, wp_eNot, wp_eIf, wp_aNil, wp_aCons, wp_eCall, wp_eFn, wp_eSl, wp_oNone, wp_oSome, wp_eMt, wp_eLst, wp_eTup, wp_ok, wp_tYes, oq_some, bq_bl, iq_int, uq_some, l2q_ok, l3q_ok, pName_eq, List.set_cons_zero, List.set_cons_succ, v0, v1, v2, v3, v4, v5, v6, v7, v8, v9, v10, v11, v12, v13, v14, v15, v16, v17, v18, v19, dAdd_int, dSub_int, dSub_bl, dNeg_int, bInt_int, dOrd_int, dGe_int, dLe_int, dIs_non, dIsNot_non, true_bl, isNon_ref, isNon_tup, isNon_non, isNon_int, Bool.false_eq_true, if_true, if_false, ite_true, ite_false, not_true, not_false_iff, Bool.not_true, Bool.not_false, Bool.not_not, decide_true, decide_false, List.append_nil, List.nil_append, List.length_cons, List.length_nil, reduceIte, reduceCtorEq, decide_eq_true_eq]
    have fin : ∀ due : D, (¬ great x → due = toldD x) → (great x → due = greatD) → sp (glb7_1 tb [some s, some (.ref r), some (.int (10 ^ 300)), some (.int far), o4, o5, o6, o7, o8, o9, o10, o11, some due, o13, o14, o15, o16, o17, some (.int n), some (lenD x)] S') ⟨fun ρ S' => Wd (tb 0) r c S' ∧ (∀ x ∈ rest, x ∈ edges n) ∧ ∃ o12 o19, ρ = [some s, some (.ref r), some (.int (10 ^ 300)), some (.int far), o4, o5, o6, o7, o8, o9, o10, o11, o12, o13, o14, o15, o16, o17, some (.int n), o19], fun _ _ => False, fun _ _ => False, fun _ _ => False, fun _ _ _ => False⟩ := fun due d1 d2 => by
      unfold glb7_1
      rw [sp_if]
      rw [wp_tOf, wp_bin, wp_eCall, wp_aCons]
      refine wp_eThk hw'.tb (thk_wp ?_)
      simp only [sp_asg, sp_par, sp_par3, sp_if, sp_for, sp_ret, sp_retN, sp_next, sp_brk, sp_cont, sp_expr, wp_bin, wp_un, wp_c, wp_tOf, wp_tTr, wp_tAnd, wp_tOr, wp_tNot, wp_eAnd, wp_eOr, wp_eNot, wp_eIf, wp_aNil, wp_aCons, wp_eCall, wp_eFn, wp_eSl, wp_oNone, wp_oSome, wp_eMt, wp_eLst, wp_eTup, wp_ok, wp_tYes, oq_some, bq_bl, iq_int, uq_some, l2q_ok, l3q_ok, pName_eq, List.set_cons_zero, List.set_cons_succ, v0, v1, v2, v3, v4, v5, v6, v7, v8, v9, v10, v11, v12, v13, v14, v15, v16, v17, v18, v19, dAdd_int, dSub_int, dSub_bl, dNeg_int, bInt_int, dOrd_int, dGe_int, dLe_int, dIs_non, dIsNot_non, true_bl, isNon_ref, isNon_tup, isNon_non, isNon_int, Bool.false_eq_true, if_true, if_false, ite_true, ite_false, not_true, not_false_iff, Bool.not_true, Bool.not_false, Bool.not_not, decide_true, decide_false, List.append_nil, List.nil_append, List.length_cons, List.length_nil, reduceIte, reduceCtorEq]
      refine made_wp hx1 (by rw [sizeLine_eq]; omega) (fun g t => ?_) fun g => ⟨rfl, ?_⟩
      · rw [d1 g, show D.tup [D.str "told", lenD x] = toldD x from rfl, bRepr_told (show_le hx1) (by omega)]
        simp only [oq_some]
        rw [bRepr_told (show_le hx1) (by omega)]
        simp only [sp_asg, sp_par, sp_par3, sp_if, sp_for, sp_ret, sp_retN, sp_next, sp_brk, sp_cont, sp_expr, wp_bin, wp_un, wp_c, wp_tOf, wp_tTr, wp_tAnd, wp_tOr, wp_tNot, wp_eAnd, wp_eOr, wp_eNot, wp_eIf, wp_aNil, wp_aCons, wp_eCall, wp_eFn, wp_eSl, wp_oNone, wp_oSome, wp_eMt, wp_eLst, wp_eTup, wp_ok, wp_tYes, oq_some, bq_bl, iq_int, uq_some, l2q_ok, l3q_ok, pName_eq, List.set_cons_zero, List.set_cons_succ, v0, v1, v2, v3, v4, v5, v6, v7, v8, v9, v10, v11, v12, v13, v14, v15, v16, v17, v18, v19, dAdd_int, dSub_int, dSub_bl, dNeg_int, bInt_int, dOrd_int, dGe_int, dLe_int, dIs_non, dIsNot_non, true_bl, isNon_ref, isNon_tup, isNon_non, isNon_int, Bool.false_eq_true, if_true, if_false, ite_true, ite_false, not_true, not_false_iff, Bool.not_true, Bool.not_false, Bool.not_not, decide_true, decide_false, List.append_nil, List.nil_append, List.length_cons, List.length_nil, reduceIte, reduceCtorEq, dNe_repr]
        exact ⟨hw'.ext, hf', _, _, rfl⟩
      · rw [d2 g, bRepr_great]
        simp only [oq_some]
        rw [bRepr_great]
        simp only [sp_asg, sp_par, sp_par3, sp_if, sp_for, sp_ret, sp_retN, sp_next, sp_brk, sp_cont, sp_expr, wp_bin, wp_un, wp_c, wp_tOf, wp_tTr, wp_tAnd, wp_tOr, wp_tNot, wp_eAnd, wp_eOr, wp_eNot, wp_eIf, wp_aNil, wp_aCons, wp_eCall, wp_eFn, wp_eSl, wp_oNone, wp_oSome, wp_eMt, wp_eLst, wp_eTup, wp_ok, wp_tYes, oq_some, bq_bl, iq_int, uq_some, l2q_ok, l3q_ok, pName_eq, List.set_cons_zero, List.set_cons_succ, v0, v1, v2, v3, v4, v5, v6, v7, v8, v9, v10, v11, v12, v13, v14, v15, v16, v17, v18, v19, dAdd_int, dSub_int, dSub_bl, dNeg_int, bInt_int, dOrd_int, dGe_int, dLe_int, dIs_non, dIsNot_non, true_bl, isNon_ref, isNon_tup, isNon_non, isNon_int, Bool.false_eq_true, if_true, if_false, ite_true, ite_false, not_true, not_false_iff, Bool.not_true, Bool.not_false, Bool.not_not, decide_true, decide_false, List.append_nil, List.nil_append, List.length_cons, List.length_nil, reduceIte, reduceCtorEq, dNe_repr]
        exact ⟨hw', hf', _, _, rfl⟩
    by_cases hn : n < 10 ^ 300
    · rw [if_pos hn]
      exact ⟨two_le, sp_mono (fin (toldD x) (fun _ => rfl) fun g => absurd (hx3.mp g) (by omega)) (fun _ _ h => h) (fun _ _ h => h.elim) (fun _ _ h => h.elim) (fun _ _ h => h.elim) fun _ _ _ h => h.elim⟩
    · rw [if_neg hn]
      exact ⟨two_le, sp_mono (fin greatD (fun g => absurd (hx3.mpr (by omega)) g) fun _ => rfl) (fun _ _ h => h) (fun _ _ h => h.elim) (fun _ _ h => h.elim) (fun _ _ h => h.elim) fun _ _ _ h => h.elim⟩
  · obtain ⟨hw', hf, o12, o19, rfl⟩ := h
    exact l8 hw'
theorem l6 {tb : Nat → PySem.Addr} (hw : Wd (tb 0) r c S) (h0 : 0 ≤ n) (h1 : n ≤ 10 ^ 300 + 1) {due : D} (d1 : n < 10 ^ 300 → due = .tup [.str "told", .int n]) (d2 : 10 ^ 300 ≤ n → due = greatD) : sp (gl6 tb [some s, some (.ref r), some (.int (10 ^ 300)), some (.int far), o4, o5, o6, o7, o8, o9, o10, o11, some due, o13, o14, o15, o16, o17, some (.int n), o19] S) PP := by
  unfold gl6
  refine sp_seq.mpr ?_
  rw [sp_if]
  rw [wp_tOr, wp_tOf, wp_bin, wp_eCall, wp_aCons]
  refine wp_eThk hw.tb (thk_wp ?_)
  simp only [sp_asg, sp_par, sp_par3, sp_if, sp_for, sp_ret, sp_retN, sp_next, sp_brk, sp_cont, sp_expr, wp_bin, wp_un, wp_c, wp_tOf, wp_tTr, wp_tAnd, wp_tOr, wp_tNot, wp_eAnd, wp_eOr, wp_eNot, wp_eIf, wp_aNil, wp_aCons, wp_eCall, wp_eFn, wp_eSl, wp_oNone, wp_oSome, wp_eMt, wp_eLst, wp_eTup, wp_ok, wp_tYes, oq_some, bq_bl, iq_int, uq_some, l2q_ok, l3q_ok, pName_eq, List.set_cons_zero, List.set_cons_succ, v0, v1, v2, v3, v4, v5, v6, v7, v8, v9, v10, v11, v12, v13, v14, v15, v16, v17, v18, v19, dAdd_int, dSub_int, dSub_bl, dNeg_int, bInt_int, dOrd_int, dGe_int, dLe_int, dIs_non, dIsNot_non, true_bl, isNon_ref, isNon_tup, isNon_non, isNon_int, Bool.false_eq_true, if_true, if_false, ite_true, ite_false, not_true, not_false_iff, Bool.not_true, Bool.not_false, Bool.not_not, decide_true, decide_false, List.append_nil, List.nil_append, List.length_cons, List.length_nil, reduceIte, reduceCtorEq]
  refine not_long_wp h0 h1 (fun g => ?_) fun g => ⟨rfl, ?_⟩
  · rw [d1 g, bRepr_toldN h0 h1]
    simp only [oq_some]
    rw [bRepr_toldN h0 h1]
    simp only [sp_asg, sp_par, sp_par3, sp_if, sp_for, sp_ret, sp_retN, sp_next, sp_brk, sp_cont, sp_expr, wp_bin, wp_un, wp_c, wp_tOf, wp_tTr, wp_tAnd, wp_tOr, wp_tNot, wp_eAnd, wp_eOr, wp_eNot, wp_eIf, wp_aNil, wp_aCons, wp_eCall, wp_eFn, wp_eSl, wp_oNone, wp_oSome, wp_eMt, wp_eLst, wp_eTup, wp_ok, wp_tYes, oq_some, bq_bl, iq_int, uq_some, l2q_ok, l3q_ok, pName_eq, List.set_cons_zero, List.set_cons_succ, v0, v1, v2, v3, v4, v5, v6, v7, v8, v9, v10, v11, v12, v13, v14, v15, v16, v17, v18, v19, dAdd_int, dSub_int, dSub_bl, dNeg_int, bInt_int, dOrd_int, dGe_int, dLe_int, dIs_non, dIsNot_non, true_bl, isNon_ref, isNon_tup, isNon_non, isNon_int, Bool.false_eq_true, if_true, if_false, ite_true, ite_false, not_true, not_false_iff, Bool.not_true, Bool.not_false, Bool.not_not, decide_true, decide_false, List.append_nil, List.nil_append, List.length_cons, List.length_nil, reduceIte, reduceCtorEq, dNe_repr]
    refine long_wp h0 h1 ?_
    simp only [sp_asg, sp_par, sp_par3, sp_if, sp_for, sp_ret, sp_retN, sp_next, sp_brk, sp_cont, sp_expr, wp_bin, wp_un, wp_c, wp_tOf, wp_tTr, wp_tAnd, wp_tOr, wp_tNot, wp_eAnd, wp_eOr, wp_eNot, wp_eIf, wp_aNil, wp_aCons, wp_eCall, wp_eFn, wp_eSl, wp_oNone, wp_oSome, wp_eMt, wp_eLst, wp_eTup, wp_ok, wp_tYes, oq_some, bq_bl, iq_int, uq_some, l2q_ok, l3q_ok, pName_eq, List.set_cons_zero, List.set_cons_succ, v0, v1, v2, v3, v4, v5, v6, v7, v8, v9, v10, v11, v12, v13, v14, v15, v16, v17, v18, v19, dAdd_int, dSub_int, dSub_bl, dNeg_int, bInt_int, dOrd_int, dGe_int, dLe_int, dIs_non, dIsNot_non, true_bl, isNon_ref, isNon_tup, isNon_non, isNon_int, Bool.false_eq_true, if_true, if_false, ite_true, ite_false, not_true, not_false_iff, Bool.not_true, Bool.not_false, Bool.not_not, decide_true, decide_false, List.append_nil, List.nil_append, List.length_cons, List.length_nil, reduceIte, reduceCtorEq, dNe_bl, beq_self_eq_true]
    exact l7 hw h0 h1
  · rw [d2 g, bRepr_great]
    simp only [oq_some]
    rw [bRepr_great]
    simp only [sp_asg, sp_par, sp_par3, sp_if, sp_for, sp_ret, sp_retN, sp_next, sp_brk, sp_cont, sp_expr, wp_bin, wp_un, wp_c, wp_tOf, wp_tTr, wp_tAnd, wp_tOr, wp_tNot, wp_eAnd, wp_eOr, wp_eNot, wp_eIf, wp_aNil, wp_aCons, wp_eCall, wp_eFn, wp_eSl, wp_oNone, wp_oSome, wp_eMt, wp_eLst, wp_eTup, wp_ok, wp_tYes, oq_some, bq_bl, iq_int, uq_some, l2q_ok, l3q_ok, pName_eq, List.set_cons_zero, List.set_cons_succ, v0, v1, v2, v3, v4, v5, v6, v7, v8, v9, v10, v11, v12, v13, v14, v15, v16, v17, v18, v19, dAdd_int, dSub_int, dSub_bl, dNeg_int, bInt_int, dOrd_int, dGe_int, dLe_int, dIs_non, dIsNot_non, true_bl, isNon_ref, isNon_tup, isNon_non, isNon_int, Bool.false_eq_true, if_true, if_false, ite_true, ite_false, not_true, not_false_iff, Bool.not_true, Bool.not_false, Bool.not_not, decide_true, decide_false, List.append_nil, List.nil_append, List.length_cons, List.length_nil, reduceIte, reduceCtorEq, dNe_repr]
    refine long_wp h0 h1 ?_
    simp only [sp_asg, sp_par, sp_par3, sp_if, sp_for, sp_ret, sp_retN, sp_next, sp_brk, sp_cont, sp_expr, wp_bin, wp_un, wp_c, wp_tOf, wp_tTr, wp_tAnd, wp_tOr, wp_tNot, wp_eAnd, wp_eOr, wp_eNot, wp_eIf, wp_aNil, wp_aCons, wp_eCall, wp_eFn, wp_eSl, wp_oNone, wp_oSome, wp_eMt, wp_eLst, wp_eTup, wp_ok, wp_tYes, oq_some, bq_bl, iq_int, uq_some, l2q_ok, l3q_ok, pName_eq, List.set_cons_zero, List.set_cons_succ, v0, v1, v2, v3, v4, v5, v6, v7, v8, v9, v10, v11, v12, v13, v14, v15, v16, v17, v18, v19, dAdd_int, dSub_int, dSub_bl, dNeg_int, bInt_int, dOrd_int, dGe_int, dLe_int, dIs_non, dIsNot_non, true_bl, isNon_ref, isNon_tup, isNon_non, isNon_int, Bool.false_eq_true, if_true, if_false, ite_true, ite_false, not_true, not_false_iff, Bool.not_true, Bool.not_false, Bool.not_not, decide_true, decide_false, List.append_nil, List.nil_append, List.length_cons, List.length_nil, reduceIte, reduceCtorEq, dNe_bl, beq_self_eq_true]
    exact l7 hw h0 h1
theorem l5 {tb : Nat → PySem.Addr} (hw : Wd (tb 0) r c S) (h0 : 0 ≤ n) (h1 : n ≤ 10 ^ 300 + 1) : sp (gl5 tb [some s, some (.ref r), some (.int (10 ^ 300)), some (.int far), o4, o5, o6, o7, o8, o9, o10, o11, o12, o13, o14, o15, o16, o17, some (.int n), o19] S) PP := by
  unfold gl5
  refine sp_seq.mpr ?_
  simp only [sp_asg, sp_par, sp_par3, sp_if, sp_for, sp_ret, sp_retN, sp_next, sp_brk, sp_cont, sp_expr, wp_bin, wp_un, wp_c, wp_tOf, wp_tTr, wp_tAnd, wp_tOr, wp_tNot, wp_eAnd, wp_eOr, wp_eNot, wp_eIf, wp_aNil, wp_aCons, wp_eCall, wp_eFn, wp_eSl, wp_oNone, wp_oSome, wp_eMt, wp_eLst, wp_eTup, wp_ok, wp_tYes, oq_some, bq_bl, iq_int, uq_some, l2q_ok, l3q_ok, pName_eq, List.set_cons_zero, List.set_cons_succ, v0, v1, v2, v3, v4, v5, v6, v7, v8, v9, v10, v11, v12, v13, v14, v15, v16, v17, v18, v19, dAdd_int, dSub_int, dSub_bl, dNeg_int, bInt_int, dOrd_int, dGe_int, dLe_int, dIs_non, dIsNot_non, true_bl, isNon_ref, isNon_tup, isNon_non, isNon_int, Bool.false_eq_true, if_true, if_false, ite_true, ite_false, not_true, not_false_iff, Bool.not_true, Bool.not_false, Bool.not_not, decide_true, decide_false, List.append_nil, List.nil_append, List.length_cons, List.length_nil, reduceIte, reduceCtorEq, decide_eq_true_eq]
  by_cases hn : n < 10 ^ 300
  · rw [if_pos hn]
    exact ⟨two_le, l6 hw h0 h1 (fun _ => rfl) fun g => absurd g (by omega)⟩
  · rw [if_neg hn]
    exact ⟨two_le, l6 hw h0 h1 (fun g => absurd g hn) fun _ => rfl⟩
theorem l4 {tb : Nat → PySem.Addr} (hw : Wd (tb 0) r c S) : sp (gl4 tb [some s, some (.ref r), some (.int (10 ^ 300)), some (.int far), o4, o5, o6, o7, o8, o9, o10, o11, o12, o13, o14, o15, o16, o17, o18, o19] S) PP := by
  unfold gl4
  refine sp_seq.mpr ?_
  simp only [sp_asg, sp_par, sp_par3, sp_if, sp_for, sp_ret, sp_retN, sp_next, sp_brk, sp_cont, sp_expr, wp_bin, wp_un, wp_c, wp_tOf, wp_tTr, wp_tAnd, wp_tOr, wp_tNot, wp_eAnd, wp_eOr, wp_eNot, wp_eIf, wp_aNil, wp_aCons, wp_eCall, wp_eFn, wp_eSl, wp_oNone, wp_oSome, wp_eMt, wp_eLst, wp_eTup, wp_ok, wp_tYes, oq_some, bq_bl, iq_int, uq_some, l2q_ok, l3q_ok, pName_eq, List.set_cons_zero, List.set_cons_succ, v0, v1, v2, v3, v4, v5, v6, v7, v8, v9, v10, v11, v12, v13, v14, v15, v16, v17, v18, v19, dAdd_int, dSub_int, dSub_bl, dNeg_int, bInt_int, dOrd_int, dGe_int, dLe_int, dIs_non, dIsNot_non, true_bl, isNon_ref, isNon_tup, isNon_non, isNon_int, Bool.false_eq_true, if_true, if_false, ite_true, ite_false, not_true, not_false_iff, Bool.not_true, Bool.not_false, Bool.not_not, decide_true, decide_false, List.append_nil, List.nil_append, List.length_cons, List.length_nil, reduceIte, reduceCtorEq]
  refine pick2 (by decide) (by decide) hw.sc fun k S1 k0 k1 hs1 kp1 => ?_
  have big : (10 : Int) < 10 ^ 300 := by decide
  exact l5 (hw.to hs1 kp1) (by omega) (by omega)
theorem l3 {tb : Nat → PySem.Addr} (hw : Wd (tb 0) r c S) (f0 : 1 ≤ far) (f1 : far < 10 ^ 300) : sp (gl3 tb [some s, some (.ref r), some (.int (10 ^ 300)), some (.int far), o4, o5, o6, o7, o8, o9, o10, o11, o12, o13, o14, o15, o16, o17, o18, o19] S) PP := by
  unfold gl3
  refine sp_seq.mpr ?_
  rw [sp_for]
  refine wp_sRng1 ?_
  simp only [sp_asg, sp_par, sp_par3, sp_if, sp_for, sp_ret, sp_retN, sp_next, sp_brk, sp_cont, sp_expr, wp_bin, wp_un, wp_c, wp_tOf, wp_tTr, wp_tAnd, wp_tOr, wp_tNot, wp_eAnd, wp_eOr, wp_eNot, wp_eIf, wp_aNil, wp_aCons, wp_eCall, wp_eFn, wp_eSl, wp_oNone, wp_oSome, wp_eMt, wp_eLst, wp_eTup, wp_ok, wp_tYes, oq_some, bq_bl, iq_int, uq_some, l2q_ok, l3q_ok, pName_eq, List.set_cons_zero, List.set_cons_succ, v0, v1, v2, v3, v4, v5, v6, v7, v8, v9, v10, v11, v12, v13, v14, v15, v16, v17, v18, v19, dAdd_int, dSub_int, dSub_bl, dNeg_int, bInt_int, dOrd_int, dGe_int, dLe_int, dIs_non, dIsNot_non, true_bl, isNon_ref, isNon_tup, isNon_non, isNon_int, Bool.false_eq_true, if_true, if_false, ite_true, ite_false, not_true, not_false_iff, Bool.not_true, Bool.not_false, Bool.not_not, decide_true, decide_false, List.append_nil, List.nil_append, List.length_cons, List.length_nil, reduceIte, reduceCtorEq]
  refine ⟨8, rfl, by decide, by decide, ?_⟩
  refine sp_forS (fun _ ρ S' => IB (tb 0) s r c far ρ S') (fun d ds ρ S' h => ⟨trivial, ?_⟩) (fun ρ S' h => ⟨trivial, ?_⟩) ⟨hw, _, _, _, _, _, _, _, _, _, _, _, _, _, _, _, _, rfl⟩
  · obtain ⟨hw', o4, o5, o6, o7, o8, o9, o10, o11, o12, o13, o14, o15, o16, o17, o18, o19, rfl⟩ := h
    simp only [pName_eq, oq_some, List.set_cons_zero, List.set_cons_succ]
    exact sp_mono (b0 hw' f0 f1) (fun _ _ h => h) (fun _ _ h => h.elim) (fun _ _ h => h.elim) (fun _ _ h => h.elim) fun _ _ _ h => h.elim
  · obtain ⟨hw', o4, o5, o6, o7, o8, o9, o10, o11, o12, o13, o14, o15, o16, o17, o18, o19, rfl⟩ := h
    exact l4 hw'
theorem int_300 : bInt [.str (("1" : PySem.Str) ++ PySem.Txt.mul "0" 300)] S = some (.int (10 ^ 300), S) := int_str (by rw [len_300]; decide) big_300
theorem add_300 : dAdd (.str "1") (.str (PySem.Txt.mul "0" 300)) S = some (.str (("1" : PySem.Str) ++ PySem.Txt.mul "0" 300), S) := add_str (by have := len_300; rw [len_add] at this; rw [this, sizeLine_eq]; decide)
theorem mul_300 : dMul (.str "0") (.int 300) S = some (.str (PySem.Txt.mul "0" 300), S) := mul_str (by decide) (by decide) (by decide)
theorem l2 {tb : Nat → PySem.Addr} (hw : Wd (tb 0) r c S) : sp (gl2 tb [some s, some (.ref r), some (.int (10 ^ 300)), none, none, none, none, none, none, none, none, none, none, none, none, none, none, none, none, none] S) PP := by
  unfold gl2
  have h4 : (0 + 1 + 1 + 1 + 1 : Nat) ≤ sizeLine := by rw [sizeLine_eq]; decide
  have hlt := Sc_lt hw.sc
  refine sp_seq.mpr ?_
  simp only [sp_asg, sp_par, sp_par3, sp_if, sp_for, sp_ret, sp_retN, sp_next, sp_brk, sp_cont, sp_expr, wp_bin, wp_un, wp_c, wp_tOf, wp_tTr, wp_tAnd, wp_tOr, wp_tNot, wp_eAnd, wp_eOr, wp_eNot, wp_eIf, wp_aNil, wp_aCons, wp_eCall, wp_eFn, wp_eSl, wp_oNone, wp_oSome, wp_eMt, wp_eLst, wp_eTup, wp_ok, wp_tYes, oq_some, bq_bl, iq_int, uq_some, l2q_ok, l3q_ok, pName_eq, List.set_cons_zero, List.set_cons_succ, v0, v1, v2, v3, v4, v5, v6, v7, v8, v9, v10, v11, v12, v13, v14, v15, v16, v17, v18, v19, dAdd_int, dSub_int, dSub_bl, dNeg_int, bInt_int, dOrd_int, dGe_int, dLe_int, dIs_non, dIsNot_non, true_bl, isNon_ref, isNon_tup, isNon_non, isNon_int, Bool.false_eq_true, if_true, if_false, ite_true, ite_false, not_true, not_false_iff, Bool.not_true, Bool.not_false, Bool.not_not, decide_true, decide_false, List.append_nil, List.nil_append, List.length_cons, List.length_nil, reduceIte, reduceCtorEq, pow_int (show (0 : Int) ≤ 40 by decide) (show (40 : Int) ≤ 1000 by decide) (show (10 : Int).natAbs < 2 ^ 64 by decide)]
  refine ⟨h4, ?_⟩
  refine of_lst hw.sc.ext at_last (by simp) (by simp) (by omega) (by omega) fun x S1 hx hs1 kp1 => ?_
  have hw1 := hw.ext.to hs1 kp1
  simp only [List.mem_cons, List.not_mem_nil, or_false] at hx
  rcases hx with rfl | rfl | rfl | rfl
  · exact l3 hw1 (by decide) (by decide)
  · exact l3 hw1 (by decide) (by decide)
  · exact l3 hw1 (by decide) (by decide)
  · exact l3 hw1 (by decide) (by decide)
theorem l1 {tb : Nat → PySem.Addr} (hw : Wd (tb 0) r c S) : sp (gl1 tb [some s, some (.ref r), none, none, none, none, none, none, none, none, none, none, none, none, none, none, none, none, none, none] S) PP := by
  unfold gl1
  refine sp_seq.mpr ?_
  simp only [sp_asg, sp_par, sp_par3, sp_if, sp_for, sp_ret, sp_retN, sp_next, sp_brk, sp_cont, sp_expr, wp_bin, wp_un, wp_c, wp_tOf, wp_tTr, wp_tAnd, wp_tOr, wp_tNot, wp_eAnd, wp_eOr, wp_eNot, wp_eIf, wp_aNil, wp_aCons, wp_eCall, wp_eFn, wp_eSl, wp_oNone, wp_oSome, wp_eMt, wp_eLst, wp_eTup, wp_ok, wp_tYes, oq_some, bq_bl, iq_int, uq_some, l2q_ok, l3q_ok, pName_eq, List.set_cons_zero, List.set_cons_succ, v0, v1, v2, v3, v4, v5, v6, v7, v8, v9, v10, v11, v12, v13, v14, v15, v16, v17, v18, v19, dAdd_int, dSub_int, dSub_bl, dNeg_int, bInt_int, dOrd_int, dGe_int, dLe_int, dIs_non, dIsNot_non, true_bl, isNon_ref, isNon_tup, isNon_non, isNon_int, Bool.false_eq_true, if_true, if_false, ite_true, ite_false, not_true, not_false_iff, Bool.not_true, Bool.not_false, Bool.not_not, decide_true, decide_false, List.append_nil, List.nil_append, List.length_cons, List.length_nil, reduceIte, reduceCtorEq]
  rw [mul_300]
  simp only [oq_some]
  rw [add_300]
  simp only [oq_some]
  rw [int_300]
  simp only [sp_asg, sp_par, sp_par3, sp_if, sp_for, sp_ret, sp_retN, sp_next, sp_brk, sp_cont, sp_expr, wp_bin, wp_un, wp_c, wp_tOf, wp_tTr, wp_tAnd, wp_tOr, wp_tNot, wp_eAnd, wp_eOr, wp_eNot, wp_eIf, wp_aNil, wp_aCons, wp_eCall, wp_eFn, wp_eSl, wp_oNone, wp_oSome, wp_eMt, wp_eLst, wp_eTup, wp_ok, wp_tYes, oq_some, bq_bl, iq_int, uq_some, l2q_ok, l3q_ok, pName_eq, List.set_cons_zero, List.set_cons_succ, v0, v1, v2, v3, v4, v5, v6, v7, v8, v9, v10, v11, v12, v13, v14, v15, v16, v17, v18, v19, dAdd_int, dSub_int, dSub_bl, dNeg_int, bInt_int, dOrd_int, dGe_int, dLe_int, dIs_non, dIsNot_non, true_bl, isNon_ref, isNon_tup, isNon_non, isNon_int, Bool.false_eq_true, if_true, if_false, ite_true, ite_false, not_true, not_false_iff, Bool.not_true, Bool.not_false, Bool.not_not, decide_true, decide_false, List.append_nil, List.nil_append, List.length_cons, List.length_nil, reduceIte, reduceCtorEq]
  exact l2 hw
end
theorem pure_sp (tb : Nat → PySem.Addr) (ns : List Int) (h : ns.length ≤ 63) : sp (g_law tb [some (.ref 0), none, none, none, none, none, none, none, none, none, none, none, none, none, none, none, none, none, none, none] [.ro (ns.map D.int), .tab (tb 0) "law.<locals>.<lambda>"]) PP := by
  rw [gleq]
  unfold gl0
  refine sp_seq.mpr ?_
  simp only [sp_asg, sp_par, sp_par3, sp_if, sp_for, sp_ret, sp_retN, sp_next, sp_brk, sp_cont, sp_expr, wp_bin, wp_un, wp_c, wp_tOf, wp_tTr, wp_tAnd, wp_tOr, wp_tNot, wp_eAnd, wp_eOr, wp_eNot, wp_eIf, wp_aNil, wp_aCons, wp_eCall, wp_eFn, wp_eSl, wp_oNone, wp_oSome, wp_eMt, wp_eLst, wp_eTup, wp_ok, wp_tYes, oq_some, bq_bl, iq_int, uq_some, l2q_ok, l3q_ok, pName_eq, List.set_cons_zero, List.set_cons_succ, v0, v1, v2, v3, v4, v5, v6, v7, v8, v9, v10, v11, v12, v13, v14, v15, v16, v17, v18, v19, dAdd_int, dSub_int, dSub_bl, dNeg_int, bInt_int, dOrd_int, dGe_int, dLe_int, dIs_non, dIsNot_non, true_bl, isNon_ref, isNon_tup, isNon_non, isNon_int, Bool.false_eq_true, if_true, if_false, ite_true, ite_false, not_true, not_false_iff, Bool.not_true, Bool.not_false, Bool.not_not, decide_true, decide_false, List.append_nil, List.nil_append, List.length_cons, List.length_nil, reduceIte, reduceCtorEq]
  rw [source_eq]
  refine source_ok (ns := ns) rfl (by rw [sizeLine_eq]; omega) fun r c t hr hc hs => ?_
  exact l1 ⟨hs, hr, hc, rfl⟩
theorem k08_pure (tb : Nat → PySem.Addr) (ns : List Int) (h : ns.length ≤ 63) : ∃ S', sem_law tb [.ref 0] (.ro (ns.map D.int) :: (List.range tf.length).map fun i => .tab (tb i) (tf.getD i (("", none), "")).2) = .ok (.bl true) S' := by
  have e0 : (.ro (ns.map D.int) :: (List.range tf.length).map fun i => .tab (tb i) (tf.getD i (("", none), "")).2 : Store) = [.ro (ns.map D.int), .tab (tb 0) "law.<locals>.<lambda>"] := rfl
  rw [e0]
  have := wp_sem (S := [.ro (ns.map D.int), .tab (tb 0) "law.<locals>.<lambda>"]) (n := 20) (g := g_law tb) (ds := [.ref 0]) (Q := fun d _ => d = .bl true) (X := fun _ _ => False)
  have h1 : wp (sem_law tb [.ref 0] [.ro (ns.map D.int), .tab (tb 0) "law.<locals>.<lambda>"]) (fun d _ => d = .bl true) (fun _ _ => False) := this.mpr (sp_mono (pure_sp tb ns h) (fun _ _ h => h.elim) (fun _ _ h => h) (fun _ _ h => h) (fun _ _ h => h) fun _ _ _ h => h)
  cases e : sem_law tb [.ref 0] [.ro (ns.map D.int), .tab (tb 0) "law.<locals>.<lambda>"] with
  | ok d S' => rw [e] at h1; exact ⟨S', by rw [show d = .bl true from h1]⟩
  | exc x S' => rw [e] at h1; exact h1.elim
  | bad => rw [e] at h1; exact h1.elim
end K08
set_option Elab.async false
set_option linter.all false
set_option maxRecDepth 100000
set_option maxHeartbeats 0
open PySem PySem.W PySem.Calls PyProof.Rows
theorem PySem.Challenge.cw_wordsbeyond_k08_behind_order_endless_holds : PySem.Challenge.rw_wordsbeyond_k08_behind_order_endless.Holds := by
  w_on; o_law
  refine HandSHeadRun.head_any (r := K08.RR) (q := view K08.RR.prog [29]) (H := K08.hk) (ob := K08.ob) (M := 4000) (loose := K08.loose) (d := HandSHeadRun.topDef K08.RR.prog 29) (kwd := []) K08.ob_eq
    (by kernel_rfl) (fun s => by kernel_rfl) K08.run (by kernel_rfl) (by kernel_rfl) (by kernel_rfl) (by rfl) (by first | assumption | decide +kernel) (by decide +kernel) ⟨rfl, rfl, rfl, rfl, rfl, by decide +kernel⟩ ?hw ?hc
  case hw => w_witness2
  case hc =>
    refine MP.walk_lawT (sem := K08.sem_law) (tf := K08.tf) (l := PySem.Challenge.rw_wordsbeyond_k08_behind_order_endless) (n := 63) (k := 20) (x := "script") rfl (by decide) (by kernel_rfl) ⟨rfl, by decide, by decide⟩ ?F fun tb ns h _ => K08.k08_pure tb ns h
    intro w mg K G c
    have e : (HandSHeadRun.topDef K08.RR.prog 29).name = ("law" : PySem.Str) := by kernel_rfl
    rw [e]
    obtain ⟨f, fd, h1, h2, h3⟩ := K08.law_fn w mg K G c
    exact ⟨f, fd, h1, h2, fun base TB => (h3 base TB).mono (by decide)⟩
