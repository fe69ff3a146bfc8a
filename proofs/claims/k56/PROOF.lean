import PyProof.Rows.All
import HandS.ForMost
import HandS.ForExc
import HandS.Flow
import HandS.IsInst
import HandS.Style
import HandS.TupAny
import HandS.Deep
import HandS.Wide
import HandS.WideBits
import KE.LtData
import PyProof.DictUpdate
import PyProof.ReprRoads
import HandS.Text
import HandS.NoneIn
import HandS.Exc
import HandS.Zip
import HandS.Comp
import HandS.Iter
import HandS.WordsExc
import HandS.HeadEnd
import Wide.Loose
import PyProof.Rows.RegStrFacts
import PyProof.StrLawsRepr
import Wide.All
import OpenK.AllK
import Wide.FinOn
import PySem.Challenge.RW_nextless_k56_whole_lengths_and_sums
set_option Elab.async false
set_option linter.all false
set_option maxRecDepth 100000
set_option maxHeartbeats 4000000
/-! G1: plain data D, memory Mem, how they stand in the real heap. -/
namespace G
open PySem PySem.Spec PyProof.Rows L2

/-- the built-in classes that isinstance is asked of -/
inductive Ty where
  | int | bool | str | tup | lst | dic
def Ty.nm : Ty → String
  | .int => "int"
  | .bool => "bool"
  | .str => "str"
  | .tup => "tuple"
  | .lst => "list"
  | .dic => "dict"
/-- plain data. ref: a place of the memory; adr: a real object (a def, a class); rol: a list that is only read -/
inductive D where
  | non | bl (b : Bool) | int (i : Int) | str (s : List Nat) | tup (xs : List D) | ref (n : Nat) | adr (a : Addr) | rol (xs : List D) | ty (t : Ty)

/-- what stands at a place of the memory. dic b: keys are tuples (b) or ints and texts -/
inductive Ob where
  | lst (xs : List D)
  | dic (b : Bool) (kvs : List (D × D))

abbrev Mem := List Ob
/-- an exception: its class (by the real address), its one field or two -/
structure Xc where
  cls : Addr
  fs : List (Str × D)

inductive R (α : Type) where
  | ok (a : α) (M : Mem)
  | ex (x : Xc) (M : Mem)
  | no

def R.bind {α β : Type} (r : R α) (k : α → Mem → R β) : R β :=
  match r with
  | .ok a M => k a M
  | .ex x M => .ex x M
  | .no => .no

abbrev Rho := List (Option D)
abbrev Ge := Rho → Mem → R D
abbrev Gt := Rho → Mem → R Bool
abbrev Ga := Rho → Mem → R (List D)
/-- how a statement ends -/
inductive Fl where
  | nx (ρ : Rho) | rt (d : D) | bk (ρ : Rho) | ct (ρ : Rho) | xc (x : Xc) (ρ : Rho)
abbrev Gs := Rho → Mem → R Fl

/-! ### in the real heap -/
def FzL (K : PySem.W.Frag) (H : Hp) (a : Addr) (xs : List V) : Prop :=
  (∃ o, H a = some (.frz o (.lst xs))) ∨
    ∃ (o : Obj) (its : Array Value) (n : Nat), K.lookup a = some o ∧ o.cls = .type "list" ∧ o.dict = none ∧ o.data = .seq its n ∧ its.size ≤ sizeLine ∧ Vals xs its.toList
theorem FzL.sq {K : PySem.W.Frag} {H : Hp} {a : Addr} {xs : List V} (h : FzL K H a xs) : SqL K H a xs := by
  rcases h with ⟨o, h⟩ | h
  · exact .inl (.inr ⟨o, h⟩)
  · exact .inr h

mutual
inductive Rep (K : PySem.W.Frag) (ι : List Addr) (H : Hp) : D → V → Prop
  | non : Rep K ι H .non .non
  | bl (b : Bool) : Rep K ι H (.bl b) (.bl b)
  | int (i : Int) : Rep K ι H (.int i) (.int i)
  | str {x : Str} {s : List Nat} (e : x.cps.toList = s) (h : s.length ≤ sizeLine) : Rep K ι H (.str s) (.str x)
  | tup {a : Addr} {xs : List V} {ds : List D} : SqT K H a xs → Reps K ι H ds xs → Rep K ι H (.tup ds) (.ref a)
  | ref {n : Nat} {a : Addr} : ι[n]? = some a → Rep K ι H (.ref n) (.ref a)
  | adr (a : Addr) : Rep K ι H (.adr a) (.ref a)
  | rol {a : Addr} {xs : List V} {ds : List D} : FzL K H a xs → Reps K ι H ds xs → Rep K ι H (.rol ds) (.ref a)
  | ty (t : Ty) : Rep K ι H (.ty t) (.ty t.nm)
inductive Reps (K : PySem.W.Frag) (ι : List Addr) (H : Hp) : List D → List V → Prop
  | nil : Reps K ι H [] []
  | cons {d : D} {v : V} {ds : List D} {vs : List V} : Rep K ι H d v → Reps K ι H ds vs → Reps K ι H (d :: ds) (v :: vs)
end

def keyD : Key → D
  | .inl i => .int i
  | .inr x => .str x.cps.toList
inductive KvR (K : PySem.W.Frag) (ι : List Addr) (H : Hp) : List (D × D) → List (Key × V) → Prop
  | nil : KvR K ι H [] []
  | cons {k : Key} {d : D} {v : V} {r : List (D × D)} {s : List (Key × V)} : Rep K ι H (keyD k) (kV k) → Rep K ι H d v → KvR K ι H r s → KvR K ι H ((keyD k, d) :: r) ((k, v) :: s)
inductive KtR (K : PySem.W.Frag) (ι : List Addr) (H : Hp) : List (D × D) → List (List Key × V) → Prop
  | nil : KtR K ι H [] []
  | cons {k : List Key} {d : D} {v : V} {r : List (D × D)} {s : List (List Key × V)} : Rep K ι H d v → KtR K ι H r s → KtR K ι H ((.tup (k.map keyD), d) :: r) ((k, v) :: s)

inductive ObR (K : PySem.W.Frag) (ι : List Addr) (H : Hp) : Ob → HO → Prop
  | lst {ds : List D} {vs : List V} : Reps K ι H ds vs → ObR K ι H (.lst ds) (.lst vs)
  | dK {kvs : List (D × D)} {us : List (Key × V)} : KvR K ι H kvs us → ObR K ι H (.dic false kvs) (.dK us)
  | dT {kvs : List (D × D)} {us : List (List Key × V)} : KtR K ι H kvs us → ObR K ι H (.dic true kvs) (.dT us)

structure HR (K : PySem.W.Frag) (ι : List Addr) (H : Hp) (M : Mem) : Prop where
  len : ι.length = M.length
  nd : ι.Nodup
  ob : ∀ (n : Nat) (a : Addr) (o : Ob), ι[n]? = some a → M[n]? = some o → ∃ h, H a = some h ∧ ObR K ι H o h

/-- from there to here: new places behind, what isn't of the memory stands -/
structure Ext (K : PySem.W.Frag) (ι : List Addr) (H : Hp) (ι' : List Addr) (H' : Hp) : Prop where
  pre : ∃ κ, ι' = ι ++ κ ∧ ∀ a ∈ κ, H a = none
  frm : ∀ a o, H a = some o → a ∉ ι → H' a = some o
  sqt : ∀ a xs, SqT K H a xs → SqT K H' a xs
  fzl : ∀ a xs, FzL K H a xs → FzL K H' a xs

section
variable {K : PySem.W.Frag} {ι ι' ι1 ι2 : List Addr} {H H' H1 H2 : Hp} {M M' : Mem}

theorem Reps.length : ∀ {ds : List D} {vs : List V}, Reps K ι H ds vs → ds.length = vs.length
  | _, _, .nil => rfl
  | _, _, .cons _ t => by simp only [List.length_cons, Reps.length t]
theorem Reps.get : ∀ {ds : List D} {vs : List V} {i : Nat} {d : D}, Reps K ι H ds vs → ds[i]? = some d → ∃ v, vs[i]? = some v ∧ Rep K ι H d v
  | _, _, _, _, .nil, e => by simp at e
  | _, _, 0, _, .cons r _, e => by simp at e; subst e; exact ⟨_, rfl, r⟩
  | _, _, i + 1, d, .cons _ t, e => by
    obtain ⟨u, h1, h2⟩ := Reps.get (i := i) (d := d) t (by simpa using e)
    exact ⟨u, by simpa using h1, h2⟩
theorem Reps.append : ∀ {ds es : List D} {vs us : List V}, Reps K ι H ds vs → Reps K ι H es us → Reps K ι H (ds ++ es) (vs ++ us)
  | _, _, _, _, .nil, s => s
  | _, _, _, _, .cons r t, s => .cons r (Reps.append t s)
theorem Reps.take : ∀ {ds : List D} {vs : List V} (n : Nat), Reps K ι H ds vs → Reps K ι H (ds.take n) (vs.take n)
  | _, _, 0, _ => .nil
  | _, _, _ + 1, .nil => .nil
  | _, _, n + 1, .cons r t => .cons r (Reps.take n t)
theorem Reps.drop : ∀ {ds : List D} {vs : List V} (n : Nat), Reps K ι H ds vs → Reps K ι H (ds.drop n) (vs.drop n)
  | _, _, 0, r => r
  | _, _, _ + 1, .nil => .nil
  | _, _, n + 1, .cons _ t => Reps.drop n t
theorem Reps.reverse {ds : List D} {vs : List V} (h : Reps K ι H ds vs) : Reps K ι H ds.reverse vs.reverse := by
  induction ds generalizing vs with
  | nil => cases h; exact .nil
  | cons d ds ih =>
    cases h with
    | cons r t =>
      rw [List.reverse_cons, List.reverse_cons]
      exact (ih t).append (.cons r .nil)
theorem Reps.set {d : D} {v : V} (r : Rep K ι H d v) : ∀ {ds : List D} {vs : List V} (i : Nat), Reps K ι H ds vs → Reps K ι H (ds.set i d) (vs.set i v)
  | _, _, _, .nil => .nil
  | _, _, 0, .cons _ t => .cons r t
  | _, _, i + 1, .cons q t => .cons q (Reps.set r i t)
theorem Reps.dropLast {ds : List D} {vs : List V} (h : Reps K ι H ds vs) : Reps K ι H ds.dropLast vs.dropLast := by
  rw [List.dropLast_eq_take, List.dropLast_eq_take, h.length]
  exact h.take _
theorem Reps.eraseIdx : ∀ {ds : List D} {vs : List V} (i : Nat), Reps K ι H ds vs → Reps K ι H (ds.eraseIdx i) (vs.eraseIdx i)
  | _, _, _, .nil => .nil
  | _, _, 0, .cons _ t => t
  | _, _, i + 1, .cons q t => .cons q (Reps.eraseIdx i t)
theorem Reps.rep {ds : List D} {vs : List V} (h : Reps K ι H ds vs) : ∀ k : Nat, Reps K ι H (List.replicate k ds).flatten (List.replicate k vs).flatten
  | 0 => .nil
  | k + 1 => by
    rw [List.replicate_succ, List.replicate_succ, List.flatten_cons, List.flatten_cons]
    exact h.append (Reps.rep h k)

theorem HR.at (h : HR K ι H M) {n : Nat} {o : Ob} (e : M[n]? = some o) : ∃ a u, ι[n]? = some a ∧ H a = some u ∧ ObR K ι H o u := by
  have hn : n < M.length := (List.getElem?_eq_some_iff.mp e).1
  have hn' : n < ι.length := by rw [h.len]; exact hn
  obtain ⟨u, e1, e2⟩ := h.ob n ι[n] o (List.getElem?_eq_getElem hn') e
  exact ⟨ι[n], u, List.getElem?_eq_getElem hn', e1, e2⟩
theorem HR.mem (h : HR K ι H M) {a : Addr} (ha : a ∈ ι) : ∃ o u, H a = some u ∧ ObR K ι H o u := by
  obtain ⟨n, hn, e⟩ := List.getElem_of_mem ha
  have hm : n < M.length := by rw [← h.len]; exact hn
  obtain ⟨u, e1, e2⟩ := h.ob n a M[n] (by rw [List.getElem?_eq_getElem hn, e]) (List.getElem?_eq_getElem hm)
  exact ⟨_, u, e1, e2⟩
theorem HR.ntup (h : HR K ι H M) {a : Addr} {xs : List V} (e : H a = some (.tup xs)) : a ∉ ι := fun ha => by
  obtain ⟨o, u, e1, e2⟩ := h.mem ha
  rw [e] at e1; cases e1; cases e2
theorem HR.nfrz (h : HR K ι H M) {a : Addr} {o : Obj} {u : HO} (e : H a = some (.frz o u)) : a ∉ ι := fun ha => by
  obtain ⟨_, u', e1, e2⟩ := h.mem ha
  rw [e] at e1; cases e1; cases e2

theorem Ext.refl : Ext K ι H ι H := ⟨⟨[], by simp, by simp⟩, fun _ _ e _ => e, fun _ _ e => e, fun _ _ e => e⟩
theorem Ext.trans (a : Ext K ι H ι1 H1) (h : HR K ι1 H1 M) (b : Ext K ι1 H1 ι2 H2) : Ext K ι H ι2 H2 := by
  obtain ⟨κ, e1, f1⟩ := a.pre
  obtain ⟨κ', e2, f2⟩ := b.pre
  refine ⟨⟨κ ++ κ', by rw [e2, e1, List.append_assoc], fun c hc => ?_⟩, fun c o e n => ?_, fun c xs e => b.sqt c xs (a.sqt c xs e), fun c xs e => b.fzl c xs (a.fzl c xs e)⟩
  · rcases List.mem_append.mp hc with hc | hc
    · exact f1 c hc
    · cases q : H c with
      | none => rfl
      | some o =>
        by_cases hi : c ∈ ι
        · obtain ⟨_, u, z, _⟩ := h.mem (a := c) (by rw [e1]; exact List.mem_append_left _ hi)
          rw [f2 c hc] at z; cases z
        · have z := a.frm c o q hi
          rw [f2 c hc] at z; cases z
  · refine b.frm c o (a.frm c o e n) ?_
    rw [e1]
    intro z
    rcases List.mem_append.mp z with z | z
    · exact n z
    · rw [f1 c z] at e; cases e
theorem Ext.get (x : Ext K ι H ι' H') {n : Nat} {a : Addr} (e : ι[n]? = some a) : ι'[n]? = some a := by
  obtain ⟨κ, e1, _⟩ := x.pre
  rw [e1, List.getElem?_append_left (List.getElem?_eq_some_iff.mp e).1]
  exact e
mutual
theorem Rep.ext (x : Ext K ι H ι' H') : ∀ {d : D} {v : V}, Rep K ι H d v → Rep K ι' H' d v
  | _, _, .non => .non
  | _, _, .bl b => .bl b
  | _, _, .int i => .int i
  | _, _, .str e h => .str e h
  | _, _, .tup h r => .tup (x.sqt _ _ h) (Reps.ext x r)
  | _, _, .ref e => .ref (x.get e)
  | _, _, .adr a => .adr a
  | _, _, .rol h r => .rol (x.fzl _ _ h) (Reps.ext x r)
  | _, _, .ty t => .ty t
theorem Reps.ext (x : Ext K ι H ι' H') : ∀ {ds : List D} {vs : List V}, Reps K ι H ds vs → Reps K ι' H' ds vs
  | _, _, .nil => .nil
  | _, _, .cons r t => .cons (Rep.ext x r) (Reps.ext x t)
end
theorem KvR.ext (x : Ext K ι H ι' H') : ∀ {ds : List (D × D)} {vs : List (Key × V)}, KvR K ι H ds vs → KvR K ι' H' ds vs
  | _, _, .nil => .nil
  | _, _, .cons k r t => .cons (k.ext x) (r.ext x) (KvR.ext x t)
theorem KtR.ext (x : Ext K ι H ι' H') : ∀ {ds : List (D × D)} {vs : List (List Key × V)}, KtR K ι H ds vs → KtR K ι' H' ds vs
  | _, _, .nil => .nil
  | _, _, .cons r t => .cons (r.ext x) (KtR.ext x t)
theorem ObR.ext (x : Ext K ι H ι' H') {o : Ob} {u : HO} (h : ObR K ι H o u) : ObR K ι' H' o u := by
  cases h with
  | lst r => exact .lst (r.ext x)
  | dK r => exact .dK (r.ext x)
  | dT r => exact .dT (r.ext x)

/-- what may be changed stands in the memory -/
theorem sqt_same (h : ∀ b o, H b = some o → H' b = some o) : ∀ a xs, SqT K H a xs → SqT K H' a xs := by
  rintro a xs ((q | ⟨o, q⟩) | q)
  · exact .inl (.inl (h _ _ q))
  · exact .inl (.inr ⟨o, h _ _ q⟩)
  · exact .inr q
theorem fzl_same (h : ∀ b o, H b = some o → H' b = some o) : ∀ a xs, FzL K H a xs → FzL K H' a xs := by
  rintro a xs (⟨o, q⟩ | q)
  · exact .inl ⟨o, h _ _ q⟩
  · exact .inr q
/-- an untracked place gets an object that is not of the memory (a tuple) -/
theorem Ext.tup {p : Addr} {u : HO} (hp : H p = none) : Ext K ι H ι (upd H p u) := by
  have h : ∀ b o, H b = some o → upd H p u b = some o := fun b o e => by
    rw [upd_ne (ne_of_none e hp)]; exact e
  exact ⟨⟨[], by simp, by simp⟩, fun a o e _ => h a o e, sqt_same h, fzl_same h⟩
theorem HR.tup {p : Addr} {u : HO} (r : HR K ι H M) (hp : H p = none) : HR K ι (upd H p u) M := by
  refine ⟨r.len, r.nd, fun n a o e1 e2 => ?_⟩
  obtain ⟨h, e, q⟩ := r.ob n a o e1 e2
  exact ⟨h, by rw [upd_ne (ne_of_none e hp)]; exact e, q.ext (Ext.tup hp)⟩
/-- a new object of the memory -/
theorem Ext.new {p : Addr} {u : HO} (hp : H p = none) : Ext K ι H (ι ++ [p]) (upd H p u) := by
  have h : ∀ b o, H b = some o → upd H p u b = some o := fun b o e => by
    rw [upd_ne (ne_of_none e hp)]; exact e
  refine ⟨⟨[p], rfl, fun a ha => ?_⟩, fun a o e _ => h a o e, sqt_same h, fzl_same h⟩
  have e : a = p := by simpa using ha
  rw [e]; exact hp
theorem HR.new {p : Addr} {u : HO} {o : Ob} (r : HR K ι H M) (hp : H p = none) (q : ObR K ι H o u) : HR K (ι ++ [p]) (upd H p u) (M ++ [o]) := by
  have hno : p ∉ ι := fun h => by
    obtain ⟨_, z, e, _⟩ := r.mem h
    rw [hp] at e; cases e
  refine ⟨by simp [r.len], ?_, fun n a ob e1 e2 => ?_⟩
  · rw [List.nodup_append]
    refine ⟨r.nd, by simp, fun a ha b hb => ?_⟩
    have e : b = p := by simpa using hb
    rw [e]
    intro z
    rw [z] at ha
    exact hno ha
  · by_cases hn : n < ι.length
    · rw [List.getElem?_append_left hn] at e1
      rw [List.getElem?_append_left (by rw [← r.len]; exact hn)] at e2
      obtain ⟨h, e, q'⟩ := r.ob n a ob e1 e2
      exact ⟨h, by rw [upd_ne (ne_of_none e hp)]; exact e, q'.ext (Ext.new hp)⟩
    · rw [List.getElem?_append_right (by omega)] at e1
      rw [List.getElem?_append_right (by rw [← r.len]; omega), ← r.len] at e2
      have hz : n - ι.length = 0 := by
        have z := (List.getElem?_eq_some_iff.mp e1).1
        simp at z
        omega
      rw [hz] at e1 e2
      have ea : p = a := by simpa using e1
      have eo : o = ob := by simpa using e2
      subst ea eo
      exact ⟨u, upd_same, q.ext (Ext.new hp)⟩
/-- an object of the memory changes -/
theorem Ext.put {n : Nat} {a : Addr} {u : HO} (r : HR K ι H M) (e : ι[n]? = some a) : Ext K ι H ι (upd H a u) := by
  have ha : a ∈ ι := List.mem_of_getElem? e
  refine ⟨⟨[], by simp, by simp⟩, fun b o h hb => ?_, ?_, ?_⟩
  · rw [upd_ne (fun z => hb (by rw [z]; exact ha))]; exact h
  · rintro b xs ((q | ⟨o, q⟩) | q)
    · exact .inl (.inl (by rw [upd_ne (fun z => r.ntup q (by rw [z]; exact ha))]; exact q))
    · exact .inl (.inr ⟨o, by rw [upd_ne (fun z => r.nfrz q (by rw [z]; exact ha))]; exact q⟩)
    · exact .inr q
  · rintro b xs (⟨o, q⟩ | q)
    · exact .inl ⟨o, by rw [upd_ne (fun z => r.nfrz q (by rw [z]; exact ha))]; exact q⟩
    · exact .inr q
theorem HR.put {n : Nat} {a : Addr} {u : HO} {o : Ob} (r : HR K ι H M) (e : ι[n]? = some a) (q : ObR K ι H o u) : HR K ι (upd H a u) (M.set n o) := by
  have x : Ext K ι H ι (upd H a u) := Ext.put r e
  refine ⟨by rw [List.length_set]; exact r.len, r.nd, fun m b ob e1 e2 => ?_⟩
  by_cases hm : m = n
  · subst hm
    rw [e] at e1; cases e1
    have hlt : m < M.length := by
      have z := (List.getElem?_eq_some_iff.mp e2).1
      rw [List.length_set] at z
      exact z
    rw [List.getElem?_set_self hlt] at e2
    cases e2
    exact ⟨u, upd_same, q.ext x⟩
  · rw [List.getElem?_set_ne (Ne.symm hm)] at e2
    obtain ⟨h, e3, q'⟩ := r.ob m b ob e1 e2
    refine ⟨h, ?_, q'.ext x⟩
    rw [upd_ne]
    · exact e3
    · intro z
      obtain ⟨h1, g1⟩ := List.getElem?_eq_some_iff.mp e
      obtain ⟨h2, g2⟩ := List.getElem?_eq_some_iff.mp e1
      exact hm ((List.getElem_inj r.nd).mp (g2.trans (z.trans g1.symm)))
end

/-! ### the slots -/
structure EnR (K : PySem.W.Frag) (ι : List Addr) (H : Hp) (ρ : Rho) (σ : L2.St) : Prop where
  len : ρ.length = σ.length
  at_ : ∀ (i : Nat) (d : D), ρ[i]? = some (some d) → ∃ v, σ[i]? = some (some v) ∧ Rep K ι H d v
theorem EnR.ext {K : PySem.W.Frag} {ι ι' : List Addr} {H H' : Hp} {ρ : Rho} {σ : L2.St} (e : EnR K ι H ρ σ) (x : Ext K ι H ι' H') : EnR K ι' H' ρ σ :=
  ⟨e.len, fun i d h => let ⟨v, a, b⟩ := e.at_ i d h; ⟨v, a, b.ext x⟩⟩
theorem EnR.set {K : PySem.W.Frag} {ι : List Addr} {H : Hp} {ρ : Rho} {σ : L2.St} {d : D} {v : V} (e : EnR K ι H ρ σ) (r : Rep K ι H d v) (i : Nat) : EnR K ι H (ρ.set i (some d)) (σ.set i (some v)) := by
  refine ⟨by rw [List.length_set, List.length_set]; exact e.len, fun j c h => ?_⟩
  by_cases hj : j = i
  · subst hj
    have hlt : j < ρ.length := by
      have z := (List.getElem?_eq_some_iff.mp h).1
      rw [List.length_set] at z
      exact z
    rw [List.getElem?_set_self hlt] at h
    cases h
    exact ⟨v, by rw [List.getElem?_set_self (by rw [← e.len]; exact hlt)], r⟩
  · rw [List.getElem?_set_ne (Ne.symm hj)] at h
    rw [List.getElem?_set_ne (Ne.symm hj)]
    exact e.at_ j c h

/-! ### the judgements -/
/-- what is wanted of an exception: class, own dict -/
def XcR (K : PySem.W.Frag) (ι : List Addr) (H : Hp) (x : Xc) (c : Value) (dd : Option Addr) : Prop :=
  c = .ref x.cls ∧ ((x.fs = [] ∧ dd = none) ∨ ∃ d us, dd = some d ∧ H d = some (.xd us) ∧ d ∉ ι ∧ us.map (·.1) = x.fs.map (·.1) ∧ Reps K ι H (x.fs.map (·.2)) (us.map (·.2)))
def PostG {α β : Type} (K : PySem.W.Frag) (ι : List Addr) (H : Hp) (W : WX) (σ : L2.St) (Rl : List Addr → Hp → α → β → Prop) (Q : β → Hp → Prop) : R α → Prop
  | .ok d M' => ∀ v ι' H', Ext K ι H ι' H' → HR K ι' H' M' → Rl ι' H' d v → Q v H'
  | .ex x M' => ∀ c dd ι' H', Ext K ι H ι' H' → HR K ι' H' M' → XcR K ι' H' x c dd → W c dd σ H'
  | .no => False
abbrev PostE (K : PySem.W.Frag) (ι : List Addr) (H : Hp) (W : WX) (σ : L2.St) (Q : VK) (r : R D) : Prop := PostG K ι H W σ (fun ι' H' d v => Rep K ι' H' d v) Q r
abbrev PostT (K : PySem.W.Frag) (ι : List Addr) (H : Hp) (W : WX) (σ : L2.St) (Q : Bool → Hp → Prop) (r : R Bool) : Prop := PostG K ι H W σ (fun _ _ a b => a = b) Q r
abbrev PostA (K : PySem.W.Frag) (ι : List Addr) (H : Hp) (W : WX) (σ : L2.St) (Q : List V → Hp → Prop) (r : R (List D)) : Prop := PostG K ι H W σ (fun ι' H' d v => Reps K ι' H' d v) Q r
/-- the state -/
structure RS (K : PySem.W.Frag) (ι : List Addr) (H : Hp) (σ : L2.St) (ρ : Rho) (M : Mem) : Prop where
  en : EnR K ι H ρ σ
  hr : HR K ι H M
def tG (K : PySem.W.Frag) (W : WX) (g : Ge) : TE := fun σ H Q => ∃ ρ M ι, RS K ι H σ ρ M ∧ PostE K ι H W σ Q (g ρ M)
def tT (K : PySem.W.Frag) (W : WX) (g : Gt) : TT := fun σ H Q => ∃ ρ M ι, RS K ι H σ ρ M ∧ PostT K ι H W σ Q (g ρ M)
def tA (K : PySem.W.Frag) (W : WX) (g : Ga) : TA := fun σ H Q => ∃ ρ M ι, RS K ι H σ ρ M ∧ PostA K ι H W σ Q (g ρ M)
abbrev GE (X : Cx) (W : WX) (e : Expr) (g : Ge) : Prop := PE X e (tG X.K W g)
abbrev GT (X : Cx) (W : WX) (e : Expr) (g : Gt) : Prop := PT X e (tT X.K W g)
abbrev GA (X : Cx) (W : WX) (es : List Expr) (g : Ga) : Prop := PA X es (tA X.K W g)

section
variable {K : PySem.W.Frag} {ι ι1 : List Addr} {H H1 : Hp} {M : Mem} {W : WX} {σ : L2.St} {ρ : Rho}
theorem RS.ext (r : RS K ι H σ ρ M) {ι' : List Addr} {H' : Hp} {M' : Mem} (x : Ext K ι H ι' H') (h : HR K ι' H' M') : RS K ι' H' σ ρ M' := ⟨r.en.ext x, h⟩
theorem PostG.rebase {α β : Type} {Rl : List Addr → Hp → α → β → Prop} {Q : β → Hp → Prop} {r : R α} (h : PostG K ι H W σ Rl Q r) (x : Ext K ι H ι1 H1) (hr : HR K ι1 H1 M) : PostG K ι1 H1 W σ Rl Q r := by
  cases r with
  | ok d M' => exact fun v ι' H' x' h' q => h v ι' H' (x.trans hr x') h' q
  | ex e M' => exact fun c dd ι' H' x' h' q => h c dd ι' H' (x.trans hr x') h' q
  | no => exact h
theorem PostG.mono {α β : Type} {Rl : List Addr → Hp → α → β → Prop} {Q Q' : β → Hp → Prop} {r : R α} (h : PostG K ι H W σ Rl Q r)
    (q : ∀ d M' v ι' H', r = .ok d M' → Ext K ι H ι' H' → HR K ι' H' M' → Rl ι' H' d v → Q v H' → Q' v H') : PostG K ι H W σ Rl Q' r := by
  cases r with
  | ok d M' => exact fun v ι' H' x h' w => q d M' v ι' H' rfl x h' w (h v ι' H' x h' w)
  | ex e M' => exact h
  | no => exact h
/-- one behind the other -/
theorem PostG.bind {α β γ δ : Type} {Rl : List Addr → Hp → α → β → Prop} {Rl' : List Addr → Hp → γ → δ → Prop} {Q : δ → Hp → Prop} {r : R α} {k : α → Mem → R γ}
    (h : PostG K ι H W σ Rl' Q (r.bind k)) : PostG K ι H W σ Rl (fun v H1 => ∃ d M1 ι1, Ext K ι H ι1 H1 ∧ HR K ι1 H1 M1 ∧ Rl ι1 H1 d v ∧ PostG K ι1 H1 W σ Rl' Q (k d M1)) r := by
  cases r with
  | ok d M' => exact fun v ι' H' x hr w => ⟨d, M', ι', x, hr, w, PostG.rebase (show PostG K ι H W σ Rl' Q (k d M') from h) x hr⟩
  | ex e M' => exact h
  | no => exact h
end
theorem pe_weak {X : Cx} {e : Expr} {t t' : TE} (h : PE X e t) (w : ∀ σ H Q, t' σ H Q → t σ H Q) : PE X e t' := ⟨fun pins s σ H Q I q => h.run pins s σ H Q I (w σ H Q q)⟩
theorem pt_weak {X : Cx} {e : Expr} {t t' : TT} (h : PT X e t) (w : ∀ σ H Q, t' σ H Q → t σ H Q) : PT X e t' := ⟨fun pins s σ H Q I q => h.run pins s σ H Q I (w σ H Q q)⟩
theorem pw_weak {X : Cx} {e : Expr} {t t' : TT} (h : PW X e t) (w : ∀ σ H Q, t' σ H Q → t σ H Q) : PW X e t' := ⟨fun wh pins s σ H Q I q => h.run wh pins s σ H Q I (w σ H Q q)⟩
theorem pa_weak {X : Cx} {es : List Expr} {t t' : TA} (h : PA X es t) (w : ∀ σ H Q, t' σ H Q → t σ H Q) : PA X es t' := ⟨fun pos pins s σ H Q I q => h.run pos pins s σ H Q I (w σ H Q q)⟩
theorem ps_weak {X : Cx} {st : Stmt} {t t' : TS} (h : PS X st t) (w : ∀ D σ H, t' D σ H → t D σ H) : PS X st t' := ⟨fun pins s σ H D I q => h.run pins s σ H D I (w D σ H q)⟩
theorem pss_weak {X : Cx} {st : List Stmt} {t t' : TS} (h : PSs X st t) (w : ∀ D σ H, t' D σ H → t D σ H) : PSs X st t' := ⟨fun pins s σ H D I q => h.run pins s σ H D I (w D σ H q)⟩
theorem pg_weak {X : Cx} {e : Expr} {t t' : TG} (h : PG X e t) (w : ∀ v σ H Q, t' v σ H Q → t v σ H Q) : PG X e t' := ⟨fun pins s σ H v u Q I r q => h.run pins s σ H v u Q I r (w v σ H Q q)⟩
end G
set_option maxRecDepth 100000
set_option maxHeartbeats 4000000
/-! G2: expressions. -/
namespace G
open PySem PySem.Spec PyProof.Rows L2

theorem PostG.imp {α β : Type} {K : PySem.W.Frag} {ι : List Addr} {H : Hp} {W : WX} {σ : L2.St} {Rl : List Addr → Hp → α → β → Prop} {Q Q' : β → Hp → Prop} {r : R α} (h : PostG K ι H W σ Rl Q r)
    (q : ∀ v H', Q v H' → Q' v H') : PostG K ι H W σ Rl Q' r := by
  cases r with
  | ok d M' => exact fun v ι' H' x h' w => q v H' (h v ι' H' x h' w)
  | ex e M' => exact h
  | no => exact h

/-! ### slots, constants -/
def slot : Rho → Nat → Option D
  | [], _ => none
  | o :: _, 0 => o
  | _ :: r, i + 1 => slot r i
theorem slot_get : ∀ {ρ : Rho} {i : Nat} {d : D}, slot ρ i = some d → ρ[i]? = some (some d)
  | [], _, _, h => by cases h
  | o :: r, 0, d, h => by
    have h' : o = some d := h
    rw [h']
    rfl
  | _ :: r, i + 1, d, h => by
    have h' := slot_get (ρ := r) (i := i) (d := d) h
    simpa using h'
def gV (i : Nat) : Ge := fun ρ M => match slot ρ i with
  | some d => .ok d M
  | none => .no
def gC (d : D) : Ge := fun _ M => .ok d M
section
variable {X : Cx} {W : WX}
theorem g_v (i : Nat) {x : Str} {pos : Pos} (hN : X.N[i]? = some x := by rfl) (hv : Vis X.env.scope x := by first | exact Or.inl rfl | exact Or.inr (Or.inl rfl) | exact Or.inr (Or.inr rfl)) (hd : (x == ("__debug__" : Str)) = false := by decide)
    (hcd : (x == ("__classdict__" : Str)) = false := by decide) : GE X W (.Name x pos) (gV i) := by
  refine pe_weak (pv i hN hv hd hcd) fun σ H Q ⟨ρ, M, ι, rs, h⟩ => ?_
  have h : PostE X.K ι H W σ Q (match slot ρ i with | some d => .ok d M | none => .no) := h
  cases e : slot ρ i with
  | none => rw [e] at h; exact h.elim
  | some d =>
    rw [e] at h
    obtain ⟨v, e1, r⟩ := rs.en.at_ i d (slot_get e)
    exact ⟨v, e1, h v ι H Ext.refl rs.hr r⟩
theorem g_c {e : Expr} {v : V} (d : D) (h : PE X e (tC v)) (r : ∀ ι H, Rep X.K ι H d v) : GE X W e (gC d) :=
  pe_weak h fun σ H Q ⟨ρ, M, ι, rs, q⟩ => q v ι H Ext.refl rs.hr (r ι H)
theorem g_int {i : Int} {j pos} : GE X W (.Constant (.int i) j pos) (gC (.int i)) := g_c _ pe_int fun _ _ => .int _
theorem g_bl {b j pos} : GE X W (.Constant (.bool b) j pos) (gC (.bl b)) := g_c _ pe_bl fun _ _ => .bl _
theorem g_non {j pos} : GE X W (.Constant .none j pos) (gC .non) := g_c _ pe_non fun _ _ => .non
theorem g_str {x : Str} {j pos} (s : List Nat) (h : x.cps.toList = s := by first | rfl | decide +kernel) (hs : s.length ≤ 16777216 := by decide) : GE X W (.Constant (.str x) j pos) (gC (.str s)) :=
  g_c _ pe_str fun _ _ => .str h (by rw [sizeLine_eq]; exact hs)
end

/-! ### operators -/
abbrev Op2 := D → D → Mem → Option (D × Mem)
abbrev OpN := List D → Mem → Option (D × Mem)
def PostO (K : PySem.W.Frag) (ι : List Addr) (H : Hp) (Q : VK) : Option (D × Mem) → Prop
  | some (d, M') => ∀ v ι' H', Ext K ι H ι' H' → HR K ι' H' M' → Rep K ι' H' d v → Q v H'
  | none => False
def R.of : Option (D × Mem) → R D
  | some (d, M) => .ok d M
  | none => .no
theorem postO {K : PySem.W.Frag} {ι : List Addr} {H : Hp} {W : WX} {σ : L2.St} {Q : VK} {o : Option (D × Mem)} (h : PostE K ι H W σ Q (R.of o)) : PostO K ι H Q o := by
  cases o with
  | none => exact h
  | some p => exact h
def rG (K : PySem.W.Frag) (f : Op2) : R2 := fun x y H Q => ∃ d e M ι, HR K ι H M ∧ Rep K ι H d x ∧ Rep K ι H e y ∧ PostO K ι H Q (f d e M)
def rG1 (K : PySem.W.Frag) (f : D → Mem → Option (D × Mem)) : V → Hp → VK → Prop := fun x H Q => ∃ d M ι, HR K ι H M ∧ Rep K ι H d x ∧ PostO K ι H Q (f d M)
def rGN (K : PySem.W.Frag) (f : OpN) : List V → Hp → VK → Prop := fun xs H Q => ∃ ds M ι, HR K ι H M ∧ Reps K ι H ds xs ∧ PostO K ι H Q (f ds M)
def gOp (f : Op2) (ga gb : Ge) : Ge := fun ρ M => (ga ρ M).bind fun x M1 => (gb ρ M1).bind fun y M2 => R.of (f x y M2)
def gUn (f : D → Mem → Option (D × Mem)) (ga : Ge) : Ge := fun ρ M => (ga ρ M).bind fun x M1 => R.of (f x M1)
def gNil : Ga := fun _ M => .ok [] M
def gCons (g : Ge) (r : Ga) : Ga := fun ρ M => (g ρ M).bind fun x M1 => (r ρ M1).bind fun xs M2 => .ok (x :: xs) M2
def gCB (f : OpN) (g : Ga) : Ge := fun ρ M => (g ρ M).bind fun xs M1 => R.of (f xs M1)
section
variable {X : Cx} {W : WX} {a b c e : Expr} {es : List Expr} {ga gb gc ge : Ge} {gs : Ga} {pos : Pos}
theorem to_op {f : Op2} : ∀ σ H Q, tG X.K W (gOp f ga gb) σ H Q → tOp (rG X.K f) (tG X.K W ga) (tG X.K W gb) σ H Q := fun σ H Q ⟨ρ, M, ι, rs, h⟩ => by
  refine ⟨ρ, M, ι, rs, (PostG.bind (Rl := fun ι' H' d v => Rep X.K ι' H' d v) h).imp fun v H1 ⟨d1, M1, ι1, x1, hr1, r1, h1⟩ => ?_⟩
  refine ⟨ρ, M1, ι1, rs.ext x1 hr1, (PostG.bind (Rl := fun ι' H' d v => Rep X.K ι' H' d v) h1).imp fun u H2 ⟨d2, M2, ι2, x2, hr2, r2, h2⟩ => ?_⟩
  exact ⟨d1, d2, M2, ι2, hr2, r1.ext x2, r2, postO h2⟩
theorem g_op {op : Operator} {f : Op2} (ho : OpR X (binaryOp op) (rG X.K f)) (ha : GE X W a ga) (hb : GE X W b gb) : GE X W (.BinOp a op b pos) (gOp f ga gb) := pe_weak (pe_op ho ha hb) to_op
theorem g_cmp {op : CmpOp} {f : Op2} (ho : OpR X (compareOp op) (rG X.K f)) (ha : GE X W a ga) (hb : GE X W b gb) (hm : behindInMarks op b = false := by first | exact nomark _ | rfl) : GE X W (.Compare a [op] [b] pos) (gOp f ga gb) := pe_weak (pe_cmpR ho ha hb hm) to_op
theorem g_un {op : UnaryOp} {f : D → Mem → Option (D × Mem)} (ho : UnR X (unaryOp op) (rG1 X.K f)) (ha : GE X W a ga) : GE X W (.UnaryOp op a pos) (gUn f ga) :=
  pe_weak (pe_un ho ha) fun σ H Q ⟨ρ, M, ι, rs, h⟩ =>
    ⟨ρ, M, ι, rs, (PostG.bind (Rl := fun ι' H' d v => Rep X.K ι' H' d v) h).imp fun v H1 ⟨d1, M1, ι1, _, hr1, r1, h1⟩ => ⟨d1, M1, ι1, hr1, r1, postO h1⟩⟩
theorem g_nil : GA X W [] gNil := pa_weak pa_nil fun σ H Q ⟨ρ, M, ι, rs, h⟩ => h [] ι H Ext.refl rs.hr .nil
theorem g_cons (ha : GE X W e ge) (hr : GA X W es gs) (hs : starEach (e :: es) X.env = (false, eval e X.env) :: starEach es X.env := by rfl) : GA X W (e :: es) (gCons ge gs) := by
  refine pa_weak (pa_cons ha hr hs) fun σ H Q ⟨ρ, M, ι, rs, h⟩ => ?_
  refine ⟨ρ, M, ι, rs, (PostG.bind (Rl := fun ι' H' d v => Rep X.K ι' H' d v) h).imp fun v H1 ⟨d1, M1, ι1, x1, hr1, r1, h1⟩ => ?_⟩
  refine ⟨ρ, M1, ι1, rs.ext x1 hr1, (PostG.bind (Rl := fun ι' H' d v => Reps X.K ι' H' d v) h1).imp fun u H2 ⟨d2, M2, ι2, x2, hr2, r2, h2⟩ => ?_⟩
  exact h2 _ ι2 H2 Ext.refl hr2 (.cons (r1.ext x2) r2)
theorem to_cb {f : OpN} : ∀ σ H Q, tG X.K W (gCB f gs) σ H Q → tCB (rGN X.K f) (tA X.K W gs) σ H Q := fun σ H Q ⟨ρ, M, ι, rs, h⟩ =>
  ⟨ρ, M, ι, rs, (PostG.bind (Rl := fun ι' H' d v => Reps X.K ι' H' d v) h).imp fun v H1 ⟨d1, M1, ι1, _, hr1, r1, h1⟩ => ⟨d1, M1, ι1, hr1, r1, postO h1⟩⟩
/-- f(..), f a built-in function, a built-in type -/
theorem g_callB {x : Str} {id : String} {p : Pos} {f : OpN} (hc : CallR X (.builtin id) (rGN X.K f)) (hm : X.mg x = none) (hv : bootBuiltins x = some (.builtin id)) (ha : GA X W (e :: es) gs) (hg : Gl X x := by rfl) (hn : x ≠ "__name__" := by decide) (hdb : (x == ("__debug__" : Str)) = false := by decide)
    (he : starEach (e :: es) X.env = (false, eval e X.env) :: starEach es X.env := by rfl) (hpl : (backTo pos (starEach es X.env)).any (·.1) = false := by rfl) : GE X W (.Call (.Name x p) (e :: es) [] pos) (gCB f gs) :=
  pe_weak (pe_callB hc hg hm hv ha hn hdb he hpl) to_cb
theorem g_callT {x : Str} {T : String} {p : Pos} {f : OpN} (hc : CallR X (.type T) (rGN X.K f)) (hm : X.mg x = none) (hv : bootBuiltins x = some (.type T)) (ha : GA X W (e :: es) gs) (hg : Gl X x := by rfl) (hn : x ≠ "__name__" := by decide) (hdb : (x == ("__debug__" : Str)) = false := by decide)
    (he : starEach (e :: es) X.env = (false, eval e X.env) :: starEach es X.env := by rfl) (hpl : (backTo pos (starEach es X.env)).any (·.1) = false := by rfl) : GE X W (.Call (.Name x p) (e :: es) [] pos) (gCB f gs) :=
  pe_weak (pe_callTy hc hg hm hv ha hn hdb he hpl) to_cb
end

/-! ### displays -/
def gTup (g : Ga) : Ge := fun ρ M => (g ρ M).bind fun xs M1 => if xs.length ≤ 16777216 then .ok (.tup xs) M1 else .no
def gLst (g : Ga) : Ge := fun ρ M => (g ρ M).bind fun xs M1 => if xs.length ≤ 16777216 then .ok (.ref M1.length) (M1 ++ [.lst xs]) else .no
theorem HR.len' {K : PySem.W.Frag} {ι : List Addr} {H : Hp} {M : Mem} (h : HR K ι H M) (p : Addr) : (ι ++ [p])[M.length]? = some p := by
  rw [← h.len]; simp
section
variable {X : Cx} {W : WX} {es : List Expr} {gs : Ga} {pos : Pos}
theorem g_tup {x1} (h : GA X W es gs) : GE X W (.Tuple es x1 pos) (gTup gs) := by
  refine pe_weak (pe_tup h) fun σ H Q ⟨ρ, M, ι, rs, h⟩ => ?_
  refine ⟨ρ, M, ι, rs, (PostG.bind (Rl := fun ι' H' d v => Reps X.K ι' H' d v) h).imp fun xs H1 ⟨ds, M1, ι1, x1, hr1, r1, h1⟩ => ?_⟩
  by_cases hz : ds.length ≤ 16777216
  · rw [if_pos hz] at h1
    refine ⟨by rw [← r1.length, sizeLine_eq]; exact hz, fun p hp => ?_⟩
    exact h1 (.ref p) ι1 _ (Ext.tup hp) (hr1.tup hp) (.tup (.of upd_same) (r1.ext (Ext.tup hp)))
  · rw [if_neg hz] at h1; exact h1.elim
theorem g_lst (h : GA X W es gs) : GE X W (.List es pos) (gLst gs) := by
  refine pe_weak (pe_lst h) fun σ H Q ⟨ρ, M, ι, rs, h⟩ => ?_
  refine ⟨ρ, M, ι, rs, (PostG.bind (Rl := fun ι' H' d v => Reps X.K ι' H' d v) h).imp fun xs H1 ⟨ds, M1, ι1, x1, hr1, r1, h1⟩ => ?_⟩
  by_cases hz : ds.length ≤ 16777216
  · rw [if_pos hz] at h1
    refine ⟨by rw [← r1.length, sizeLine_eq]; exact hz, fun p hp => ?_⟩
    exact h1 (.ref p) (ι1 ++ [p]) _ (Ext.new hp) (hr1.new hp (.lst r1)) (.ref (hr1.len' p))
  · rw [if_neg hz] at h1; exact h1.elim
end

/-! ### truth, tests -/
def truD (M : Mem) : D → Option Bool
  | .non => some false
  | .bl b => some b
  | .int i => some (i != 0)
  | .str s => some (!s.isEmpty)
  | .tup xs => some (!xs.isEmpty)
  | .rol xs => some (!xs.isEmpty)
  | .ref n => match M[n]? with
    | some (.lst xs) => some (!xs.isEmpty)
    | some (.dic false kvs) => some (!kvs.isEmpty)
    | _ => none
  | _ => none
theorem reps_empty {K : PySem.W.Frag} {ι : List Addr} {H : Hp} {ds : List D} {vs : List V} (r : Reps K ι H ds vs) : (!ds.isEmpty) = !vs.isEmpty := by
  cases r <;> rfl
theorem kvr_empty {K : PySem.W.Frag} {ι : List Addr} {H : Hp} {ds : List (D × D)} {vs : List (Key × V)} (r : KvR K ι H ds vs) : (!ds.isEmpty) = !vs.isEmpty := by
  cases r <;> rfl
theorem tru_of {K : PySem.W.Frag} {ι : List Addr} {H : Hp} {M : Mem} (hr : HR K ι H M) {d : D} {v : V} {b : Bool} (r : Rep K ι H d v) (h : truD M d = some b) : TruV K v H b := by
  cases r with
  | non => cases h; exact rfl
  | bl c => cases h; exact rfl
  | int i => cases h; exact rfl
  | @str x s e hs =>
    cases h
    refine ⟨by show x.cps.size ≤ _; rw [← Array.length_toList, e]; exact hs, ?_⟩
    show (!s.isEmpty) = ((x.cps.size : Int) != 0)
    rw [← Array.length_toList, e]
    cases s with
    | nil => rfl
    | cons c r =>
      show true = _
      symm
      rw [bne_iff_ne]
      simp only [List.length_cons]
      omega
  | tup h1 h2 => cases h; exact .inr (.inl ⟨_, h1, reps_empty h2⟩)
  | rol h1 h2 => cases h; exact .inl ⟨_, h1.sq, reps_empty h2⟩
  | @ref n a e =>
    replace h : (match M[n]? with | some (.lst xs) => some (!xs.isEmpty) | some (.dic false kvs) => some (!kvs.isEmpty) | _ => none) = some b := h
    split at h
    · rename_i xs eo
      cases h
      obtain ⟨u, e1, q⟩ := hr.ob n a _ e eo
      cases q with
      | lst r => exact .inl ⟨_, .of e1, reps_empty r⟩
    · rename_i kvs eo
      cases h
      obtain ⟨u, e1, q⟩ := hr.ob n a _ e eo
      cases q with
      | dK r => exact .inr (.inr ⟨_, e1, kvr_empty r⟩)
    · cases h
  | adr a => cases h
  | ty t => cases h
/-- a value's truth -/
def gTru (g : Ge) : Gt := fun ρ M => (g ρ M).bind fun d M1 => match truD M1 d with
  | some b => .ok b M1
  | none => .no
/-- a value that is a bool -/
def gTst (g : Ge) : Gt := fun ρ M => (g ρ M).bind fun d M1 => match d with
  | .bl b => .ok b M1
  | _ => .no
def gAndT (a b : Gt) : Gt := fun ρ M => (a ρ M).bind fun c M1 => if c = true then b ρ M1 else .ok false M1
def gOrT (a b : Gt) : Gt := fun ρ M => (a ρ M).bind fun c M1 => if c = true then .ok true M1 else b ρ M1
def gNotT (a : Gt) : Gt := fun ρ M => (a ρ M).bind fun c M1 => .ok (!c) M1
def gAnd (a b : Ge) : Ge := fun ρ M => (a ρ M).bind fun x M1 => match truD M1 x with
  | some true => b ρ M1
  | some false => .ok x M1
  | none => .no
def gOr (a b : Ge) : Ge := fun ρ M => (a ρ M).bind fun x M1 => match truD M1 x with
  | some true => .ok x M1
  | some false => b ρ M1
  | none => .no
def gNot (a : Ge) : Ge := fun ρ M => (a ρ M).bind fun x M1 => match truD M1 x with
  | some b => .ok (.bl (!b)) M1
  | none => .no
def gIf (c : Gt) (a b : Ge) : Ge := fun ρ M => (c ρ M).bind fun k M1 => if k = true then a ρ M1 else b ρ M1
abbrev GW (X : Cx) (W : WX) (e : Expr) (g : Gt) : Prop := PW X e (tT X.K W g)
section
variable {X : Cx} {W : WX} {a b c : Expr} {rest : List Expr} {ga gb : Ge} {ta tb tc : Gt} {pos : Pos}
theorem t_tru (ha : GE X W a ga) (he : ∀ whole, isTrue a X.env whole = (do let v ← whole; standAt a.pos; holding [v] (truthy v)) := by intro _; rfl) : GT X W a (gTru ga) := by
  refine pt_weak (pt_truth ha he) fun σ H Q ⟨ρ, M, ι, rs, h⟩ => ?_
  refine ⟨ρ, M, ι, rs, (PostG.bind (Rl := fun ι' H' d v => Rep X.K ι' H' d v) h).imp fun v H1 ⟨d1, M1, ι1, x1, hr1, r1, h1⟩ => ?_⟩
  cases e : truD M1 d1 with
  | none => rw [e] at h1; exact h1.elim
  | some k =>
    rw [e] at h1
    exact ⟨k, tru_of hr1 r1 e, h1 k ι1 H1 Ext.refl hr1 rfl⟩
theorem to_tst : ∀ σ H Q, tT X.K W (gTst ga) σ H Q → tTest (tG X.K W ga) σ H Q := fun σ H Q ⟨ρ, M, ι, rs, h⟩ => by
  refine ⟨ρ, M, ι, rs, (PostG.bind (Rl := fun ι' H' d v => Rep X.K ι' H' d v) h).imp fun v H1 ⟨d1, M1, ι1, x1, hr1, r1, h1⟩ => ?_⟩
  cases r1 with
  | bl k => exact ⟨k, rfl, h1 k ι1 H1 Ext.refl hr1 rfl⟩
  | _ => exact h1.elim
theorem t_cmp {op : CmpOp} {f : Op2} (ho : OpR X (compareOp op) (rG X.K f)) (ha : GE X W a ga) (hb : GE X W b gb) (hm : behindInMarks op b = false := by first | exact nomark _ | rfl) : GT X W (.Compare a [op] [b] pos) (gTst (gOp f ga gb)) := by
  refine pt_weak (pt_weak (pt_cmpR ho ha hb hm) (fun σ H Q h => ?_)) to_tst
  obtain ⟨ρ, M, ι, rs, q⟩ := h
  exact to_op σ H _ ⟨ρ, M, ι, rs, q⟩
theorem w_and1 (ha : GT X W a ta) : GW X W (.BoolOp .And [a] pos) ta := pw_and1 ha
theorem w_or1 (ha : GT X W a ta) : GW X W (.BoolOp .Or [a] pos) ta := pw_or1 ha
theorem w_and (ha : GT X W a ta) (hb : GW X W (.BoolOp .And (b :: rest) pos) tb) : GW X W (.BoolOp .And (a :: b :: rest) pos) (gAndT ta tb) := by
  refine pw_weak (pw_and ha hb) fun σ H Q ⟨ρ, M, ι, rs, h⟩ => ?_
  refine ⟨ρ, M, ι, rs, (PostG.bind (Rl := fun _ _ (a b : Bool) => a = b) h).imp fun v H1 ⟨d1, M1, ι1, x1, hr1, r1, h1⟩ => ?_⟩
  subst r1
  cases d1 with
  | true => exact ⟨ρ, M1, ι1, rs.ext x1 hr1, h1⟩
  | false => exact h1 false ι1 H1 Ext.refl hr1 rfl
theorem w_or (ha : GT X W a ta) (hb : GW X W (.BoolOp .Or (b :: rest) pos) tb) : GW X W (.BoolOp .Or (a :: b :: rest) pos) (gOrT ta tb) := by
  refine pw_weak (pw_or ha hb) fun σ H Q ⟨ρ, M, ι, rs, h⟩ => ?_
  refine ⟨ρ, M, ι, rs, (PostG.bind (Rl := fun _ _ (a b : Bool) => a = b) h).imp fun v H1 ⟨d1, M1, ι1, x1, hr1, r1, h1⟩ => ?_⟩
  subst r1
  cases d1 with
  | true => exact h1 true ι1 H1 Ext.refl hr1 rfl
  | false => exact ⟨ρ, M1, ι1, rs.ext x1 hr1, h1⟩
theorem t_w (h : GW X W a ta) : GT X W a ta := h.pt
theorem t_not (ha : GT X W a ta) : GT X W (.UnaryOp .Not a pos) (gNotT ta) := by
  refine pt_weak (pt_not ha) fun σ H Q ⟨ρ, M, ι, rs, h⟩ => ?_
  refine ⟨ρ, M, ι, rs, (PostG.bind (Rl := fun _ _ (a b : Bool) => a = b) h).imp fun v H1 ⟨d1, M1, ι1, x1, hr1, r1, h1⟩ => ?_⟩
  subst r1
  exact h1 _ ι1 H1 Ext.refl hr1 rfl
theorem g_one {op} (h : GE X W a ga) : GE X W (.BoolOp op [a] pos) ga := pe_one h
theorem g_and (ha : GE X W a ga) (hb : GE X W (.BoolOp .And (b :: rest) pos) gb) : GE X W (.BoolOp .And (a :: b :: rest) pos) (gAnd ga gb) := by
  refine pe_weak (pe_andT ha hb) fun σ H Q ⟨ρ, M, ι, rs, h⟩ => ?_
  refine ⟨ρ, M, ι, rs, (PostG.bind (Rl := fun ι' H' d v => Rep X.K ι' H' d v) h).imp fun v H1 ⟨d1, M1, ι1, x1, hr1, r1, h1⟩ => ?_⟩
  cases e : truD M1 d1 with
  | none => rw [e] at h1; exact h1.elim
  | some k =>
    rw [e] at h1
    refine ⟨k, tru_of hr1 r1 e, ?_⟩
    cases k with
    | true => exact ⟨ρ, M1, ι1, rs.ext x1 hr1, h1⟩
    | false => exact h1 v ι1 H1 Ext.refl hr1 r1
theorem g_or (ha : GE X W a ga) (hb : GE X W (.BoolOp .Or (b :: rest) pos) gb) : GE X W (.BoolOp .Or (a :: b :: rest) pos) (gOr ga gb) := by
  refine pe_weak (pe_orT ha hb) fun σ H Q ⟨ρ, M, ι, rs, h⟩ => ?_
  refine ⟨ρ, M, ι, rs, (PostG.bind (Rl := fun ι' H' d v => Rep X.K ι' H' d v) h).imp fun v H1 ⟨d1, M1, ι1, x1, hr1, r1, h1⟩ => ?_⟩
  cases e : truD M1 d1 with
  | none => rw [e] at h1; exact h1.elim
  | some k =>
    rw [e] at h1
    refine ⟨k, tru_of hr1 r1 e, ?_⟩
    cases k with
    | false => exact ⟨ρ, M1, ι1, rs.ext x1 hr1, h1⟩
    | true => exact h1 v ι1 H1 Ext.refl hr1 r1
theorem g_not (ha : GE X W a ga) : GE X W (.UnaryOp .Not a pos) (gNot ga) := by
  refine pe_weak (pe_notT ha) fun σ H Q ⟨ρ, M, ι, rs, h⟩ => ?_
  refine ⟨ρ, M, ι, rs, (PostG.bind (Rl := fun ι' H' d v => Rep X.K ι' H' d v) h).imp fun v H1 ⟨d1, M1, ι1, x1, hr1, r1, h1⟩ => ?_⟩
  cases e : truD M1 d1 with
  | none => rw [e] at h1; exact h1.elim
  | some k =>
    rw [e] at h1
    exact ⟨k, tru_of hr1 r1 e, h1 _ ι1 H1 Ext.refl hr1 (.bl _)⟩
theorem g_if (hc : GT X W c tc) (ha : GE X W a ga) (hb : GE X W b gb) : GE X W (.IfExp c a b pos) (gIf tc ga gb) := by
  refine pe_weak (pe_ifExp hc ha hb) fun σ H Q ⟨ρ, M, ι, rs, h⟩ => ?_
  refine ⟨ρ, M, ι, rs, (PostG.bind (Rl := fun _ _ (a b : Bool) => a = b) h).imp fun v H1 ⟨d1, M1, ι1, x1, hr1, r1, h1⟩ => ?_⟩
  subst r1
  cases d1 with
  | true => exact ⟨ρ, M1, ι1, rs.ext x1 hr1, h1⟩
  | false => exact ⟨ρ, M1, ι1, rs.ext x1 hr1, h1⟩
end
end G
set_option maxRecDepth 100000
set_option maxHeartbeats 4000000
/-! G3: operators by values. -/
namespace G
open PySem PySem.Spec PyProof.Rows L2
open PySem.W (alike dataLt rcLt_alike)

/-! ### plain data of the library -/
def mapO {α β : Type} (f : α → Option β) : List α → Option (List β)
  | [] => some []
  | x :: r => match f x with
    | none => none
    | some y => match mapO f r with
      | none => none
      | some ys => some (y :: ys)
def pd (M : Mem) : Nat → D → Option PyData
  | 0, _ => none
  | n + 1, d => match d with
    | .non => some .none
    | .bl b => some (.bool b)
    | .int i => some (.int i)
    | .str s => if s.all (fun c => decide (c < 1114112)) = true then some (.str ⟨s.toArray⟩) else none
    | .tup xs => match mapO (pd M n) xs with
      | some ys => some (.tuple ys)
      | none => none
    | .rol xs => match mapO (pd M n) xs with
      | some ys => some (.list ys)
      | none => none
    | .ref a => match M[a]? with
      | some (.lst xs) => match mapO (pd M n) xs with
        | some ys => some (.list ys)
        | none => none
      | _ => none
    | _ => none
theorem mapO_cons {α β : Type} {f : α → Option β} {x : α} {r : List α} {ys : List β} (h : mapO f (x :: r) = some ys) : ∃ y zs, f x = some y ∧ mapO f r = some zs ∧ ys = y :: zs := by
  unfold mapO at h
  split at h
  · cases h
  · rename_i y e
    split at h
    · cases h
    · rename_i zs e2
      cases h
      exact ⟨y, zs, e, e2, rfl⟩
theorem str_eta {x : Str} {s : List Nat} (e : x.cps.toList = s) : x = ⟨s.toArray⟩ := by
  cases x with
  | mk c =>
    have e' : c.toList = s := e
    subst e'
    simp
section
variable {K : PySem.W.Frag} {ι : List Addr} {H : Hp} {M : Mem}
theorem pd_all {n : Nat} (ih : ∀ (d : D) (v : V) (p : PyData), pd M n d = some p → Rep K ι H d v → Dp K H v p ∧ p.depth ≤ n ∧ p.canLay0 = true) :
    ∀ (ds : List D) (vs : List V) (ps : List PyData), mapO (pd M n) ds = some ps → Reps K ι H ds vs → DpAll K H vs ps ∧ PyData.depthAll ps ≤ n ∧ PyData.canLayAll0 ps = true
  | [], _, _, h, .nil => by
    cases h
    exact ⟨.nil, Nat.zero_le _, rfl⟩
  | d :: ds, _, _, h, .cons r rs => by
    obtain ⟨y, zs, e1, e2, rfl⟩ := mapO_cons h
    obtain ⟨a1, a2, a3⟩ := ih _ _ _ e1 r
    obtain ⟨b1, b2, b3⟩ := pd_all ih ds _ zs e2 rs
    refine ⟨.cons a1 b1, ?_, ?_⟩
    · unfold PyData.depthAll
      exact Nat.max_le.mpr ⟨a2, b2⟩
    · unfold PyData.canLayAll0
      rw [a3, b3]; rfl
theorem pd_ok (hr : HR K ι H M) : ∀ (n : Nat) (d : D) (v : V) (p : PyData), pd M n d = some p → Rep K ι H d v → Dp K H v p ∧ p.depth ≤ n ∧ p.canLay0 = true
  | 0, _, _, _, h, _ => by cases h
  | n + 1, d, v, p, h, r => by
    have ih := pd_all (pd_ok hr n)
    cases r with
    | non => cases h; exact ⟨.non, Nat.zero_le _, rfl⟩
    | bl b => cases h; exact ⟨.bl b, Nat.zero_le _, rfl⟩
    | int i => cases h; exact ⟨.int i, Nat.zero_le _, rfl⟩
    | @str x s e hs =>
      replace h : (if s.all (fun c => decide (c < 1114112)) = true then some (PyData.str ⟨s.toArray⟩) else none) = some p := h
      split at h
      · rename_i ha
        cases h
        refine ⟨by rw [str_eta e]; exact .str _, Nat.zero_le _, ?_⟩
        show PyData.strOk ⟨s.toArray⟩ = true
        unfold PyData.strOk
        simpa using ha
      · cases h
    | @tup a xs ds h1 h2 =>
      replace h : (match mapO (pd M n) ds with | some ys => some (PyData.tuple ys) | none => none) = some p := h
      split at h
      · rename_i ys e
        cases h
        obtain ⟨a1, a2, a3⟩ := ih _ _ _ e h2
        exact ⟨.tup h1 a1, Nat.succ_le_succ a2, a3⟩
      · cases h
    | @rol a xs ds h1 h2 =>
      replace h : (match mapO (pd M n) ds with | some ys => some (PyData.list ys) | none => none) = some p := h
      split at h
      · rename_i ys e
        cases h
        obtain ⟨a1, a2, a3⟩ := ih _ _ _ e h2
        exact ⟨.lst h1.sq a1, Nat.succ_le_succ a2, a3⟩
      · cases h
    | @ref m a e =>
      replace h : (match M[m]? with | some (.lst xs) => (match mapO (pd M n) xs with | some ys => some (PyData.list ys) | none => none) | _ => none) = some p := h
      split at h
      · rename_i xs eo
        obtain ⟨u, e1, q⟩ := hr.ob m a _ e eo
        cases q with
        | lst rs =>
          split at h
          · rename_i ys e2
            cases h
            obtain ⟨a1, a2, a3⟩ := ih _ _ _ e2 rs
            exact ⟨.lst (.of e1) a1, Nat.succ_le_succ a2, a3⟩
          · cases h
      · cases h
    | adr a => cases h
    | ty t => cases h
theorem pd_shaped (hr : HR K ι H M) {d : D} {v : V} {p : PyData} (h : pd M 60 d = some p) (r : Rep K ι H d v) : Dp K H v p ∧ SeqAt.shaped p = true := by
  obtain ⟨a, b, c⟩ := pd_ok hr 60 d v p h r
  refine ⟨a, ?_⟩
  unfold SeqAt.shaped
  rw [c]
  exact decide_eq_true (Nat.le_trans b (by decide))
end

/-! ### comparisons -/
def eqM (neg : Bool) : Op2 := fun x y M => match pd M 60 x with
  | none => none
  | some p => match pd M 60 y with
    | none => none
    | some q => some (.bl (if neg then !PyData.eqv p q else PyData.eqv p q), M)
def notNone : PyData → Bool
  | .none => false
  | _ => true
def ltM : Op2 := fun x y M => match x, y with
  | .int i, .int j => some (.bl (decide (i < j)), M)
  | x, y => match pd M 60 x with
    | none => none
    | some p => match pd M 60 y with
      | none => none
      | some q => if (alike p q && notNone p) = true then some (.bl (dataLt p q), M) else none
def leM : Op2 := fun x y M => match x, y with
  | .int i, .int j => some (.bl (decide (i ≤ j)), M)
  | .str s, .str t => some (.bl (!decide (t < s)), M)
  | _, _ => none
def gtM : Op2 := fun x y M => match x, y with
  | .int i, .int j => some (.bl (decide (j < i)), M)
  | .str s, .str t => some (.bl (decide (t < s)), M)
  | _, _ => none
def geM : Op2 := fun x y M => match x, y with
  | .int i, .int j => some (.bl (decide (j ≤ i)), M)
  | .str s, .str t => some (.bl (!decide (s < t)), M)
  | _, _ => none
def isNon : D → Bool
  | .non => true
  | _ => false
/-- is None, is True, is False -/
def isM (neg : Bool) : Op2 := fun x y M => match x, y with
  | .bl a, .bl b => some (.bl (if neg then !decide (a = b) else decide (a = b)), M)
  | x, .non => some (.bl (if neg then !isNon x else isNon x), M)
  | _, _ => none
section
variable {X : Cx}
theorem eq_ok (hu : X.A.units + 65 < cLine) : OpR X (compareOp .Eq) (rG X.K (eqM false)) := by
  intro pins s σ H x y v u Q I rx ry ⟨d, e, M, ι, hr, rd, re, h⟩
  unfold eqM at h
  split at h
  · exact h.elim
  · rename_i p ep
    split at h
    · exact h.elim
    · rename_i q eq
      obtain ⟨a1, a2⟩ := pd_shaped hr ep rd
      obtain ⟨b1, b2⟩ := pd_shaped hr eq re
      exact op_eqD (by omega) pins s σ H x y v u Q I rx ry ⟨p, q, a1, b1, a2, b2, h _ ι H Ext.refl hr (.bl _)⟩
theorem ne_ok (hu : X.A.units + 65 < cLine) : OpR X (compareOp .NotEq) (rG X.K (eqM true)) := by
  intro pins s σ H x y v u Q I rx ry ⟨d, e, M, ι, hr, rd, re, h⟩
  unfold eqM at h
  split at h
  · exact h.elim
  · rename_i p ep
    split at h
    · exact h.elim
    · rename_i q eq
      obtain ⟨a1, a2⟩ := pd_shaped hr ep rd
      obtain ⟨b1, b2⟩ := pd_shaped hr eq re
      exact op_neD (by omega) pins s σ H x y v u Q I rx ry ⟨p, q, a1, b1, a2, b2, h _ ι H Ext.refl hr (.bl _)⟩
theorem lt_data {pins : List (Addr × Obj)} {s : Shared} {σ : L2.St} {H : Hp} {x y : V} {v u : Value} {Q : VK} {M : Mem} {ι : List Addr} {d e : D} {p q : PyData} (hu : X.A.units + 65 < cLine) (I : Inv X pins σ H s) (rx : RelV x v) (ry : RelV y u)
    (hr : HR X.K ι H M) (rd : Rep X.K ι H d x) (re : Rep X.K ι H e y) (ep : pd M 60 d = some p) (eq : pd M 60 e = some q) (ha : (alike p q && notNone p) = true) (h : Q (.bl (dataLt p q)) H) :
    wpAny (model X.prog X.w) X.A (compareOp .Lt v u) (EP X pins σ Q) X.xe s := by
  obtain ⟨a1, a2⟩ := pd_shaped hr ep rd
  obtain ⟨b1, b2⟩ := pd_shaped hr eq re
  obtain ⟨as, r1⟩ := Dp.reads I p x v a1 rx
  obtain ⟨bs, r2⟩ := Dp.reads I q y u b1 ry
  obtain ⟨h1, h2⟩ := Bool.and_eq_true_iff.mp ha
  have hn : p ≠ .none := fun z => by rw [z] at h2; cases h2
  have hroom : X.A.units + min p.depth q.depth < cLine := SeqAt.room_of_shaped a2 (by omega)
  exact rcLt_alike p q X.A s v u as bs r1 r2 h1 hn hroom _ _ _ _ ⟨.bl _, H, I, rfl, h⟩
theorem lt_ok (hu : X.A.units + 65 < cLine) : OpR X (compareOp .Lt) (rG X.K ltM) := by
  intro pins s σ H x y v u Q I rx ry ⟨d, e, M, ι, hr, rd, re, h⟩
  unfold ltM at h
  split at h
  · cases rd
    cases re
    exact op_lt pins s σ H _ _ v u Q I rx ry ⟨_, _, rfl, rfl, h _ ι H Ext.refl hr (.bl _)⟩
  · split at h
    · exact h.elim
    · rename_i p ep
      split at h
      · exact h.elim
      · rename_i q eq
        split at h
        · rename_i ha
          exact lt_data hu I rx ry hr rd re ep eq ha (h _ ι H Ext.refl hr (.bl _))
        · exact h.elim
theorem le_ok : OpR X (compareOp .LtE) (rG X.K leM) := by
  intro pins s σ H x y v u Q I rx ry ⟨d, e, M, ι, hr, rd, re, h⟩
  unfold leM at h
  split at h
  · cases rd
    cases re
    exact op_le pins s σ H _ _ v u Q I rx ry ⟨_, _, rfl, rfl, h _ ι H Ext.refl hr (.bl _)⟩
  · cases rd with
    | str e1 h1 =>
      cases re with
      | str e2 h2 =>
        subst e1 e2
        exact op_le_str pins s σ H _ _ v u Q I rx ry ⟨_, _, rfl, rfl, h _ ι H Ext.refl hr (.bl _)⟩
  · exact h.elim
theorem gt_ok : OpR X (compareOp .Gt) (rG X.K gtM) := by
  intro pins s σ H x y v u Q I rx ry ⟨d, e, M, ι, hr, rd, re, h⟩
  unfold gtM at h
  split at h
  · cases rd
    cases re
    exact op_gt pins s σ H _ _ v u Q I rx ry ⟨_, _, rfl, rfl, h _ ι H Ext.refl hr (.bl _)⟩
  · cases rd with
    | str e1 h1 =>
      cases re with
      | str e2 h2 =>
        subst e1 e2
        exact op_gt_str pins s σ H _ _ v u Q I rx ry ⟨_, _, rfl, rfl, h _ ι H Ext.refl hr (.bl _)⟩
  · exact h.elim
theorem ge_ok : OpR X (compareOp .GtE) (rG X.K geM) := by
  intro pins s σ H x y v u Q I rx ry ⟨d, e, M, ι, hr, rd, re, h⟩
  unfold geM at h
  split at h
  · cases rd
    cases re
    exact op_ge pins s σ H _ _ v u Q I rx ry ⟨_, _, rfl, rfl, h _ ι H Ext.refl hr (.bl _)⟩
  · cases rd with
    | str e1 h1 =>
      cases re with
      | str e2 h2 =>
        subst e1 e2
        exact op_ge_str pins s σ H _ _ v u Q I rx ry ⟨_, _, rfl, rfl, h _ ι H Ext.refl hr (.bl _)⟩
  · exact h.elim
theorem non_of {K : PySem.W.Frag} {ι : List Addr} {H : Hp} {d : D} {v : V} (r : Rep K ι H d v) : decide (v = V.non) = isNon d := by
  cases r <;> first | rfl | exact decide_eq_false (fun z => nomatch z)
theorem is_ok : OpR X (compareOp .Is) (rG X.K (isM false)) := by
  intro pins s σ H x y v u Q I rx ry ⟨d, e, M, ι, hr, rd, re, h⟩
  unfold isM at h
  split at h
  · cases rd
    cases re
    exact op_isBl pins s σ H _ _ v u Q I rx ry ⟨_, _, rfl, rfl, h _ ι H Ext.refl hr (.bl _)⟩
  · cases re
    refine op_isN pins s σ H _ _ v u Q I rx ry ⟨rfl, ?_⟩
    rw [non_of rd]
    exact h _ ι H Ext.refl hr (.bl _)
  · exact h.elim
theorem isnot_ok : OpR X (compareOp .IsNot) (rG X.K (isM true)) := by
  intro pins s σ H x y v u Q I rx ry ⟨d, e, M, ι, hr, rd, re, h⟩
  unfold isM at h
  split at h
  · cases rd
    cases re
    exact op_notBl pins s σ H _ _ v u Q I rx ry ⟨_, _, rfl, rfl, h _ ι H Ext.refl hr (.bl _)⟩
  · cases re
    refine op_notN pins s σ H _ _ v u Q I rx ry ⟨rfl, ?_⟩
    rw [non_of rd]
    exact h _ ι H Ext.refl hr (.bl _)
  · exact h.elim
end

/-! ### arithmetic, joining -/
def mulOk (i j : Int) : Bool := decide (i.natAbs.log2 + j.natAbs.log2 < 1000000)
def addM : Op2 := fun x y M => match x, y with
  | .int i, .int j => some (.int (i + j), M)
  | .str s, .str t => if s.length + t.length ≤ 16777216 then some (.str (s ++ t), M) else none
  | .tup xs, .tup ys => if xs.length + ys.length ≤ 16777216 then some (.tup (xs ++ ys), M) else none
  | .ref a, .ref b => match M[a]? with
    | some (.lst xs) => match M[b]? with
      | some (.lst ys) => if xs.length + ys.length ≤ 16777216 then some (.ref M.length, M ++ [.lst (xs ++ ys)]) else none
      | _ => none
    | _ => none
  | _, _ => none
def subM : Op2 := fun x y M => match x, y with
  | .int i, .int j => some (.int (i - j), M)
  | _, _ => none
def mulM : Op2 := fun x y M => match x, y with
  | .int i, .int j => if mulOk i j = true then some (.int (i * j), M) else none
  | .ref a, .int k => match M[a]? with
    | some (.lst xs) => if -9223372036854775808 ≤ k ∧ k < 9223372036854775808 ∧ xs.length * k.toNat ≤ 16777216 then some (.ref M.length, M ++ [.lst (List.replicate k.toNat xs).flatten]) else none
    | _ => none
  | _, _ => none
def fdivM : Op2 := fun x y M => match x, y with
  | .int i, .int j => if 0 < j ∧ j.natAbs.log2 < 9000 then some (.int (i / j), M) else none
  | _, _ => none
def modM : Op2 := fun x y M => match x, y with
  | .int i, .int j => if 0 < j then some (.int (i % j), M) else none
  | _, _ => none
def powM : Op2 := fun x y M => match x, y with
  | .int i, .int j => if 0 ≤ j ∧ j ≤ 1000000 ∧ i.natAbs < 18446744073709551616 then some (.int (i ^ j.toNat), M) else none
  | _, _ => none
def negM : D → Mem → Option (D × Mem) := fun x M => match x with
  | .int i => some (.int (-i), M)
  | _ => none
section
variable {X : Cx}
theorem sub_ok : OpR X (binaryOp .Sub) (rG X.K subM) := by
  intro pins s σ H x y v u Q I rx ry ⟨d, e, M, ι, hr, rd, re, h⟩
  unfold subM at h
  split at h
  · cases rd
    cases re
    exact op_sub pins s σ H _ _ v u Q I rx ry ⟨_, _, rfl, rfl, h _ ι H Ext.refl hr (.int _)⟩
  · exact h.elim
theorem fdiv_ok : OpR X (binaryOp .FloorDiv) (rG X.K fdivM) := by
  intro pins s σ H x y v u Q I rx ry ⟨d, e, M, ι, hr, rd, re, h⟩
  unfold fdivM at h
  split at h
  · cases rd
    cases re
    split at h
    · rename_i hc
      exact op_fdivW pins s σ H _ _ v u Q I rx ry ⟨_, _, rfl, rfl, hc, h _ ι H Ext.refl hr (.int _)⟩
    · exact h.elim
  · exact h.elim
theorem mod_ok : OpR X (binaryOp .Mod) (rG X.K modM) := by
  intro pins s σ H x y v u Q I rx ry ⟨d, e, M, ι, hr, rd, re, h⟩
  unfold modM at h
  split at h
  · cases rd
    cases re
    split at h
    · rename_i hc
      exact op_mod pins s σ H _ _ v u Q I rx ry ⟨_, _, rfl, rfl, hc, h _ ι H Ext.refl hr (.int _)⟩
    · exact h.elim
  · exact h.elim
theorem pow_ok : OpR X (binaryOp .Pow) (rG X.K powM) := by
  intro pins s σ H x y v u Q I rx ry ⟨d, e, M, ι, hr, rd, re, h⟩
  unfold powM at h
  split at h
  · cases rd
    cases re
    split at h
    · rename_i hc
      exact op_pow pins s σ H _ _ v u Q I rx ry ⟨_, _, rfl, rfl, hc, h _ ι H Ext.refl hr (.int _)⟩
    · exact h.elim
  · exact h.elim
theorem neg_ok : UnR X (unaryOp .USub) (rG1 X.K negM) := by
  intro pins s σ H x v Q I rx ⟨d, M, ι, hr, rd, h⟩
  unfold negM at h
  split at h
  · cases rd
    exact un_neg pins s σ H _ v Q I rx ⟨_, rfl, h _ ι H Ext.refl hr (.int _)⟩
  · exact h.elim
theorem add_ok : OpR X (binaryOp .Add) (rG X.K addM) := by
  intro pins s σ H x y v u Q I rx ry ⟨d, e, M, ι, hr, rd, re, h⟩
  unfold addM at h
  split at h
  · cases rd
    cases re
    exact op_add pins s σ H _ _ v u Q I rx ry ⟨_, _, rfl, rfl, h _ ι H Ext.refl hr (.int _)⟩
  · rename_i s1 s2
    cases rd with
    | @str a _ e1 h1 =>
      cases re with
      | @str b _ e2 h2 =>
        split at h
        · rename_i hz
          have la : a.length = s1.length := by show a.cps.size = _; rw [← e1]; simp
          have lb : b.length = s2.length := by show b.cps.size = _; rw [← e2]; simp
          refine op_add_str pins s σ H _ _ v u Q I rx ry ⟨a, b, rfl, rfl, by rw [la, lb, sizeLine_eq]; exact hz, h _ ι H Ext.refl hr (.str ?_ (by rw [List.length_append, sizeLine_eq]; exact hz))⟩
          show (a.cps ++ b.cps).toList = _
          rw [Array.toList_append, e1, e2]
        · exact h.elim
  · cases rd with
    | @tup a xs ds h1 r1 =>
      cases re with
      | @tup b ys es h2 r2 =>
        split at h
        · rename_i hz
          refine op_catA pins s σ H _ _ v u Q I rx ry ⟨a, b, xs, ys, rfl, rfl, h1, h2, by rw [← r1.length, ← r2.length, sizeLine_eq]; exact hz, fun z => ?_, fun z1 z2 => ?_, fun z1 z2 p hp => ?_⟩
          · subst z
            cases r1
            exact h _ ι H Ext.refl hr (.tup h2 r2)
          · subst z2
            cases r2
            exact h _ ι H Ext.refl hr (.tup h1 (by rw [List.append_nil]; exact r1))
          · exact h _ ι _ (Ext.tup hp) (hr.tup hp) (.tup (.of upd_same) ((r1.append r2).ext (Ext.tup hp)))
        · exact h.elim
  · rename_i n m
    cases rd with
    | @ref _ a e1 =>
      cases re with
      | @ref _ b e2 =>
        split at h
        · rename_i xs eo
          split at h
          · rename_i ys eo2
            split at h
            · rename_i hz
              obtain ⟨u1, f1, q1⟩ := hr.ob n a _ e1 eo
              obtain ⟨u2, f2, q2⟩ := hr.ob m b _ e2 eo2
              cases q1 with
              | lst r1 =>
                cases q2 with
                | lst r2 =>
                  refine op_cat pins s σ H _ _ v u Q I rx ry ⟨a, b, _, _, rfl, rfl, f1, f2, by rw [← r1.length, ← r2.length, sizeLine_eq]; exact hz, fun p hp => ?_⟩
                  exact h _ (ι ++ [p]) _ (Ext.new hp) (hr.new hp (.lst (r1.append r2))) (.ref (hr.len' p))
            · exact h.elim
          · exact h.elim
        · exact h.elim
  · exact h.elim
theorem mul_ok : OpR X (binaryOp .Mult) (rG X.K mulM) := by
  intro pins s σ H x y v u Q I rx ry ⟨d, e, M, ι, hr, rd, re, h⟩
  unfold mulM at h
  split at h
  · cases rd
    cases re
    split at h
    · rename_i hc
      exact op_mulW pins s σ H _ _ v u Q I rx ry ⟨_, _, rfl, rfl, (of_decide_eq_true (p := _ < 1000000) hc), h _ ι H Ext.refl hr (.int _)⟩
    · exact h.elim
  · rename_i n k
    cases rd with
    | @ref _ a e1 =>
      cases re
      split at h
      · rename_i xs eo
        split at h
        · rename_i hz
          obtain ⟨u1, f1, q1⟩ := hr.ob n a _ e1 eo
          cases q1 with
          | lst r1 =>
            refine op_rep pins s σ H _ _ v u Q I rx ry ⟨a, _, _, rfl, rfl, f1, hz.1, hz.2.1, by rw [← r1.length, sizeLine_eq]; exact hz.2.2, fun p hp => ?_⟩
            exact h _ (ι ++ [p]) _ (Ext.new hp) (hr.new hp (.lst (r1.rep _))) (.ref (hr.len' p))
        · exact h.elim
      · exact h.elim
  · exact h.elim
end
end G
set_option maxRecDepth 100000
set_option maxHeartbeats 4000000
/-! G4: items, slices, in, dicts, methods of lists and dicts. -/
namespace G
open PySem PySem.Spec PyProof.Rows L2

/-! ### dicts by values -/
def kEq : D → D → Bool
  | .int i, .int j => i == j
  | .str s, .str t => s == t
  | _, _ => false
def isKey : D → Option Key
  | .int i => some (.inl i)
  | .str s => some (.inr ⟨s.toArray⟩)
  | _ => none
def dLook : List (D × D) → D → Option D
  | [], _ => none
  | (a, v) :: r, k => if kEq a k = true then some v else dLook r k
def dHas : List (D × D) → D → Bool
  | [], _ => false
  | (a, _) :: r, k => if kEq a k = true then true else dHas r k
def dSet : List (D × D) → D → D → List (D × D)
  | [], _, _ => []
  | (a, w) :: r, k, v => (a, if kEq a k = true then v else w) :: dSet r k v
def dPut (kvs : List (D × D)) (k v : D) : List (D × D) := if dHas kvs k = true then dSet kvs k v else kvs ++ [(k, v)]
def dMerge (kvs more : List (D × D)) : List (D × D) := more.foldl (fun acc kv => dPut acc kv.1 kv.2) kvs
theorem kEq_dec (a b : Key) : kEq (keyD a) (keyD b) = decide (a = b) := by
  cases a with
  | inl i =>
    cases b with
    | inl j => rw [key_ll]; rfl
    | inr y => rw [key_lr]; rfl
  | inr x =>
    cases b with
    | inl j => rw [key_rl]; rfl
    | inr y =>
      rw [key_rr]
      show (x.cps.toList == y.cps.toList) = _
      by_cases e : x = y
      · subst e; simp
      · rw [decide_eq_false e]
        refine beq_eq_false_iff_ne.mpr fun z => e ?_
        rw [str_eta (x := x) rfl, str_eta (x := y) rfl, z]
section
variable {K : PySem.W.Frag} {ι : List Addr} {H : Hp}
theorem key_of_D {d : D} {y : V} {k : Key} (r : Rep K ι H d y) (h : isKey d = some k) : y = kV k ∧ d = keyD k := by
  cases r with
  | int i => cases h; exact ⟨rfl, rfl⟩
  | @str x s e hs =>
    cases h
    refine ⟨by rw [str_eta e]; rfl, ?_⟩
    show D.str s = D.str (s.toArray.toList)
    simp
  | _ => cases h
theorem kvr_look (k : Key) : ∀ {kvs : List (D × D)} {us : List (Key × V)}, KvR K ι H kvs us → (dLook kvs (keyD k) = none ∧ valV us k = none) ∨ ∃ d v, dLook kvs (keyD k) = some d ∧ valV us k = some v ∧ Rep K ι H d v
  | _, _, .nil => .inl ⟨rfl, rfl⟩
  | _, _, @KvR.cons _ _ _ a d v r s ra rd t => by
    by_cases e : a = k
    · refine .inr ⟨d, v, ?_, valV_pos e, rd⟩
      show (if kEq (keyD a) (keyD k) = true then some d else _) = _
      rw [kEq_dec, decide_eq_true e, if_pos rfl]
    · have h1 : dLook ((keyD a, d) :: r) (keyD k) = dLook r (keyD k) := by
        show (if kEq (keyD a) (keyD k) = true then some d else _) = _
        rw [kEq_dec, decide_eq_false e, if_neg Bool.false_ne_true]
      have h2 : valV ((a, v) :: s) k = valV s k := valV_neg e
      rw [h1, h2]
      exact kvr_look k t
theorem kvr_has (k : Key) : ∀ {kvs : List (D × D)} {us : List (Key × V)}, KvR K ι H kvs us → dHas kvs (keyD k) = us.any fun kv => decide (kv.1 = k)
  | _, _, .nil => rfl
  | _, _, @KvR.cons _ _ _ a d v r s ra rd t => by
    show (if kEq (keyD a) (keyD k) = true then true else dHas r (keyD k)) = (decide (a = k) || s.any fun kv => decide (kv.1 = k))
    rw [kEq_dec, kvr_has k t]
    cases decide (a = k) <;> rfl
theorem kvr_look_has (k : Key) {kvs : List (D × D)} {us : List (Key × V)} (h : KvR K ι H kvs us) : dHas kvs (keyD k) = (valV us k).isSome := by rw [kvr_has k h, valV_any]
theorem kvr_set (k : Key) {d : D} {v : V} (rd : Rep K ι H d v) : ∀ {kvs : List (D × D)} {us : List (Key × V)}, KvR K ι H kvs us → KvR K ι H (dSet kvs (keyD k) d) (us.map fun kv => if kv.1 = k then (kv.1, v) else kv)
  | _, _, .nil => .nil
  | _, _, @KvR.cons _ _ _ a d' v' r s ra rd' t => by
    show KvR K ι H ((keyD a, if kEq (keyD a) (keyD k) = true then d else d') :: dSet r (keyD k) d) ((if a = k then (a, v) else (a, v')) :: _)
    rw [kEq_dec]
    by_cases e : a = k
    · rw [decide_eq_true e, if_pos rfl, if_pos e]
      exact .cons ra rd (kvr_set k rd t)
    · rw [decide_eq_false e, if_neg Bool.false_ne_true, if_neg e]
      exact .cons ra rd' (kvr_set k rd t)
theorem kvr_app : ∀ {kvs ls : List (D × D)} {us ws : List (Key × V)}, KvR K ι H kvs us → KvR K ι H ls ws → KvR K ι H (kvs ++ ls) (us ++ ws)
  | _, _, _, _, .nil, s => s
  | _, _, _, _, .cons k r t, s => .cons k r (kvr_app t s)
theorem kvr_put {k : Key} {d : D} {v : V} (rk : Rep K ι H (keyD k) (kV k)) (rd : Rep K ι H d v) {kvs : List (D × D)} {us : List (Key × V)} (h : KvR K ι H kvs us) : KvR K ι H (dPut kvs (keyD k) d) (putK us k v) := by
  unfold dPut putK
  rw [kvr_has k h]
  by_cases e : (us.any fun kv => decide (kv.1 = k)) = true
  · rw [if_pos e, if_pos e]
    exact kvr_set k rd h
  · rw [if_neg e, if_neg e]
    exact kvr_app h (.cons rk rd .nil)
theorem kvr_merge : ∀ {ls : List (D × D)} {ws : List (Key × V)} {kvs : List (D × D)} {us : List (Key × V)}, KvR K ι H ls ws → KvR K ι H kvs us → KvR K ι H (dMerge kvs ls) (mergeK us ws)
  | _, _, _, _, .nil, h => h
  | _, _, _, _, @KvR.cons _ _ _ a d v r s ra rd t, h => by
    unfold dMerge mergeK
    rw [List.foldl_cons, List.foldl_cons]
    exact kvr_merge t (kvr_put ra rd h)
theorem kvr_len : ∀ {kvs : List (D × D)} {us : List (Key × V)}, KvR K ι H kvs us → kvs.length = us.length
  | _, _, .nil => rfl
  | _, _, .cons _ _ t => by rw [List.length_cons, List.length_cons, kvr_len t]
end

/-! ### items -/
def atD (xs : List D) (i : Int) : Option D := if 0 ≤ i then xs[i.toNat]? else if -(xs.length : Int) ≤ i then xs[(i + xs.length).toNat]? else none
def atN (xs : List Nat) (i : Int) : Option Nat := if 0 ≤ i then xs[i.toNat]? else if -(xs.length : Int) ≤ i then xs[(i + xs.length).toNat]? else none
theorem at_gen {α : Type} (xs : List α) (i : Int) : (if 0 ≤ i then xs[i.toNat]? else if -(xs.length : Int) ≤ i then xs[(i + xs.length).toNat]? else none) = atI xs i := by
  unfold atI ixN
  by_cases h : 0 ≤ i
  · rw [if_pos h, if_pos h]
    by_cases h2 : i < xs.length
    · rw [if_pos h2]; rfl
    · rw [if_neg h2]
      have : xs.length ≤ i.toNat := by omega
      rw [List.getElem?_eq_none this]
      rfl
  · rw [if_neg h, if_neg h]
    by_cases h2 : -(xs.length : Int) ≤ i
    · rw [if_pos h2, if_pos h2]; rfl
    · rw [if_neg h2, if_neg h2]; rfl
theorem reps_at {K : PySem.W.Frag} {ι : List Addr} {H : Hp} {ds : List D} {vs : List V} {i : Int} {d : D} (r : Reps K ι H ds vs) (h : atD ds i = some d) : ∃ v, atI vs i = some v ∧ Rep K ι H d v := by
  have hl := r.length
  unfold atD at h
  rw [← at_gen]
  split at h
  · rename_i h0
    rw [if_pos h0]
    exact r.get h
  · rename_i h0
    split at h
    · rename_i h1
      rw [if_neg h0, if_pos (by rw [← hl]; exact h1), ← hl]
      exact r.get h
    · cases h
def ixM : Op2 := fun x y M => match x with
  | .tup xs => match y with
    | .int i => match atD xs i with
      | some d => some (d, M)
      | none => none
    | _ => none
  | .rol xs => match y with
    | .int i => match atD xs i with
      | some d => some (d, M)
      | none => none
    | _ => none
  | .str s => match y with
    | .int i => match atN s i with
      | some c => some (.str [c], M)
      | none => none
    | _ => none
  | .ref a => match M[a]? with
    | some (.lst xs) => match y with
      | .int i => match atD xs i with
        | some d => some (d, M)
        | none => none
      | _ => none
    | some (.dic false kvs) => match isKey y with
      | some _ => match dLook kvs y with
        | some d => some (d, M)
        | none => none
      | none => none
    | _ => none
  | _ => none
section
variable {X : Cx}
theorem ix_dict (hu : X.A.units + 65 < cLine) : IxR X (fun x y H Q => ∃ a v, x = .ref a ∧ DGet H a y (some v) ∧ Q v H) := by
  intro value slice pins s σ H x y o i Q I rx ry ⟨a, v, ex, g, q⟩ hs
  subst ex
  obtain rfl : o = Value.ref a := rx
  have hT := dict_typeIs I g
  have h₂ : wpAny (model X.prog X.w) X.A (getItem (.ref a) i) (EP X pins σ Q) X.xe s := d_getItem (by omega) I g ry fun w' s3 I3 rw' => ⟨v, H, I3, rw', q⟩
  unfold subscriptTail
  refine wpAny_bind ?_
  rw [getitemInPython_of_ne hT.not_modules]
  refine wpAny_bind (wpAny_specialOf hT PySem.F.slot_dict_getitem.lookup ?_)
  have fin : wpAny (model X.prog X.w) X.A (subscripted slice false (.ref a) i) (fun r s₃ => wpAny (model X.prog X.w) X.A (letTemporaryGo value (.ref a) r >>= fun _ => pure r) (EP X pins σ Q) X.xe s₃) X.xe s := by
    rw [hs]
    exact wpAny_operating (wpAny_mono h₂ (fun r s₃ h₃ => wpAny_bind (wpAny_letTemporaryGo (wpAny_pure h₃))) fun _ _ x => x)
  first
    | exact wpAny_pure (wpAny_bind fin)
    | exact wpAny_bind (wpAny_pure (wpAny_bind fin))
    | exact wpAny_bind fin
theorem ix_ok (hu : X.A.units + 65 < cLine) : IxR X (rG X.K ixM) := by
  intro value slice pins s σ H x y v u Q I rx ry ⟨d, e, M, ι, hr, rd, re, h⟩ hs
  unfold ixM at h
  split at h
  · cases rd with
    | tup h1 r1 =>
      split at h
      · cases re
        split at h
        · rename_i eq
          obtain ⟨w', e1, e2⟩ := reps_at r1 eq
          exact ix_tup value slice pins s σ H _ _ v u Q I rx ry ⟨_, _, _, w', rfl, rfl, h1, e1, h _ ι H Ext.refl hr e2⟩ hs
        · exact h.elim
      · exact h.elim
  · cases rd with
    | rol h1 r1 =>
      split at h
      · cases re
        split at h
        · rename_i eq
          obtain ⟨w', e1, e2⟩ := reps_at r1 eq
          exact ix_list value slice pins s σ H _ _ v u Q I rx ry ⟨_, _, _, w', rfl, rfl, h1.sq, e1, h _ ι H Ext.refl hr e2⟩ hs
        · exact h.elim
      · exact h.elim
  · rename_i t
    cases rd with
    | @str z _ e1 hz =>
      split at h
      · cases re
        split at h
        · rename_i c eq
          unfold atN at eq
          rw [at_gen] at eq
          refine ix_str value slice pins s σ H _ _ v u Q I rx ry ⟨z, _, c, rfl, rfl, ?_, by rw [e1]; exact eq, h _ ι H Ext.refl hr (.str rfl (by rw [sizeLine_eq]; exact (by decide : 1 ≤ 16777216)))⟩ hs
          show z.cps.size ≤ _
          rw [← Array.length_toList, e1]
          exact hz
        · exact h.elim
      · exact h.elim
  · rename_i n
    cases rd with
    | @ref _ a e1 =>
      split at h
      · rename_i xs eo
        obtain ⟨u1, f1, q1⟩ := hr.ob n a _ e1 eo
        cases q1 with
        | lst r1 =>
          split at h
          · cases re
            split at h
            · rename_i eq
              obtain ⟨w', g1, g2⟩ := reps_at r1 eq
              exact ix_list value slice pins s σ H _ _ v u Q I rx ry ⟨_, _, _, w', rfl, rfl, .of f1, g1, h _ ι H Ext.refl hr g2⟩ hs
            · exact h.elim
          · exact h.elim
      · rename_i kvs eo
        obtain ⟨u1, f1, q1⟩ := hr.ob n a _ e1 eo
        cases q1 with
        | @dK _ us r1 =>
          split at h
          · rename_i k ek
            obtain ⟨ey, ee⟩ := key_of_D re ek
            split at h
            · rename_i d' el
              rw [ee] at el
              rcases kvr_look k r1 with ⟨z, _⟩ | ⟨d2, v2, g1, g2, g3⟩
              · rw [z] at el; cases el
              · rw [g1] at el
                cases el
                subst ey
                exact ix_dict hu value slice pins s σ H _ _ v u Q I rx ry ⟨a, v2, rfl, by rw [← g2]; exact DGet.k f1, h _ ι H Ext.refl hr g3⟩ hs
            · exact h.elim
          · exact h.elim
      · exact h.elim
  · exact h.elim
variable {W : WX} {a b : Expr} {ga gb : Ge} {pos : Pos}
/-- a[b] -/
theorem g_ix (hu : X.A.units + 65 < cLine) (ha : GE X W a ga) (hb : GE X W b gb) (hs : PlainIx b := by intro _ _; rfl) : GE X W (.Subscript a b pos) (gOp ixM ga gb) := pe_weak (pe_ix (ix_ok hu) ha hb hs) to_op
end

/-! ### slices -/
def sIxD (n d : Nat) : Option Int → Nat := fun o => HT.sIx n d o
def cutD {α : Type} (xs : List α) (lo hi : Option Int) : List α := (xs.drop (HT.sIx xs.length 0 lo)).take (HT.sIx xs.length xs.length hi - HT.sIx xs.length 0 lo)
theorem reps_cut {K : PySem.W.Frag} {ι : List Addr} {H : Hp} {ds : List D} {vs : List V} (r : Reps K ι H ds vs) (lo hi : Option Int) : Reps K ι H (cutD ds lo hi) (cutV vs lo hi) := by
  unfold cutD cutV
  rw [← r.length]
  exact (r.drop _).take _
/-- an optional part of a slice -/
abbrev Go := Rho → Mem → R (Option Int)
def gNoPart : Go := fun _ M => .ok none M
def gPart (g : Ge) : Go := fun ρ M => (g ρ M).bind fun d M1 => match d with
  | .int i => .ok (some i) M1
  | _ => .no
def slM (x : D) (lo hi : Option Int) (M : Mem) : Option (D × Mem) := match x with
  | .tup xs => some (.tup (cutD xs lo hi), M)
  | .str s => some (.str (cutD s lo hi), M)
  | .rol xs => some (.ref M.length, M ++ [.lst (cutD xs lo hi)])
  | .ref a => match M[a]? with
    | some (.lst xs) => some (.ref M.length, M ++ [.lst (cutD xs lo hi)])
    | _ => none
  | _ => none
def gSl (g : Ge) (lo hi : Go) : Ge := fun ρ M => (g ρ M).bind fun x M1 => (lo ρ M1).bind fun l M2 => (hi ρ M2).bind fun u M3 => R.of (slM x l u M3)
abbrev PostP (K : PySem.W.Frag) (ι : List Addr) (H : Hp) (W : WX) (σ : L2.St) (Q : Option Int → Hp → Prop) (r : R (Option Int)) : Prop := PostG K ι H W σ (fun _ _ a b => a = b) Q r
def tP (K : PySem.W.Frag) (W : WX) (g : Go) : TO := fun σ H Q => ∃ ρ M ι, RS K ι H σ ρ M ∧ PostP K ι H W σ Q (g ρ M)
theorem cutD_all {α : Type} {xs : List α} {lo hi : Option Int} (h1 : HT.sIx xs.length 0 lo = 0) (h2 : HT.sIx xs.length xs.length hi = xs.length) : cutD xs lo hi = xs := by
  unfold cutD
  rw [h1, h2, List.drop_zero, Nat.sub_zero, List.take_length]
section
variable {X : Cx} {W : WX}
theorem po_weak {e : Option Expr} {t t' : TO} (h : PO X e t) (w : ∀ σ H Q, t' σ H Q → t σ H Q) : PO X e t' := ⟨fun pins s σ H Q I q => h.run pins s σ H Q I (w σ H Q q)⟩
theorem o_non : PO X none (tP X.K W gNoPart) := po_weak po_none fun σ H Q ⟨ρ, M, ι, rs, h⟩ => h none ι H Ext.refl rs.hr rfl
theorem o_some {e : Expr} {g : Ge} (h : GE X W e g) : PO X (some e) (tP X.K W (gPart g)) := by
  refine po_weak (po_some h) fun σ H Q ⟨ρ, M, ι, rs, h⟩ => ?_
  refine ⟨ρ, M, ι, rs, (PostG.bind (Rl := fun ι' H' d v => Rep X.K ι' H' d v) h).imp fun v H1 ⟨d1, M1, ι1, x1, hr1, r1, h1⟩ => ?_⟩
  cases r1 with
  | int i => exact ⟨i, rfl, h1 _ ι1 H1 Ext.refl hr1 rfl⟩
  | _ => exact h1.elim
theorem sl_ok : SlR X (fun x lo hi H Q => ∃ d M ι, HR X.K ι H M ∧ Rep X.K ι H d x ∧ PostO X.K ι H Q (slM d lo hi M)) := by
  intro pins s σ H x v vl vu lo hi sl Q I rx hs pl pu ⟨d, M, ι, hr, rd, h⟩
  cases rd with
  | @tup a xs ds h1 r1 =>
    refine sl_tupA pins s σ H _ v vl vu lo hi sl Q I rx hs pl pu ⟨a, xs, rfl, h1, fun ⟨z1, z2⟩ => ?_, fun z p hp => ?_⟩
    · rw [← r1.length] at z1 z2
      have e := cutD_all (xs := ds) z1 z2
      exact h _ ι H Ext.refl hr (by rw [e]; exact .tup h1 r1)
    · exact h _ ι _ (Ext.tup hp) (hr.tup hp) (.tup (.of upd_same) ((reps_cut r1 lo hi).ext (Ext.tup hp)))
  | @str z t e hz =>
    refine sl_str pins s σ H _ v vl vu lo hi sl Q I rx hs pl pu ⟨z, rfl, ?_, h _ ι H Ext.refl hr (.str ?_ ?_)⟩
    · show z.cps.size ≤ _
      rw [← Array.length_toList, e]; exact hz
    · unfold cutS cutD
      subst e
      simp [Str.length]
    · unfold cutD
      exact Nat.le_trans (by rw [List.length_take, List.length_drop]; omega) hz
  | @rol a xs ds h1 r1 =>
    exact sl_list pins s σ H _ v vl vu lo hi sl Q I rx hs pl pu ⟨a, xs, rfl, h1.sq, fun p hp => h _ (ι ++ [p]) _ (Ext.new hp) (hr.new hp (.lst (reps_cut r1 lo hi))) (.ref (hr.len' p))⟩
  | @ref n a e1 =>
    replace h : PostO X.K ι H Q (match M[n]? with | some (.lst xs) => some (.ref M.length, M ++ [.lst (cutD xs lo hi)]) | _ => none) := h
    split at h
    · rename_i xs eo
      obtain ⟨u1, f1, q1⟩ := hr.ob n a _ e1 eo
      cases q1 with
      | lst r1 =>
        exact sl_list pins s σ H _ v vl vu lo hi sl Q I rx hs pl pu ⟨a, _, rfl, .of f1, fun p hp => h _ (ι ++ [p]) _ (Ext.new hp) (hr.new hp (.lst (reps_cut r1 lo hi))) (.ref (hr.len' p))⟩
    · exact h.elim
  | _ => exact h.elim
theorem g_sl {e : Expr} {lo hi : Option Expr} {g : Ge} {gl gh : Go} {p2 pos : Pos} (he : GE X W e g) (hl : PO X lo (tP X.K W gl)) (hh : PO X hi (tP X.K W gh)) : GE X W (.Subscript e (.Slice lo hi none p2) pos) (gSl g gl gh) := by
  refine pe_weak (pe_slice sl_ok he hl hh) fun σ H Q ⟨ρ, M, ι, rs, h⟩ => ?_
  refine ⟨ρ, M, ι, rs, (PostG.bind (Rl := fun ι' H' d v => Rep X.K ι' H' d v) h).imp fun v H1 ⟨d1, M1, ι1, x1, hr1, r1, h1⟩ => ?_⟩
  refine ⟨ρ, M1, ι1, rs.ext x1 hr1, (PostG.bind (Rl := fun _ _ (a b : Option Int) => a = b) h1).imp fun l H2 ⟨d2, M2, ι2, x2, hr2, r2, h2⟩ => ?_⟩
  subst r2
  refine ⟨ρ, M2, ι2, (rs.ext x1 hr1).ext x2 hr2, (PostG.bind (Rl := fun _ _ (a b : Option Int) => a = b) h2).imp fun u H3 ⟨d3, M3, ι3, x3, hr3, r3, h3⟩ => ?_⟩
  subst r3
  exact ⟨d1, M3, ι3, hr3, (r1.ext x2).ext x3, postO h3⟩
/-- l[::-1], l a list -/
def revM (x : D) (M : Mem) : Option (D × Mem) := match x with
  | .rol xs => some (.ref M.length, M ++ [.lst xs.reverse])
  | .ref a => match M[a]? with
    | some (.lst xs) => some (.ref M.length, M ++ [.lst xs.reverse])
    | _ => none
  | _ => none
theorem g_rev {e : Expr} {g : Ge} {k : Nat} {p1 p2 p3 pos : Pos} (he : GE X W e g) : GE X W (.Subscript e (.Slice none none (some (.UnaryOp .USub (.Constant (.int 1) k p1) p2)) p3) pos) (gUn revM g) := by
  refine pe_weak (pe_revL he) fun σ H Q ⟨ρ, M, ι, rs, h⟩ => ?_
  refine ⟨ρ, M, ι, rs, (PostG.bind (Rl := fun ι' H' d v => Rep X.K ι' H' d v) h).imp fun v H1 ⟨d1, M1, ι1, x1, hr1, r1, h1⟩ => ?_⟩
  have h1 := postO h1
  cases r1 with
  | @rol a xs ds g1 r =>
    exact ⟨a, xs, rfl, g1.sq, fun p hp => h1 _ (ι1 ++ [p]) _ (Ext.new hp) (hr1.new hp (.lst r.reverse)) (.ref (hr1.len' p))⟩
  | @ref n a e1 =>
    replace h1 : PostO X.K ι1 H1 Q (match M1[n]? with | some (.lst xs) => some (.ref M1.length, M1 ++ [.lst xs.reverse]) | _ => none) := h1
    split at h1
    · rename_i xs eo
      obtain ⟨u1, f1, q1⟩ := hr1.ob n a _ e1 eo
      cases q1 with
      | lst r =>
        exact ⟨a, _, rfl, .of f1, fun p hp => h1 _ (ι1 ++ [p]) _ (Ext.new hp) (hr1.new hp (.lst r.reverse)) (.ref (hr1.len' p))⟩
    · exact h1.elim
  | _ => exact h1.elim
end

/-! ### in -/
def inM (neg : Bool) : Op2 := fun x y M => match y with
  | .str t => match x with
    | .str [c] => some (.bl (if neg then !decide (c ∈ t) else decide (c ∈ t)), M)
    | _ => none
  | .ref n => match M[n]? with
    | some (.dic false kvs) => match isKey x with
      | some _ => some (.bl (if neg then !dHas kvs x else dHas kvs x), M)
      | none => none
    | some (.lst _) => match pd M 60 x with
      | none => none
      | some p => match pd M 60 y with
        | some (.list qs) => some (.bl (if neg then !(qs.any fun z => PyData.eqv z p) else qs.any fun z => PyData.eqv z p), M)
        | _ => none
    | _ => none
  | y => match pd M 60 x with
    | none => none
    | some p => match pd M 60 y with
      | some (.list qs) => some (.bl (if neg then !(qs.any fun z => PyData.eqv z p) else qs.any fun z => PyData.eqv z p), M)
      | some (.tuple qs) => some (.bl (if neg then !(qs.any fun z => PyData.eqv z p) else qs.any fun z => PyData.eqv z p), M)
      | _ => none
section
variable {X : Cx} {pins : List (Addr × Obj)} {s : Shared} {σ : L2.St} {H : Hp} {x y : V} {v u : Value} {Q : VK} {p : PyData} {qs : List PyData}
theorem tup_in (hu : X.A.units + 65 < cLine) (I : Inv X pins σ H s) (rx : RelV x v) (ry : RelV y u) (a1 : Dp X.K H x p) (a2 : SeqAt.shaped p = true) (b1 : Dp X.K H y (.tuple qs)) (b2 : SeqAt.shaped (.tuple qs) = true)
    (h : Q (.bl (qs.any fun z => PyData.eqv z p)) H) : wpAny (model X.prog X.w) X.A (compareOp .In v u) (EP X pins σ Q) X.xe s := by
  obtain ⟨as, r1⟩ := Dp.reads I p x v a1 rx
  obtain ⟨bs, r2⟩ := Dp.reads I (.tuple qs) y u b1 ry
  exact SeqAt.in_tuple_reads r2 r1 (SeqAt.canLay_of_shaped b2) (SeqAt.canLay_of_shaped a2) (room_in_shaped a2 hu) ⟨.bl _, H, I, rfl, h⟩
theorem tup_notin (hu : X.A.units + 65 < cLine) (I : Inv X pins σ H s) (rx : RelV x v) (ry : RelV y u) (a1 : Dp X.K H x p) (a2 : SeqAt.shaped p = true) (b1 : Dp X.K H y (.tuple qs)) (b2 : SeqAt.shaped (.tuple qs) = true)
    (h : Q (.bl (!(qs.any fun z => PyData.eqv z p))) H) : wpAny (model X.prog X.w) X.A (compareOp .NotIn v u) (EP X pins σ Q) X.xe s := by
  obtain ⟨as, r1⟩ := Dp.reads I p x v a1 rx
  obtain ⟨bs, r2⟩ := Dp.reads I (.tuple qs) y u b1 ry
  exact SeqAt.notIn_tuple_reads r2 r1 (SeqAt.canLay_of_shaped b2) (SeqAt.canLay_of_shaped a2) (room_in_shaped a2 hu) ⟨.bl _, H, I, rfl, h⟩
end
theorem one_sign {x : Str} {c : Nat} (e : x.cps.toList = [c]) : x = ⟨#[c]⟩ := by
  rw [str_eta e]
section
variable {X : Cx}
theorem in_ok (hu : X.A.units + 65 < cLine) : OpR X (compareOp .In) (rG X.K (inM false)) := by
  intro pins s σ H x y v u Q I rx ry ⟨d, e, M, ι, hr, rd, re, h⟩
  unfold inM at h
  split at h
  · split at h
    · cases rd with
      | str e1 h1 =>
        cases re with
        | str e2 h2 =>
          have e3 := one_sign e1
          subst e2 e3
          exact op_in_sign pins s σ H _ _ v u Q I rx ry ⟨_, _, rfl, rfl, h _ ι H Ext.refl hr (.bl _)⟩
    · exact h.elim
  · rename_i n
    cases re with
    | @ref _ a e1 =>
      split at h
      · rename_i kvs eo
        obtain ⟨u1, f1, q1⟩ := hr.ob n a _ e1 eo
        cases q1 with
        | @dK _ us r1 =>
          split at h
          · rename_i k ek
            obtain ⟨ey, ee⟩ := key_of_D rd ek
            obtain rfl : u = Value.ref a := ry
            subst ey ee
            refine d_in (by omega) I (DGet.k (k := k) f1) rx fun s3 I3 => ⟨.bl _, H, I3, rfl, ?_⟩
            rw [← kvr_look_has k r1]
            exact h _ ι H Ext.refl hr (.bl _)
          · exact h.elim
      · split at h
        · exact h.elim
        · rename_i p ep
          split at h
          · rename_i qs eq
            obtain ⟨a1, a2⟩ := pd_shaped hr ep rd
            obtain ⟨b1, b2⟩ := pd_shaped hr eq (.ref e1)
            exact op_inD hu pins s σ H _ _ v u Q I rx ry ⟨p, qs, a1, b1, a2, b2, h _ ι H Ext.refl hr (.bl _)⟩
          · exact h.elim
      · exact h.elim
  · split at h
    · exact h.elim
    · rename_i p ep
      split at h
      · rename_i qs eq
        obtain ⟨a1, a2⟩ := pd_shaped hr ep rd
        obtain ⟨b1, b2⟩ := pd_shaped hr eq re
        exact op_inD hu pins s σ H _ _ v u Q I rx ry ⟨p, qs, a1, b1, a2, b2, h _ ι H Ext.refl hr (.bl _)⟩
      · rename_i qs eq
        obtain ⟨a1, a2⟩ := pd_shaped hr ep rd
        obtain ⟨b1, b2⟩ := pd_shaped hr eq re
        exact tup_in hu I rx ry a1 a2 b1 b2 (h _ ι H Ext.refl hr (.bl _))
      · exact h.elim
theorem notin_ok (hu : X.A.units + 65 < cLine) : OpR X (compareOp .NotIn) (rG X.K (inM true)) := by
  intro pins s σ H x y v u Q I rx ry ⟨d, e, M, ι, hr, rd, re, h⟩
  unfold inM at h
  split at h
  · split at h
    · cases rd with
      | str e1 h1 =>
        cases re with
        | str e2 h2 =>
          have e3 := one_sign e1
          subst e2 e3
          exact op_notIn_sign pins s σ H _ _ v u Q I rx ry ⟨_, _, rfl, rfl, h _ ι H Ext.refl hr (.bl _)⟩
    · exact h.elim
  · rename_i n
    cases re with
    | @ref _ a e1 =>
      split at h
      · rename_i kvs eo
        obtain ⟨u1, f1, q1⟩ := hr.ob n a _ e1 eo
        cases q1 with
        | @dK _ us r1 =>
          split at h
          · rename_i k ek
            obtain ⟨ey, ee⟩ := key_of_D rd ek
            obtain rfl : u = Value.ref a := ry
            subst ey ee
            refine d_notIn (by omega) I (DGet.k (k := k) f1) rx fun s3 I3 => ⟨.bl _, H, I3, rfl, ?_⟩
            rw [← kvr_look_has k r1]
            exact h _ ι H Ext.refl hr (.bl _)
          · exact h.elim
      · split at h
        · exact h.elim
        · rename_i p ep
          split at h
          · rename_i qs eq
            obtain ⟨a1, a2⟩ := pd_shaped hr ep rd
            obtain ⟨b1, b2⟩ := pd_shaped hr eq (.ref e1)
            exact op_notInD hu pins s σ H _ _ v u Q I rx ry ⟨p, qs, a1, b1, a2, b2, h _ ι H Ext.refl hr (.bl _)⟩
          · exact h.elim
      · exact h.elim
  · split at h
    · exact h.elim
    · rename_i p ep
      split at h
      · rename_i qs eq
        obtain ⟨a1, a2⟩ := pd_shaped hr ep rd
        obtain ⟨b1, b2⟩ := pd_shaped hr eq re
        exact op_notInD hu pins s σ H _ _ v u Q I rx ry ⟨p, qs, a1, b1, a2, b2, h _ ι H Ext.refl hr (.bl _)⟩
      · rename_i qs eq
        obtain ⟨a1, a2⟩ := pd_shaped hr ep rd
        obtain ⟨b1, b2⟩ := pd_shaped hr eq re
        exact tup_notin hu I rx ry a1 a2 b1 b2 (h _ ι H Ext.refl hr (.bl _))
      · exact h.elim
end
end G
set_option maxRecDepth 100000
set_option maxHeartbeats 4000000
/-! G5: built-in functions, types, methods. -/
namespace G
open PySem PySem.Spec PyProof.Rows L2

section
variable {K : PySem.W.Frag} {ι : List Addr} {H : Hp} {M : Mem}
theorem reps1 {d : D} {vs : List V} (h : Reps K ι H [d] vs) : ∃ v, vs = [v] ∧ Rep K ι H d v := by
  cases h with
  | cons r t => cases t; exact ⟨_, rfl, r⟩
theorem reps2 {d e : D} {vs : List V} (h : Reps K ι H [d, e] vs) : ∃ v u, vs = [v, u] ∧ Rep K ι H d v ∧ Rep K ι H e u := by
  cases h with
  | cons r t => cases t with
    | cons r' t => cases t; exact ⟨_, _, rfl, r, r'⟩
/-- the items of a list or a tuple -/
def seqM (M : Mem) : D → Option (List D)
  | .tup xs => some xs
  | .rol xs => some xs
  | .ref a => match M[a]? with
    | some (.lst xs) => some xs
    | _ => none
  | _ => none
theorem seq_of (hr : HR K ι H M) {d : D} {v : V} {xs : List D} (r : Rep K ι H d v) (h : seqM M d = some xs) : ∃ a vs, v = .ref a ∧ (SqL K H a vs ∨ SqT K H a vs) ∧ Reps K ι H xs vs := by
  cases r with
  | tup h1 r1 => cases h; exact ⟨_, _, rfl, .inr h1, r1⟩
  | rol h1 r1 => cases h; exact ⟨_, _, rfl, .inl h1.sq, r1⟩
  | @ref n a e1 =>
    replace h : (match M[n]? with | some (.lst xs) => some xs | _ => none) = some xs := h
    split at h
    · rename_i ys eo
      cases h
      obtain ⟨u1, f1, q1⟩ := hr.ob n a _ e1 eo
      cases q1 with
      | lst r1 => exact ⟨_, _, rfl, .inl (.of f1), r1⟩
    · cases h
  | _ => cases h
/-- the items of a list -/
def lstM (M : Mem) : D → Option (List D)
  | .rol xs => some xs
  | .ref a => match M[a]? with
    | some (.lst xs) => some xs
    | _ => none
  | _ => none
theorem lst_of (hr : HR K ι H M) {d : D} {v : V} {xs : List D} (r : Rep K ι H d v) (h : lstM M d = some xs) : ∃ a vs, v = .ref a ∧ SqL K H a vs ∧ Reps K ι H xs vs := by
  cases r with
  | rol h1 r1 => cases h; exact ⟨_, _, rfl, h1.sq, r1⟩
  | @ref n a e1 =>
    replace h : (match M[n]? with | some (.lst xs) => some xs | _ => none) = some xs := h
    split at h
    · rename_i ys eo
      cases h
      obtain ⟨u1, f1, q1⟩ := hr.ob n a _ e1 eo
      cases q1 with
      | lst r1 => exact ⟨_, _, rfl, .of f1, r1⟩
    · cases h
  | _ => cases h
def intsM : List D → Option (List Int)
  | [] => some []
  | .int i :: r => match intsM r with
    | some is => some (i :: is)
    | none => none
  | _ => none
def bolsM : List D → Option (List Bool)
  | [] => some []
  | .bl i :: r => match bolsM r with
    | some is => some (i :: is)
    | none => none
  | _ => none
def strsM : List D → Option (List (List Nat))
  | [] => some []
  | .str i :: r => match strsM r with
    | some is => some (i :: is)
    | none => none
  | _ => none
theorem ints_of : ∀ {ds : List D} {vs : List V} {is : List Int}, Reps K ι H ds vs → intsM ds = some is → vs = is.map V.int
  | _, _, _, .nil, h => by cases h; rfl
  | d :: ds, _, is, .cons r t, h => by
    cases r with
    | int i =>
      replace h : (match intsM ds with | some is => some (i :: is) | none => none) = some is := h
      split at h
      · rename_i js e
        cases h
        rw [ints_of t e]; rfl
      · cases h
    | _ => cases h
theorem bols_of : ∀ {ds : List D} {vs : List V} {is : List Bool}, Reps K ι H ds vs → bolsM ds = some is → vs = is.map V.bl
  | _, _, _, .nil, h => by cases h; rfl
  | d :: ds, _, is, .cons r t, h => by
    cases r with
    | bl i =>
      replace h : (match bolsM ds with | some is => some (i :: is) | none => none) = some is := h
      split at h
      · rename_i js e
        cases h
        rw [bols_of t e]; rfl
      · cases h
    | _ => cases h
theorem strs_of : ∀ {ds : List D} {vs : List V} {is : List (List Nat)}, Reps K ι H ds vs → strsM ds = some is → vs = (is.map fun s => (⟨s.toArray⟩ : Str)).map V.str
  | _, _, _, .nil, h => by cases h; rfl
  | d :: ds, _, is, .cons r t, h => by
    cases r with
    | @str x i e1 hz =>
      replace h : (match strsM ds with | some is => some (i :: is) | none => none) = some is := h
      split at h
      · rename_i js e
        cases h
        rw [strs_of t e, str_eta e1]; rfl
      · cases h
    | _ => cases h
end

/-! ### isinstance -/
def isiT (M : Mem) (d : D) (t : Ty) : Option Bool := match d with
  | .non => some false
  | .bl _ => match t with
    | .bool => some true
    | .int => some true
    | _ => some false
  | .int _ => match t with
    | .int => some true
    | _ => some false
  | .str _ => match t with
    | .str => some true
    | _ => some false
  | .tup _ => match t with
    | .tup => some true
    | _ => some false
  | .rol _ => match t with
    | .lst => some true
    | _ => some false
  | .ref n => match M[n]? with
    | some (.lst _) => match t with
      | .lst => some true
      | _ => some false
    | some (.dic false _) => match t with
      | .dic => some true
      | _ => some false
    | _ => none
  | _ => none
def isiN : OpN := fun ds M => match ds with
  | [d, .ty t] => match isiT M d t with
    | some b => some (.bl b, M)
    | none => none
  | _ => none
theorem isi_ty {K : PySem.W.Frag} {ι : List Addr} {H : Hp} {M : Mem} (hr : HR K ι H M) {d : D} {x : V} (r : Rep K ι H d x) {c0 : Bool} {t0 : Ty} (h0 : isiT M d t0 = some c0) : ∃ T, TyX K H x T ∧ ∀ t c, isiT M d t = some c → PySem.W.kitOne K T (.type t.nm) = some c := by
  cases r with
  | non => exact ⟨_, .base .non, fun t c h => by cases t <;> cases h <;> exact kit_ty (by decide +kernel)⟩
  | bl c => exact ⟨_, .base (.bl c), fun t c h => by cases t <;> cases h <;> exact kit_ty (by decide +kernel)⟩
  | int c => exact ⟨_, .base (.int c), fun t c h => by cases t <;> cases h <;> exact kit_ty (by decide +kernel)⟩
  | @str z s e1 hz => exact ⟨_, .base (.str z), fun t c h => by cases t <;> cases h <;> exact kit_ty (by decide +kernel)⟩
  | @tup a xs ds h1 r1 =>
    have k : ∀ t c, isiT M (.tup ds) t = some c → PySem.W.kitOne K (.type "tuple") (.type t.nm) = some c := fun t c h => by cases t <;> cases h <;> exact kit_ty (by decide +kernel)
    rcases h1 with (q | ⟨o, q⟩) | ⟨o, its, n, q, c, _⟩
    · exact ⟨_, .base (.tup q), k⟩
    · exact ⟨_, .fTuple q, k⟩
    · exact ⟨_, .kTuple q c, k⟩
  | @rol a xs ds h1 r1 =>
    have k : ∀ t c, isiT M (.rol ds) t = some c → PySem.W.kitOne K (.type "list") (.type t.nm) = some c := fun t c h => by cases t <;> cases h <;> exact kit_ty (by decide +kernel)
    rcases h1 with ⟨o, q⟩ | ⟨o, its, n, q, c, _⟩
    · exact ⟨_, .base (.frz q), k⟩
    · exact ⟨_, .kList q c, k⟩
  | @ref n a e1 =>
    cases eo : M[n]? with
    | none =>
      unfold isiT at h0
      simp only [eo] at h0
      cases h0
    | some ob =>
      cases ob with
      | lst xs =>
        obtain ⟨u1, f1, q1⟩ := hr.ob n a _ e1 eo
        cases q1 with
        | lst r1 =>
          refine ⟨_, .base (.lst f1), fun t c h => ?_⟩
          unfold isiT at h
          simp only [eo] at h
          cases t <;> cases h <;> exact kit_ty (by decide +kernel)
      | dic bb kvs =>
        cases bb with
        | false =>
          obtain ⟨u1, f1, q1⟩ := hr.ob n a _ e1 eo
          cases q1 with
          | dK r1 =>
            refine ⟨_, .base (.dK f1), fun t c h => ?_⟩
            unfold isiT at h
            simp only [eo] at h
            cases t <;> cases h <;> exact kit_ty (by decide +kernel)
        | true =>
          unfold isiT at h0
          simp only [eo] at h0
          cases h0
  | adr a => cases h0
  | ty t' => cases h0
theorem isi_of {K : PySem.W.Frag} {ι : List Addr} {H : Hp} {M : Mem} (hr : HR K ι H M) {d : D} {x : V} {t : Ty} {b : Bool} (r : Rep K ι H d x) (h : isiT M d t = some b) : ∃ T, TyX K H x T ∧ PySem.W.kitOne K T (.type t.nm) = some b :=
  let ⟨T, k1, k2⟩ := isi_ty hr r h
  ⟨T, k1, k2 t b h⟩
theorem isi_ok {X : Cx} : CallR X (.builtin "isinstance") (rGN X.K isiN) := by
  intro pins s σ H xs us Q I r ⟨ds, M, ι, hr, rs, h⟩
  unfold isiN at h
  split at h
  · split at h
    · rename_i b e
      obtain ⟨v, u, rfl, r1, r2⟩ := reps2 rs
      cases r2
      obtain ⟨T, t1, t2⟩ := isi_of hr r1 e
      exact call_isi pins s σ H _ us Q I r ⟨v, _, T, _, b, rfl, .ty _, t1, t2, h _ ι H Ext.refl hr (.bl _)⟩
    · exact h.elim
  · exact h.elim
/-- isinstance(x, (T1, T2)) -/
def isiTs (M : Mem) (d : D) : List Ty → Option Bool
  | [] => some false
  | t :: r => match isiT M d t with
    | none => none
    | some true => some true
    | some false => isiTs M d r
def isi2M (ts : List Ty) (d : D) (M : Mem) : Option (D × Mem) := match isiTs M d ts with
  | some b => some (.bl b, M)
  | none => none
/-- the names of a tuple of built-in classes -/
inductive TyNames (X : Cx) : List Expr → List Ty → Prop where
  | nil : TyNames X [] []
  | cons {x : Str} {p : Pos} {es : List Expr} {t : Ty} {ts : List Ty} (hg : Gl X x) (hm : X.mg x = none) (hv : bootBuiltins x = some (.type t.nm)) (hn : x ≠ "__name__") (hd : (x == ("__debug__" : Str)) = false)
      (hs : starEach (.Name x p :: es) X.env = (false, eval (.Name x p) X.env) :: starEach es X.env) (r : TyNames X es ts) : TyNames X (.Name x p :: es) (t :: ts)
theorem tyNames_pa {X : Cx} : ∀ {es : List Expr} {ts : List Ty}, TyNames X es ts → PA X es (fun _ H Q => Q (ts.map fun t => V.ty t.nm) H)
  | _, _, .nil => pa_nil
  | _, _, .cons hg hm hv hn hd hs r => pa_cons (pe_bltn hg hm hv (v := .ty _) rfl hn hd) (tyNames_pa r) hs
theorem isiTs_kit {K : PySem.W.Frag} {ι : List Addr} {H : Hp} {M : Mem} (hr : HR K ι H M) {d : D} {x : V} (r : Rep K ι H d x) : ∀ {ts : List Ty} {b : Bool} {T : Value}, (∀ t c, isiT M d t = some c → PySem.W.kitOne K T (.type t.nm) = some c) → isiTs M d ts = some b →
    PySem.W.kitAny K T (ts.map fun t => Value.type t.nm) = some b
  | [], b, T, _, h => by cases h; exact kitAny_nil
  | t :: ts, b, T, hk, h => by
    replace h : (match isiT M d t with | none => none | some true => some true | some false => isiTs M d ts) = some b := h
    split at h
    · cases h
    · rename_i e
      cases h
      exact kitAny_cons (hk t true e) (fun z => by cases z) fun _ => rfl
    · rename_i e
      exact kitAny_cons (hk t false e) (fun _ => isiTs_kit hr r hk h) fun z => by cases z
theorem paired_ty : ∀ ts : List Ty, Paired ClsV (ts.map fun t => V.ty t.nm) (ts.map fun t => Value.type t.nm)
  | [] => .nil
  | t :: ts => .cons (.ty _) (paired_ty ts)
theorem g_isi2 {X : Cx} {W : WX} {e : Expr} {es : List Expr} {g : Ge} {t0 : Ty} {ts : List Ty} {x1 : Nat} {p p2 pos : Pos} (hm : X.mg "isinstance" = none) (he : GE X W e g) (hn : TyNames X es (t0 :: ts)) (hz : (t0 :: ts).length ≤ 16777216 := by decide) (hg : Gl X "isinstance" := by rfl)
    (hs : starEach (e :: [.Tuple es x1 p2]) X.env = (false, eval e X.env) :: starEach [.Tuple es x1 p2] X.env := by rfl) (hs2 : starEach [.Tuple es x1 p2] X.env = (false, eval (.Tuple es x1 p2) X.env) :: starEach [] X.env := by rfl)
    (hpl : (backTo pos (starEach [.Tuple es x1 p2] X.env)).any (·.1) = false := by rfl) :
    GE X W (.Call (.Name "isinstance" p) [e, .Tuple es x1 p2] [] pos) (gUn (isi2M (t0 :: ts)) g) := by
  refine pe_weak (pe_callB (call_isiT (X := X)) hg hm boot_isinstance (pa_cons he (pa_cons (pe_tup (tyNames_pa hn)) pa_nil hs2) hs) (by decide) (by decide) hs hpl) fun σ H Q ⟨ρ, M, ι, rs, h⟩ => ?_
  refine ⟨ρ, M, ι, rs, (PostG.bind (Rl := fun ι' H' d v => Rep X.K ι' H' d v) h).imp fun v H1 ⟨d1, M1, ι1, x1, hr1, r1, h1⟩ => ?_⟩
  have h1 := postO h1
  refine ⟨by rw [List.length_map, sizeLine_eq]; exact hz, fun p hp => ?_⟩
  unfold isi2M at h1
  split at h1
  · rename_i b e
    have e0 : ∃ c0, isiT M1 d1 t0 = some c0 := by
      unfold isiTs at e
      split at e
      · cases e
      · rename_i q; exact ⟨_, q⟩
      · rename_i q; exact ⟨_, q⟩
    obtain ⟨c0, e0⟩ := e0
    have xt : Ext X.K ι1 H1 ι1 (upd H1 p (.tup ((t0 :: ts).map fun t => V.ty t.nm))) := Ext.tup hp
    have hr2 := hr1.tup (u := .tup ((t0 :: ts).map fun t => V.ty t.nm)) hp
    obtain ⟨T, k1, k2⟩ := isi_ty hr2 (r1.ext xt) e0
    exact ⟨v, p, _, T, _, b, rfl, upd_same, paired_ty _, k1, isiTs_kit hr2 (r1.ext xt) k2 e, h1 _ ι1 _ xt hr2 (.bl _)⟩
  · exact h1.elim

/-! ### len, all, any, sum, max, min, abs, int, divmod, tuple, list -/
def lenN : OpN := fun ds M => match ds with
  | [.str s] => some (.int s.length, M)
  | [.ref n] => match M[n]? with
    | some (.lst xs) => some (.int xs.length, M)
    | some (.dic false kvs) => some (.int kvs.length, M)
    | _ => none
  | [.tup xs] => some (.int xs.length, M)
  | [.rol xs] => some (.int xs.length, M)
  | _ => none
def allN : OpN := fun ds M => match ds with
  | [d] => match lstM M d with
    | some xs => match bolsM xs with
      | some bs => some (.bl (bs.all id), M)
      | none => none
    | none => none
  | _ => none
def anyN : OpN := fun ds M => match ds with
  | [d] => match lstM M d with
    | some xs => match bolsM xs with
      | some bs => some (.bl (bs.any id), M)
      | none => none
    | none => none
  | _ => none
def sumN : OpN := fun ds M => match ds with
  | [d] => match lstM M d with
    | some xs => match intsM xs with
      | some is => some (.int is.sum, M)
      | none => none
    | none => none
  | _ => none
def maxI : List Int → Int → Int
  | [], m => m
  | x :: r, m => maxI r (if m < x then x else m)
def minI : List Int → Int → Int
  | [], m => m
  | x :: r, m => minI r (if x < m then x else m)
def maxN : OpN := fun ds M => match ds with
  | [.int i, .int j] => some (.int (if j > i then j else i), M)
  | [d] => match lstM M d with
    | some xs => match intsM xs with
      | some (i :: is) => some (.int (maxI is i), M)
      | _ => none
    | none => none
  | _ => none
def minN : OpN := fun ds M => match ds with
  | [.int i, .int j] => some (.int (if j < i then j else i), M)
  | [d] => match lstM M d with
    | some xs => match intsM xs with
      | some (i :: is) => some (.int (minI is i), M)
      | _ => none
    | none => none
  | _ => none
def absN : OpN := fun ds M => match ds with
  | [.int i] => some (.int (if i < 0 then -i else i), M)
  | _ => none
def intN : OpN := fun ds M => match ds with
  | [.int i] => some (.int i, M)
  | [.bl b] => some (.int (if b = true then 1 else 0), M)
  | _ => none
def dmodN : OpN := fun ds M => match ds with
  | [.int i, .int j] => if 0 < j ∧ j.natAbs.log2 < 9000 then some (.tup [.int (i / j), .int (i % j)], M) else none
  | _ => none
def tupN : OpN := fun ds M => match ds with
  | [d] => match seqM M d with
    | some xs => some (.tup xs, M)
    | none => none
  | _ => none
def lisN : OpN := fun ds M => match ds with
  | [d] => match seqM M d with
    | some xs => some (.ref M.length, M ++ [.lst xs])
    | none => none
  | _ => none
theorem maxI_ge : ∀ (l : List Int) (m : Int), m ≤ maxI l m ∧ (∀ y ∈ l, y ≤ maxI l m) ∧ (maxI l m = m ∨ maxI l m ∈ l)
  | [], m => ⟨Int.le_refl _, fun y h => (nomatch h), .inl rfl⟩
  | x :: r, m => by
    obtain ⟨a, b, c⟩ := maxI_ge r (if m < x then x else m)
    show m ≤ maxI r _ ∧ (∀ y ∈ x :: r, y ≤ maxI r _) ∧ (maxI r _ = m ∨ maxI r _ ∈ x :: r)
    generalize hz : maxI r (if m < x then x else m) = z at *
    by_cases h : m < x
    · rw [if_pos h] at a c
      refine ⟨by omega, fun y hy => ?_, ?_⟩
      · rcases List.mem_cons.mp hy with e | e
        · omega
        · exact b y e
      · rcases c with e | e
        · exact .inr (by rw [e]; exact List.mem_cons_self)
        · exact .inr (List.mem_cons_of_mem _ e)
    · rw [if_neg h] at a c
      refine ⟨by omega, fun y hy => ?_, ?_⟩
      · rcases List.mem_cons.mp hy with e | e
        · omega
        · exact b y e
      · rcases c with e | e
        · exact .inl e
        · exact .inr (List.mem_cons_of_mem _ e)
theorem minI_le : ∀ (l : List Int) (m : Int), minI l m ≤ m ∧ (∀ y ∈ l, minI l m ≤ y) ∧ (minI l m = m ∨ minI l m ∈ l)
  | [], m => ⟨Int.le_refl _, fun y h => (nomatch h), .inl rfl⟩
  | x :: r, m => by
    obtain ⟨a, b, c⟩ := minI_le r (if x < m then x else m)
    show minI r _ ≤ m ∧ (∀ y ∈ x :: r, minI r _ ≤ y) ∧ (minI r _ = m ∨ minI r _ ∈ x :: r)
    generalize hz : minI r (if x < m then x else m) = z at *
    by_cases h : x < m
    · rw [if_pos h] at a c
      refine ⟨by omega, fun y hy => ?_, ?_⟩
      · rcases List.mem_cons.mp hy with e | e
        · omega
        · exact b y e
      · rcases c with e | e
        · exact .inr (by rw [e]; exact List.mem_cons_self)
        · exact .inr (List.mem_cons_of_mem _ e)
    · rw [if_neg h] at a c
      refine ⟨by omega, fun y hy => ?_, ?_⟩
      · rcases List.mem_cons.mp hy with e | e
        · omega
        · exact b y e
      · rcases c with e | e
        · exact .inl e
        · exact .inr (List.mem_cons_of_mem _ e)
section
variable {X : Cx}
theorem len_ok : CallR X (.builtin "len") (rGN X.K lenN) := by
  intro pins s σ H xs us Q I r ⟨ds, M, ι, hr, rs, h⟩
  unfold lenN at h
  split at h
  · rename_i s0
    obtain ⟨v, rfl, r1⟩ := reps1 rs
    cases r1 with
    | @str z _ e hz =>
      have hl : z.length = s0.length := by show z.cps.size = _; rw [← Array.length_toList, e]
      exact call_len pins s σ H _ us Q I r ⟨_, _, rfl, ⟨by rw [hl]; exact hz, rfl⟩, by rw [hl]; exact h _ ι H Ext.refl hr (.int _)⟩
  · rename_i n
    obtain ⟨v, rfl, r1⟩ := reps1 rs
    cases r1 with
    | @ref _ a e1 =>
      split at h
      · rename_i ys eo
        obtain ⟨u1, f1, q1⟩ := hr.ob n a _ e1 eo
        cases q1 with
        | lst r2 => exact call_len pins s σ H _ us Q I r ⟨_, _, rfl, .inl ⟨_, .of f1, rfl⟩, by rw [← r2.length]; exact h _ ι H Ext.refl hr (.int _)⟩
      · rename_i ys eo
        obtain ⟨u1, f1, q1⟩ := hr.ob n a _ e1 eo
        cases q1 with
        | dK r2 =>
          obtain ⟨u, rfl, ru⟩ := vals1 r
          obtain rfl : u = Value.ref a := ru
          refine d_len I (.inl f1) fun t s' I' => ⟨.int _, H, I', ⟨t, rfl⟩, ?_⟩
          rw [← kvr_len r2]
          exact h _ ι H Ext.refl hr (.int _)
      · exact h.elim
  · obtain ⟨v, rfl, r1⟩ := reps1 rs
    cases r1 with
    | tup h1 r2 => exact call_len pins s σ H _ us Q I r ⟨_, _, rfl, .inr ⟨_, h1, rfl⟩, by rw [← r2.length]; exact h _ ι H Ext.refl hr (.int _)⟩
  · obtain ⟨v, rfl, r1⟩ := reps1 rs
    cases r1 with
    | rol h1 r2 => exact call_len pins s σ H _ us Q I r ⟨_, _, rfl, .inl ⟨_, h1.sq, rfl⟩, by rw [← r2.length]; exact h _ ι H Ext.refl hr (.int _)⟩
  · exact h.elim
theorem all_ok (hc : X.calm = true) : CallR X (.builtin "all") (rGN X.K allN) := by
  intro pins s σ H xs us Q I r ⟨ds, M, ι, hr, rs, h⟩
  unfold allN at h
  split at h
  · obtain ⟨v, rfl, r1⟩ := reps1 rs
    split at h
    · rename_i ys e
      split at h
      · rename_i bs eb
        obtain ⟨a, vs, rfl, q, r2⟩ := lst_of hr r1 e
        have ev := bols_of r2 eb
        subst ev
        exact cr_all hc pins s σ H _ us Q I r ⟨a, bs, rfl, q, h _ ι H Ext.refl hr (.bl _)⟩
      · exact h.elim
    · exact h.elim
  · exact h.elim
theorem any_ok (hc : X.calm = true) : CallR X (.builtin "any") (rGN X.K anyN) := by
  intro pins s σ H xs us Q I r ⟨ds, M, ι, hr, rs, h⟩
  unfold anyN at h
  split at h
  · obtain ⟨v, rfl, r1⟩ := reps1 rs
    split at h
    · rename_i ys e
      split at h
      · rename_i bs eb
        obtain ⟨a, vs, rfl, q, r2⟩ := lst_of hr r1 e
        have ev := bols_of r2 eb
        subst ev
        exact cr_any hc pins s σ H _ us Q I r ⟨a, bs, rfl, q, h _ ι H Ext.refl hr (.bl _)⟩
      · exact h.elim
    · exact h.elim
  · exact h.elim
theorem sum_ok (hc : X.calm = true) : CallR X (.builtin "sum") (rGN X.K sumN) := by
  intro pins s σ H xs us Q I r ⟨ds, M, ι, hr, rs, h⟩
  unfold sumN at h
  split at h
  · obtain ⟨v, rfl, r1⟩ := reps1 rs
    split at h
    · rename_i ys e
      split at h
      · rename_i bs eb
        obtain ⟨a, vs, rfl, q, r2⟩ := lst_of hr r1 e
        have ev := ints_of r2 eb
        subst ev
        exact cr_sum hc pins s σ H _ us Q I r ⟨a, bs, rfl, q, h _ ι H Ext.refl hr (.int _)⟩
      · exact h.elim
    · exact h.elim
  · exact h.elim
theorem max_ok (hc : X.calm = true) : CallR X (.builtin "max") (rGN X.K maxN) := by
  intro pins s σ H xs us Q I r ⟨ds, M, ι, hr, rs, h⟩
  unfold maxN at h
  split at h
  · obtain ⟨v, u, rfl, r1, r2⟩ := reps2 rs
    cases r1
    cases r2
    exact call_max2 hc pins s σ H _ us Q I r ⟨_, _, rfl, h _ ι H Ext.refl hr (.int _)⟩
  · obtain ⟨v, rfl, r1⟩ := reps1 rs
    split at h
    · rename_i ys e
      split at h
      · rename_i i is eb
        obtain ⟨a, vs, rfl, q, r2⟩ := lst_of hr r1 e
        have ev := ints_of r2 eb
        subst ev
        refine cr_max hc pins s σ H _ us Q I r ⟨a, i :: is, rfl, q, Nat.succ_pos _, fun m hm hy => ?_⟩
        obtain ⟨z1, z2, z3⟩ := maxI_ge is i
        have em : m = maxI is i := by
          have a1 : maxI is i ≤ m := by
            rcases z3 with z | z
            · rw [z]; exact hy i List.mem_cons_self
            · exact hy _ (List.mem_cons_of_mem _ z)
          have a2 : m ≤ maxI is i := by
            rcases List.mem_cons.mp hm with z | z
            · rw [z]; exact z1
            · exact z2 m z
          omega
        rw [em]
        exact h _ ι H Ext.refl hr (.int _)
      · exact h.elim
    · exact h.elim
  · exact h.elim
theorem min_ok (hc : X.calm = true) : CallR X (.builtin "min") (rGN X.K minN) := by
  intro pins s σ H xs us Q I r ⟨ds, M, ι, hr, rs, h⟩
  unfold minN at h
  split at h
  · obtain ⟨v, u, rfl, r1, r2⟩ := reps2 rs
    cases r1
    cases r2
    exact call_min2 hc pins s σ H _ us Q I r ⟨_, _, rfl, h _ ι H Ext.refl hr (.int _)⟩
  · obtain ⟨v, rfl, r1⟩ := reps1 rs
    split at h
    · rename_i ys e
      split at h
      · rename_i i is eb
        obtain ⟨a, vs, rfl, q, r2⟩ := lst_of hr r1 e
        have ev := ints_of r2 eb
        subst ev
        refine cr_min hc pins s σ H _ us Q I r ⟨a, i :: is, rfl, q, Nat.succ_pos _, fun m hm hy => ?_⟩
        obtain ⟨z1, z2, z3⟩ := minI_le is i
        have em : m = minI is i := by
          have a1 : m ≤ minI is i := by
            rcases z3 with z | z
            · rw [z]; exact hy i List.mem_cons_self
            · exact hy _ (List.mem_cons_of_mem _ z)
          have a2 : minI is i ≤ m := by
            rcases List.mem_cons.mp hm with z | z
            · rw [z]; exact z1
            · exact z2 m z
          omega
        rw [em]
        exact h _ ι H Ext.refl hr (.int _)
      · exact h.elim
    · exact h.elim
  · exact h.elim
theorem abs_ok : CallR X (.builtin "abs") (rGN X.K absN) := by
  intro pins s σ H xs us Q I r ⟨ds, M, ι, hr, rs, h⟩
  unfold absN at h
  split at h
  · obtain ⟨v, rfl, r1⟩ := reps1 rs
    cases r1
    exact call_abs pins s σ H _ us Q I r ⟨_, rfl, h _ ι H Ext.refl hr (.int _)⟩
  · exact h.elim
theorem int_ok : CallR X (.type "int") (rGN X.K intN) := by
  intro pins s σ H xs us Q I r ⟨ds, M, ι, hr, rs, h⟩
  unfold intN at h
  split at h
  · obtain ⟨v, rfl, r1⟩ := reps1 rs
    cases r1
    exact call_int1 pins s σ H _ us Q I r (.inl ⟨_, rfl, h _ ι H Ext.refl hr (.int _)⟩)
  · obtain ⟨v, rfl, r1⟩ := reps1 rs
    cases r1
    exact call_int1 pins s σ H _ us Q I r (.inr ⟨_, rfl, h _ ι H Ext.refl hr (.int _)⟩)
  · exact h.elim
theorem dmod_ok : CallR X (.builtin "divmod") (rGN X.K dmodN) := by
  intro pins s σ H xs us Q I r ⟨ds, M, ι, hr, rs, h⟩
  unfold dmodN at h
  split at h
  · obtain ⟨v, u, rfl, r1, r2⟩ := reps2 rs
    cases r1
    cases r2
    split at h
    · rename_i hc
      refine call_divmodW pins s σ H _ us Q I r ⟨_, _, rfl, ⟨hc.1, PyProof.noPylong_of_log2 hc.2⟩, fun p hp => ?_⟩
      exact h _ ι _ (Ext.tup hp) (hr.tup hp) (.tup (.of upd_same) (.cons (.int _) (.cons (.int _) .nil)))
    · exact h.elim
  · exact h.elim
theorem tup_ok : CallR X (.type "tuple") (rGN X.K tupN) := by
  intro pins s σ H xs us Q I r ⟨ds, M, ι, hr, rs, h⟩
  unfold tupN at h
  split at h
  · obtain ⟨v, rfl, r1⟩ := reps1 rs
    split at h
    · rename_i ys e
      obtain ⟨a, vs, rfl, q, r2⟩ := seq_of hr r1 e
      rcases q with q | q
      · exact call_tuple_of pins s σ H _ us Q I r ⟨a, vs, rfl, .inl ⟨q, fun p hp => h _ ι _ (Ext.tup hp) (hr.tup hp) (.tup (.of upd_same) (r2.ext (Ext.tup hp)))⟩⟩
      · exact call_tuple_of pins s σ H _ us Q I r ⟨a, vs, rfl, .inr ⟨q, h _ ι H Ext.refl hr (.tup q r2)⟩⟩
    · exact h.elim
  · exact h.elim
theorem lis_ok : CallR X (.type "list") (rGN X.K lisN) := by
  intro pins s σ H xs us Q I r ⟨ds, M, ι, hr, rs, h⟩
  unfold lisN at h
  split at h
  · obtain ⟨v, rfl, r1⟩ := reps1 rs
    split at h
    · rename_i ys e
      obtain ⟨a, vs, rfl, q, r2⟩ := seq_of hr r1 e
      exact call_list_of pins s σ H _ us Q I r ⟨a, vs, rfl, q, fun p hp => h _ (ι ++ [p]) _ (Ext.new hp) (hr.new hp (.lst r2)) (.ref (hr.len' p))⟩
    · exact h.elim
  · exact h.elim
end

/-! ### repr -/
mutual
def noLong : PyData → Bool
  | .int i => decide (i.natAbs.log2 < 1920)
  | .list xs | .tuple xs => noLongs xs
  | .dict _ => false
  | _ => true
def noLongs : List PyData → Bool
  | [] => true
  | x :: xs => noLong x && noLongs xs
end
def reprN : OpN := fun ds M => match ds with
  | [d] => match pd M 60 d with
    | some p => if (p.showable && decide (p.shown.cps.toList.length ≤ 16777216)) = true then some (.str p.shown.cps.toList, M) else none
    | none => none
  | _ => none
theorem repr_ok {X : Cx} (hg : X.A.guards = some []) (hu : X.A.units + 65 < cLine) : CallR X (.builtin "repr") (rGN X.K reprN) := by
  intro pins s σ H xs us Q I r ⟨ds, M, ι, hr, rs, h⟩
  unfold reprN at h
  split at h
  · rename_i d
    obtain ⟨v, rfl, r1⟩ := reps1 rs
    obtain ⟨u, rfl, ru⟩ := vals1 r
    split at h
    · rename_i p ep
      split at h
      · rename_i hz
        obtain ⟨hsh, hlen⟩ := Bool.and_eq_true_iff.mp hz
        have hlen := of_decide_eq_true hlen
        obtain ⟨a1, a2⟩ := pd_shaped hr ep r1
        have hfit : p.shown.length ≤ sizeLine := by
          show p.shown.cps.size ≤ _
          rw [← Array.length_toList, sizeLine_eq]; exact hlen
        have fin : ∀ (h' : Heap) (k : Nat) (t : Tok), (∀ b o, s.heap.get? b = some o → h'.get? b = some o) → EP X pins σ Q (.str p.shown t) { s with heap := h', toks := k } := fun h' k t hk =>
          ⟨.str p.shown, H, I.kept hk, ⟨t, rfl⟩, h _ ι H Ext.refl hr (.str rfl (by rw [sizeLine_eq]; exact hlen))⟩
        cases r1 with
        | non =>
          cases ep
          cases ru
          exact PySem.P.repr_of_none (fin _ _ _ fun _ _ e => e)
        | bl b =>
          cases ep
          cases ru
          exact PySem.P.repr_of_bool (fin _ _ _ fun _ _ e => e)
        | int i =>
          cases ep
          obtain ⟨t, rfl⟩ := ru
          exact PySem.P.repr_of_int (of_decide_eq_true hsh) (fin _ _ _ fun _ _ e => e)
        | @str x s' e1 hs =>
          obtain ⟨t, rfl⟩ := ru
          have ep' : p = .str x := by
            replace ep : (if s'.all (fun c => decide (c < 1114112)) = true then some (PyData.str ⟨s'.toArray⟩) else none) = some p := ep
            split at ep
            · cases ep; rw [str_eta e1]
            · cases ep
          subst ep'
          exact PySem.P.repr_of_str (fin _ _ _ fun _ _ e => e) (hsz := hfit)
        | @tup a xs ds h1 r2 =>
          obtain rfl : u = Value.ref a := ru
          obtain ⟨as, rr⟩ := Dp.reads I p _ _ a1 rfl
          exact repr_of_reads' rr hsh (PyData.noDict_hsm (PyData.hasDict_of_canLay p (SeqAt.canLay_of_shaped a2))) hg (by have := SeqAt.depth_of_shaped a2; omega) (fun _ _ e => e) (fun h' u tk hk => fin h' tk u hk) hfit
        | @rol a xs ds h1 r2 =>
          obtain rfl : u = Value.ref a := ru
          obtain ⟨as, rr⟩ := Dp.reads I p _ _ a1 rfl
          exact repr_of_reads' rr hsh (PyData.noDict_hsm (PyData.hasDict_of_canLay p (SeqAt.canLay_of_shaped a2))) hg (by have := SeqAt.depth_of_shaped a2; omega) (fun _ _ e => e) (fun h' u tk hk => fin h' tk u hk) hfit
        | @ref n a e1 =>
          obtain rfl : u = Value.ref a := ru
          obtain ⟨as, rr⟩ := Dp.reads I p _ _ a1 rfl
          exact repr_of_reads' rr hsh (PyData.noDict_hsm (PyData.hasDict_of_canLay p (SeqAt.canLay_of_shaped a2))) hg (by have := SeqAt.depth_of_shaped a2; omega) (fun _ _ e => e) (fun h' u tk hk => fin h' tk u hk) hfit
        | adr a => cases ep
        | ty t => cases ep
      · exact h.elim
    · exact h.elim
  · exact h.elim
end G
set_option maxRecDepth 100000
set_option maxHeartbeats 4000000
/-! G6: methods, dict displays, targets, statements, loops. -/
namespace G
open PySem PySem.Spec PyProof.Rows L2

/-! ### methods -/
def tyB (T : Ty) (d : D) (M : Mem) : Bool := match T with
  | .str => match d with
    | .str _ => true
    | _ => false
  | .lst => (lstM M d).isSome
  | .dic => match d with
    | .ref n => match M[n]? with
      | some (.dic false _) => true
      | _ => false
    | _ => false
  | _ => false
theorem tyB_of {K : PySem.W.Frag} {ι : List Addr} {H : Hp} {M : Mem} (hr : HR K ι H M) {T : Ty} {d : D} {v : V} (r : Rep K ι H d v) (h : tyB T d M = true) : tyV K T.nm v H := by
  cases T with
  | str =>
    cases r with
    | str e hz => exact rfl
    | _ => cases h
  | lst =>
    have h' : (lstM M d).isSome = true := h
    obtain ⟨xs, e⟩ := Option.isSome_iff_exists.mp h'
    obtain ⟨a, vs, rfl, q, _⟩ := lst_of hr r e
    exact .inl ⟨rfl, vs, q⟩
  | dic =>
    cases r with
    | @ref n a e1 =>
      replace h : (match M[n]? with | some (.dic false _) => true | _ => false) = true := h
      split at h
      · rename_i kvs eo
        obtain ⟨u1, f1, q1⟩ := hr.ob n a _ e1 eo
        cases q1 with
        | dK r1 => exact .inr (.inr (.inl ⟨rfl, .inl ⟨_, f1⟩⟩))
      · cases h
    | _ => cases h
  | _ => cases h
abbrev OpM := D → List D → Mem → Option (D × Mem)
def rGM (K : PySem.W.Frag) (f : OpM) : V → List V → Hp → VK → Prop := fun x xs H Q => ∃ d ds M ι, HR K ι H M ∧ Rep K ι H d x ∧ Reps K ι H ds xs ∧ PostO K ι H Q (f d ds M)
def gMt (T : Ty) (f : OpM) (go : Ge) (ga : Ga) : Ge := fun ρ M => (go ρ M).bind fun x M1 => if tyB T x M1 = true then (ga ρ M1).bind fun xs M2 => R.of (f x xs M2) else .no
section
variable {X : Cx} {W : WX} {o e : Expr} {es : List Expr} {go : Ge} {ga : Ga} {apos cpos : Pos}
theorem g_mt {T : Ty} {id : String} {name : Str} {f : OpM} (pa : PlainAttrs T.nm) (slot : Slot T.nm name id) (hty : typeOf (.builtin id) = pure (.type "method_descriptor")) (hm : MtR X id (rGM X.K f)) (ho : GE X W o go) (ha : GA X W (e :: es) ga)
    (hbase : attributeBase o name X.env (eval o X.env) = eval o X.env := by rfl)
    (hfew : ((backTo cpos (starEach (e :: es) X.env)).all (fun x => !x.1) && (backToKw cpos (keywordEach [] X.env)).all (fun x => x.1.isSome)
      && decide ((e :: es).length + ([] : List Keyword).length + (if ([] : List Keyword).isEmpty then 0 else 1) < 30)) = true := by rfl)
    (hline : (apos.endLine == cpos.line) = true := by rfl) (hs : starEach (e :: es) X.env = (false, eval e X.env) :: starEach es X.env := by rfl) (hplain : (backTo cpos (starEach es X.env)).any (·.1) = false := by rfl) :
    GE X W (.Call (.Attribute o name apos) (e :: es) [] cpos) (gMt T f go ga) := by
  refine pe_weak (pe_bm pa slot hty hm ho ha hbase hfew hline hs hplain) fun σ H Q ⟨ρ, M, ι, rs, h⟩ => ?_
  refine ⟨ρ, M, ι, rs, (PostG.bind (Rl := fun ι' H' d v => Rep X.K ι' H' d v) h).imp fun v H1 ⟨d1, M1, ι1, x1, hr1, r1, h1⟩ => ?_⟩
  split at h1
  · rename_i ht
    refine ⟨tyB_of hr1 r1 ht, ρ, M1, ι1, rs.ext x1 hr1, (PostG.bind (Rl := fun ι' H' d v => Reps X.K ι' H' d v) h1).imp fun xs H2 ⟨ds, M2, ι2, x2, hr2, r2, h2⟩ => ?_⟩
    exact ⟨d1, ds, M2, ι2, hr2, r1.ext x2, r2, postO h2⟩
  · exact h1.elim
theorem g_mt0 {T : Ty} {id : String} {name : Str} {f : OpM} (pa : PlainAttrs T.nm) (slot : Slot T.nm name id) (hty : typeOf (.builtin id) = pure (.type "method_descriptor")) (hm : MtR X id (rGM X.K f)) (ho : GE X W o go)
    (hbase : attributeBase o name X.env (eval o X.env) = eval o X.env := by rfl) (hline : (apos.endLine == cpos.line) = true := by rfl) : GE X W (.Call (.Attribute o name apos) [] [] cpos) (gMt T f go gNil) := by
  refine pe_weak (pe_bm0 pa slot hty hm ho hbase hline) fun σ H Q ⟨ρ, M, ι, rs, h⟩ => ?_
  refine ⟨ρ, M, ι, rs, (PostG.bind (Rl := fun ι' H' d v => Rep X.K ι' H' d v) h).imp fun v H1 ⟨d1, M1, ι1, x1, hr1, r1, h1⟩ => ?_⟩
  split at h1
  · rename_i ht
    exact ⟨tyB_of hr1 r1 ht, d1, [], M1, ι1, hr1, r1, .nil, postO h1⟩
  · exact h1.elim
end
def appM : OpM := fun d ds M => match d, ds with
  | .ref n, [y] => match M[n]? with
    | some (.lst xs) => if xs.length < 16777216 then some (.non, M.set n (.lst (xs ++ [y]))) else none
    | _ => none
  | _, _ => none
def extM : OpM := fun d ds M => match d, ds with
  | .ref n, [.ref m] => match M[n]? with
    | some (.lst xs) => match M[m]? with
      | some (.lst ys) => if xs.length + ys.length ≤ 16777216 then some (.non, M.set n (.lst (xs ++ ys))) else none
      | _ => none
    | _ => none
  | _, _ => none
def popM : OpM := fun d ds M => match d, ds with
  | .ref n, [] => match M[n]? with
    | some (.lst xs) => match xs[xs.length - 1]? with
      | some y => some (y, M.set n (.lst xs.dropLast))
      | none => none
    | _ => none
  | .ref n, [.int i] => match M[n]? with
    | some (.lst xs) => if -9223372036854775808 ≤ i ∧ i < 9223372036854775808 then
        match ixN xs.length i with
        | some k => match xs[k]? with
          | some y => some (y, M.set n (.lst (xs.eraseIdx k)))
          | none => none
        | none => none
      else none
    | _ => none
  | _, _ => none
def updM : OpM := fun d ds M => match d, ds with
  | .ref n, [.ref m] => if n = m then none else match M[n]? with
    | some (.dic false xs) => match M[m]? with
      | some (.dic false ys) => if xs.length + ys.length ≤ 16777216 then some (.non, M.set n (.dic false (dMerge xs ys))) else none
      | _ => none
    | _ => none
  | _, _ => none
section
variable {X : Cx}
theorem app_ok : MtR X "list.append" (rGM X.K appM) := by
  intro pins s σ H x xs v us Q I rx rv ⟨d, ds, M, ι, hr, rd, rs, h⟩
  unfold appM at h
  split at h
  · rename_i n y
    obtain ⟨y', rfl, ry⟩ := reps1 rs
    cases rd with
    | @ref _ a e1 =>
      split at h
      · rename_i zs eo
        obtain ⟨u1, f1, q1⟩ := hr.ob n a _ e1 eo
        cases q1 with
        | lst r1 =>
          split at h
          · rename_i hz
            exact mt_append pins s σ H _ _ v us Q I rx rv ⟨a, _, y', rfl, rfl, f1, by rw [← r1.length, sizeLine_eq]; exact hz, h _ ι _ (Ext.put hr e1) (hr.put e1 (.lst (r1.append (.cons ry .nil)))) .non⟩
          · exact h.elim
      · exact h.elim
  · exact h.elim
theorem ext_ok : MtR X "list.extend" (rGM X.K extM) := by
  intro pins s σ H x xs v us Q I rx rv ⟨d, ds, M, ι, hr, rd, rs, h⟩
  unfold extM at h
  split at h
  · rename_i n m
    obtain ⟨y', rfl, ry⟩ := reps1 rs
    cases rd with
    | @ref _ a e1 =>
      cases ry with
      | @ref _ b e2 =>
        split at h
        · rename_i zs eo
          split at h
          · rename_i ws eo2
            obtain ⟨u1, f1, q1⟩ := hr.ob n a _ e1 eo
            obtain ⟨u2, f2, q2⟩ := hr.ob m b _ e2 eo2
            cases q1 with
            | lst r1 =>
              cases q2 with
              | lst r2 =>
                split at h
                · rename_i hz
                  exact mt_extend pins s σ H _ _ v us Q I rx rv ⟨a, b, _, _, rfl, rfl, f1, f2, by rw [← r1.length, ← r2.length, sizeLine_eq]; exact hz, h _ ι _ (Ext.put hr e1) (hr.put e1 (.lst (r1.append r2))) .non⟩
                · exact h.elim
          · exact h.elim
        · exact h.elim
  · exact h.elim
theorem pop_ok : MtR X "list.pop" (rGM X.K popM) := by
  intro pins s σ H x xs v us Q I rx rv ⟨d, ds, M, ι, hr, rd, rs, h⟩
  unfold popM at h
  split at h
  · rename_i n
    cases rs
    cases rd with
    | @ref _ a e1 =>
      split at h
      · rename_i zs eo
        obtain ⟨u1, f1, q1⟩ := hr.ob n a _ e1 eo
        cases q1 with
        | lst r1 =>
          split at h
          · rename_i y ey
            obtain ⟨w, g1, g2⟩ := r1.get ey
            exact mt_pop pins s σ H _ _ v us Q I rx rv ⟨a, _, w, rfl, rfl, f1, by rw [← r1.length]; exact g1, h _ ι _ (Ext.put hr e1) (hr.put e1 (.lst r1.dropLast)) (g2.ext (Ext.put hr e1))⟩
          · exact h.elim
      · exact h.elim
  · rename_i n i
    obtain ⟨y', rfl, ry⟩ := reps1 rs
    cases ry
    cases rd with
    | @ref _ a e1 =>
      split at h
      · rename_i zs eo
        obtain ⟨u1, f1, q1⟩ := hr.ob n a _ e1 eo
        cases q1 with
        | lst r1 =>
          split at h
          · rename_i hz
            split at h
            · rename_i k ek
              split at h
              · rename_i y ey
                obtain ⟨w, g1, g2⟩ := r1.get ey
                exact mt_popAt pins s σ H _ _ v us Q I rx rv ⟨a, _, i, k, w, rfl, rfl, f1, hz.1, hz.2, by rw [← r1.length]; exact (ixN_seq ek).1, g1, h _ ι _ (Ext.put hr e1) (hr.put e1 (.lst (r1.eraseIdx k))) (g2.ext (Ext.put hr e1))⟩
              · exact h.elim
            · exact h.elim
          · exact h.elim
      · exact h.elim
  · exact h.elim
theorem upd_ok : MtR X "dict.update" (rGM X.K updM) := by
  intro pins s σ H x xs v us Q I rx rv ⟨d, ds, M, ι, hr, rd, rs, h⟩
  unfold updM at h
  split at h
  · rename_i n m
    obtain ⟨y', rfl, ry⟩ := reps1 rs
    cases rd with
    | @ref _ a e1 =>
      cases ry with
      | @ref _ b e2 =>
        split at h
        · exact h.elim
        · rename_i hnm
          split at h
          · rename_i zs eo
            split at h
            · rename_i ws eo2
              obtain ⟨u1, f1, q1⟩ := hr.ob n a _ e1 eo
              obtain ⟨u2, f2, q2⟩ := hr.ob m b _ e2 eo2
              cases q1 with
              | dK r1 =>
                cases q2 with
                | dK r2 =>
                  split at h
                  · rename_i hz
                    have hab : a ≠ b := fun z => hnm (by
                      obtain ⟨h1, g1⟩ := List.getElem?_eq_some_iff.mp e1
                      obtain ⟨h2, g2⟩ := List.getElem?_eq_some_iff.mp e2
                      exact (List.getElem_inj hr.nd).mp (g1.trans (z.trans g2.symm)))
                    obtain ⟨uu, rfl, ru⟩ := vals1 rv
                    obtain rfl : v = Value.ref a := rx
                    obtain rfl : uu = Value.ref b := ru
                    obtain ⟨k1, hd1, vs1, rel1, dd1⟩ := dk_of I.hok f1
                    obtain ⟨k2, hd2, vs2, rel2, dd2⟩ := dk_of I.hok f2
                    have hsz : vs1.length + vs2.length ≤ sizeLine := by
                      rw [← rel1.length, ← rel2.length, ← kvr_len r1, ← kvr_len r2, sizeLine_eq]; exact hz
                    refine call_meetsIn PySem.F.slot_dict_update dd1.typeIs PySem.F.entry_dict_update (PySem.F.args_dict_update_2 _ _) (meets_dict_update (mixKind X.prog X.w) a b hab hd2) ⟨vs1, vs2, dd1, dd2, hsz, fun h' dd' _ hs => ?_⟩
                    have he : ∃ q, h'.get? a = some q := let ⟨q, _, _, hq, _⟩ := dd'; ⟨q, hq⟩
                    have I' := d_write (t' := s.toks) I (by rw [f1]; exact True.intro) hs he (dk_new (by
                      refine Nat.le_trans (length_mergeK _ _) ?_
                      rw [rel1.length, rel2.length]; exact hsz) hd1 (rel2.merge rel1) dd')
                    exact ⟨.non, _, I', rfl, h _ ι _ (Ext.put hr e1) (hr.put e1 (.dK (kvr_merge r2 r1))) .non⟩
                  · exact h.elim
            · exact h.elim
          · exact h.elim
  · exact h.elim
end

/-! ### dict displays -/
def gPairs : List (Ge × Ge) → Rho → Mem → R (List (D × D))
  | [], _, M => .ok [] M
  | (k, v) :: r, ρ, M => (k ρ M).bind fun x M1 => (v ρ M1).bind fun y M2 => (gPairs r ρ M2).bind fun ps M3 => .ok ((x, y) :: ps) M3
def allKey : List (D × D) → Bool
  | [] => true
  | (k, _) :: r => (isKey k).isSome && allKey r
def gDisp (prs : List (Ge × Ge)) : Ge := fun ρ M => (gPairs prs ρ M).bind fun ps M1 => if allKey ps = true ∧ ps.length ≤ 15 then .ok (.ref M1.length) (M1 ++ [.dic false (dMerge [] ps)]) else .no
def gEmpty : Ge := fun _ M => .ok (.ref M.length) (M ++ [.dic false []])
inductive GPs (X : Cx) (W : WX) (pos : Pos) : List (Option Expr) → List Expr → List (Ge × Ge) → Prop where
  | nil : GPs X W pos [] [] []
  | cons {k v : Expr} {ks : List (Option Expr)} {vs : List Expr} {gk gv : Ge} {r : List (Ge × Ge)} (hk : GE X W k gk) (hv : GE X W v gv) (hr : GPs X W pos ks vs r) : GPs X W pos (some k :: ks) (v :: vs) ((gk, gv) :: r)
abbrev tPs (K : PySem.W.Frag) (W : WX) (r : List (Ge × Ge)) : List (TE × TE) := r.map fun p => (tG K W p.1, tG K W p.2)
theorem gps_pps {X : Cx} {W : WX} {pos : Pos} : ∀ {ks : List (Option Expr)} {vs : List Expr} {r : List (Ge × Ge)}, GPs X W pos ks vs r → PPs X pos ks vs (tPs X.K W r)
  | _, _, _, .nil => pps_nil
  | _, _, _, .cons hk hv hr => pps_cons hk hv (gps_pps hr)
inductive PrR (K : PySem.W.Frag) (ι : List Addr) (H : Hp) : List (D × D) → List (V × V) → Prop
  | nil : PrR K ι H [] []
  | cons {a b : D} {x y : V} {r : List (D × D)} {s : List (V × V)} : Rep K ι H a x → Rep K ι H b y → PrR K ι H r s → PrR K ι H ((a, b) :: r) ((x, y) :: s)
theorem prR_key {K : PySem.W.Frag} {ι : List Addr} {H : Hp} : ∀ {ps : List (D × D)} {qs : List (V × V)}, PrR K ι H ps qs → allKey ps = true → ∃ us : List (Key × V), qs = us.map (fun kv => (kV kv.1, kv.2)) ∧ KvR K ι H ps us ∧ us.length = ps.length
  | _, _, .nil, _ => ⟨[], rfl, .nil, rfl⟩
  | _, _, @PrR.cons _ _ _ a b x y r s ra rb t, h => by
    obtain ⟨h1, h2⟩ := Bool.and_eq_true_iff.mp (show ((isKey a).isSome && allKey r) = true from h)
    obtain ⟨k, ek⟩ := Option.isSome_iff_exists.mp h1
    obtain ⟨rfl, rfl⟩ := key_of_D ra ek
    obtain ⟨us, rfl, k2, k3⟩ := prR_key t h2
    exact ⟨(k, y) :: us, rfl, .cons ra rb k2, by simp [k3]⟩
theorem prs_run {K : PySem.W.Frag} {W : WX} {σ : L2.St} {ρ : Rho} : ∀ (r : List (Ge × Ge)) {ι : List Addr} {H : Hp} {M : Mem} {Q : List (V × V) → Hp → Prop}, RS K ι H σ ρ M → PostG K ι H W σ (fun ι' H' d v => PrR K ι' H' d v) Q (gPairs r ρ M) → tPairs (tPs K W r) σ H Q
  | [], ι, H, M, Q, rs, h => h [] ι H Ext.refl rs.hr .nil
  | (k, v) :: r, ι, H, M, Q, rs, h => by
    refine ⟨ρ, M, ι, rs, (PostG.bind (Rl := fun ι' H' d v => Rep K ι' H' d v) h).imp fun x H1 ⟨d1, M1, ι1, x1, hr1, r1, h1⟩ => ?_⟩
    refine ⟨ρ, M1, ι1, rs.ext x1 hr1, (PostG.bind (Rl := fun ι' H' d v => Rep K ι' H' d v) h1).imp fun y H2 ⟨d2, M2, ι2, x2, hr2, r2, h2⟩ => ?_⟩
    refine prs_run r ((rs.ext x1 hr1).ext x2 hr2) ((PostG.bind (Rl := fun ι' H' d v => PrR K ι' H' d v) h2).imp fun ps H3 ⟨d3, M3, ι3, x3, hr3, r3, h3⟩ => ?_)
    exact h3 _ ι3 H3 Ext.refl hr3 (.cons ((r1.ext x2).ext x3) (r2.ext x3) r3)
section
variable {K : PySem.W.Frag} {ι ι2 : List Addr} {H H2 : Hp} {M M2 : Mem} {p : Addr} {u0 u : HO}
/-- an object that was laid ahead of what its items made becomes one of the memory -/
theorem late_no (hr : HR K ι H M) (hp : H p = none) (x : Ext K ι (upd H p u0) ι2 H2) : p ∉ ι2 ∧ H2 p = some u0 := by
  have n1 : p ∉ ι := fun h => by
    obtain ⟨_, z, e, _⟩ := hr.mem h
    rw [hp] at e; cases e
  obtain ⟨κ, e1, f1⟩ := x.pre
  refine ⟨fun h => ?_, x.frm p u0 upd_same n1⟩
  rw [e1] at h
  rcases List.mem_append.mp h with h | h
  · exact n1 h
  · have z := f1 p h
    rw [upd_same] at z; cases z
theorem late_ext (hr : HR K ι H M) (hp : H p = none) (x : Ext K ι (upd H p u0) ι2 H2) (h2 : HR K ι2 H2 M2) : Ext K ι H (ι2 ++ [p]) (upd H2 p u) := by
  have hs : ∀ b o, H b = some o → b ≠ p := fun b o e => ne_of_none e hp
  obtain ⟨κ, e1, f1⟩ := x.pre
  obtain ⟨n2, _⟩ := late_no hr hp x
  refine ⟨⟨κ ++ [p], by rw [e1, List.append_assoc], fun a ha => ?_⟩, fun a o e n => ?_, fun a xs e => ?_, fun a xs e => ?_⟩
  · rcases List.mem_append.mp ha with h | h
    · have z := f1 a h
      have hne : a ≠ p := fun q => n2 (by rw [e1]; exact List.mem_append_right _ (by rw [← q]; exact h))
      rw [upd_ne hne] at z
      exact z
    · have q : a = p := by simpa using h
      rw [q]; exact hp
  · rw [upd_ne (hs a o e)]
    exact x.frm a o (by rw [upd_ne (hs a o e)]; exact e) n
  · rcases e with (q | ⟨o, q⟩) | q
    · have z := x.sqt a xs (.inl (.inl (by rw [upd_ne (hs a _ q)]; exact q)))
      rcases z with (w | ⟨o, w⟩) | w
      · exact .inl (.inl (by rw [upd_ne (hs a _ q)]; exact w))
      · exact .inl (.inr ⟨o, by rw [upd_ne (hs a _ q)]; exact w⟩)
      · exact .inr w
    · have z := x.sqt a xs (.inl (.inr ⟨o, by rw [upd_ne (hs a _ q)]; exact q⟩))
      rcases z with (w | ⟨o, w⟩) | w
      · exact .inl (.inl (by rw [upd_ne (hs a _ q)]; exact w))
      · exact .inl (.inr ⟨o, by rw [upd_ne (hs a _ q)]; exact w⟩)
      · exact .inr w
    · exact .inr q
  · rcases e with ⟨o, q⟩ | q
    · have z := x.fzl a xs (.inl ⟨o, by rw [upd_ne (hs a _ q)]; exact q⟩)
      rcases z with ⟨o, w⟩ | w
      · exact .inl ⟨o, by rw [upd_ne (hs a _ q)]; exact w⟩
      · exact .inr w
    · exact .inr q
/-- what stands at p is no tuple, nothing frozen -/
def Plain (u : HO) : Prop := (∀ xs, u ≠ .tup xs) ∧ ∀ o v, u ≠ .frz o v
theorem late_re (hq : H2 p = some u0) (hu : Plain u0) (n2 : p ∉ ι2) : Ext K ι2 H2 (ι2 ++ [p]) (upd H2 p u) → True := fun _ => trivial
theorem late_rep (hq : H2 p = some u0) (hu : Plain u0) (n2 : p ∉ ι2) :
    (∀ a xs, SqT K H2 a xs → SqT K (upd H2 p u) a xs) ∧ (∀ a xs, FzL K H2 a xs → FzL K (upd H2 p u) a xs) := by
  refine ⟨fun a xs e => ?_, fun a xs e => ?_⟩
  · rcases e with (q | ⟨o, q⟩) | q
    · exact .inl (.inl (by rw [upd_ne (fun z => by rw [z, hq] at q; exact hu.1 xs (Option.some.inj q))]; exact q))
    · exact .inl (.inr ⟨o, by rw [upd_ne (fun z => by rw [z, hq] at q; exact hu.2 o _ (Option.some.inj q))]; exact q⟩)
    · exact .inr q
  · rcases e with ⟨o, q⟩ | q
    · exact .inl ⟨o, by rw [upd_ne (fun z => by rw [z, hq] at q; exact hu.2 o _ (Option.some.inj q))]; exact q⟩
    · exact .inr q
end
/-- a step of representations alone: places stay, tuples and read lists stay -/
structure Stp (K : PySem.W.Frag) (ι : List Addr) (H : Hp) (ι' : List Addr) (H' : Hp) : Prop where
  get : ∀ (n : Nat) (a : Addr), ι[n]? = some a → ι'[n]? = some a
  sqt : ∀ a xs, SqT K H a xs → SqT K H' a xs
  fzl : ∀ a xs, FzL K H a xs → FzL K H' a xs
section
variable {K : PySem.W.Frag} {ι ι' : List Addr} {H H' : Hp}
mutual
theorem Rep.stp (x : Stp K ι H ι' H') : ∀ {d : D} {v : V}, Rep K ι H d v → Rep K ι' H' d v
  | _, _, .non => .non
  | _, _, .bl b => .bl b
  | _, _, .int i => .int i
  | _, _, .str e h => .str e h
  | _, _, .tup h r => .tup (x.sqt _ _ h) (Reps.stp x r)
  | _, _, .ref e => .ref (x.get _ _ e)
  | _, _, .adr a => .adr a
  | _, _, .rol h r => .rol (x.fzl _ _ h) (Reps.stp x r)
  | _, _, .ty t => .ty t
theorem Reps.stp (x : Stp K ι H ι' H') : ∀ {ds : List D} {vs : List V}, Reps K ι H ds vs → Reps K ι' H' ds vs
  | _, _, .nil => .nil
  | _, _, .cons r t => .cons (Rep.stp x r) (Reps.stp x t)
end
theorem KvR.stp (x : Stp K ι H ι' H') : ∀ {ds : List (D × D)} {vs : List (Key × V)}, KvR K ι H ds vs → KvR K ι' H' ds vs
  | _, _, .nil => .nil
  | _, _, .cons k r t => .cons (k.stp x) (r.stp x) (KvR.stp x t)
theorem KtR.stp (x : Stp K ι H ι' H') : ∀ {ds : List (D × D)} {vs : List (List Key × V)}, KtR K ι H ds vs → KtR K ι' H' ds vs
  | _, _, .nil => .nil
  | _, _, .cons r t => .cons (r.stp x) (KtR.stp x t)
theorem ObR.stp (x : Stp K ι H ι' H') {o : Ob} {u : HO} (h : ObR K ι H o u) : ObR K ι' H' o u := by
  cases h with
  | lst r => exact .lst (r.stp x)
  | dK r => exact .dK (r.stp x)
  | dT r => exact .dT (r.stp x)
theorem HR.late {M : Mem} {p : Addr} {u0 u : HO} {o : Ob} (r : HR K ι H M) (n2 : p ∉ ι) (hq : H p = some u0) (hu : Plain u0) (q : ObR K ι H o u) : HR K (ι ++ [p]) (upd H p u) (M ++ [o]) := by
  obtain ⟨z1, z2⟩ := late_rep (K := K) (ι2 := ι) (u := u) hq hu n2
  have x : Stp K ι H (ι ++ [p]) (upd H p u) := ⟨fun n a e => by rw [List.getElem?_append_left (List.getElem?_eq_some_iff.mp e).1]; exact e, z1, z2⟩
  refine ⟨by simp [r.len], ?_, fun n a ob e1 e2 => ?_⟩
  · rw [List.nodup_append]
    refine ⟨r.nd, by simp, fun a ha b hb => ?_⟩
    have e : b = p := by simpa using hb
    rw [e]
    intro z
    rw [z] at ha
    exact n2 ha
  · by_cases hn : n < ι.length
    · rw [List.getElem?_append_left hn] at e1
      rw [List.getElem?_append_left (by rw [← r.len]; exact hn)] at e2
      obtain ⟨h, e, q'⟩ := r.ob n a ob e1 e2
      refine ⟨h, ?_, q'.stp x⟩
      rw [upd_ne]
      · exact e
      · intro z
        rw [z] at e1
        exact n2 (List.mem_of_getElem? e1)
    · rw [List.getElem?_append_right (by omega)] at e1
      rw [List.getElem?_append_right (by rw [← r.len]; omega), ← r.len] at e2
      have hz : n - ι.length = 0 := by
        have z := (List.getElem?_eq_some_iff.mp e1).1
        simp at z
        omega
      rw [hz] at e1 e2
      have ea : p = a := by simpa using e1
      have eo : o = ob := by simpa using e2
      subst ea eo
      exact ⟨u, upd_same, q.stp x⟩
end
theorem RS.tup {K : PySem.W.Frag} {ι : List Addr} {H : Hp} {σ : L2.St} {ρ : Rho} {M : Mem} {p : Addr} {u : HO} (r : RS K ι H σ ρ M) (hp : H p = none) : RS K ι (upd H p u) σ ρ M := r.ext (Ext.tup hp) (r.hr.tup hp)
section
variable {X : Cx} {W : WX} {pos : Pos}
theorem g_disp {keys : List (Option Expr)} {values : List Expr} {r : List (Ge × Ge)} (h : GPs X W pos keys values r) (hall : keys.all (·.isSome) = true := by rfl) (hl : keys.length = values.length := by rfl) (h0 : keys ≠ [] := by simp) (h15 : keys.length ≤ 15 := by decide) :
    GE X W (.Dict keys values pos) (gDisp r) := by
  refine pe_weak (pe_disp (gps_pps h) hall hl h0 h15) fun σ H Q ⟨ρ, M, ι, rs, h⟩ => ?_
  intro p hp
  refine prs_run r (rs.tup hp) ?_
  replace h : PostE X.K ι H W σ Q ((gPairs r ρ M).bind fun ps M1 => if allKey ps = true ∧ ps.length ≤ 15 then .ok (.ref M1.length) (M1 ++ [.dic false (dMerge [] ps)]) else .no) := h
  generalize gPairs r ρ M = res at h ⊢
  cases res with
  | no => exact h.elim
  | ex x M' =>
    intro c dd ι' H' x' hr' xr
    have xe : Ext X.K ι H ι' H' := (Ext.tup hp).trans (rs.hr.tup hp) x'
    exact h c dd ι' H' xe hr' xr
  | ok ps M1 =>
    intro qs ι2 H2 x2 hr2 pr
    obtain ⟨n2, e2⟩ := late_no rs.hr hp x2
    refine ⟨e2, ?_⟩
    replace h : PostE X.K ι H W σ Q (if allKey ps = true ∧ ps.length ≤ 15 then .ok (.ref M1.length) (M1 ++ [.dic false (dMerge [] ps)]) else .no) := h
    split at h
    · rename_i hc
      obtain ⟨us, rfl, k2, k3⟩ := prR_key pr hc.1
      have hpl : Plain (HO.dK []) := ⟨fun _ z => (nomatch z), fun _ _ z => (nomatch z)⟩
      refine ⟨us, rfl, by rw [k3]; exact hc.2, h _ (ι2 ++ [p]) _ (late_ext rs.hr hp x2 hr2) (hr2.late n2 e2 hpl (.dK (kvr_merge k2 .nil))) (.ref (hr2.len' p))⟩
    · exact h.elim
theorem g_empty : GE X W (.Dict [] [] pos) gEmpty := pe_weak pe_dnewK fun σ H Q ⟨ρ, M, ι, rs, h⟩ p hp => h _ (ι ++ [p]) _ (Ext.new hp) (rs.hr.new hp (.dK .nil)) (.ref (rs.hr.len' p))
end

/-! ### targets -/
abbrev Gg := D → Rho → Mem → Option (Rho × Mem)
abbrev Ggs := List D → Rho → Mem → Option (Rho × Mem)
def PostR (K : PySem.W.Frag) (ι : List Addr) (H : Hp) (Q : L2.St → Hp → Prop) : Option (Rho × Mem) → Prop
  | some (ρ', M') => ∀ σ' ι' H', Ext K ι H ι' H' → RS K ι' H' σ' ρ' M' → Q σ' H'
  | none => False
theorem PostR.rebase {K : PySem.W.Frag} {ι ι1 : List Addr} {H H1 : Hp} {M : Mem} {Q : L2.St → Hp → Prop} {r : Option (Rho × Mem)} (h : PostR K ι H Q r) (x : Ext K ι H ι1 H1) (hr : HR K ι1 H1 M) : PostR K ι1 H1 Q r := by
  cases r with
  | none => exact h
  | some p => exact fun σ' ι' H' x' q => h σ' ι' H' (x.trans hr x') q
abbrev GG (X : Cx) (e : Expr) (g : Gg) : Prop := PG X e (fun v σ H Q => ∃ d ρ M ι, RS X.K ι H σ ρ M ∧ Rep X.K ι H d v ∧ PostR X.K ι H Q (g d ρ M))
abbrev GGs (X : Cx) (es : List Expr) (g : Ggs) : Prop := PGs X es (fun vs σ H Q => ∃ ds ρ M ι, RS X.K ι H σ ρ M ∧ Reps X.K ι H ds vs ∧ PostR X.K ι H Q (g ds ρ M))
def gName' (i : Nat) : Gg := fun d ρ M => some (ρ.set i (some d), M)
def gsNil : Ggs := fun ds ρ M => match ds with
  | [] => some (ρ, M)
  | _ => none
def gsCons (g : Gg) (r : Ggs) : Ggs := fun ds ρ M => match ds with
  | d :: t => match g d ρ M with
    | some (ρ1, M1) => r t ρ1 M1
    | none => none
  | [] => none
def gUnp (n : Nat) (g : Ggs) : Gg := fun d ρ M => match seqM M d with
  | some xs => if xs.length = n then g xs ρ M else none
  | none => none
section
variable {X : Cx}
theorem a_name {i : Nat} {x : Str} {pos : Pos} (hN : X.N.Nodup) (hi : X.N[i]? = some x := by rfl) (hx : Loc X.env.scope x := by first | exact Or.inl rfl | exact Or.inr rfl) (hf : X.fn x = true ∨ X.env.scope.names.lookup x = some .local := by first | exact .inl rfl | exact .inr rfl) : GG X (.Name x pos) (gName' i) :=
  pg_weak (pg_name hN hi hx hf) fun v σ H Q ⟨d, ρ, M, ι, rs, r, h⟩ => h _ ι H Ext.refl ⟨rs.en.set r i, rs.hr⟩
theorem pgs_weak {es : List Expr} {t t' : TGs} (h : PGs X es t) (w : ∀ v σ H Q, t' v σ H Q → t v σ H Q) : PGs X es t' := ⟨fun pins s σ H v u Q I r q => h.run pins s σ H v u Q I r (w v σ H Q q)⟩
theorem as_nil : GGs X [] gsNil := pgs_weak pgs_nil fun vs σ H Q ⟨ds, ρ, M, ι, rs, r, h⟩ => by
  cases r with
  | nil => exact ⟨rfl, h σ ι H Ext.refl rs⟩
  | cons a b => exact h.elim
theorem as_cons {e : Expr} {es : List Expr} {g : Gg} {gr : Ggs} (h1 : GG X e g) (h2 : GGs X es gr) (hs : (assignEach (e :: es) X.env).map (·.2) = assign e X.env :: (assignEach es X.env).map (·.2) := by rfl) : GGs X (e :: es) (gsCons g gr) := by
  refine pgs_weak (pgs_cons h1 h2 hs) fun vs σ H Q ⟨ds, ρ, M, ι, rs, r, h⟩ => ?_
  cases r with
  | nil => exact h.elim
  | @cons d v t us a b =>
    refine ⟨v, us, rfl, d, ρ, M, ι, rs, a, ?_⟩
    replace h : PostR X.K ι H Q (match g d ρ M with | some (ρ1, M1) => gr t ρ1 M1 | none => none) := h
    split at h
    · rename_i ρ1 M1 eq
      rw [eq]
      exact fun σ' ι' H' x' rs' => ⟨t, ρ1, M1, ι', rs', b.ext x', PostR.rebase h x' rs'.hr⟩
    · exact h.elim
theorem pg_or {e : Expr} {t t' : TG} (h : PG X e t) (h' : PG X e t') : PG X e (fun v σ H Q => t v σ H Q ∨ t' v σ H Q) := ⟨fun pins s σ H v u Q I r q => q.elim (h.run pins s σ H v u Q I r) (h'.run pins s σ H v u Q I r)⟩
theorem a_unp {es : List Expr} {k : Nat} {g : Ggs} {n : Nat} {pos : Pos} (hc : X.calm = true) (h : GGs X es g) (hn : (assignEach es X.env).length = n := by rfl) (hst : (assignEach es X.env).findIdx? (·.1) = none := by rfl) : GG X (.Tuple es k pos) (gUnp n g) := by
  refine pg_weak (pg_or (pg_tup hc h hn hst) (pg_unl hc h hn hst)) fun v σ H Q ⟨d, ρ, M, ι, rs, r, h⟩ => ?_
  replace h : PostR X.K ι H Q (match seqM M d with | some xs => (if xs.length = n then g xs ρ M else none) | none => none) := h
  split at h
  · rename_i xs e
    split at h
    · rename_i hl
      obtain ⟨a, vs, rfl, q, r2⟩ := seq_of rs.hr r e
      rcases q with q | q
      · exact .inr ⟨a, vs, rfl, q, by rw [← r2.length]; exact hl, xs, ρ, M, ι, rs, r2, h⟩
      · exact .inl ⟨a, vs, rfl, q, by rw [← r2.length]; exact hl, xs, ρ, M, ι, rs, r2, h⟩
    · exact h.elim
  · exact h.elim
end
/-- o[i] = v -/
def setM (o i v : D) (M : Mem) : Option Mem := match o with
  | .ref n => match M[n]? with
    | some (.lst xs) => match i with
      | .int k => match ixN xs.length k with
        | some j => some (M.set n (.lst (xs.set j v)))
        | none => none
      | _ => none
    | some (.dic false kvs) => match isKey i with
      | some _ => if kvs.length < 16777216 then some (M.set n (.dic false (dPut kvs i v))) else none
      | none => none
    | _ => none
  | _ => none
def gSub (go gi : Ge) : Gg := fun d ρ M => match go ρ M with
  | .ok o M1 => match gi ρ M1 with
    | .ok i M2 => match setM o i d M2 with
      | some M3 => some (ρ, M3)
      | none => none
    | _ => none
  | _ => none
section
variable {X : Cx}
theorem setM_ok (hu : X.A.units + 65 < cLine) : PSet X (fun o i v H Q => ∃ o' i' v' M ι, HR X.K ι H M ∧ Rep X.K ι H o' o ∧ Rep X.K ι H i' i ∧ Rep X.K ι H v' v ∧ (match setM o' i' v' M with | some M' => ∀ H', Ext X.K ι H ι H' → HR X.K ι H' M' → Q H' | none => False)) := by
  intro pins s σ H o i v ov iv u Q I ro ri rv ⟨o', i', v', M, ι, hr, r1, r2, r3, h⟩
  unfold setM at h
  cases r1 with
  | @ref n a e1 =>
    simp only at h
    cases eo : M[n]? with
    | none => rw [eo] at h; exact h.elim
    | some ob =>
      rw [eo] at h
      cases ob with
      | lst xs =>
        simp only at h
        obtain ⟨u1, f1, q1⟩ := hr.ob n a _ e1 eo
        cases q1 with
        | lst rr =>
          cases r2 with
          | int k =>
            simp only at h
            cases ek : ixN xs.length k with
            | none => rw [ek] at h; exact h.elim
            | some j =>
              rw [ek] at h
              exact set_list pins s σ H _ _ v ov iv u Q I ro ri rv ⟨a, _, k, j, rfl, rfl, f1, by rw [← rr.length]; exact ek, h _ (Ext.put hr e1) (hr.put e1 (.lst (rr.set r3 j)))⟩
          | _ => exact h.elim
      | dic bb kvs =>
        cases bb with
        | true => exact h.elim
        | false =>
          simp only at h
          obtain ⟨u1, f1, q1⟩ := hr.ob n a _ e1 eo
          cases q1 with
          | dK rr =>
            cases ek : isKey i' with
            | none => rw [ek] at h; exact h.elim
            | some k =>
              rw [ek] at h
              simp only at h
              by_cases hz : kvs.length < 16777216
              · rw [if_pos hz] at h
                obtain ⟨rfl, rfl⟩ := key_of_D r2 ek
                obtain rfl : ov = Value.ref a := ro
                refine d_setItem (by omega) I (DPut.k (k := k) (v := v) f1 (by rw [← kvr_len rr, sizeLine_eq]; exact hz)) ri rv fun s' I' => ⟨_, I', h _ (Ext.put hr e1) (hr.put e1 (.dK (kvr_put r2 r3 rr)))⟩
              · rw [if_neg hz] at h; exact h.elim
  | _ => exact h.elim
/-- no exception comes out -/
theorem a_sub {o i : Expr} {go gi : Ge} {pos : Pos} (hu : X.A.units + 65 < cLine) (ho : GE X (fun _ _ _ _ => False) o go) (hi : GE X (fun _ _ _ _ => False) i gi)
    (ha : ∀ v, assign (.Subscript o i pos) X.env v = (do
      let ov ← holding [v] (eval o X.env)
      let iv ← holding [v, ov] (eval i X.env)
      standAt pos
      holding [v, ov, iv] (setItem ov iv v)
      release [v, ov, iv] []) := by intro _; rfl) : GG X (.Subscript o i pos) (gSub go gi) := by
  refine pg_weak (pg_sub ho hi (setM_ok hu) ha) fun v σ H Q ⟨d, ρ, M, ι, rs, r, h⟩ => ?_
  replace h : PostR X.K ι H Q (match go ρ M with | .ok o M1 => (match gi ρ M1 with | .ok i M2 => (match setM o i d M2 with | some M3 => some (ρ, M3) | none => none) | _ => none) | _ => none) := h
  split at h
  · rename_i o1 M1 e1
    split at h
    · rename_i i1 M2 e2
      split at h
      · rename_i M3 e3
        refine ⟨ρ, M, ι, rs, ?_⟩
        rw [e1]
        intro ov ι1 H1 x1 hr1 r1
        refine ⟨ρ, M1, ι1, rs.ext x1 hr1, ?_⟩
        rw [e2]
        intro iv ι2 H2 x2 hr2 r2
        refine ⟨o1, i1, d, M2, ι2, hr2, r1.ext x2, r2, (r.ext x1).ext x2, ?_⟩
        rw [e3]
        intro H3 x3 hr3
        exact h σ ι2 H3 ((x1.trans hr1 x2).trans hr2 x3) ⟨((rs.en.ext x1).ext x2).ext x3, hr3⟩
      · exact h.elim
    · exact h.elim
  · exact h.elim
end
end G
set_option maxRecDepth 100000
set_option maxHeartbeats 4000000
/-! G7: statements, what is walked, loops, comprehensions. -/
namespace G
open PySem PySem.Spec PyProof.Rows L2

/-! ### statements -/
def PostS (K : PySem.W.Frag) (ι : List Addr) (H : Hp) (W : WX) (D : Ends) : R Fl → Prop
  | .ok (.nx ρ') M' => ∀ σ' ι' H', Ext K ι H ι' H' → RS K ι' H' σ' ρ' M' → D.nx σ' H'
  | .ok (.rt d) M' => ∀ v ι' H', Ext K ι H ι' H' → HR K ι' H' M' → Rep K ι' H' d v → D.rt v H'
  | .ok (.bk ρ') M' => ∀ σ' ι' H', Ext K ι H ι' H' → RS K ι' H' σ' ρ' M' → D.bk σ' H'
  | .ok (.ct ρ') M' => ∀ σ' ι' H', Ext K ι H ι' H' → RS K ι' H' σ' ρ' M' → D.ct σ' H'
  | .ok (.xc x ρ') M' => ∀ c dd σ' ι' H', Ext K ι H ι' H' → RS K ι' H' σ' ρ' M' → XcR K ι' H' x c dd → W c dd σ' H'
  | .ex _ _ => False
  | .no => False
def sBind {α : Type} (r : R α) (ρ : Rho) (k : α → Mem → R Fl) : R Fl := match r with
  | .ok a M => k a M
  | .ex x M => .ok (.xc x ρ) M
  | .no => .no
def tS (K : PySem.W.Frag) (W : WX) (g : Gs) : TS := fun D σ H => ∃ ρ M ι, RS K ι H σ ρ M ∧ PostS K ι H W D (g ρ M)
abbrev GS (X : Cx) (W : WX) (st : Stmt) (g : Gs) : Prop := PS X st (tS X.K W g)
abbrev GSs (X : Cx) (W : WX) (st : List Stmt) (g : Gs) : Prop := PSs X st (tS X.K W g)
section
variable {K : PySem.W.Frag} {ι ι1 : List Addr} {H H1 : Hp} {M : Mem} {W : WX} {σ : L2.St} {ρ : Rho} {D : Ends}
theorem PostS.rebase {r : R Fl} (h : PostS K ι H W D r) (x : Ext K ι H ι1 H1) (hr : HR K ι1 H1 M) : PostS K ι1 H1 W D r := by
  cases r with
  | ok f M' =>
    cases f with
    | nx ρ' => exact fun σ' ι' H' x' q => h σ' ι' H' (x.trans hr x') q
    | bk ρ' => exact fun σ' ι' H' x' q => h σ' ι' H' (x.trans hr x') q
    | ct ρ' => exact fun σ' ι' H' x' q => h σ' ι' H' (x.trans hr x') q
    | rt d => exact fun v ι' H' x' h' q => h v ι' H' (x.trans hr x') h' q
    | xc e ρ' => exact fun c dd σ' ι' H' x' h' q => h c dd σ' ι' H' (x.trans hr x') h' q
  | ex e M' => exact h
  | no => exact h
theorem PostS.bind {α β : Type} {Rl : List Addr → Hp → α → β → Prop} {r : R α} {k : α → Mem → R Fl} (en : EnR K ι H ρ σ) (h : PostS K ι H W D (sBind r ρ k)) :
    PostG K ι H W σ Rl (fun v H1 => ∃ d M1 ι1, Ext K ι H ι1 H1 ∧ HR K ι1 H1 M1 ∧ Rl ι1 H1 d v ∧ PostS K ι1 H1 W D (k d M1)) r := by
  cases r with
  | ok d M' => exact fun v ι' H' x hr w => ⟨d, M', ι', x, hr, w, PostS.rebase (show PostS K ι H W D (k d M') from h) x hr⟩
  | ex e M' => exact fun c dd ι' H' x hr q => h c dd σ ι' H' x ⟨en.ext x, hr⟩ q
  | no => exact h
end
def gsSkip : Gs := fun ρ M => .ok (.nx ρ) M
def gSeq (a b : Gs) : Gs := fun ρ M => match a ρ M with
  | .ok (.nx ρ') M' => b ρ' M'
  | r => r
def gExpr (g : Ge) : Gs := fun ρ M => sBind (g ρ M) ρ fun _ M1 => .ok (.nx ρ) M1
def gRet (g : Ge) : Gs := fun ρ M => sBind (g ρ M) ρ fun d M1 => .ok (.rt d) M1
def gRetN : Gs := fun _ M => .ok (.rt .non) M
def gIfS (c : Gt) (a b : Gs) : Gs := fun ρ M => sBind (c ρ M) ρ fun k M1 => if k = true then a ρ M1 else b ρ M1
def gBreak : Gs := fun ρ M => .ok (.bk ρ) M
def gCont : Gs := fun ρ M => .ok (.ct ρ) M
def gNever : Gs := fun _ _ => .no
def gAsg (t : Gg) (g : Ge) : Gs := fun ρ M => sBind (g ρ M) ρ fun d M1 => match t d ρ M1 with
  | some (ρ', M') => .ok (.nx ρ') M'
  | none => .no
def gSet (i : Nat) (g : Ge) : Gs := fun ρ M => sBind (g ρ M) ρ fun d M1 => .ok (.nx (ρ.set i (some d))) M1
def gPar (i j : Nat) (g : Ga) : Gs := fun ρ M => sBind (g ρ M) ρ fun ds M1 => match ds with
  | [d, e] => .ok (.nx ((ρ.set i (some d)).set j (some e))) M1
  | _ => .no
def gPar3 (i j l : Nat) (g : Ga) : Gs := fun ρ M => sBind (g ρ M) ρ fun ds M1 => match ds with
  | [d, e, f] => .ok (.nx (((ρ.set i (some d)).set j (some e)).set l (some f))) M1
  | _ => .no
section
variable {X : Cx} {W : WX} {st : Stmt} {rest : List Stmt} {g gr ga gb : Gs} {e : Expr} {ge : Ge} {pos : Pos}
theorem ss_nil : GSs X W [] gsSkip := pss_weak pss_nil fun D σ H ⟨ρ, M, ι, rs, h⟩ => h σ ι H Ext.refl rs
theorem ss_one (h : GS X W st g) : GSs X W [st] g := pss_one h
theorem to_seq : ∀ D σ H, tS X.K W (gSeq g gr) D σ H → tSeq (tS X.K W g) (tS X.K W gr) D σ H := fun D σ H ⟨ρ, M, ι, rs, h⟩ => by
  refine ⟨ρ, M, ι, rs, ?_⟩
  replace h : PostS X.K ι H W D (match g ρ M with | .ok (.nx ρ') M' => gr ρ' M' | r => r) := h
  cases e : g ρ M with
  | ok f M' =>
    rw [e] at h
    cases f with
    | nx ρ' => exact fun σ' ι' H' x rs' => ⟨ρ', M', ι', rs', PostS.rebase (show PostS X.K ι H W D (gr ρ' M') from h) x rs'.hr⟩
    | bk ρ' => exact h
    | ct ρ' => exact h
    | rt d => exact h
    | xc y ρ' => exact h
  | ex y M' => rw [e] at h; exact h
  | no => rw [e] at h; exact h
theorem ss_cons (h1 : GS X W st g) (h2 : GSs X W rest gr) : GSs X W (st :: rest) (gSeq g gr) := pss_weak (pss_cons h1 h2) to_seq
theorem s_pass : GS X W (.Pass pos) gsSkip := ps_weak ps_pass fun D σ H ⟨ρ, M, ι, rs, h⟩ => h σ ι H Ext.refl rs
theorem s_break : GS X W (.Break pos) gBreak := ps_weak ps_break fun D σ H ⟨ρ, M, ι, rs, h⟩ => h σ ι H Ext.refl rs
theorem s_cont : GS X W (.Continue pos) gCont := ps_weak ps_continue fun D σ H ⟨ρ, M, ι, rs, h⟩ => h σ ι H Ext.refl rs
theorem s_never : GS X W st gNever := ps_weak ps_never fun D σ H ⟨ρ, M, ι, rs, h⟩ => h
theorem s_expr (he : GE X W e ge) (hs : swapsWith e none pos.line X.env = pure false := by rfl) : GS X W (.Expr e pos) (gExpr ge) := by
  refine ps_weak (ps_expr he hs) fun D σ H ⟨ρ, M, ι, rs, h⟩ => ?_
  exact ⟨ρ, M, ι, rs, (PostS.bind (Rl := fun ι' H' d v => Rep X.K ι' H' d v) rs.en h).imp fun v H1 ⟨d1, M1, ι1, x1, hr1, r1, h1⟩ => h1 σ ι1 H1 Ext.refl (rs.ext x1 hr1)⟩
theorem s_ret (he : GE X W e ge) : GS X W (.Return (some e) pos) (gRet ge) := by
  refine ps_weak (ps_ret he) fun D σ H ⟨ρ, M, ι, rs, h⟩ => ?_
  exact ⟨ρ, M, ι, rs, (PostS.bind (Rl := fun ι' H' d v => Rep X.K ι' H' d v) rs.en h).imp fun v H1 ⟨d1, M1, ι1, x1, hr1, r1, h1⟩ => h1 v ι1 H1 Ext.refl hr1 r1⟩
theorem s_retN : GS X W (.Return none pos) gRetN := ps_weak ps_retN fun D σ H ⟨ρ, M, ι, rs, h⟩ => h .non ι H Ext.refl rs.hr .non
theorem s_if {c : Expr} {a b : List Stmt} {tc : Gt} (hc : GT X W c tc) (ha : GSs X W a ga) (hb : GSs X W b gb) : GS X W (.If c a b pos) (gIfS tc ga gb) := by
  refine ps_weak (ps_if hc ha hb) fun D σ H ⟨ρ, M, ι, rs, h⟩ => ?_
  refine ⟨ρ, M, ι, rs, (PostS.bind (Rl := fun _ _ (a b : Bool) => a = b) rs.en h).imp fun v H1 ⟨d1, M1, ι1, x1, hr1, r1, h1⟩ => ?_⟩
  subst r1
  cases d1 with
  | true => exact ⟨ρ, M1, ι1, rs.ext x1 hr1, h1⟩
  | false => exact ⟨ρ, M1, ι1, rs.ext x1 hr1, h1⟩
theorem to_asg {t : Gg} : ∀ D σ H, tS X.K W (gAsg t ge) D σ H → tAsg (tG X.K W ge) (fun v σ H Q => ∃ d ρ M ι, RS X.K ι H σ ρ M ∧ Rep X.K ι H d v ∧ PostR X.K ι H Q (t d ρ M)) D σ H := fun D σ H ⟨ρ, M, ι, rs, h⟩ => by
  refine ⟨ρ, M, ι, rs, (PostS.bind (Rl := fun ι' H' d v => Rep X.K ι' H' d v) rs.en h).imp fun v H1 ⟨d1, M1, ι1, x1, hr1, r1, h1⟩ => ?_⟩
  refine ⟨d1, ρ, M1, ι1, rs.ext x1 hr1, r1, ?_⟩
  replace h1 : PostS X.K ι1 H1 W D (match t d1 ρ M1 with | some (ρ', M') => .ok (.nx ρ') M' | none => .no) := h1
  split at h1
  · rename_i ρ' M' eq
    rw [eq]
    exact h1
  · exact h1.elim
theorem s_asg {tg : Expr} {t : Gg} (he : GE X W e ge) (hg : GG X tg t) (hs : swapsWithSole [tg] e pos.line X.env = pure false := by rfl) (hw : swappedStores [tg] e X.env = pure none := by rfl)
    (h1 : (assignEach [tg] X.env).map (·.2) = [assign tg X.env] := by rfl) : GS X W (.Assign [tg] e pos) (gAsg t ge) := ps_weak (ps_asg he hg hs hw h1) to_asg
theorem to_set {i : Nat} : ∀ D σ H, tS X.K W (gSet i ge) D σ H → tAsg (tG X.K W ge) (gName i) D σ H := fun D σ H ⟨ρ, M, ι, rs, h⟩ =>
  ⟨ρ, M, ι, rs, (PostS.bind (Rl := fun ι' H' d v => Rep X.K ι' H' d v) rs.en h).imp fun v H1 ⟨d1, M1, ι1, x1, hr1, r1, h1⟩ => h1 _ ι1 H1 Ext.refl ⟨(rs.en.ext x1).set r1 i, hr1⟩⟩
theorem s_set (i : Nat) {x : Str} {pos' : Pos} (hN : X.N.Nodup) (he : GE X W e ge) (hi : X.N[i]? = some x := by rfl) (hx : Loc X.env.scope x := by first | exact Or.inl rfl | exact Or.inr rfl) (hs : swapsWith e (some (.Name x pos')) pos.line X.env = pure false := by rfl)
    (hf : X.fn x = true ∨ X.env.scope.names.lookup x = some .local := by first | exact .inl rfl | exact .inr rfl) : GS X W (.Assign [.Name x pos'] e pos) (gSet i ge) := ps_weak (ps_set hN hi hx he hs hf) to_set
theorem s_par (i j : Nat) {x y : Str} {a b : Expr} {gs : Ga} {px py pt : Pos} {kt k2 pt2} (hc : X.calm = true) (hN : X.N.Nodup) (ha : GA X W [a, b] gs) (hi : X.N[i]? = some x := by rfl) (hj : X.N[j]? = some y := by rfl) (hij : i ≠ j := by decide)
    (hx : X.env.scope.names.lookup x = some .local := by rfl) (hy : X.env.scope.names.lookup y = some .local := by rfl) (hw : swappedStores [.Tuple [.Name x px, .Name y py] kt pt] (.Tuple [a, b] k2 pt2) X.env = pure (some [x, y]) := by rfl)
    (hs : swapsWithSole [.Tuple [.Name x px, .Name y py] kt pt] (.Tuple [a, b] k2 pt2) pos.line X.env = pure false := by rfl) :
    GS X W (.Assign [.Tuple [.Name x px, .Name y py] kt pt] (.Tuple [a, b] k2 pt2) pos) (gPar i j gs) := by
  refine ps_weak (ps_par hc hN hi hj hij hx hy ha hw hs) fun D σ H ⟨ρ, M, ι, rs, h⟩ => ?_
  refine ⟨ρ, M, ι, rs, (PostS.bind (Rl := fun ι' H' d v => Reps X.K ι' H' d v) rs.en h).imp fun v H1 ⟨d1, M1, ι1, x1, hr1, r1, h1⟩ => ?_⟩
  cases r1 with
  | nil => exact h1.elim
  | cons a1 r2 =>
    cases r2 with
    | nil => exact h1.elim
    | cons a2 r3 =>
      cases r3 with
      | nil => exact ⟨_, _, rfl, h1 _ ι1 H1 Ext.refl ⟨((rs.en.ext x1).set a1 i).set a2 j, hr1⟩⟩
      | cons a3 r4 => exact h1.elim
theorem s_par3 (i j l : Nat) {x y z : Str} {a b c : Expr} {gs : Ga} {px py pz pt : Pos} {kt k2 pt2} (hc : X.calm = true) (hN : X.N.Nodup) (ha : GA X W [a, b, c] gs) (hi : X.N[i]? = some x := by rfl) (hj : X.N[j]? = some y := by rfl) (hl : X.N[l]? = some z := by rfl) (hij : i ≠ j := by decide) (hil : i ≠ l := by decide) (hjl : j ≠ l := by decide)
    (hx : X.env.scope.names.lookup x = some .local := by rfl) (hy : X.env.scope.names.lookup y = some .local := by rfl) (hz : X.env.scope.names.lookup z = some .local := by rfl) (hw : swappedStores [.Tuple [.Name x px, .Name y py, .Name z pz] kt pt] (.Tuple [a, b, c] k2 pt2) X.env = pure (some [x, y, z]) := by rfl)
    (hs : swapsWithSole [.Tuple [.Name x px, .Name y py, .Name z pz] kt pt] (.Tuple [a, b, c] k2 pt2) pos.line X.env = pure false := by rfl) :
    GS X W (.Assign [.Tuple [.Name x px, .Name y py, .Name z pz] kt pt] (.Tuple [a, b, c] k2 pt2) pos) (gPar3 i j l gs) := by
  refine ps_weak (ps_par3 hc hN hi hj hl hij hil hjl hx hy hz ha hw hs) fun D σ H ⟨ρ, M, ι, rs, h⟩ => ?_
  refine ⟨ρ, M, ι, rs, (PostS.bind (Rl := fun ι' H' d v => Reps X.K ι' H' d v) rs.en h).imp fun v H1 ⟨d1, M1, ι1, x1, hr1, r1, h1⟩ => ?_⟩
  cases r1 with
  | nil => exact h1.elim
  | cons a1 r2 =>
    cases r2 with
    | nil => exact h1.elim
    | cons a2 r3 =>
      cases r3 with
      | nil => exact h1.elim
      | cons a3 r4 =>
        cases r4 with
        | nil => exact ⟨_, _, _, rfl, h1 _ ι1 H1 Ext.refl ⟨(((rs.en.ext x1).set a1 i).set a2 j).set a3 l, hr1⟩⟩
        | cons a4 r5 => exact h1.elim
end

/-! ### while -/
def whileG (c : Gt) (b : Gs) : Nat → Gs
  | 0, _, _ => .no
  | n + 1, ρ, M => sBind (c ρ M) ρ fun k M1 => if k = true then match b ρ M1 with
      | .ok (.nx ρ') M' => whileG c b n ρ' M'
      | .ok (.ct ρ') M' => whileG c b n ρ' M'
      | .ok (.bk ρ') M' => .ok (.nx ρ') M'
      | r => r
    else .ok (.nx ρ) M1
section
variable {X : Cx} {W : WX} {pos : Pos}
theorem s_while {c : Expr} {body : List Stmt} {tc : Gt} {tb : Gs} (n : Nat) (hp : PassesOwn (model X.prog X.w) X.A X.env X.xe) (hc : GT X W c tc) (hb : GSs X W body tb) : GS X W (.While c body [] pos) (whileG tc tb n) := by
  refine ps_weak (ps_while hp hc hb) fun D σ H ⟨ρ, M, ι, rs, h⟩ => ?_
  refine ⟨fun m σ' H' => ∃ ρ' M' ι', RS X.K ι' H' σ' ρ' M' ∧ PostS X.K ι' H' W D (whileG tc tb m ρ' M'), ⟨n, ρ, M, ι, rs, h⟩, fun m σ' H' ⟨ρ', M', ι', rs', h'⟩ => ?_⟩
  cases m with
  | zero => exact h'.elim
  | succ m =>
    refine ⟨ρ', M', ι', rs', (PostS.bind (Rl := fun _ _ (a b : Bool) => a = b) rs'.en h').imp fun v H1 ⟨d1, M1, ι1, x1, hr1, r1, h1⟩ => ?_⟩
    subst r1
    cases d1 with
    | false => exact h1 σ' ι1 H1 Ext.refl (rs'.ext x1 hr1)
    | true =>
      replace h1 : PostS X.K ι1 H1 W D (match tb ρ' M1 with | .ok (.nx ρ') M' => whileG tc tb m ρ' M' | .ok (.ct ρ') M' => whileG tc tb m ρ' M' | .ok (.bk ρ') M' => .ok (.nx ρ') M' | r => r) := h1
      refine ⟨fun σ2 H2 => ∃ ρ2 M2 ι2, RS X.K ι2 H2 σ2 ρ2 M2 ∧ PostS X.K ι2 H2 W D (whileG tc tb m ρ2 M2), fun σ2 H2 z => ⟨m, Nat.lt_succ_self m, z⟩, ρ', M1, ι1, rs'.ext x1 hr1, ?_⟩
      cases e : tb ρ' M1 with
      | ok f M2 =>
        rw [e] at h1
        cases f with
        | nx ρ2 => exact fun σ2 ι2 H2 x2 rs2 => ⟨ρ2, M2, ι2, rs2, PostS.rebase (show PostS X.K ι1 H1 W D (whileG tc tb m ρ2 M2) from h1) x2 rs2.hr⟩
        | ct ρ2 => exact fun σ2 ι2 H2 x2 rs2 => ⟨ρ2, M2, ι2, rs2, PostS.rebase (show PostS X.K ι1 H1 W D (whileG tc tb m ρ2 M2) from h1) x2 rs2.hr⟩
        | bk ρ2 => exact h1
        | rt d => exact h1
        | xc y ρ2 => exact h1
      | ex y M2 => rw [e] at h1; exact h1
      | no => rw [e] at h1; exact h1
end

/-! ### what is walked -/
inductive Nx where
  | stop | item (d : D) | no
abbrev Src := Nat → Mem → Nx
def SrcR (K : PySem.W.Frag) (ι0 : List Addr) (H0 : Hp) (src : Src) (J : It) : Prop := ∀ ι H M, Ext K ι0 H0 ι H → HR K ι H M → ∀ i, match src i M with
  | .stop => J.stop i H
  | .item d => J.go i H ∧ ∀ x H', J.yld i H x H' → Ext K ι H ι H' ∧ HR K ι H' M ∧ Rep K ι H' d x
  | .no => True
abbrev Gi := Rho → Mem → R Src
def tI (K : PySem.W.Frag) (W : WX) (g : Gi) : TI := fun σ H R => ∃ ρ M ι, RS K ι H σ ρ M ∧ PostG K ι H W σ (fun ι' H' src J => SrcR K ι' H' src J) R (g ρ M)
abbrev GI (X : Cx) (W : WX) (tg e : Expr) (g : Gi) : Prop := PI X tg e (tI X.K W g)
def srcS (xs : List D) : Src := fun i _ => match xs[i]? with
  | some d => .item d
  | none => .stop
def srcC (s : List Nat) : Src := fun i _ => match s[i]? with
  | some c => .item (.str [c])
  | none => .stop
def srcM (n : Nat) : Src := fun i M => match M[n]? with
  | some (.lst xs) => match xs[i]? with
    | some d => .item d
    | none => .stop
  | _ => .no
def srcR (lo : Int) (n : Nat) (c : Int) : Src := fun i _ => if i < n then .item (.int (lo + (i : Int) * c)) else .stop
def srcOf (M : Mem) : D → Option Src
  | .tup xs => some (srcS xs)
  | .rol xs => some (srcS xs)
  | .str s => some (srcC s)
  | .ref n => match M[n]? with
    | some (.lst _) => some (srcM n)
    | _ => none
  | _ => none
/-- a list, a tuple, a text -/
def giSeq (g : Ge) : Gi := fun ρ M => (g ρ M).bind fun d M1 => match srcOf M1 d with
  | some s => .ok s M1
  | none => .no
def giRng1 (g : Ge) : Gi := fun ρ M => (g ρ M).bind fun d M1 => match d with
  | .int j => if -4611686018427387904 ≤ j ∧ j < 4611686018427387904 then .ok (srcR 0 j.toNat 1) M1 else .no
  | _ => .no
def rng2F (ds : List D) (M1 : Mem) : R Src := match ds with
  | [.int i, .int j] => if -4611686018427387904 ≤ i ∧ i < 4611686018427387904 ∧ -4611686018427387904 ≤ j ∧ j < 4611686018427387904 then .ok (srcR i (j - i).toNat 1) M1 else .no
  | _ => .no
def giRng2 (g : Ga) : Gi := fun ρ M => (g ρ M).bind rng2F
/-- range(i, j, -1) -/
def rngDF (ds : List D) (M1 : Mem) : R Src := match ds with
  | [.int i, .int j, .int c] => if c = -1 ∧ -4611686018427387904 ≤ i ∧ i < 4611686018427387904 ∧ -4611686018427387904 ≤ j ∧ j < 4611686018427387904 then .ok (srcR i (i - j).toNat (-1)) M1 else .no
  | _ => .no
def giRngD (g : Ga) : Gi := fun ρ M => (g ρ M).bind rngDF
def srcE (s : Src) : Src := fun i M => match s i M with
  | .item d => .item (.tup [.int (i : Int), d])
  | r => r
def srcZ (s t : Src) : Src := fun i M => match s i M with
  | .stop => .stop
  | .item d => match t i M with
    | .stop => .stop
    | .item e => .item (.tup [d, e])
    | .no => .no
  | .no => .no
/-- enumerate(list) -/
def giEnum (g : Ga) : Gi := fun ρ M => (g ρ M).bind fun ds M1 => match ds with
  | [.rol xs] => .ok (srcE (srcS xs)) M1
  | [.ref n] => match M1[n]? with
    | some (.lst _) => .ok (srcE (srcM n)) M1
    | _ => .no
  | _ => .no
/-- zip of two lists, of two tuples -/
def giZip (g : Ga) : Gi := fun ρ M => (g ρ M).bind fun ds M1 => match ds with
  | [.tup xs, .tup ys] => .ok (srcZ (srcS xs) (srcS ys)) M1
  | [d, e] => match lstM M1 d with
    | some _ => match lstM M1 e with
      | some _ => match srcOf M1 d with
        | some s => match srcOf M1 e with
          | some t => .ok (srcZ s t) M1
          | none => .no
        | none => .no
      | none => .no
    | none => .no
  | _ => .no
section
variable {K : PySem.W.Frag} {ι : List Addr} {H : Hp} {M : Mem}
theorem srcS_list {a : Addr} {xs : List D} {vs : List V} (h : FzL K H a vs) (r : Reps K ι H xs vs) : SrcR K ι H (srcS xs) (Itl K a) := by
  intro ι' H' M' x hr i
  have h' := (x.fzl _ _ h).sq
  have r' := r.ext x
  unfold srcS
  cases e : xs[i]? with
  | none =>
    refine ⟨vs, h', ?_⟩
    rw [← r.length]
    exact List.getElem?_eq_none_iff.mp e
  | some d =>
    obtain ⟨v, g1, g2⟩ := r'.get e
    refine ⟨⟨vs, v, h', g1⟩, fun z H2 ⟨hH, hz⟩ => ?_⟩
    subst hH
    have q := hz vs h'
    rw [g1] at q
    cases q
    exact ⟨Ext.refl, hr, g2⟩
theorem srcS_tup {a : Addr} {xs : List D} {vs : List V} (h : SqT K H a vs) (r : Reps K ι H xs vs) : SrcR K ι H (srcS xs) (Itt K a) := by
  intro ι' H' M' x hr i
  have h' := x.sqt _ _ h
  have r' := r.ext x
  unfold srcS
  cases e : xs[i]? with
  | none =>
    refine ⟨vs, h', ?_⟩
    rw [← r.length]
    exact List.getElem?_eq_none_iff.mp e
  | some d =>
    obtain ⟨v, g1, g2⟩ := r'.get e
    refine ⟨⟨vs, v, h', g1⟩, fun z H2 ⟨hH, hz⟩ => ?_⟩
    subst hH
    have q := hz vs h'
    rw [g1] at q
    cases q
    exact ⟨Ext.refl, hr, g2⟩
theorem srcC_str {x : Str} {s : List Nat} (e1 : x.cps.toList = s) : SrcR K ι H (srcC s) (Its x) := by
  intro ι' H' M' xx hr i
  have hs : x.cps.size = s.length := by rw [← Array.length_toList, e1]
  unfold srcC
  cases e : s[i]? with
  | none =>
    show x.cps.size ≤ i
    rw [hs]
    exact List.getElem?_eq_none_iff.mp e
  | some c =>
    have hi : i < s.length := (List.getElem?_eq_some_iff.mp e).1
    refine ⟨by show i < x.cps.size; rw [hs]; exact hi, fun z H2 ⟨hH, c', hc, hz⟩ => ?_⟩
    subst hH
    have ec : c' = c := by
      rw [← Array.getElem?_toList, e1, e] at hc
      exact (Option.some.inj hc).symm
    subst hz
    subst ec
    exact ⟨Ext.refl, hr, .str rfl (by rw [sizeLine_eq]; exact (by decide : 1 ≤ 16777216))⟩
theorem srcM_list {n : Nat} {a : Addr} (e1 : ι[n]? = some a) : SrcR K ι H (srcM n) (Itl K a) := by
  intro ι' H' M' x hr i
  have e2 := x.get e1
  unfold srcM
  split
  · rename_i d q
    split at q
    · rename_i xs eo
      split at q
      · cases q
      · rename_i en
        obtain ⟨u1, f1, q1⟩ := hr.ob n a _ e2 eo
        cases q1 with
        | lst r =>
          refine ⟨_, .of f1, ?_⟩
          rw [← r.length]
          exact List.getElem?_eq_none_iff.mp en
    · cases q
  · rename_i d' q
    split at q
    · rename_i xs eo
      split at q
      · rename_i dd en
        cases q
        obtain ⟨u1, f1, q1⟩ := hr.ob n a _ e2 eo
        cases q1 with
        | lst r =>
          obtain ⟨v, g1, g2⟩ := r.get en
          refine ⟨⟨_, v, .of f1, g1⟩, fun z H2 ⟨hH, hz⟩ => ?_⟩
          subst hH
          have q2 := hz _ (.of f1)
          rw [g1] at q2
          cases q2
          exact ⟨Ext.refl, hr, g2⟩
      · cases q
    · cases q
  · trivial
theorem srcR_rng (lo : Int) (n : Nat) : SrcR K ι H (srcR lo n 1) (Itr lo n) := by
  intro ι' H' M' x hr i
  unfold srcR
  by_cases h : i < n
  · rw [if_pos h]
    refine ⟨h, fun z H2 ⟨hH, hz⟩ => ?_⟩
    subst hH hz
    rw [Int.mul_one]
    exact ⟨Ext.refl, hr, .int _⟩
  · rw [if_neg h]
    exact Nat.le_of_not_lt h
theorem srcR_rngC (lo c : Int) (n : Nat) : SrcR K ι H (srcR lo n c) (Itc lo c n) := by
  intro ι' H' M' x hr i
  unfold srcR
  by_cases h : i < n
  · rw [if_pos h]
    refine ⟨h, fun z H2 ⟨hH, hz⟩ => ?_⟩
    subst hH hz
    exact ⟨Ext.refl, hr, .int _⟩
  · rw [if_neg h]
    exact Nat.le_of_not_lt h
/-- enumerate over the list at a -/
theorem srcE_list {a : Addr} {src : Src} (h : SrcR K ι H src (Itl K a)) : SrcR K ι H (srcE src) (Ite K a) := by
  intro ι' H' M' x hr i
  have q := h ι' H' M' x hr i
  unfold srcE
  cases e : src i M' with
  | no => trivial
  | stop =>
    rw [e] at q
    exact q
  | item d =>
    rw [e] at q
    obtain ⟨⟨xs, y, g1, g2⟩, g3⟩ := q
    refine ⟨⟨xs, y, g1, g2⟩, fun z H2 ⟨T, w, ez, eT, eH, hz⟩ => ?_⟩
    subst ez eH
    obtain ⟨_, _, r3⟩ := g3 w H' ⟨rfl, hz⟩
    exact ⟨Ext.tup eT, hr.tup eT, .tup (.of upd_same) (.cons (.int _) (.cons (r3.ext (Ext.tup eT)) .nil))⟩
theorem srcZ_list {a b : Addr} {s t : Src} (h : SrcR K ι H s (Itl K a)) (h' : SrcR K ι H t (Itl K b)) (hb : ∀ (ι' : List Addr) (H' : Hp) (M' : Mem), Ext K ι H ι' H' → HR K ι' H' M' → ∃ xs, SqL K H' b xs) : SrcR K ι H (srcZ s t) (Itz K a b) := by
  intro ι' H' M' x hr i
  have q := h ι' H' M' x hr i
  have q' := h' ι' H' M' x hr i
  unfold srcZ
  cases e : s i M' with
  | no => trivial
  | stop =>
    rw [e] at q
    obtain ⟨xs, g1, g2⟩ := q
    obtain ⟨ys, g3⟩ := hb ι' H' M' x hr
    exact ⟨xs, ys, g1, g3, .inl g2⟩
  | item d =>
    rw [e] at q
    obtain ⟨⟨xs, y, g1, g2⟩, g3⟩ := q
    cases e' : t i M' with
    | no => trivial
    | stop =>
      rw [e'] at q'
      obtain ⟨ys, k1, k2⟩ := q'
      exact ⟨xs, ys, g1, k1, .inr k2⟩
    | item d' =>
      rw [e'] at q'
      obtain ⟨⟨ys, y', k1, k2⟩, k3⟩ := q'
      refine ⟨⟨xs, ys, y, y', g1, k1, g2, k2⟩, fun z H2 ⟨T, w, w', ez, eT, eH, hz, hz'⟩ => ?_⟩
      subst ez eH
      obtain ⟨_, _, r3⟩ := g3 w H' ⟨rfl, hz⟩
      obtain ⟨_, _, r4⟩ := k3 w' H' ⟨rfl, hz'⟩
      exact ⟨Ext.tup eT, hr.tup eT, .tup (.of upd_same) (.cons (r3.ext (Ext.tup eT)) (.cons (r4.ext (Ext.tup eT)) .nil))⟩
theorem srcZ_tup {a b : Addr} {s t : Src} (h : SrcR K ι H s (Itt K a)) (h' : SrcR K ι H t (Itt K b)) (hb : ∃ xs, SqT K H b xs) : SrcR K ι H (srcZ s t) (RZ.ItzT K a b) := by
  intro ι' H' M' x hr i
  have q := h ι' H' M' x hr i
  have q' := h' ι' H' M' x hr i
  unfold srcZ
  cases e : s i M' with
  | no => trivial
  | stop =>
    rw [e] at q
    obtain ⟨xs, g1, g2⟩ := q
    obtain ⟨ys, g3⟩ := hb
    exact ⟨xs, ys, g1, x.sqt _ _ g3, .inl g2⟩
  | item d =>
    rw [e] at q
    obtain ⟨⟨xs, y, g1, g2⟩, g3⟩ := q
    cases e' : t i M' with
    | no => trivial
    | stop =>
      rw [e'] at q'
      obtain ⟨ys, k1, k2⟩ := q'
      exact ⟨xs, ys, g1, k1, .inr k2⟩
    | item d' =>
      rw [e'] at q'
      obtain ⟨⟨ys, y', k1, k2⟩, k3⟩ := q'
      refine ⟨⟨xs, ys, y, y', g1, k1, g2, k2⟩, fun z H2 ⟨T, w, w', ez, eT, eH, hz, hz'⟩ => ?_⟩
      subst ez eH
      obtain ⟨_, _, r3⟩ := g3 w H' ⟨rfl, hz⟩
      obtain ⟨_, _, r4⟩ := k3 w' H' ⟨rfl, hz'⟩
      exact ⟨Ext.tup eT, hr.tup eT, .tup (.of upd_same) (.cons (r3.ext (Ext.tup eT)) (.cons (r4.ext (Ext.tup eT)) .nil))⟩
end
section
variable {X : Cx} {W : WX} {tg e e2 e3 : Expr} {g : Ge} {gs : Ga} {p pos : Pos}
theorem pi_weak {t t' : TI} (h : PI X tg e t) (w : ∀ σ H R, t' σ H R → t σ H R) : PI X tg e t' := ⟨fun pins s σ H R I q => h.run pins s σ H R I (w σ H R q)⟩
/-- by the value's kind -/
theorem pi_seq {te : TE} (he : PE X e te) : PI X tg e (fun σ H R => te σ H fun x H1 => (∃ a, x = .ref a ∧ (∃ xs, SqL X.K H1 a xs) ∧ R (Itl X.K a) H1) ∨ (∃ a, x = .ref a ∧ (∃ xs, SqT X.K H1 a xs) ∧ R (Itt X.K a) H1) ∨ ∃ z, x = .str z ∧ R (Its z) H1) := by
  refine ⟨fun pins s σ H R I h => ?_⟩
  refine thn (he.run pins s σ H _ I h) fun v s1 ⟨x, H1, I1, r1, q1⟩ => ?_
  rcases q1 with ⟨a, ex, ⟨xs, hq⟩, q⟩ | ⟨a, ex, ⟨xs, hq⟩, q⟩ | ⟨z, ex, q⟩
  · subst ex
    cases r1
    obtain ⟨its, rv, pl, hz⟩ := I1.list hq
    refine wpAny_pyIter_list pl.isList ?_
    exact pi_one (tk := s1.toks) I1 _ (turn_list a _) ⟨_, Heap.get?_push_size _ rfl, rfl, rfl⟩ q
  · subst ex
    cases r1
    obtain ⟨its, rv, pl, hz⟩ := I1.tuple hq
    refine wpAny_pyIter_tuple (show s1.heap.IsTuple a its.toArray from pl) ?_
    exact pi_one (tk := s1.toks) I1 _ (turn_tuple a _) ⟨_, Heap.get?_push_size _ rfl, rfl, rfl⟩ q
  · subst ex
    obtain ⟨t, rfl⟩ := r1
    cases ha : z.cps.all (· < 128)
    · exact wpAny_pyIter_wide ha (pi_one (tk := s1.toks) I1 _ (turn_str _ z t "str_iterator" (.inr rfl)) ⟨_, Heap.get?_push_size _ rfl, rfl, rfl⟩ q)
    · exact wpAny_pyIter_ascii ha (pi_one (tk := s1.toks) I1 _ (turn_str _ z t "str_ascii_iterator" (.inl rfl)) ⟨_, Heap.get?_push_size _ rfl, rfl, rfl⟩ q)
theorem i_seq (he : GE X W e g) : GI X W tg e (giSeq g) := by
  refine pi_weak (pi_seq he) fun σ H R ⟨ρ, M, ι, rs, h⟩ => ?_
  refine ⟨ρ, M, ι, rs, (PostG.bind (Rl := fun ι' H' d v => Rep X.K ι' H' d v) h).imp fun v H1 ⟨d1, M1, ι1, x1, hr1, r1, h1⟩ => ?_⟩
  cases r1 with
  | @tup a xs ds q r => exact .inr (.inl ⟨a, rfl, ⟨_, q⟩, h1 _ ι1 H1 Ext.refl hr1 (srcS_tup q r)⟩)
  | @rol a xs ds q r => exact .inl ⟨a, rfl, ⟨_, q.sq⟩, h1 _ ι1 H1 Ext.refl hr1 (srcS_list q r)⟩
  | @str z s e1 hz => exact .inr (.inr ⟨z, rfl, h1 _ ι1 H1 Ext.refl hr1 (srcC_str e1)⟩)
  | @ref n a e1 =>
    cases eo : M1[n]? with
    | none =>
      have z : srcOf M1 (.ref n) = none := by unfold srcOf; simp only [eo]
      rw [z] at h1
      exact h1.elim
    | some ob =>
      cases ob with
      | lst xs =>
        have z : srcOf M1 (.ref n) = some (srcM n) := by unfold srcOf; simp only [eo]
        rw [z] at h1
        obtain ⟨u1, f1, q1⟩ := hr1.ob n a _ e1 eo
        cases q1 with
        | lst r => exact .inl ⟨a, rfl, ⟨_, .of f1⟩, h1 _ ι1 H1 Ext.refl hr1 (srcM_list e1)⟩
      | dic bb kvs =>
        have z : srcOf M1 (.ref n) = none := by unfold srcOf; simp only [eo]
        rw [z] at h1
        exact h1.elim
  | _ => exact h1.elim
theorem rng2_aux {K : PySem.W.Frag} {ι : List Addr} {H : Hp} {M : Mem} {σ : L2.St} {R : It → Hp → Prop} {ds : List D} {vs : List V} (r : Reps K ι H ds vs)
    (h : PostG K ι H W σ (fun ι' H' src J => SrcR K ι' H' src J) R (rng2F ds M)) {P : Prop}
    (k : ∀ i j : Int, vs = [.int i, .int j] → (-4611686018427387904 ≤ i ∧ i < 4611686018427387904 ∧ -4611686018427387904 ≤ j ∧ j < 4611686018427387904) → (∀ ι' H', Ext K ι H ι' H' → HR K ι' H' M → SrcR K ι' H' (srcR i (j - i).toNat 1) (Itr i (j - i).toNat) → R (Itr i (j - i).toNat) H') → P) : P := by
  unfold rng2F at h
  split at h
  · obtain ⟨v, u, rfl, k1, k2⟩ := reps2 r
    cases k1
    cases k2
    split at h
    · rename_i hz
      exact k _ _ rfl hz fun ι' H' x hr s => h _ ι' H' x hr s
    · exact h.elim
  · exact h.elim
theorem rngD_aux {K : PySem.W.Frag} {ι : List Addr} {H : Hp} {M : Mem} {σ : L2.St} {R : It → Hp → Prop} {ds : List D} {vs : List V} (r : Reps K ι H ds vs)
    (h : PostG K ι H W σ (fun ι' H' src J => SrcR K ι' H' src J) R (rngDF ds M)) {P : Prop}
    (k : ∀ i j : Int, vs = [.int i, .int j, .int (-1)] → -4611686018427387904 ≤ i → i < 4611686018427387904 → -4611686018427387904 ≤ j → j < 4611686018427387904 → (∀ ι' H', Ext K ι H ι' H' → HR K ι' H' M → SrcR K ι' H' (srcR i (i - j).toNat (-1)) (Itc i (-1) (i - j).toNat) → R (Itc i (-1) (i - j).toNat) H') → P) : P := by
  unfold rngDF at h
  split at h
  · cases r with
    | cons k1 t =>
      obtain ⟨v, u, rfl, k2, k3⟩ := reps2 t
      cases k1
      cases k2
      cases k3
      split at h
      · rename_i hz
        obtain ⟨rfl, z1, z2, z3, z4⟩ := hz
        exact k _ _ rfl z1 z2 z3 z4 fun ι' H' x hr s => h _ ι' H' x hr s
      · exact h.elim
  · exact h.elim
theorem i_rng1 (hm : X.mg "range" = none) (ha : GE X W e g) (hg : Gl X "range" := by rfl) (hs : starEach [e] X.env = [(false, eval e X.env)] := by rfl) (hs1 : starEach (e :: []) X.env = (false, eval e X.env) :: starEach [] X.env := by rfl) : GI X W tg (.Call (.Name "range" p) [e] [] pos) (giRng1 g) := by
  refine pi_weak (pi_range1 hg hm (pa_cons ha pa_nil hs1) hs) fun σ H R ⟨ρ, M, ι, rs, h⟩ => ?_
  refine ⟨ρ, M, ι, rs, (PostG.bind (Rl := fun ι' H' d v => Rep X.K ι' H' d v) h).imp fun v H1 ⟨d1, M1, ι1, x1, hr1, r1, h1⟩ => ?_⟩
  cases r1 with
  | int j =>
    replace h1 : PostG X.K ι1 H1 W σ (fun ι' H' src J => SrcR X.K ι' H' src J) R (if -4611686018427387904 ≤ j ∧ j < 4611686018427387904 then .ok (srcR 0 j.toNat 1) M1 else .no) := h1
    split at h1
    · rename_i hz
      exact ⟨j, rfl, hz.1, hz.2, h1 _ ι1 H1 Ext.refl hr1 (srcR_rng 0 j.toNat)⟩
    · exact h1.elim
  | _ => exact h1.elim
theorem i_rng2 (hm : X.mg "range" = none) (ha : GA X W [e, e2] gs) (hg : Gl X "range" := by rfl) (hs : starEach [e, e2] X.env = [(false, eval e X.env), (false, eval e2 X.env)] := by rfl) (hs2 : starEach [e2] X.env = [(false, eval e2 X.env)] := by rfl) : GI X W tg (.Call (.Name "range" p) [e, e2] [] pos) (giRng2 gs) := by
  refine pi_weak (pi_range2 hg hm ha hs hs2) fun σ H R ⟨ρ, M, ι, rs, h⟩ => ?_
  refine ⟨ρ, M, ι, rs, (PostG.bind (Rl := fun ι' H' d v => Reps X.K ι' H' d v) h).imp fun v H1 ⟨d1, M1, ι1, x1, hr1, r1, h1⟩ => ?_⟩
  refine rng2_aux r1 h1 fun i j er hz q => ?_
  exact ⟨i, j, er, hz, q ι1 H1 Ext.refl hr1 (srcR_rng i _)⟩
theorem i_rngD (hm : X.mg "range" = none) (ha : GA X W [e, e2, e3] gs) (hg : Gl X "range" := by rfl) (hs : starEach [e, e2, e3] X.env = (false, eval e X.env) :: starEach [e2, e3] X.env := by rfl) (hpl : (backTo pos (starEach [e2, e3] X.env)).any (·.1) = false := by rfl) : GI X W tg (.Call (.Name "range" p) [e, e2, e3] [] pos) (giRngD gs) := by
  refine pi_weak (pi_range3 hg hm ha hs hpl) fun σ H R ⟨ρ, M, ι, rs, h⟩ => ?_
  refine ⟨ρ, M, ι, rs, (PostG.bind (Rl := fun ι' H' d v => Reps X.K ι' H' d v) h).imp fun v H1 ⟨d1, M1, ι1, x1, hr1, r1, h1⟩ => ?_⟩
  refine rngD_aux r1 h1 fun i j er z1 z2 z3 z4 q => ?_
  exact ⟨i, j, -1, _, er, RgC.neg z1 z2 z3 z4, q ι1 H1 Ext.refl hr1 (srcR_rngC i (-1) _)⟩
end
end G
set_option maxRecDepth 100000
set_option maxHeartbeats 4000000
/-! G8: enumerate, zip, for loops, comprehensions. -/
namespace G
open PySem PySem.Spec PyProof.Rows L2

/-! ### enumerate, zip -/
def enumF (ds : List D) (M1 : Mem) : R Src := match ds with
  | [.rol xs] => .ok (srcE (srcS xs)) M1
  | [.ref n] => match M1[n]? with
    | some (.lst _) => .ok (srcE (srcM n)) M1
    | _ => .no
  | _ => .no
def giEn (g : Ga) : Gi := fun ρ M => (g ρ M).bind enumF
def lsrc (M : Mem) : D → Option Src
  | .rol xs => some (srcS xs)
  | .ref n => match M[n]? with
    | some (.lst _) => some (srcM n)
    | _ => none
  | _ => none
/-- zip of lists: stuck where one of both is no list any more -/
def zComb (r1 r2 : Nx) : Nx := match r1 with
  | .no => .no
  | .stop => match r2 with
    | .no => .no
    | _ => .stop
  | .item d => match r2 with
    | .no => .no
    | .stop => .stop
    | .item e => .item (.tup [d, e])
def srcZ' (s t : Src) : Src := fun i M => zComb (s i M) (t i M)
theorem srcZ_lists {K : PySem.W.Frag} {ι : List Addr} {H : Hp} {a b : Addr} {s t : Src} (h : SrcR K ι H s (Itl K a)) (h' : SrcR K ι H t (Itl K b))
    (hb : ∀ (ι' : List Addr) (H' : Hp) (M' : Mem), Ext K ι H ι' H' → HR K ι' H' M' → (∃ xs, SqL K H' b xs) ∨ ∀ i, t i M' = .no) : SrcR K ι H (srcZ' s t) (Itz K a b) := by
  intro ι' H' M' x hr i
  have q := h ι' H' M' x hr i
  have q' := h' ι' H' M' x hr i
  have q3 : (∃ xs, SqL K H' b xs) ∨ t i M' = .no := (hb ι' H' M' x hr).imp id fun z => z i
  unfold srcZ'
  generalize s i M' = r1 at q
  generalize t i M' = r2 at q' q3
  cases r1 with
  | no => trivial
  | stop =>
    cases r2 with
    | no => trivial
    | stop =>
      obtain ⟨xs, g1, g2⟩ := q
      obtain ⟨ys, k1, k2⟩ := q'
      exact ⟨xs, ys, g1, k1, .inl g2⟩
    | item d' =>
      obtain ⟨xs, g1, g2⟩ := q
      obtain ⟨⟨ys, y', k1, k2⟩, k3⟩ := q'
      exact ⟨xs, ys, g1, k1, .inl g2⟩
  | item d =>
    obtain ⟨⟨xs, y, g1, g2⟩, g4⟩ := q
    cases r2 with
    | no => trivial
    | stop =>
      obtain ⟨ys, k1, k2⟩ := q'
      exact ⟨xs, ys, g1, k1, .inr k2⟩
    | item d' =>
      obtain ⟨⟨ys, y', k1, k2⟩, k3⟩ := q'
      refine ⟨⟨xs, ys, y, y', g1, k1, g2, k2⟩, fun z H2 ⟨T, w, w', ez, eT, eH, hz, hz'⟩ => ?_⟩
      subst ez eH
      obtain ⟨_, _, r3⟩ := g4 w H' ⟨rfl, hz⟩
      obtain ⟨_, _, r4⟩ := k3 w' H' ⟨rfl, hz'⟩
      exact ⟨Ext.tup eT, hr.tup eT, .tup (.of upd_same) (.cons (r3.ext (Ext.tup eT)) (.cons (r4.ext (Ext.tup eT)) .nil))⟩
def zipF' (ds : List D) (M1 : Mem) : R Src := match ds with
  | [.tup xs, .tup ys] => .ok (srcZ (srcS xs) (srcS ys)) M1
  | [d, e] => match lsrc M1 d with
    | some s => match lsrc M1 e with
      | some t => .ok (srcZ' s t) M1
      | none => .no
    | none => .no
  | _ => .no
def giZip' (g : Ga) : Gi := fun ρ M => (g ρ M).bind zipF'
theorem lsrc_no {K : PySem.W.Frag} {ι : List Addr} {H : Hp} {M : Mem} (hr : HR K ι H M) {d : D} {v : V} {s : Src} (r : Rep K ι H d v) (h : lsrc M d = some s) :
    ∃ a, v = .ref a ∧ SrcR K ι H s (Itl K a) ∧ (∃ xs, SqL K H a xs) ∧ ∀ (ι' : List Addr) (H' : Hp) (M' : Mem), Ext K ι H ι' H' → HR K ι' H' M' → (∃ xs, SqL K H' a xs) ∨ ∀ i, s i M' = .no := by
  cases r with
  | @rol a xs ds q r1 =>
    cases h
    exact ⟨a, rfl, srcS_list q r1, ⟨_, q.sq⟩, fun ι' H' M' x _ => .inl ⟨_, (x.fzl _ _ q).sq⟩⟩
  | @ref n a e1 =>
    replace h : (match M[n]? with | some (.lst _) => some (srcM n) | _ => none) = some s := h
    split at h
    · rename_i xs eo
      cases h
      obtain ⟨u0, f0, q0⟩ := hr.ob n a _ e1 eo
      have h0 : ∃ xs, SqL K H a xs := by
        cases q0 with
        | lst r => exact ⟨_, .of f0⟩
      refine ⟨a, rfl, srcM_list e1, h0, fun ι' H' M' x hr' => ?_⟩
      have e2 := x.get e1
      have hn : n < M'.length := by rw [← hr'.len]; exact (List.getElem?_eq_some_iff.mp e2).1
      have em : M'[n]? = some M'[n] := List.getElem?_eq_getElem hn
      obtain ⟨u, f1, q1⟩ := hr'.ob n a _ e2 em
      cases eo' : M'[n] with
      | lst ys =>
        rw [eo'] at q1
        cases q1 with
        | lst r => exact .inl ⟨_, .of f1⟩
      | dic bb kvs =>
        refine .inr fun i => ?_
        unfold srcM
        rw [em, eo']
    · cases h
  | _ => cases h
section
variable {X : Cx} {W : WX} {e e2 : Expr} {gs : Ga} {p pos tpos : Pos} {elts : List Expr} {kk : Nat}
theorem i_enum (hm : X.mg "enumerate" = none) (ha : GA X W [e] gs) (hg : Gl X "enumerate" := by rfl) (hs : starEach [e] X.env = [(false, eval e X.env)] := by rfl) : GI X W (.Tuple elts kk tpos) (.Call (.Name "enumerate" p) [e] [] pos) (giEn gs) := by
  refine pi_weak (pi_enum hg hm ha hs) fun σ H R ⟨ρ, M, ι, rs, h⟩ => ?_
  refine ⟨ρ, M, ι, rs, (PostG.bind (Rl := fun ι' H' d v => Reps X.K ι' H' d v) h).imp fun v H1 ⟨d1, M1, ι1, x1, hr1, r1, h1⟩ => ?_⟩
  unfold enumF at h1
  split at h1
  · obtain ⟨v', rfl, r2⟩ := reps1 r1
    cases r2 with
    | rol q r3 => exact ⟨_, _, rfl, q.sq, h1 _ ι1 H1 Ext.refl hr1 (srcE_list (srcS_list q r3))⟩
  · rename_i n
    obtain ⟨v', rfl, r2⟩ := reps1 r1
    cases r2 with
    | @ref _ a e1 =>
      split at h1
      · rename_i xs eo
        obtain ⟨u1, f1, q1⟩ := hr1.ob n a _ e1 eo
        cases q1 with
        | lst r3 => exact ⟨a, _, rfl, .of f1, h1 _ ι1 H1 Ext.refl hr1 (srcE_list (srcM_list e1))⟩
      · exact h1.elim
  · exact h1.elim
theorem i_zip (hm : X.mg "zip" = none) (ha : GA X W [e, e2] gs) (hg : Gl X "zip" := by rfl) (hs : starEach [e, e2] X.env = (false, eval e X.env) :: starEach [e2] X.env := by rfl) (hpl : (backTo pos (starEach [e2] X.env)).any (·.1) = false := by rfl) :
    GI X W (.Tuple elts kk tpos) (.Call (.Name "zip" p) [e, e2] [] pos) (giZip' gs) := by
  refine pi_weak (RZ.pi_zipA hg hm ha hs hpl) fun σ H R ⟨ρ, M, ι, rs, h⟩ => ?_
  refine ⟨ρ, M, ι, rs, (PostG.bind (Rl := fun ι' H' d v => Reps X.K ι' H' d v) h).imp fun v H1 ⟨d1, M1, ι1, x1, hr1, r1, h1⟩ => ?_⟩
  unfold zipF' at h1
  split at h1
  · obtain ⟨v', u', rfl, r2, r3⟩ := reps2 r1
    cases r2 with
    | @tup a xs ds q r4 =>
      cases r3 with
      | @tup b ys es q' r5 => exact ⟨a, b, xs, ys, rfl, .inr ⟨q, q', h1 _ ι1 H1 Ext.refl hr1 (srcZ_tup (srcS_tup q r4) (srcS_tup q' r5) ⟨_, q'⟩)⟩⟩
  · obtain ⟨v', u', rfl, r2, r3⟩ := reps2 r1
    split at h1
    · rename_i s es
      split at h1
      · rename_i t et
        obtain ⟨a, rfl, k1, ⟨xs, k2⟩, _⟩ := lsrc_no hr1 r2 es
        obtain ⟨b, rfl, l1, ⟨ys, l2⟩, l3⟩ := lsrc_no hr1 r3 et
        exact ⟨a, b, xs, ys, rfl, .inl ⟨k2, l2, h1 _ ι1 H1 Ext.refl hr1 (srcZ_lists k1 l1 l3)⟩⟩
      · exact h1.elim
    · exact h1.elim
  · exact h1.elim
end

/-! ### for -/
def forG (src : Src) (tg : Gg) (b : Gs) : Nat → Nat → Gs
  | 0, _, _, _ => .no
  | n + 1, i, ρ, M => match src i M with
    | .stop => .ok (.nx ρ) M
    | .item d => match tg d ρ M with
      | some (ρ1, M1) => match b ρ1 M1 with
        | .ok (.nx ρ') M' => forG src tg b n (i + 1) ρ' M'
        | .ok (.ct ρ') M' => forG src tg b n (i + 1) ρ' M'
        | .ok (.bk ρ') M' => .ok (.nx ρ') M'
        | r => r
      | none => .no
    | .no => .no
def big : Nat := 20000000
def gFor (gi : Gi) (tg : Gg) (b : Gs) : Gs := fun ρ M => sBind (gi ρ M) ρ fun src M1 => forG src tg b big 0 ρ M1
section
variable {X : Cx} {W : WX} {pos : Pos}
theorem to_for {gi : Gi} {tg : Gg} {b : Gs} : ∀ D σ H, tS X.K W (gFor gi tg b) D σ H → tFor (tI X.K W gi) (fun v σ H Q => ∃ d ρ M ι, RS X.K ι H σ ρ M ∧ Rep X.K ι H d v ∧ PostR X.K ι H Q (tg d ρ M)) (tS X.K W b) D σ H := fun D σ H ⟨ρ, M, ι, rs, h⟩ => by
  refine ⟨ρ, M, ι, rs, (PostS.bind (Rl := fun ι' H' src J => SrcR X.K ι' H' src J) rs.en h).imp fun J H1 ⟨src, M1, ι1, x1, hr1, r1, h1⟩ => ?_⟩
  refine ⟨fun i m σ' H' => ∃ ρ' M' ι', Ext X.K ι1 H1 ι' H' ∧ RS X.K ι' H' σ' ρ' M' ∧ PostS X.K ι' H' W D (forG src tg b m i ρ' M'), ⟨big, ρ, M1, ι1, Ext.refl, rs.ext x1 hr1, h1⟩, fun i m σ' H' ⟨ρ', M', ι', x', rs', h'⟩ => ?_⟩
  cases m with
  | zero => exact h'.elim
  | succ m =>
    replace h' : PostS X.K ι' H' W D (match src i M' with
      | .stop => .ok (.nx ρ') M'
      | .item d => match tg d ρ' M' with
        | some (ρ1, M1) => match b ρ1 M1 with
          | .ok (.nx ρ') M' => forG src tg b m (i + 1) ρ' M'
          | .ok (.ct ρ') M' => forG src tg b m (i + 1) ρ' M'
          | .ok (.bk ρ') M' => .ok (.nx ρ') M'
          | r => r
        | none => .no
      | .no => .no) := h'
    have q := r1 ι' H' M' x' rs'.hr i
    cases e : src i M' with
    | no => rw [e] at h'; exact h'.elim
    | stop =>
      rw [e] at h' q
      exact .inl ⟨q, h' σ' ι' H' Ext.refl rs'⟩
    | item d =>
      rw [e] at h' q
      obtain ⟨q1, q2⟩ := q
      refine .inr ⟨q1, fun σ2 H2 => ∃ ρ2 M2 ι2, Ext X.K ι1 H1 ι2 H2 ∧ RS X.K ι2 H2 σ2 ρ2 M2 ∧ PostS X.K ι2 H2 W D (forG src tg b m (i + 1) ρ2 M2), fun σ2 H2 z => ⟨m, Nat.lt_succ_self m, z⟩, fun x H2 y => ?_⟩
      obtain ⟨y1, y2, y3⟩ := q2 x H2 y
      have x2 : Ext X.K ι1 H1 ι' H2 := x'.trans rs'.hr y1
      refine ⟨d, ρ', M', ι', rs'.ext y1 y2, y3, ?_⟩
      simp only at h'
      cases et : tg d ρ' M' with
      | none => rw [et] at h'; exact h'.elim
      | some p =>
        obtain ⟨ρ3, M3⟩ := p
        rw [et] at h'
        intro σ3 ι3 H3 x3 rs3
        refine ⟨ρ3, M3, ι3, rs3, ?_⟩
        have x4 : Ext X.K ι1 H1 ι3 H3 := x2.trans y2 x3
        have h'' := PostS.rebase (PostS.rebase h' y1 y2) x3 rs3.hr
        simp only at h''
        cases eb : b ρ3 M3 with
        | ok f M4 =>
          rw [eb] at h''
          cases f with
          | nx ρ4 => exact fun σ4 ι4 H4 x5 rs4 => ⟨ρ4, M4, ι4, x4.trans rs3.hr x5, rs4, PostS.rebase (show PostS X.K ι3 H3 W D (forG src tg b m (i + 1) ρ4 M4) from h'') x5 rs4.hr⟩
          | ct ρ4 => exact fun σ4 ι4 H4 x5 rs4 => ⟨ρ4, M4, ι4, x4.trans rs3.hr x5, rs4, PostS.rebase (show PostS X.K ι3 H3 W D (forG src tg b m (i + 1) ρ4 M4) from h'') x5 rs4.hr⟩
          | bk ρ4 => exact h''
          | rt d => exact h''
          | xc y ρ4 => exact h''
        | ex y M4 => rw [eb] at h''; exact h''
        | no => rw [eb] at h''; exact h''
theorem s_for {iter tge : Expr} {body : List Stmt} {gi : Gi} {tg : Gg} {b : Gs} (hp : PassesOwn (model X.prog X.w) X.A X.env X.xe) (hc : X.calm = true) (hi : GI X W tge iter gi) (hg : GG X tge tg) (hb : GSs X W body b)
    (hs : ∀ x, foldedSetIterable iter X.env x = pure x := by intro _; rfl) : GS X W (.For tge iter body [] pos) (gFor gi tg b) := ps_weak (ps_for hp hc hi hg hb hs) to_for
end

/-! ### comprehensions -/
def wipeR (ρ : Rho) : List Nat → Rho
  | [] => ρ
  | v :: vs => (wipeR ρ vs).set v none
theorem EnR.wipe {K : PySem.W.Frag} {ι : List Addr} {H : Hp} {ρ : Rho} {σ : L2.St} (e : EnR K ι H ρ σ) : ∀ vs : List Nat, EnR K ι H (wipeR ρ vs) (wipe σ vs)
  | [] => e
  | v :: vs => by
    have ih := EnR.wipe e vs
    refine ⟨by unfold wipeR L2.wipe; rw [List.length_set, List.length_set]; exact ih.len, fun i d h => ?_⟩
    unfold wipeR at h
    unfold L2.wipe
    by_cases hj : i = v
    · subst hj
      have hlt : i < (wipeR ρ vs).length := by
        have z := (List.getElem?_eq_some_iff.mp h).1
        rw [List.length_set] at z
        exact z
      rw [List.getElem?_set_self hlt] at h
      cases h
    · rw [List.getElem?_set_ne (Ne.symm hj)] at h
      rw [List.getElem?_set_ne (Ne.symm hj)]
      exact ih.at_ i d h
/-- a comprehension's target: it stores at the places vs alone -/
abbrev GGw (X : Cx) (vs : List Nat) (e : Expr) (g : Gg) : Prop := PG X e (fun v σ H Q => ∃ d ρ M ι, RS X.K ι H σ ρ M ∧ Rep X.K ι H d v ∧ PostR X.K ι H (fun σ' H' => wipe σ' vs = wipe σ vs → Q σ' H') (g d ρ M))
abbrev GGsw (X : Cx) (vs : List Nat) (es : List Expr) (g : Ggs) : Prop := PGs X es (fun us σ H Q => ∃ ds ρ M ι, RS X.K ι H σ ρ M ∧ Reps X.K ι H ds us ∧ PostR X.K ι H (fun σ' H' => wipe σ' vs = wipe σ vs → Q σ' H') (g ds ρ M))
theorem wipe_set {σ : L2.St} {i : Nat} {o : Option V} : ∀ {vs : List Nat}, i ∈ vs → wipe (σ.set i o) vs = wipe σ vs
  | [], h => (nomatch h)
  | v :: vs, h => by
    unfold L2.wipe
    by_cases hv : i = v
    · subst hv
      have key : ∀ us : List Nat, ((wipe (σ.set i o) us).set i none) = (wipe σ us).set i none := by
        intro us
        induction us with
        | nil => show (σ.set i o).set i none = σ.set i none; rw [List.set_set]
        | cons u us ih =>
          show ((wipe (σ.set i o) us).set u none).set i none = ((wipe σ us).set u none).set i none
          by_cases hu : u = i
          · subst hu
            rw [List.set_set, List.set_set]; exact ih
          · rw [List.set_comm _ _ hu, List.set_comm _ _ hu, ih]
      exact key vs
    · rcases List.mem_cons.mp h with z | z
      · exact absurd z hv
      · rw [wipe_set z]
section
variable {X : Cx}
theorem aw_name {i : Nat} {x : Str} {pos : Pos} {vs : List Nat} (hN : X.N.Nodup) (hi : X.N[i]? = some x := by rfl) (hx : Loc X.env.scope x := by first | exact Or.inl rfl | exact Or.inr rfl) (hv : i ∈ vs := by decide) (hf : X.fn x = true ∨ X.env.scope.names.lookup x = some .local := by first | exact .inl rfl | exact .inr rfl) : GGw X vs (.Name x pos) (gName' i) :=
  pg_weak (pg_name hN hi hx hf) fun v σ H Q ⟨d, ρ, M, ι, rs, r, h⟩ => h _ ι H Ext.refl ⟨rs.en.set r i, rs.hr⟩ (wipe_set hv)
theorem asw_nil {vs : List Nat} : GGsw X vs [] gsNil := pgs_weak pgs_nil fun us σ H Q ⟨ds, ρ, M, ι, rs, r, h⟩ => by
  cases r with
  | nil => exact ⟨rfl, h σ ι H Ext.refl rs rfl⟩
  | cons a b => exact h.elim
theorem asw_cons {vs : List Nat} {e : Expr} {es : List Expr} {g : Gg} {gr : Ggs} (h1 : GGw X vs e g) (h2 : GGsw X vs es gr) (hs : (assignEach (e :: es) X.env).map (·.2) = assign e X.env :: (assignEach es X.env).map (·.2) := by rfl) : GGsw X vs (e :: es) (gsCons g gr) := by
  refine pgs_weak (pgs_cons h1 h2 hs) fun us σ H Q ⟨ds, ρ, M, ι, rs, r, h⟩ => ?_
  cases r with
  | nil => exact h.elim
  | @cons d v t us a b =>
    refine ⟨v, us, rfl, d, ρ, M, ι, rs, a, ?_⟩
    replace h : PostR X.K ι H (fun σ' H' => wipe σ' vs = wipe σ vs → Q σ' H') (match g d ρ M with | some (ρ1, M1) => gr t ρ1 M1 | none => none) := h
    split at h
    · rename_i ρ1 M1 eq
      rw [eq]
      intro σ' ι' H' x' rs' hw
      refine ⟨t, ρ1, M1, ι', rs', b.ext x', ?_⟩
      have z := PostR.rebase h x' rs'.hr
      rw [hw]
      exact z
    · exact h.elim
theorem aw_unp {vs : List Nat} {es : List Expr} {k : Nat} {g : Ggs} {n : Nat} {pos : Pos} (hc : X.calm = true) (h : GGsw X vs es g) (hn : (assignEach es X.env).length = n := by rfl) (hst : (assignEach es X.env).findIdx? (·.1) = none := by rfl) : GGw X vs (.Tuple es k pos) (gUnp n g) := by
  refine pg_weak (pg_or (pg_tup hc h hn hst) (pg_unl hc h hn hst)) fun v σ H Q ⟨d, ρ, M, ι, rs, r, h⟩ => ?_
  replace h : PostR X.K ι H (fun σ' H' => wipe σ' vs = wipe σ vs → Q σ' H') (match seqM M d with | some xs => (if xs.length = n then g xs ρ M else none) | none => none) := h
  split at h
  · rename_i xs e
    split at h
    · rename_i hl
      obtain ⟨a, us, rfl, q, r2⟩ := seq_of rs.hr r e
      rcases q with q | q
      · exact .inr ⟨a, us, rfl, q, by rw [← r2.length]; exact hl, xs, ρ, M, ι, rs, r2, h⟩
      · exact .inl ⟨a, us, rfl, q, by rw [← r2.length]; exact hl, xs, ρ, M, ι, rs, r2, h⟩
    · exact h.elim
  · exact h.elim
end
/-- nothing is let out -/
def W0 : WX := fun _ _ _ _ => False
def R.calm {α : Type} (r : R α) : R α := match r with
  | .ok a M => .ok a M
  | _ => .no
def lcG (src : Src) (tg : Gg) (tt : Gt) (te : Ge) (ρ : Rho) : Nat → Nat → Mem → R (List D)
  | 0, _, _ => .no
  | n + 1, i, M => match src i M with
    | .stop => .ok [] M
    | .item d => match tg d ρ M with
      | some (ρ1, M1) => match tt ρ1 M1 with
        | .ok true M2 => match te ρ1 M2 with
          | .ok y M3 => match lcG src tg tt te ρ n (i + 1) M3 with
            | .ok ys M4 => .ok (y :: ys) M4
            | _ => .no
          | _ => .no
        | .ok false M2 => lcG src tg tt te ρ n (i + 1) M2
        | _ => .no
      | none => .no
    | .no => .no
def gLc (gi : Gi) (tg : Gg) (tt : Gt) (te : Ge) (own : List Nat) : Ge := fun ρ M => (gi ρ M).bind fun src M1 => match lcG src tg tt te (wipeR ρ own) big 0 M1 with
  | .ok ys M2 => if ys.length ≤ 16777216 then .ok (.ref M2.length) (M2 ++ [.lst ys]) else .no
  | _ => .no
def gYes : Gt := fun _ M => .ok true M
abbrev GTs (X : Cx) (W : WX) (ifs : List Expr) (g : Gt) : Prop := PTs X ifs (tT X.K W g)
theorem pts_weak {X : Cx} {es : List Expr} {t t' : TT} (h : PTs X es t) (w : ∀ σ H Q, t' σ H Q → t σ H Q) : PTs X es t' := ⟨fun pins s σ H Q I q => h.run pins s σ H Q I (w σ H Q q)⟩
theorem ts_nil {X : Cx} {W : WX} : GTs X W [] gYes := pts_weak pts_nil fun σ H Q ⟨ρ, M, ι, rs, h⟩ => h true ι H Ext.refl rs.hr rfl
theorem ts_one {X : Cx} {W : WX} {c : Expr} {g : Gt} (h : GT X W c g) : GTs X W [c] g := pts_one h
section
variable {K : PySem.W.Frag} {ι ι' : List Addr} {H H' H1 : Hp} {M : Mem} {Dd : Addr} {u0 u : HO}
/-- the list that a comprehension fills changes: seen from ahead of it -/
theorem Ext.fill (x : Ext K ι H ι' H') (hD : H Dd = none) (hq : H' Dd = some u0) (hu : Plain u0) (n2 : Dd ∉ ι') : Ext K ι H ι' (upd H' Dd u) := by
  obtain ⟨z1, z2⟩ := late_rep (K := K) (ι2 := ι') (u := u) hq hu n2
  refine ⟨x.pre, fun a o e n => ?_, fun a xs e => z1 a xs (x.sqt a xs e), fun a xs e => z2 a xs (x.fzl a xs e)⟩
  rw [upd_ne (ne_of_none e hD)]
  exact x.frm a o e n
theorem Stp.fill (hq : H' Dd = some u0) (hu : Plain u0) (n2 : Dd ∉ ι') : Stp K ι' H' ι' (upd H' Dd u) := by
  obtain ⟨z1, z2⟩ := late_rep (K := K) (ι2 := ι') (u := u) hq hu n2
  exact ⟨fun _ _ e => e, z1, z2⟩
theorem HR.fill (r : HR K ι' H' M) (hq : H' Dd = some u0) (hu : Plain u0) (n2 : Dd ∉ ι') : HR K ι' (upd H' Dd u) M := by
  refine ⟨r.len, r.nd, fun n a o e1 e2 => ?_⟩
  obtain ⟨h, e, q⟩ := r.ob n a o e1 e2
  refine ⟨h, ?_, q.stp (Stp.fill hq hu n2)⟩
  rw [upd_ne (fun z => n2 (by rw [← z]; exact List.mem_of_getElem? e1))]
  exact e
theorem EnR.stp {ρ : Rho} {σ : L2.St} (e : EnR K ι H ρ σ) (x : Stp K ι H ι' H') : EnR K ι' H' ρ σ :=
  ⟨e.len, fun i d h => let ⟨v, a, b⟩ := e.at_ i d h; ⟨v, a, b.stp x⟩⟩
theorem Ext.notin (x : Ext K ι H ι' H') (h : HR K ι H M) (hD : H Dd = some u0) (n1 : Dd ∉ ι) : Dd ∉ ι' ∧ H' Dd = some u0 := by
  obtain ⟨κ, e1, f1⟩ := x.pre
  refine ⟨fun z => ?_, x.frm Dd u0 hD n1⟩
  rw [e1] at z
  rcases List.mem_append.mp z with z | z
  · exact n1 z
  · have w := f1 Dd z
    rw [hD] at w; cases w
end
theorem plain_lst {xs : List V} : Plain (.lst xs) := ⟨fun _ z => (nomatch z), fun _ _ z => (nomatch z)⟩
/-- what is wanted of the rest of a comprehension, ds done -/
def restL (r : R (List D)) (ds : List D) : R D := match r with
  | .ok ys M2 => if (ds ++ ys).length ≤ 16777216 then .ok (.ref M2.length) (M2 ++ [.lst (ds ++ ys)]) else .no
  | _ => .no
section
variable {X : Cx} {W : WX} {pos : Pos}
theorem to_lc {gi : Gi} {tg : Gg} {tt : Gt} {te : Ge} {own : List Nat} : ∀ σ H Q, tG X.K W (gLc gi tg tt te own) σ H Q →
    tLc (tI X.K W gi) (fun v σ H Q => ∃ d ρ M ι, RS X.K ι H σ ρ M ∧ Rep X.K ι H d v ∧ PostR X.K ι H (fun σ' H' => wipe σ' own = wipe σ own → Q σ' H') (tg d ρ M)) (tT X.K W0 tt) (tG X.K W0 te) own σ H Q := fun σ H Q ⟨ρ, M, ι, rs, h⟩ => by
  refine ⟨ρ, M, ι, rs, (PostG.bind (Rl := fun ι' H' src J => SrcR X.K ι' H' src J) h).imp fun J H1 ⟨src, M1, ι1, x1, hr1, r1, h1⟩ => ?_⟩
  intro Dd hD
  have en1 : EnR X.K ι1 H1 (wipeR ρ own) (wipe σ own) := (rs.en.ext x1).wipe own
  have n0 : Dd ∉ ι1 := fun z => by
    obtain ⟨_, w, e, _⟩ := hr1.mem z
    rw [hD] at e; cases e
  have h1 : PostE X.K ι1 H1 W σ Q (restL (lcG src tg tt te (wipeR ρ own) big 0 M1) []) := h1
  refine ⟨fun i m H' => ∃ M' ι' acc ds, Ext X.K ι1 H1 ι' H' ∧ HR X.K ι' H' M' ∧ H' Dd = some (.lst acc) ∧ Dd ∉ ι' ∧ Reps X.K ι' H' ds acc ∧ PostE X.K ι1 H1 W σ Q (restL (lcG src tg tt te (wipeR ρ own) m i M') ds), ⟨big, M1, ι1, [], [], Ext.tup hD, hr1.tup hD, upd_same, n0, .nil, h1⟩, fun i m H' ⟨M', ι', acc, ds, x', hr', hq', n', rd, h'⟩ => ?_⟩
  cases m with
  | zero => exact h'.elim
  | succ m =>
    have q := r1 ι' H' M' x' hr' i
    unfold lcG at h'
    cases e : src i M' with
    | no => rw [e] at h'; exact h'.elim
    | stop =>
      rw [e] at h' q
      refine .inl ⟨q, ?_⟩
      replace h' : PostE X.K ι1 H1 W σ Q (if (ds ++ []).length ≤ 16777216 then .ok (.ref M'.length) (M' ++ [.lst (ds ++ [])]) else .no) := h'
      split at h'
      · rw [List.append_nil] at h'
        have hu : upd H' Dd (.lst acc) = H' := by
          funext b
          unfold upd
          split
          · rename_i eb; rw [eb, hq']
          · rfl
        have hr2 : HR X.K (ι' ++ [Dd]) (upd H' Dd (.lst acc)) (M' ++ [.lst ds]) := hr'.late n' hq' plain_lst (.lst rd)
        rw [hu] at hr2
        obtain ⟨κ, e1, f1⟩ := x'.pre
        have x2 : Ext X.K ι1 H1 (ι' ++ [Dd]) H' := by
          refine ⟨⟨κ ++ [Dd], by rw [e1, List.append_assoc], fun a ha => ?_⟩, x'.frm, x'.sqt, x'.fzl⟩
          rcases List.mem_append.mp ha with z | z
          · exact f1 a z
          · have ea : a = Dd := by simpa using z
            rw [ea]; exact hD
        exact h' _ (ι' ++ [Dd]) H' x2 hr2 (.ref (hr'.len' Dd))
      · exact h'.elim
    | item d =>
      rw [e] at h' q
      obtain ⟨q1, q2⟩ := q
      refine .inr ⟨q1, fun H2 => ∃ M2 ι2 acc ds, Ext X.K ι1 H1 ι2 H2 ∧ HR X.K ι2 H2 M2 ∧ H2 Dd = some (.lst acc) ∧ Dd ∉ ι2 ∧ Reps X.K ι2 H2 ds acc ∧ PostE X.K ι1 H1 W σ Q (restL (lcG src tg tt te (wipeR ρ own) m (i + 1) M2) ds), fun H2 z => ⟨m, Nat.lt_succ_self m, z⟩, fun x H2 y => ?_⟩
      obtain ⟨y1, y2, y3⟩ := q2 x H2 y
      have x2 : Ext X.K ι1 H1 ι' H2 := x'.trans hr' y1
      obtain ⟨n2, hq2⟩ := y1.notin hr' hq' n'
      refine ⟨d, wipeR ρ own, M', ι', ⟨en1.ext x2, y2⟩, y3, ?_⟩
      simp only at h'
      cases et : tg d (wipeR ρ own) M' with
      | none => rw [et] at h'; exact h'.elim
      | some p =>
        obtain ⟨ρ3, M3⟩ := p
        rw [et] at h'
        intro σ3 ι3 H3 x3 rs3 hw
        have x4 : Ext X.K ι1 H1 ι3 H3 := x2.trans y2 x3
        obtain ⟨n3, hq3⟩ := x3.notin y2 hq2 n2
        have ww : wipe (wipe σ own) own = wipe σ own := by
          have key : ∀ (vs : List Nat) (τ : L2.St), (∀ v ∈ vs, τ[v]? = some none ∨ τ[v]? = none) → wipe τ vs = τ := by
            intro vs
            induction vs with
            | nil => intro τ _; rfl
            | cons v vs ih =>
              intro τ hτ
              show (wipe τ vs).set v none = τ
              rw [ih τ fun w hw => hτ w (List.mem_cons_of_mem _ hw)]
              refine List.ext_getElem? fun j => ?_
              by_cases hj : j = v
              · subst hj
                rcases hτ j List.mem_cons_self with z | z
                · rw [List.getElem?_set_self (List.getElem?_eq_some_iff.mp z).1, z]
                · rw [z]
                  refine List.getElem?_eq_none_iff.mpr ?_
                  rw [List.length_set]
                  exact List.getElem?_eq_none_iff.mp z
              · rw [List.getElem?_set_ne (Ne.symm hj)]
          refine key own _ fun v hv => ?_
          have key2 : ∀ (us : List Nat), v ∈ us → (wipe σ us)[v]? = some none ∨ (wipe σ us)[v]? = none := by
            intro us
            induction us with
            | nil => intro h; exact (nomatch h)
            | cons u us ih =>
              intro hm
              show ((wipe σ us).set u none)[v]? = some none ∨ ((wipe σ us).set u none)[v]? = none
              by_cases hu : v = u
              · subst hu
                by_cases hl : v < (wipe σ us).length
                · exact .inl (List.getElem?_set_self hl)
                · exact .inr (List.getElem?_eq_none_iff.mpr (by rw [List.length_set]; omega))
              · rw [List.getElem?_set_ne (Ne.symm hu)]
                exact ih ((List.mem_cons.mp hm).resolve_left hu)
          exact key2 own hv
        refine ⟨hw.trans ww, ?_⟩
        refine ⟨ρ3, M3, ι3, rs3, ?_⟩
        simp only at h'
        cases ett : tt ρ3 M3 with
        | no => rw [ett] at h'; exact h'.elim
        | ex z M4 => rw [ett] at h'; exact h'.elim
        | ok b M4 =>
          rw [ett] at h'
          intro b' ι4 H4 x5 hr4 eb
          subst eb
          have x6 : Ext X.K ι1 H1 ι4 H4 := x4.trans rs3.hr x5
          obtain ⟨n4, hq4⟩ := x5.notin rs3.hr hq3 n3
          cases b with
          | false =>
            refine ⟨M4, ι4, acc, ds, x6, hr4, hq4, n4, ?_, h'⟩
            exact ((rd.ext y1).ext x3).ext x5
          | true =>
            rw [if_pos rfl]
            refine ⟨ρ3, M4, ι4, rs3.ext x5 hr4, ?_⟩
            simp only at h'
            cases ete : te ρ3 M4 with
            | no => rw [ete] at h'; exact h'.elim
            | ex z M5 => rw [ete] at h'; exact h'.elim
            | ok yv M5 =>
              rw [ete] at h'
              intro v5 ι5 H5 x7 hr5 r5
              have x8 : Ext X.K ι1 H1 ι5 H5 := x6.trans hr4 x7
              obtain ⟨n5, hq5⟩ := x7.notin hr4 hq4 n4
              have rd5 : Reps X.K ι5 H5 ds acc := (((rd.ext y1).ext x3).ext x5).ext x7
              simp only at h'
              cases el : lcG src tg tt te (wipeR ρ own) m (i + 1) M5 with
              | no => rw [el] at h'; exact h'.elim
              | ex z M6 => rw [el] at h'; exact h'.elim
              | ok ys M6 =>
                rw [el] at h'
                replace h' : PostE X.K ι1 H1 W σ Q (if (ds ++ yv :: ys).length ≤ 16777216 then .ok (.ref M6.length) (M6 ++ [.lst (ds ++ yv :: ys)]) else .no) := h'
                have hlen : (ds ++ yv :: ys).length ≤ 16777216 := by
                  by_cases z : (ds ++ yv :: ys).length ≤ 16777216
                  · exact z
                  · rw [if_neg z] at h'; exact h'.elim
                refine ⟨acc, hq5, ?_, ?_⟩
                · rw [← rd5.length, sizeLine_eq]
                  rw [List.length_append, List.length_cons] at hlen
                  omega
                · have st : Stp X.K ι5 H5 ι5 (upd H5 Dd (.lst (acc ++ [v5]))) := Stp.fill hq5 plain_lst n5
                  refine ⟨M5, ι5, acc ++ [v5], ds ++ [yv], x8.fill hD hq5 plain_lst n5, hr5.fill hq5 plain_lst n5, upd_same, n5, (rd5.append (.cons r5 .nil)).stp st, ?_⟩
                  rw [el]
                  have ea : ds ++ [yv] ++ ys = ds ++ yv :: ys := by rw [List.append_assoc]; rfl
                  show PostE X.K ι1 H1 W σ Q (if (ds ++ [yv] ++ ys).length ≤ 16777216 then .ok (.ref M6.length) (M6 ++ [.lst (ds ++ [yv] ++ ys)]) else .no)
                  rw [ea]
                  exact h'
abbrev InB (X : Cx) (scope : Scope) (P : Cx → Prop) : Prop := ∀ (s : Shared) (H : Hp) (C : Addr) (cl : List (Str × Addr)) (fp : List Addr), P (X.blk s H scope (compEnvC scope cl C X.env) fp)
theorem g_lc {elt tge iter : Expr} {ifs : List Expr} {scope : Scope} {own : List (Str × Nat)} {gi : Gi} {tg : Gg} {tt : Gt} {te : Ge} (hc : X.calm = true) (hN : X.N.Nodup) (hi : GI X W tge iter gi) (ok : blkC X.N X.env.scope scope own = true)
    (hg : ∀ (s : Shared) (H : Hp) (C : Addr) (cl : List (Str × Addr)) (fp : List Addr), GGw (X.blk s H scope (compEnvC scope cl C X.env) fp) (own.map (·.2)) tge tg) (ht : ∀ (s : Shared) (H : Hp) (C : Addr) (cl : List (Str × Addr)) (fp : List Addr), GTs (X.blk s H scope (compEnvC scope cl C X.env) fp) W0 ifs tt)
    (he : ∀ (s : Shared) (H : Hp) (C : Addr) (cl : List (Str × Addr)) (fp : List Addr), GE (X.blk s H scope (compEnvC scope cl C X.env) fp) W0 elt te) (hs : ∀ x, foldedSetIterable iter X.env x = pure x := by intro _; rfl) :
    GE X W (.ListComp elt [⟨tge, iter, ifs, 0⟩] scope pos) (gLc gi tg tt te (own.map (·.2))) := pe_weak (pe_lc hc hN hi (blkOk_by ok) hg ht he hs) to_lc
theorem s_setLc (i : Nat) {y : Str} {py spos : Pos} {elt tge iter : Expr} {ifs : List Expr} {scope : Scope} {own : List (Str × Nat)} {gi : Gi} {tg : Gg} {tt : Gt} {te : Ge} (hc : X.calm = true) (hN : X.N.Nodup) (hi : GI X W tge iter gi) (ok : blkC X.N X.env.scope scope own = true)
    (hg : ∀ (s : Shared) (H : Hp) (C : Addr) (cl : List (Str × Addr)) (fp : List Addr), GGw (X.blk s H scope (compEnvC scope cl C X.env) fp) (own.map (·.2)) tge tg) (ht : ∀ (s : Shared) (H : Hp) (C : Addr) (cl : List (Str × Addr)) (fp : List Addr), GTs (X.blk s H scope (compEnvC scope cl C X.env) fp) W0 ifs tt)
    (he : ∀ (s : Shared) (H : Hp) (C : Addr) (cl : List (Str × Addr)) (fp : List Addr), GE (X.blk s H scope (compEnvC scope cl C X.env) fp) W0 elt te)
    (hsw : swapsWith (.ListComp elt [⟨tge, iter, ifs, 0⟩] scope pos) (some (.Name y py)) spos.line X.env = pure true) (hy : X.N[i]? = some y := by rfl) (hyl : X.env.scope.names.lookup y = some .local := by rfl) (hs : ∀ x, foldedSetIterable iter X.env x = pure x := by intro _; rfl) :
    GS X W (.Assign [.Name y py] (.ListComp elt [⟨tge, iter, ifs, 0⟩] scope pos) spos) (gSet i (gLc gi tg tt te (own.map (·.2)))) :=
  ps_weak (ps_setLc hc hN hy hyl hsw hi (blkOk_by ok) hg ht he hs) fun D σ H h => by
    obtain ⟨ρ, M, ι, rs, q⟩ := to_set D σ H h
    exact to_lc σ H _ ⟨ρ, M, ι, rs, q⟩
end
end G
set_option maxRecDepth 100000
set_option maxHeartbeats 4000000
/-! G9: calls of the text's own defs, the promise of a def by its mirror, the end of a law. -/
namespace G
open PySem PySem.Spec PyProof.Rows L2

/-! ### data without places -/
mutual
def noRef : D → Bool
  | .ref _ => false
  | .tup xs => noRefs xs
  | .rol xs => noRefs xs
  | _ => true
def noRefs : List D → Bool
  | [] => true
  | x :: xs => noRef x && noRefs xs
end
mutual
def shD (k : Nat) : D → D
  | .ref n => .ref (k + n)
  | .tup xs => .tup (shDs k xs)
  | .rol xs => .rol (shDs k xs)
  | d => d
def shDs (k : Nat) : List D → List D
  | [] => []
  | x :: xs => shD k x :: shDs k xs
end
def shP (k : Nat) : List (D × D) → List (D × D)
  | [] => []
  | (a, b) :: r => (a, shD k b) :: shP k r
def shO (k : Nat) : Ob → Ob
  | .lst xs => .lst (shDs k xs)
  | .dic b kvs => .dic b (shP k kvs)
def shF (k : Nat) : List (Str × D) → List (Str × D)
  | [] => []
  | (a, b) :: r => (a, shD k b) :: shF k r
def callF (F : List D → Mem → R D) (ds : List D) (M : Mem) : R D := if noRefs ds = true then match F ds [] with
    | .ok d M' => if noRef d = true then .ok d M else .ok (shD M.length d) (M ++ M'.map (shO M.length))
    | .ex x M' => .ex ⟨x.cls, shF M.length x.fs⟩ (M ++ M'.map (shO M.length))
    | .no => .no
  else F ds M
def gCall (F : List D → Mem → R D) (g : Ga) : Ge := fun ρ M => (g ρ M).bind (callF F)
section
variable {K : PySem.W.Frag} {ι κ : List Addr} {H : Hp} {M M' : Mem}
mutual
theorem Rep.norefs : ∀ {d : D} {v : V}, noRef d = true → Rep K ι H d v → Rep K κ H d v
  | _, _, _, .non => .non
  | _, _, _, .bl b => .bl b
  | _, _, _, .int i => .int i
  | _, _, _, .str e h => .str e h
  | _, _, h, .tup q r => .tup q (Reps.norefs h r)
  | _, _, h, .ref _ => nomatch h
  | _, _, _, .adr a => .adr a
  | _, _, h, .rol q r => .rol q (Reps.norefs h r)
  | _, _, _, .ty t => .ty t
theorem Reps.norefs : ∀ {ds : List D} {vs : List V}, noRefs ds = true → Reps K ι H ds vs → Reps K κ H ds vs
  | _, _, _, .nil => .nil
  | _, _, h, .cons r t =>
    have h' := Bool.and_eq_true_iff.mp h
    .cons (Rep.norefs h'.1 r) (Reps.norefs h'.2 t)
end
mutual
theorem Rep.shift : ∀ {d : D} {v : V}, Rep K κ H d v → Rep K (ι ++ κ) H (shD ι.length d) v
  | _, _, .non => .non
  | _, _, .bl b => .bl b
  | _, _, .int i => .int i
  | _, _, .str e h => .str e h
  | _, _, .tup q r => .tup q (Reps.shift r)
  | _, _, .ref e => .ref (by rw [List.getElem?_append_right (Nat.le_add_right _ _), Nat.add_sub_cancel_left]; exact e)
  | _, _, .adr a => .adr a
  | _, _, .rol q r => .rol q (Reps.shift r)
  | _, _, .ty t => .ty t
theorem Reps.shift : ∀ {ds : List D} {vs : List V}, Reps K κ H ds vs → Reps K (ι ++ κ) H (shDs ι.length ds) vs
  | _, _, .nil => .nil
  | _, _, .cons r t => .cons (Rep.shift r) (Reps.shift t)
end
theorem Key.rep_any {k : Key} (r : Rep K κ H (keyD k) (kV k)) {ι' : List Addr} : Rep K ι' H (keyD k) (kV k) := by
  cases k with
  | inl i => exact .int i
  | inr x => cases r with
    | str e h => exact .str e h
theorem KvR.shift : ∀ {ds : List (D × D)} {vs : List (Key × V)}, KvR K κ H ds vs → KvR K (ι ++ κ) H (shP ι.length ds) vs
  | _, _, .nil => .nil
  | _, _, .cons k r t => .cons (Key.rep_any k) r.shift (KvR.shift t)
theorem KtR.shift : ∀ {ds : List (D × D)} {vs : List (List Key × V)}, KtR K κ H ds vs → KtR K (ι ++ κ) H (shP ι.length ds) vs
  | _, _, .nil => .nil
  | _, _, .cons r t => .cons r.shift (KtR.shift t)
theorem ObR.shift {o : Ob} {u : HO} (h : ObR K κ H o u) : ObR K (ι ++ κ) H (shO ι.length o) u := by
  cases h with
  | lst r => exact .lst r.shift
  | dK r => exact .dK r.shift
  | dT r => exact .dT r.shift
theorem stp_app : Stp K ι H (ι ++ κ) H := ⟨fun n a e => by rw [List.getElem?_append_left (List.getElem?_eq_some_iff.mp e).1]; exact e, fun _ _ e => e, fun _ _ e => e⟩
theorem HR.app (r : HR K ι H M) (r' : HR K κ H M') (dis : ∀ a ∈ κ, a ∉ ι) : HR K (ι ++ κ) H (M ++ M'.map (shO ι.length)) := by
  refine ⟨by rw [List.length_append, List.length_append, List.length_map, r.len, r'.len], ?_, fun n a o e1 e2 => ?_⟩
  · rw [List.nodup_append]
    exact ⟨r.nd, r'.nd, fun a ha b hb z => dis b hb (by rw [← z]; exact ha)⟩
  · by_cases hn : n < ι.length
    · rw [List.getElem?_append_left hn] at e1
      rw [List.getElem?_append_left (by rw [← r.len]; exact hn)] at e2
      obtain ⟨h, e, q⟩ := r.ob n a o e1 e2
      exact ⟨h, e, q.stp stp_app⟩
    · rw [List.getElem?_append_right (by omega)] at e1
      rw [List.getElem?_append_right (by rw [← r.len]; omega), ← r.len, List.getElem?_map] at e2
      cases em : M'[n - ι.length]? with
      | none => rw [em] at e2; cases e2
      | some o' =>
        rw [em] at e2
        cases e2
        obtain ⟨h, e, q⟩ := r'.ob _ a o' e1 em
        exact ⟨h, e, q.shift⟩
/-- what a call that knows no place of ours leaves -/
theorem Ext.iso {H' : Hp} (x : Ext K [] H κ H') (r : HR K ι H M) : Ext K ι H (ι ++ κ) H' ∧ HR K ι H' M ∧ ∀ a ∈ κ, a ∉ ι := by
  obtain ⟨κ', e1, f1⟩ := x.pre
  obtain rfl : κ = κ' := by simpa using e1
  have old : ∀ a o, H a = some o → H' a = some o := fun a o e => x.frm a o e (by simp)
  refine ⟨⟨⟨κ, rfl, f1⟩, fun a o e _ => old a o e, x.sqt, x.fzl⟩, ⟨r.len, r.nd, fun n a o e1 e2 => ?_⟩, fun a ha h => ?_⟩
  · obtain ⟨h, e, q⟩ := r.ob n a o e1 e2
    exact ⟨h, old a h e, q.stp ⟨fun _ _ e => e, x.sqt, x.fzl⟩⟩
  · obtain ⟨_, u, e, _⟩ := r.mem h
    rw [f1 a ha] at e; cases e
theorem hr_nil : HR K [] H [] := ⟨rfl, List.nodup_nil, fun n a o e _ => by simp at e⟩
end

/-! ### a def's promise -/
def PostF (K : PySem.W.Frag) (ι : List Addr) (H : Hp) (Q : VK) (E : XK) : R D → Prop
  | .ok d M' => ∀ v ι' H', Ext K ι H ι' H' → HR K ι' H' M' → Rep K ι' H' d v → Q v H'
  | .ex x M' => ∀ c dd ι' H', Ext K ι H ι' H' → HR K ι' H' M' → XcR K ι' H' x c dd → E c dd H'
  | .no => False
def spG (K : PySem.W.Frag) (n : Nat) (F : List D → Mem → R D) : Sp := fun vs H Q E => ∃ ds M ι, HR K ι H M ∧ Reps K ι H ds vs ∧ ds.length = n ∧ PostF K ι H Q E (F ds M)
/-- as FnOk, with the guards told -/
structure GOk (P : Program) (w : World) (K : PySem.W.Frag) (mg : Str → Option Value) (base : Heap) (k : Nat) (f : Addr) (fd : FuncData) (ps : List Str) (F : List D → Mem → R D) : Prop where
  run : ∀ (A : Around) (outer : List Env) (s : Shared) (H : Hp) (args : Args) (us : List Value) (vs : List V) (Q : VK) (E : XK), Room k A → A.guards = some [] → Env0 P w K mg base A outer s H → BindsTo s fd args (ps.zip us) → Vals vs us →
    spG K ps.length F vs H Q E → codeAny (model P w) A (.call (.ref f) args) (CR (L2.CX P w) outer P w H s Q E) s
theorem GOk.mono {P : Program} {w : World} {K : PySem.W.Frag} {mg : Str → Option Value} {base : Heap} {j k : Nat} {f : Addr} {fd : FuncData} {ps : List Str} {F : List D → Mem → R D} (G : GOk P w K mg base j f fd ps F) (h : j ≤ k) : GOk P w K mg base k f fd ps F :=
  ⟨fun A outer s H args us vs Q E hr => G.run A outer s H args us vs Q E (hr.mono h)⟩
section
variable {X : Cx} {W : WX} {k : Nat} {f : Addr} {fd : FuncData} {ps : List Str} {F : List D → Mem → R D}
/-- the callee runs: the arguments as they come in the parameters' order -/
theorem run_g {pins : List (Addr × Obj)} {σ : L2.St} {H : Hp} {s : Shared} {Q : VK} {args : Args} {us : List Value} {vs : List V} {ds : List D} {M : Mem} {ι : List Addr} (G : GOk X.prog X.w X.K X.mg X.base k f fd ps F) (hr : Room k X.A) (hgd : X.A.guards = some [])
    (tk : Takes X W) (I : Inv X pins σ H s) (hb : BindsTo s fd args (ps.zip us)) (r : Vals vs us) (hl : ds.length = ps.length) (hh : HR X.K ι H M) (rd : Reps X.K ι H ds vs) (h : PostE X.K ι H W σ Q (callF F ds M)) :
    codeAny (model X.prog X.w) X.A (.call (.ref f) args) (fun r s' => match r with
      | .ok (.ret u) => EP X pins σ Q u s'
      | .ok _ => False
      | .error e => X.xe e s') s := by
  refine codeAny_mono (G.run X.A X.stack s H args us vs Q (fun c dd H' => W c dd σ H') hr hgd I.env0 hb r ?_) fun res s' hq => ?_
  · unfold callF at h
    split at h
    · rename_i hn
      refine ⟨ds, [], [], hr_nil, Reps.norefs hn rd, hl, ?_⟩
      cases e : F ds [] with
      | no => rw [e] at h; exact h.elim
      | ok d M' =>
        rw [e] at h
        intro v κ H' x hr' rv
        obtain ⟨x1, h1, dis⟩ := x.iso hh
        have h' : PostE X.K ι H W σ Q (if noRef d = true then .ok d M else .ok (shD M.length d) (M ++ M'.map (shO M.length))) := h
        by_cases hd : noRef d = true
        · rw [if_pos hd] at h'
          refine h' v ι H' ⟨⟨[], by simp, by simp⟩, x1.frm, x1.sqt, x1.fzl⟩ h1 (Rep.norefs hd rv)
        · rw [if_neg hd] at h'
          refine h' v (ι ++ κ) H' x1 ?_ ?_
          · rw [← hh.len]; exact h1.app hr' dis
          · rw [← hh.len]; exact rv.shift
      | ex y M' =>
        rw [e] at h
        intro c dd κ H' x hr' xr
        obtain ⟨x1, h1, dis⟩ := x.iso hh
        have h' : PostE X.K ι H W σ Q (.ex ⟨y.cls, shF M.length y.fs⟩ (M ++ M'.map (shO M.length))) := h
        refine h' c dd (ι ++ κ) H' x1 (by rw [← hh.len]; exact h1.app hr' dis) ?_
        obtain ⟨q1, q2⟩ := xr
        refine ⟨q1, ?_⟩
        rw [← hh.len]
        rcases q2 with ⟨q3, q4⟩ | ⟨d, us', q3, q4, q5, q6, q7⟩
        · exact .inl ⟨by show shF ι.length y.fs = []; rw [q3]; rfl, q4⟩
        · have key : ∀ (l : List (Str × D)), (shF ι.length l).map (·.1) = l.map (·.1) ∧ (shF ι.length l).map (·.2) = shDs ι.length (l.map (·.2)) := by
            intro l
            induction l with
            | nil => exact ⟨rfl, rfl⟩
            | cons p l ih =>
              obtain ⟨a, b⟩ := p
              exact ⟨by show a :: _ = a :: _; rw [ih.1], by show shD ι.length b :: _ = shD ι.length b :: _; rw [ih.2]⟩
          refine .inr ⟨d, us', q3, q4, fun z => ?_, by rw [(key y.fs).1]; exact q6, by rw [(key y.fs).2]; exact q7.shift⟩
          rcases List.mem_append.mp z with z | z
          · obtain ⟨_, u, e, q⟩ := h1.mem z
            rw [q4] at e; cases e; cases q
          · exact q5 z
    · exact ⟨ds, M, ι, hh, rd, hl, by
        cases e : F ds M with
        | no => rw [e] at h; exact h
        | ok d M' => rw [e] at h; exact h
        | ex y M' => rw [e] at h; exact h⟩
  · cases res with
    | error e => exact tk e s' (XE.of_call I (fun cls d H' z => z) hq)
    | ok fl =>
      cases fl with
      | ret u => exact I.after hq
      | next => exact hq
      | brk => exact hq
      | cont => exact hq
variable {x : Str} {p pos : Pos} {e : Expr} {es : List Expr} {gs : Ga}
/-- f(e, ..), every parameter given -/
theorem g_call (Gk : GOk X.prog X.w X.K X.mg X.base k f fd ps F) (hr : Room k X.A) (hgd : X.A.guards = some []) (tk : Takes X W) (hm : X.mg x = some (.ref f)) (hk : PySem.W.keepIn X.K (.ref f) = true) (hb : Binds X.K fd ps []) (ha : GA X W (e :: es) gs)
    (hn : (e :: es).length = ps.length := by rfl) (hg : Gl X x := by rfl) (hdb : (x == ("__debug__" : Str)) = false := by decide) (he : starEach (e :: es) X.env = (false, eval e X.env) :: starEach es X.env := by rfl) (hpl : (backTo pos (starEach es X.env)).any (·.1) = false := by rfl)
    (hlen : ∀ ρ M ds M', gs ρ M = .ok ds M' → ds.length = (e :: es).length) :
    GE X W (.Call (.Name x p) (e :: es) [] pos) (gCall F gs) := by
  refine ⟨fun pins s σ H Q I ⟨ρ, M, ι, rs, h⟩ => ?_⟩
  refine wpAny_Call_Name_kw (ld_glob I hg hm ?_ hdb)
  have hA : tA X.K W gs σ H (fun vs H1 => ∃ ds M1 ι1, Ext X.K ι H ι1 H1 ∧ HR X.K ι1 H1 M1 ∧ Reps X.K ι1 H1 ds vs ∧ ds.length = ps.length ∧ PostE X.K ι1 H1 W σ Q (callF F ds M1)) := by
    refine ⟨ρ, M, ι, rs, ?_⟩
    have hq : PostE X.K ι H W σ Q ((gs ρ M).bind (callF F)) := h
    cases eg : gs ρ M with
    | no => rw [eg] at hq; exact hq
    | ex y M' => rw [eg] at hq; exact hq
    | ok ds M' =>
      rw [eg] at hq
      intro vs ι' H' x' hr' rd
      exact ⟨ds, M', ι', x', hr', rd, (hlen ρ M ds M' eg).trans hn, PostG.rebase (show PostE X.K ι H W σ Q (callF F ds M') from hq) x' hr'⟩
  refine PySem.W.callWith_K (h₀ := X.base) I.ok.mod.kin hk (thn (ha.run pos pins s σ H _ I hA) fun us s1 ⟨vs, H1, I1, r, ds, M1, ι1, x1, hr1, rd, hl, q⟩ => ⟨I1.kIn, ?_⟩) he hpl
  have hu : (us ++ ([] : List Value)).length = ps.length := by rw [List.append_nil, ← r.length, ← rd.length, hl]
  have hbb := hb s1 us I1.kIn hu
  rw [List.append_nil] at hbb
  refine wpAny_call (codeAny_mono (run_g Gk hr hgd tk I1 hbb r hl hr1 rd q) fun res s' hq => ?_)
  cases res with
  | error e => exact hq
  | ok fl =>
    cases fl with
    | ret u => exact hq
    | next => exact hq.elim
    | brk => exact hq.elim
    | cont => exact hq.elim
end
theorem gNil_len {ρ : Rho} {M M' : Mem} {ds : List D} (h : gNil ρ M = .ok ds M') : ds.length = 0 := by
  cases h; rfl
theorem gCons_len {g : Ge} {r : Ga} {n : Nat} (ih : ∀ ρ M ds M', r ρ M = .ok ds M' → ds.length = n) : ∀ ρ M ds M', gCons g r ρ M = .ok ds M' → ds.length = n + 1 := fun ρ M ds M' h => by
  unfold gCons at h
  cases e : g ρ M with
  | no => rw [e] at h; cases h
  | ex y M1 => rw [e] at h; cases h
  | ok d M1 =>
    rw [e] at h
    replace h : ((r ρ M1).bind fun xs M2 => R.ok (d :: xs) M2) = .ok ds M' := h
    cases e2 : r ρ M1 with
    | no => rw [e2] at h; cases h
    | ex y M2 => rw [e2] at h; cases h
    | ok xs M2 =>
      rw [e2] at h
      cases h
      rw [List.length_cons, ih ρ M1 xs _ e2]
theorem gNil_len' : ∀ ρ M ds M', gNil ρ M = .ok ds M' → ds.length = 0 := fun ρ M ds M' h => gNil_len h

/-! ### a def by its body -/
def runDef (n : Nat) (g : Gs) : List D → Mem → R D := fun ds M => match g (ds.map some ++ List.replicate (n - ds.length) none) M with
  | .ok (.rt d) M' => .ok d M'
  | .ok (.nx _) M' => .ok .non M'
  | .ok (.xc x _) M' => .ex x M'
  | _ => .no
theorem start_en {K : PySem.W.Frag} {ι : List Addr} {H : Hp} {N : List Str} {ds : List D} {vs : List V} (r : Reps K ι H ds vs) : EnR K ι H (ds.map some ++ List.replicate (N.length - ds.length) none) (L2.start N vs) := by
  unfold L2.start
  have hl := r.length
  refine ⟨by simp [hl], fun i d h => ?_⟩
  by_cases hi : i < ds.length
  · rw [List.getElem?_append_left (by simpa using hi), List.getElem?_map] at h
    cases e : ds[i]? with
    | none => rw [e] at h; cases h
    | some d' =>
      rw [e] at h
      cases h
      obtain ⟨v, g1, g2⟩ := r.get e
      refine ⟨v, ?_, g2⟩
      rw [List.getElem?_append_left (by simpa [← hl] using hi), List.getElem?_map, g1]
      rfl
  · rw [List.getElem?_append_right (by simpa using Nat.le_of_not_lt hi), List.getElem?_replicate] at h
    split at h <;> cases h
section
variable {P : Program} {w : World} {K : PySem.W.Frag} {mg : Str → Option Value} {base : Heap}
theorem g_def {x qual : Str} {st : Stmt} {f : Addr} {fd : FuncData} {N ps : List Str} {k : Nat} {g : Gs} (F : Fun K x qual st f fd) (S : FnScope N ps (defScope st))
    (hbody : ∀ (cdv : Value) (A : Around) (outer : List Env) (s : Shared) (H : Hp) (E : XK), Room k (A.deeper (envOfC qual (defScope st) s.heap.objs.size f cdv)) → (A.deeper (envOfC qual (defScope st) s.heap.objs.size f cdv)).guards = some [] →
      GSs (cxOf (L2.CX P w) P w K mg base N qual (defScope st) f cdv A outer s H E) (fun c dd _ H' => E c dd H') (defBody st) g) : GOk P w K mg base (k + 1) f fd ps (runDef N.length g) := by
  obtain ⟨oc, od, kV, doc, pm, an, cdv, ct, osl, rfl, lk, hcd⟩ := F.ex
  refine ⟨fun A outer s H args us vs Q E hr hgd e0 hb r ⟨ds, M, ι, hh, rd, hn, post⟩ => ?_⟩
  have inK : K.In s.heap := e0.mod.kin.keeps fun b o q => (e0.bs b o q).1
  have noLim : s.heap.NoLimit := e0.mod.nolimit.keeps fun b o q => (e0.bs b o q).1
  have hl : vs.length = ps.length := by rw [← rd.length, hn]
  have kinds : ∀ y ∈ ps.zip us, (defScope st).names.lookup y.1 = some .local ∨ ((defScope st).names.lookup y.1 = some .cell ∧ ((cellsFrom (s.heap.objs.size + 1) (defScope st).names []).lookup y.1).isSome = true) := by
    rintro ⟨n, v⟩ hy
    refine (S.par n (List.of_mem_zip hy).1).imp id fun q => ⟨q, PySem.W.cellsFrom_some _ _ _ (.inl q)⟩
  refine codeAny_call_function hr.depth (inK _ _ lk) rfl S.co S.gen rfl (PySem.W.codeRec_of inK hcd) (hb _ _ _ _ (wpAny_newFunctionEnv_cells S.kind kinds fun env he s1 x1 => ?_))
  subst he
  refine ⟨noLim.keeps x1.toInCall.keep, codeAny_func ?_⟩
  have body := hbody cdv A outer s H E (hr.deeper _) hgd
  have I : Inv (cxOf (L2.CX P w) P w K mg base N qual (defScope st) f cdv A outer s H E) [] (L2.start N vs) H s1 := inv_start S hr.hd e0 hl r x1
  have fin : ∀ {σ' : L2.St} {H' : Hp} {v : V} {u : Value} {s' : Shared}, Inv (cxOf (L2.CX P w) P w K mg base N qual (defScope st) f cdv A outer s H E) [] σ' H' s' → RelV v u → Q v H' → CE outer P w H s Q u s' :=
    fun {σ' H' v u s'} J rv q => ⟨v, H', J.os, J.bare, J.base, J.hok, rv, q⟩
  have start : tS K (fun c dd _ H' => E c dd H') g { nx := fun _ H' => Q .non H', rt := Q } (L2.start N vs) H := by
    refine ⟨_, M, ι, ⟨start_en (N := N) rd, hh⟩, ?_⟩
    have post' : PostF K ι H Q E (runDef N.length g ds M) := post
    unfold runDef at post'
    cases eg : g (ds.map some ++ List.replicate (N.length - ds.length) none) M with
    | no => rw [eg] at post'; exact post'
    | ex y M' => rw [eg] at post'; exact post'
    | ok fl M' =>
      rw [eg] at post'
      cases fl with
      | nx ρ' => exact fun σ' ι' H' x' q => post' .non ι' H' x' q.hr .non
      | rt d => exact post'
      | bk ρ' => exact post'.elim
      | ct ρ' => exact post'.elim
      | xc y ρ' => exact fun c dd σ' ι' H' x' q xr => post' c dd ι' H' x' q.hr xr
  refine wpAny_mono (body.run [] s1 (L2.start N vs) H _ I start) (fun fl s' hs => ?_) fun e s' hs => hs
  cases fl with
  | ret u => obtain ⟨v, σ', H', J, rv, q⟩ := hs; exact fin J rv q
  | next => obtain ⟨σ', H', J, q⟩ := hs; exact fin (v := V.non) (u := Value.none) J rfl q
  | brk => obtain ⟨_, _, _, q⟩ := hs; exact q.elim
  | cont => obtain ⟨_, _, _, q⟩ := hs; exact q.elim
end

/-! ### the end of a law -/
/-- the script: a list that is only read -/
abbrev dScript (ns : List Int) : D := .rol (ns.map D.int)
theorem reps_ints {K : PySem.W.Frag} {ι : List Addr} {H : Hp} : ∀ ns : List Int, Reps K ι H (ns.map D.int) (ns.map V.int)
  | [] => .nil
  | n :: ns => .cons (.int n) (reps_ints ns)
/-- the law's run gives True -/
def Gives (F : List D → Mem → R D) (ns : List Int) : Prop := ∃ M, F [dScript ns] [] = .ok (.bl true) M
theorem law_g {P : Program} {w : World} {K : PySem.W.Frag} {mg mb : Str → Option Value} {k : Nat} {fa a : Addr} {fd : FuncData} {x : Str} {F : List D → Mem → R D} {s₁ : Shared} {vs : List Value} {ns : List Int}
    (KX : K.In s₁.heap) (hns : s₁.heap.Ns mainGlobals mg) (hb : s₁.heap.Ns builtinsNs mb) (hbb : ∀ x : Str, x ≠ "__name__" → mb x = bootBuiltins x) (hlim : s₁.heap.NoLimit) (hgen : s₁.gens = #[])
    (ha : s₁.heap.get? a = some { cls := .type "list", data := .seq vs.toArray }) (hi : IntsAre vs ns) (hl : ns.length ≤ sizeLine) (hr : Room k callerA)
    (G : ∀ base : Heap, K.In base → base.Ns mainGlobals mg → GOk P w K mg base k fa fd [x] F) (hbind : ∀ (s : Shared) (u : Value), BindsTo s fd ⟨[u], []⟩ [(x, u)]) (law : Gives F ns) :
    codeAny (model P w) callerA (.call (.ref fa) ⟨[.ref a], []⟩) (fun r s' => r = .ok (.ret (.bool true)) ∧ OldK s₁.heap s'.heap ∧ s'.os = s₁.os ∧ AllBare s'.gens) s₁ := by
  have rv := vals_ints hi
  have lenV := hi.length
  have main : ∀ Hs : Hp, Only Hs → FzL K Hs a (ns.map V.int) → HOk P w Hs s₁.heap → (∀ b, Hs b ≠ none → b = a) → (Hs a ≠ none → K.lookup a = none) →
      codeAny (model P w) callerA (.call (.ref fa) ⟨[.ref a], []⟩) (fun r s' => r = .ok (.ret (.bool true)) ∧ OldK s₁.heap s'.heap ∧ s'.os = s₁.os ∧ AllBare s'.gens) s₁ := by
    intro Hs only hS hok one noK
    have dictFree : ∀ {b : Addr} {o : Obj} {es : Array DictEntry} {ep : Nat}, s₁.heap.get? b = some o → o.data = .dict es ep → Hs b = none := by
      intro b o es ep e d
      cases q : Hs b with
      | none => rfl
      | some u =>
        obtain rfl : b = a := one b (by rw [q]; simp)
        rw [ha] at e
        cases e
        have d' : Data.seq vs.toArray _ = Data.dict es ep := d
        cases d'
    have nsOf : ∀ {b : Addr} {m : Str → Option Value}, s₁.heap.Ns b m → (hidT s₁.heap Hs).Ns b m := fun ⟨o, es, ep, e, d, r⟩ => ⟨o, es, ep, hidT_get e (dictFree e d), d, r⟩
    have inB : K.In (hidT s₁.heap Hs) := by
      intro b o e
      refine hidT_get (KX b o e) ?_
      cases q : Hs b with
      | none => rfl
      | some u =>
        obtain rfl : b = a := one b (by rw [q]; simp)
        rw [noK (by rw [q]; simp)] at e
        cases e
    have md : Mod K mg (hidT s₁.heap Hs) := ⟨inB, nsOf hns, ⟨mb, nsOf hb, hbb⟩, let ⟨mc, h1, h2⟩ := hlim; ⟨mc, nsOf h1, h2⟩⟩
    have e0 : Env0 P w K mg (hidT s₁.heap Hs) callerA [] s₁ Hs := ⟨rfl, md, fun b o e => of_hidT e, Nat.le_of_eq (hidT_size _ _), trivial, fun b hb => absurd (show b ∈ ([] : List Addr) from hb) (by simp), hok, .of_eq hgen⟩
    obtain ⟨Mf, hF⟩ := law
    have post : spG K [x].length F [.ref a] Hs (fun v _ => v = .bl true) (fun _ _ _ => False) := by
      refine ⟨[dScript ns], [], [], hr_nil, .cons (.rol hS (reps_ints ns)) .nil, rfl, ?_⟩
      rw [hF]
      intro v ι' H' _ _ r
      cases r
      rfl
    refine codeAny_mono ((G _ inB (nsOf hns)).run callerA [] s₁ Hs ⟨[.ref a], []⟩ [.ref a] [.ref a] _ _ hr rfl e0 (hbind s₁ (.ref a)) (.cons rfl .nil) post) fun r s' h => ?_
    cases r with
    | error e =>
      obtain ⟨_, _, _, _, _, _, _, _, _, _, _, _, z⟩ := h
      exact z.elim
    | ok fl =>
      cases fl with
      | next => exact h.elim
      | brk => exact h.elim
      | cont => exact h.elim
      | ret u =>
        obtain ⟨v, H', os, bare, un, hok', r', q⟩ := h
        have q' : v = .bl true := q
        subst q'
        obtain rfl : u = Value.bool true := r'
        refine ⟨rfl, OldK.of_keep fun b o e => ?_, os, bare⟩
        cases q2 : Hs b with
        | none => exact un.keep b o e q2 (by intro z; exact absurd (show b ∈ ([] : List Addr) from z) (by simp)) (by simp)
        | some u =>
          rcases only b with z | ⟨ob, xs, z⟩
          · rw [q2] at z; cases z
          · obtain ⟨g1, _⟩ := hok b _ z
            obtain ⟨g2, _⟩ := hok' b _ (un.frzs b ob _ z)
            rw [e] at g1
            cases g1
            exact g2
  cases hk : K.lookup a with
  | some o =>
    have e := KX a o hk
    rw [ha] at e
    cases e
    exact main (fun _ => none) (fun _ => .inl rfl) (.inr ⟨_, vs.toArray, _, hk, rfl, rfl, rfl, by rw [List.size_toArray, lenV]; exact hl, by simpa using rv⟩) (fun b u z => by have z' : (none : Option HO) = some u := z; cases z') (fun b z => absurd rfl z) fun z => absurd rfl z
  | none =>
    refine main (fun b => if b = a then some (.frz { cls := .type "list", data := .seq vs.toArray } (.lst (ns.map V.int))) else none) (fun b => ?_) (.inl ⟨{ cls := .type "list", data := .seq vs.toArray }, if_pos rfl⟩) (fun b u z => ?_) (fun b z => ?_) fun _ => hk
    · by_cases h : b = a
      · exact .inr ⟨_, _, if_pos h⟩
      · exact .inl (if_neg h)
    · by_cases h : b = a
      · have z' := (if_pos h).symm.trans z
        cases z'
        subst h
        exact ⟨ha, by rw [List.length_map]; exact hl, vs, _, rv, ha⟩
      · have z' := (if_neg h).symm.trans z
        cases z'
    · by_cases h : b = a
      · exact h
      · exact absurd (if_neg h) z
theorem walk_g {l : PySem.W.OpenLaw} {n k : Nat} {q : Program} {loose : List Str} {XP : (Str → Option Value) → Heap → Prop} {YP : World → Heap → Prop} {d : DefRec} {x : Str}
    (hn : l.most = some n) (hn2 : n ≤ sizeLine) (hdf : d.params.defaults = []) (hr : Room k callerA)
    (F : ∀ (w : World) (mg : Str → Option Value) (fa : Addr) (h : Heap), YP w h → h.Ns mainGlobals mg → mg d.name = some (.ref fa) →
      ∃ (K : PySem.W.Frag) (fd : FuncData) (Fm : List D → Mem → R D), K.In h ∧ (∀ (s : Shared) (v : Value), BindsTo s fd ⟨[v], []⟩ [(x, v)]) ∧ (∀ ns : List Int, ns.length ≤ n → Gives Fm ns) ∧
        ∀ base : Heap, K.In base → base.Ns mainGlobals mg → GOk l.prog w K mg base k fa fd [x] Fm) :
    PySem.W.WalkO q loose XP YP l.row.toRowW d [] (fun f vs => PySem.call f vs) := by
  refine Att.attach_call hn hdf fun w s₀ s₁ mg mb fa o pm cd doc a vs ns G Y ho hd hcd hmg hobj hints hlen hg => ?_
  obtain ⟨K, fd, Fm, inK, hb, hlaw, hG⟩ := F w mg fa _ Y G.T.g hmg
  exact law_g inK G.T.g G.T.b G.T.builtins G.T.nolimit hg hobj hints (Nat.le_trans hlen hn2) hr hG hb (hlaw ns hlen)
end G
set_option maxRecDepth 100000
set_option maxHeartbeats 4000000
/-! G10: chains of comparisons, calls by names. -/
namespace G
open PySem PySem.Spec PyProof.Rows L2

def gChain (f f' : Op2) (ga gb gc : Ge) : Ge := fun ρ M => (ga ρ M).bind fun x M1 => (gb ρ M1).bind fun y M2 => (R.of (f x y M2)).bind fun z M3 => match z with
  | .bl true => (gc ρ M3).bind fun w M4 => R.of (f' y w M4)
  | .bl false => .ok (.bl false) M3
  | _ => .no
section
variable {X : Cx} {W : WX} {a b c : Expr} {ga gb gc : Ge} {pos : Pos}
theorem R.of_bind {K : PySem.W.Frag} {ι : List Addr} {H : Hp} {σ : L2.St} {o : Option (D × Mem)} {k : D → Mem → R D} {Q : VK} (h : PostE K ι H W σ Q ((R.of o).bind k)) :
    PostO K ι H (fun v H1 => ∃ d M1 ι1, Ext K ι H ι1 H1 ∧ HR K ι1 H1 M1 ∧ Rep K ι1 H1 d v ∧ PostE K ι1 H1 W σ Q (k d M1)) o := by
  cases o with
  | none => exact h
  | some p => exact fun v ι' H' x hr w => ⟨p.1, p.2, ι', x, hr, w, PostG.rebase (show PostE K ι H W σ Q (k p.1 p.2) from h) x hr⟩
theorem to_chain {f f' : Op2} : ∀ σ H Q, tG X.K W (gChain f f' ga gb gc) σ H Q → tChain (rG X.K f) (rG X.K f') (tG X.K W ga) (tG X.K W gb) (tG X.K W gc) σ H Q := fun σ H Q ⟨ρ, M, ι, rs, h⟩ => by
  refine ⟨ρ, M, ι, rs, (PostG.bind (Rl := fun ι' H' d v => Rep X.K ι' H' d v) h).imp fun v H1 ⟨d1, M1, ι1, x1, hr1, r1, h1⟩ => ?_⟩
  refine ⟨ρ, M1, ι1, rs.ext x1 hr1, (PostG.bind (Rl := fun ι' H' d v => Rep X.K ι' H' d v) h1).imp fun u H2 ⟨d2, M2, ι2, x2, hr2, r2, h2⟩ => ?_⟩
  refine ⟨d1, d2, M2, ι2, hr2, r1.ext x2, r2, ?_⟩
  have h3 := R.of_bind h2
  cases eo : f d1 d2 M2 with
  | none => rw [eo] at h3; exact h3
  | some p =>
    rw [eo] at h3
    intro v3 ι3 H3 x3 hr3 r3
    obtain ⟨d4, M4, ι4, x4, hr4, r4, h4⟩ := h3 v3 ι3 H3 x3 hr3 r3
    cases r4 with
    | bl k =>
      refine ⟨k, rfl, ?_⟩
      have rs4 : RS X.K ι4 H3 σ ρ M4 := ((rs.ext x1 hr1).ext x2 hr2).ext x4 hr4
      cases k with
      | true =>
        rw [if_pos rfl]
        refine ⟨ρ, M4, ι4, rs4, (PostG.bind (Rl := fun ι' H' d v => Rep X.K ι' H' d v) h4).imp fun w H5 ⟨d5, M5, ι5, x5, hr5, r5, h5⟩ => ?_⟩
        exact ⟨d2, d5, M5, ι5, hr5, (r2.ext x4).ext x5, r5, postO h5⟩
      | false =>
        rw [if_neg Bool.false_ne_true]
        exact h4 _ ι4 H3 Ext.refl hr4 (.bl _)
    | _ => exact h4.elim
theorem g_chain {op op' : CmpOp} {f f' : Op2} (ho : OpR X (compareOp op) (rG X.K f)) (ho' : OpR X (compareOp op') (rG X.K f')) (ha : GE X W a ga) (hb : GE X W b gb) (hc : GE X W c gc)
    (hm : lastMarks [op, op'] [b, c] = false := by with_unfolding_all rfl) : GE X W (.Compare a [op, op'] [b, c] pos) (gChain f f' ga gb gc) := pe_weak (pe_chain ho ho' ha hb hc hm) to_chain
theorem t_chain {op op' : CmpOp} {f f' : Op2} (ho : OpR X (compareOp op) (rG X.K f)) (ho' : OpR X (compareOp op') (rG X.K f')) (ha : GE X W a ga) (hb : GE X W b gb) (hc : GE X W c gc)
    (hm : lastMarks [op, op'] [b, c] = false := by with_unfolding_all rfl) : GT X W (.Compare a [op, op'] [b, c] pos) (gTst (gChain f f' ga gb gc)) := by
  refine pt_weak (pt_weak (pt_chain ho ho' ha hb hc hm) (fun σ H Q h => ?_)) to_tst
  obtain ⟨ρ, M, ι, rs, q⟩ := h
  exact to_chain σ H _ ⟨ρ, M, ι, rs, q⟩
end

/-! ### keywords -/
abbrev GK (X : Cx) (W : WX) (kws : List Keyword) (g : Ga) : Prop := PK X kws (tA X.K W g)
section
variable {X : Cx} {W : WX} {kws : List Keyword} {e : Expr} {ge : Ge} {gs : Ga} {nm : Option Str} {kpos : Pos}
theorem pk_weak {t t' : TA} (h : PK X kws t) (w : ∀ σ H Q, t' σ H Q → t σ H Q) : PK X kws t' := ⟨fun pos pins s σ H Q I q => h.run pos pins s σ H Q I (w σ H Q q)⟩
theorem k_nil : GK X W [] gNil := pk_weak pk_nil fun σ H Q ⟨ρ, M, ι, rs, h⟩ => h [] ι H Ext.refl rs.hr .nil
theorem k_cons (ha : GE X W e ge) (hr : GK X W kws gs) : GK X W (⟨nm, e, kpos⟩ :: kws) (gCons ge gs) := by
  refine pk_weak (pk_cons ha hr) fun σ H Q ⟨ρ, M, ι, rs, h⟩ => ?_
  refine ⟨ρ, M, ι, rs, (PostG.bind (Rl := fun ι' H' d v => Rep X.K ι' H' d v) h).imp fun v H1 ⟨d1, M1, ι1, x1, hr1, r1, h1⟩ => ?_⟩
  refine ⟨ρ, M1, ι1, rs.ext x1 hr1, (PostG.bind (Rl := fun ι' H' d v => Reps X.K ι' H' d v) h1).imp fun u H2 ⟨d2, M2, ι2, x2, hr2, r2, h2⟩ => ?_⟩
  exact h2 _ ι2 H2 Ext.refl hr2 (.cons (r1.ext x2) r2)
end
/-- the values in the parameters' order: the i-th parameter has the keyword at the place pm[i] -/
def permO {α : Type} : List Nat → List α → Option (List α)
  | [], _ => some []
  | i :: r, xs => match xs[i]? with
    | some x => (match permO r xs with
      | some ys => some (x :: ys)
      | none => none)
    | none => none
def gCallK (F : List D → Mem → R D) (pm : List Nat) (g : Ga) : Ge := fun ρ M => (g ρ M).bind fun ds M1 => match permO pm ds with
  | some es => callF F es M1
  | none => .no
theorem permO_cons {α : Type} {i : Nat} {r : List Nat} {xs : List α} : permO (i :: r) xs = (match xs[i]? with
    | some x => (match permO r xs with
      | some ys => some (x :: ys)
      | none => none)
    | none => none) := by rw [permO]
theorem perm_rel {K : PySem.W.Frag} {ι : List Addr} {H : Hp} {ds : List D} {vs : List V} (r : Reps K ι H ds vs) : ∀ {pm : List Nat} {es : List D}, permO pm ds = some es → ∃ us, permO pm vs = some us ∧ Reps K ι H es us
  | [], es, h => by cases h; exact ⟨[], rfl, .nil⟩
  | i :: pm, es, h => by
    rw [permO_cons] at h
    split at h
    · rename_i x ex
      split at h
      · rename_i ys ey
        cases h
        obtain ⟨v, g1, g2⟩ := r.get ex
        obtain ⟨us, k1, k2⟩ := perm_rel r ey
        refine ⟨v :: us, ?_, .cons g2 k2⟩
        rw [permO_cons, g1]; dsimp only; rw [k1]
      · cases h
    · cases h
theorem perm_vals {vs : List V} {us : List Value} (r : Vals vs us) : ∀ {pm : List Nat} {es : List V}, permO pm vs = some es → ∃ ws, permO pm us = some ws ∧ Vals es ws
  | [], es, h => by cases h; exact ⟨[], rfl, .nil⟩
  | i :: pm, es, h => by
    rw [permO_cons] at h
    split at h
    · rename_i x ex
      split at h
      · rename_i ys ey
        cases h
        obtain ⟨v, g1, g2⟩ := r.get ex
        obtain ⟨ws, k1, k2⟩ := perm_vals r ey
        refine ⟨v :: ws, ?_, .cons g2 k2⟩
        rw [permO_cons, g1]; dsimp only; rw [k1]
      · cases h
    · cases h
theorem perm_len {α : Type} {xs : List α} : ∀ {pm : List Nat} {ys : List α}, permO pm xs = some ys → ys.length = pm.length
  | [], ys, h => by cases h; rfl
  | i :: pm, ys, h => by
    rw [permO_cons] at h
    split at h
    · split at h
      · rename_i zs ez
        cases h
        rw [List.length_cons, List.length_cons, perm_len ez]
      · cases h
    · cases h
/-- how keywords bind -/
def KwB (fd : FuncData) (ps ks : List Str) (pm : List Nat) : Prop := ∀ (s : Shared) (ws us : List Value), ws.length = ks.length → permO pm ws = some us → BindsTo s fd ⟨[], ks.zip ws⟩ (ps.zip us)
theorem Fun.kw {K : PySem.W.Frag} {x qual : Str} {st : Stmt} {f : Addr} {fd : FuncData} {ps ks : List Str} {pm : List Nat} (F : Fun K x qual st f fd)
    (h : ∀ (kV doc pmv : Value) (an : Option Addr) (cdv ct : Value) (ws us : List Value), ws.length = ks.length → permO pm ws = some us → bindArgs (PySem.W.fnOf x qual (defArgs st) (defBody st) (defScope st) .none kV doc pmv an cdv ct) ⟨[], ks.zip ws⟩ = pure (ps.zip us)) : KwB fd ps ks pm := by
  obtain ⟨oc, od, kV, doc, pmv, an, cdv, ct, osl, rfl, lk, hcd⟩ := F.ex
  exact fun s ws us h1 h2 => .of_eq (h kV doc pmv an cdv ct ws us h1 h2)
section
variable {X : Cx} {W : WX} {k : Nat} {f : Addr} {fd : FuncData} {ps ks : List Str} {F : List D → Mem → R D} {pm : List Nat} {x : Str} {p pos : Pos} {kws : List Keyword} {gs : Ga}
theorem g_callK (Gk : GOk X.prog X.w X.K X.mg X.base k f fd ps F) (hr : Room k X.A) (hgd : X.A.guards = some []) (tk : Takes X W) (hm : X.mg x = some (.ref f)) (hk : PySem.W.keepIn X.K (.ref f) = true) (hb : KwB fd ps ks pm) (ha : GK X W kws gs)
    (hn : pm.length = ps.length := by rfl) (hkl : kws.length = ks.length := by rfl) (hall : (backToKw pos (keywordEach kws X.env)).all (·.1.isSome) = true := by rfl) (hks : (backToKw pos (keywordEach kws X.env)).filterMap (·.1) = ks := by rfl) (hg : Gl X x := by rfl) (hdb : (x == ("__debug__" : Str)) = false := by decide)
    (hpl : ((backTo pos (starEach [] X.env)).any (·.1) || (backToKw pos (keywordEach kws X.env)).any (·.1.isNone)) = false := by rfl) (hlen : ∀ ρ M ds M', gs ρ M = .ok ds M' → ds.length = kws.length) :
    GE X W (.Call (.Name x p) [] kws pos) (gCallK F pm gs) := by
  refine ⟨fun pins s σ H Q I ⟨ρ, M, ι, rs, h⟩ => ?_⟩
  refine wpAny_Call_Name_kw (ld_glob I hg hm ?_ hdb)
  have hA : tA X.K W gs σ H (fun vs H1 => ∃ ds es M1 ι1, Ext X.K ι H ι1 H1 ∧ HR X.K ι1 H1 M1 ∧ Reps X.K ι1 H1 ds vs ∧ ds.length = kws.length ∧ permO pm ds = some es ∧ PostE X.K ι1 H1 W σ Q (callF F es M1)) := by
    refine ⟨ρ, M, ι, rs, ?_⟩
    have hq : PostE X.K ι H W σ Q ((gs ρ M).bind fun ds M1 => match permO pm ds with | some es => callF F es M1 | none => .no) := h
    cases eg : gs ρ M with
    | no => rw [eg] at hq; exact hq
    | ex y M' => rw [eg] at hq; exact hq
    | ok ds M' =>
      rw [eg] at hq
      replace hq : PostE X.K ι H W σ Q (match permO pm ds with | some es => callF F es M' | none => .no) := hq
      intro vs ι' H' x' hr' rd
      split at hq
      · rename_i es ee
        exact ⟨ds, es, M', ι', x', hr', rd, hlen ρ M ds M' eg, ee, PostG.rebase hq x' hr'⟩
      · exact hq.elim
  refine PySem.W.callWith_KW0 (h₀ := X.base) I.ok.mod.kin hk hall (thn (ha.run pos pins s σ H _ I hA) fun us s1 ⟨vs, H1, I1, r, ds, es, M1, ι1, x1, hr1, rd, hl, ee, q⟩ => ⟨I1.kIn, ?_⟩) hpl
  rw [hks]
  obtain ⟨vs', e1, rd'⟩ := perm_rel rd ee
  obtain ⟨us', e2, r'⟩ := perm_vals r e1
  have hbb := hb s1 us us' (by rw [← r.length, ← rd.length, hl, hkl]) e2
  refine wpAny_call (codeAny_mono (run_g Gk hr hgd tk I1 hbb r' ((perm_len ee).trans hn) hr1 rd' q) fun res s' hq => ?_)
  cases res with
  | error e => exact hq
  | ok fl =>
    cases fl with
    | ret u => exact hq
    | next => exact hq.elim
    | brk => exact hq.elim
    | cont => exact hq.elim
end
theorem hu_g {A : Around} {k : Nat} (hr : Room k A) : A.units + 65 < cLine := by have := hr.un; omega
end G
set_option maxRecDepth 100000
set_option maxHeartbeats 4000000
/-! G11: [::-1] of lists and tuples, constants of the text, the law's end with what the top tells. -/
namespace G
open PySem PySem.Spec PyProof.Rows L2 HT
section
variable {prog : Program} {w : World} {A : Around} {E : Value → Shared → Prop} {s : Shared}
theorem adjust_rev (n : Nat) : Builtin.Slice.sliceAdjust none none (-1) (n : Int) = ((n : Int) - 1, -1) := by
  unfold Builtin.Slice.sliceAdjust
  rfl
theorem places_rev (n : Nat) : Builtin.Slice.slicePlaces ((n : Int) - 1) (-1) (-1) = n := by
  unfold Builtin.Slice.slicePlaces
  have h1 : ¬ ((-1 : Int) > 0) := by omega
  simp only [h1, if_false]
  rw [show (-(-1) : Int) = 1 by decide, Int.ediv_one]
  split <;> omega
theorem pick_rev (xs : Array Value) : ((List.range xs.size).filterMap fun (m : Nat) => xs[(((xs.size : Int) - 1) + (m : Int) * (-1)).toNat]?).toArray = xs.toList.reverse.toArray := by
  congr 1
  have e : (fun (m : Nat) => xs[(((xs.size : Int) - 1) + (m : Int) * (-1)).toNat]?) = (fun k => xs[k]?) ∘ fun m => xs.size - 1 - m := by
    funext m
    show xs[(((xs.size : Int) - 1) + (m : Int) * (-1)).toNat]? = xs[xs.size - 1 - m]?
    have : (((xs.size : Int) - 1) + (m : Int) * (-1)).toNat = xs.size - 1 - m := by omega
    rw [this]
  rw [e, ← List.filterMap_map, PySem.W.krv_range, List.filterMap_reverse, PySem.W.krv_all]
theorem sliceApplied_rev {sl : Addr} {vl vu vs : Value} {n : Nat} {Q : Int × Int × Nat → Shared → Prop} (hs : s.heap.IsSliceOf sl vl vu vs) (pl : IsPart vl none) (pu : IsPart vu none) (ps : IsPart vs (some (-1)))
    (h : Q ((n : Int) - 1, -1, n) s) : wpAny (model prog w) A (Builtin.Slice.sliceApplied (.ref sl) (pure (n : Int))) Q E s := by
  obtain ⟨os, hos, hcs, hds⟩ := id hs
  unfold Builtin.Slice.sliceApplied Builtin.Slice.sliceFields
  refine wpAny_bind (wpAny_bind (wpAny_field hos hds (x := vl) rfl (wpAny_bind (wpAny_field hos hds (x := vu) rfl (wpAny_bind (wpAny_field hos hds (x := vs) rfl (wpAny_pure ?_)))))))
  refine wpAny_bind (slicePart_ ps ?_)
  show wpAny _ _ (if ((-1 : Int) == 0) = true then _ else _) _ _ s
  rw [if_neg (by decide)]
  refine wpAny_bind (slicePart_ pl (wpAny_bind (slicePart_ pu (wpAny_bind (wpAny_pure ?_)))))
  show wpAny _ _ (match Builtin.Slice.sliceAdjust none none (-1) (n : Int) with | (lo, hi) => pure (lo, (-1 : Int), Builtin.Slice.slicePlaces lo hi (-1))) _ _ s
  rw [adjust_rev n]
  show wpAny _ _ (pure (((n : Int) - 1), (-1 : Int), Builtin.Slice.slicePlaces ((n : Int) - 1) (-1) (-1))) _ _ s
  rw [places_rev]
  exact wpAny_pure h
theorem getItem_tuple_rev {t sl : Addr} {items : Array Value} {vl vu vs : Value} {Q : Value → Shared → Prop} (ht : IsTup s.heap t items) (hs : s.heap.IsSliceOf sl vl vu vs) (pl : IsPart vl none) (pu : IsPart vu none) (ps : IsPart vs (some (-1)))
    (h : Q (.ref s.heap.objs.size) { s with heap := s.heap.push { cls := .type "tuple", data := .seq items.toList.reverse.toArray } })
    (hsz : items.size ≤ sizeLine) : wpAny (model prog w) A (getItem (.ref t) (.ref sl)) Q E s := by
  have htake : sizeOk (.seq items.toList.reverse.toArray) := by
    show items.toList.reverse.toArray.size ≤ sizeLine
    rw [List.size_toArray, List.length_reverse, Array.length_toList]
    exact hsz
  obtain ⟨os, hos, hcs, hds⟩ := id hs
  have hTs : s.TypeIs (.ref sl) "slice" := ⟨os, hos, hcs⟩
  unfold getItem
  try with_reducible refine wpAny_holding ?_
  first | refine wpAny_bind (wpAny_pure ?_) | skip
  refine wpAny_bind (wpAny_sequenceKey ht.typeIs (by decide) ?_)
  refine wpAny_bind (wpAny_callSpecial?_slot (name := Str.ofString "__getitem__") ht.typeIs PyProof.Rows.slot_tuple_getitem
    (wpAny_call_entry PyProof.Rows.slot_tuple_getitem ht.typeIs entry_tuple_getitem ?_ (args_tuple_getitem _ _)))
  show wpAny _ _ (Builtin.Tuple.tupleItemsOf (.ref t) >>= _) _ _ s
  refine wpAny_bind (tupleItemsOf_ ht ?_)
  refine wpAny_bind (wpAny_typeOf hTs ?_)
  rw [if_pos (by decide)]
  refine wpAny_bind (sliceApplied_rev hs pl pu ps ?_)
  have hno : ¬ ((((items.size : Int) - 1) == 0 && (-1 : Int) == 1 && items.size == items.size) = true) := by
    intro q
    rw [Bool.and_eq_true, Bool.and_eq_true] at q
    exact absurd (eq_of_beq q.1.2) (by decide)
  show wpAny _ _ (if ((((items.size : Int) - 1) == 0 && (-1 : Int) == 1 && items.size == items.size) = true) then _ else _) _ _ s
  rw [if_neg hno, pick_rev]
  first
    | exact wpAny_bind (m := Builtin.Tuple.tupleExact _) (wpAny_newObj_type (wpAny_pure ⟨_, rfl, wpAny_pure h⟩) htake)
    | exact wpAny_bind (m := Builtin.Tuple.tupleExact _) (wpAny_newObj_type (wpAny_bind (wpAny_pure (wpAny_pure ⟨_, rfl, wpAny_pure h⟩))) htake)
    | exact wpAny_bind (wpAny_bind (m := Builtin.Tuple.tupleExact _) (wpAny_newObj_type (wpAny_pure (wpAny_pure ⟨_, rfl, wpAny_pure h⟩)) htake))
    | exact wpAny_bind (wpAny_bind (m := Builtin.Tuple.tupleExact _) (wpAny_newObj_type (wpAny_pure ⟨_, rfl, wpAny_pure h⟩) htake))
end
section
variable {X : Cx} {W : WX}
def tRev2 (K : PySem.W.Frag) (te : TE) : TE := fun σ H Q => te σ H fun x H1 => ∃ a xs, x = .ref a ∧ ((SqL K H1 a xs ∧ ∀ p, H1 p = none → Q (.ref p) (upd H1 p (.lst xs.reverse))) ∨ (SqT K H1 a xs ∧ ∀ p, H1 p = none → Q (.ref p) (upd H1 p (.tup xs.reverse))))
theorem pe_rev2 {e : Expr} {te : TE} {k : Nat} {p1 p2 p3 pos : Pos} (he : PE X e te) : PE X (.Subscript e (.Slice none none (some (.UnaryOp .USub (.Constant (.int 1) k p1) p2)) p3) pos) (tRev2 X.K te) := by
  refine ⟨fun pins s σ H Q I h => ?_⟩
  refine Subscript_ (thn (he.run pins s σ H _ I h) fun v s1 ⟨x, H1, I1, r1, q1⟩ => ?_)
  obtain ⟨a, xs, ex, q⟩ := q1
  subst ex
  cases r1
  have hst : PO X (some (.UnaryOp .USub (.Constant (.int 1) k p1) p2)) (tPart (tUn (rU fun i => .int (-i)) (tC (.int 1)))) := po_some (pe_un un_neg pe_int)
  refine wpAny_Slice (thn (po_none.run pins s1 σ H1 (fun o H2 => o = none ∧ H2 = H1) I1 ⟨rfl, rfl⟩) fun vl s2 ⟨l, H2, I2, pl, el, e2⟩ => ?_)
  subst el e2
  refine thn (po_none.run pins s2 σ H2 (fun o H3 => o = none ∧ H3 = H2) I2 ⟨rfl, rfl⟩) fun vu s3 ⟨u, H3, I3, pu, eu, e3⟩ => ?_
  subst eu e3
  refine thn (hst.run pins s3 σ H3 (fun o H4 => o = some (-1) ∧ H4 = H3) I3 ⟨1, rfl, -1, rfl, rfl, rfl⟩) fun vs s4 ⟨o, H4, I4, ps, eo, e4⟩ => ?_
  subst eo e4
  have I5 : Inv X pins σ H4 { s4 with heap := s4.heap.push { cls := .type "slice", data := .fields #[vl, vu, vs] } } := I4.kept (t' := s4.toks) fun b ob q => Heap.get?_push_of_some _ q
  show wpAny (model X.prog X.w) X.A (subscriptTail e (.Slice none none (some (.UnaryOp .USub (.Constant (.int 1) k p1) p2)) p3) (.ref a) (.ref s4.heap.objs.size)) (EP X pins σ Q) X.xe { s4 with heap := s4.heap.push { cls := .type "slice", data := .fields #[vl, vu, vs] } }
  rcases q with ⟨hx, q⟩ | ⟨hx, q⟩
  · obtain ⟨its, r, ht, hz⟩ := I5.list hx
    have hlen := r.length
    refine tail_any (ops := [.ref a, .ref s4.heap.objs.size]) ht.isList.typeIs (PySem.slot_list_getitem.lookup) ?_ (by with_unfolding_all rfl)
    refine wpAny_getItem_list_slice ht.isList (Heap.IsSliceOf.new _ vl vu vs) pl pu ps (by decide) ?_ (by rw [List.size_toArray]; omega)
    rw [PySem.W.krv_pick]
    refine ⟨.ref _, _, I5.laid (t' := s4.toks) (o := .lst xs.reverse) (fun b ob q => Heap.get?_push_of_some _ q) (Nat.le_refl _) ?_, rfl, q _ (I5.hok.fresh (Nat.le_refl _))⟩
    exact ⟨by rw [List.length_reverse]; exact hz, _, 0, r.reverse, Heap.get?_push_size _ rfl⟩
  · obtain ⟨its, r, ht, hz⟩ := I5.tuple hx
    have hlen := r.length
    refine tail_any (ops := [.ref a, .ref s4.heap.objs.size]) ht.typeIs (PyProof.Rows.slot_tuple_getitem.lookup) ?_ (by with_unfolding_all rfl)
    refine getItem_tuple_rev ht (Heap.IsSliceOf.new _ vl vu vs) pl pu ps ?_ (by rw [List.size_toArray]; omega)
    refine ⟨.ref _, _, I5.laid (t' := s4.toks) (o := .tup xs.reverse) (fun b ob q => Heap.get?_push_of_some _ q) (Nat.le_refl _) ?_, rfl, q _ (I5.hok.fresh (Nat.le_refl _))⟩
    exact ⟨by rw [List.length_reverse]; exact hz, _, r.reverse, IsTup.new _ _⟩
/-- x[::-1], x a list or a tuple -/
def rev2M (x : D) (M : Mem) : Option (D × Mem) := match x with
  | .tup xs => some (.tup xs.reverse, M)
  | x => revM x M
theorem g_rev2 {e : Expr} {g : Ge} {k : Nat} {p1 p2 p3 pos : Pos} (he : GE X W e g) : GE X W (.Subscript e (.Slice none none (some (.UnaryOp .USub (.Constant (.int 1) k p1) p2)) p3) pos) (gUn rev2M g) := by
  refine pe_weak (pe_rev2 he) fun σ H Q ⟨ρ, M, ι, rs, h⟩ => ?_
  refine ⟨ρ, M, ι, rs, (PostG.bind (Rl := fun ι' H' d v => Rep X.K ι' H' d v) h).imp fun v H1 ⟨d1, M1, ι1, x1, hr1, r1, h1⟩ => ?_⟩
  have h1 := postO h1
  cases r1 with
  | @tup a xs ds g1 r =>
    exact ⟨a, xs, rfl, .inr ⟨g1, fun p hp => h1 (.ref p) ι1 _ (Ext.tup hp) (hr1.tup hp) (.tup (.of upd_same) (r.reverse.ext (Ext.tup hp)))⟩⟩
  | @rol a xs ds g1 r =>
    exact ⟨a, xs, rfl, .inl ⟨g1.sq, fun p hp => h1 _ (ι1 ++ [p]) _ (Ext.new hp) (hr1.new hp (.lst r.reverse)) (.ref (hr1.len' p))⟩⟩
  | @ref n a e1 =>
    replace h1 : PostO X.K ι1 H1 Q (match M1[n]? with | some (.lst xs) => some (.ref M1.length, M1 ++ [.lst xs.reverse]) | _ => none) := h1
    split at h1
    · rename_i xs eo
      obtain ⟨u1, f1, q1⟩ := hr1.ob n a _ e1 eo
      cases q1 with
      | lst r =>
        exact ⟨a, _, rfl, .inl ⟨.of f1, fun p hp => h1 _ (ι1 ++ [p]) _ (Ext.new hp) (hr1.new hp (.lst r.reverse)) (.ref (hr1.len' p))⟩⟩
    · exact h1.elim
  | _ => exact h1.elim
end

/-! ### constants of the text -/
/-- the global's value -/
structure Cst (K : PySem.W.Frag) (mg : Str → Option Value) (x : Str) (d : D) : Prop where
  ex : ∃ u v, mg x = some u ∧ RelV v u ∧ ∀ ι H, Rep K ι H d v
theorem Cst.int {K : PySem.W.Frag} {mg : Str → Option Value} {x : Str} {i : Int} (h : ∃ t, mg x = some (.int i t)) : Cst K mg x (.int i) :=
  let ⟨t, e⟩ := h; ⟨_, .int i, e, ⟨_, rfl⟩, fun _ _ => .int i⟩
theorem Cst.bl {K : PySem.W.Frag} {mg : Str → Option Value} {x : Str} {b : Bool} (h : mg x = some (.bool b)) : Cst K mg x (.bl b) := ⟨_, .bl b, h, rfl, fun _ _ => .bl b⟩
theorem Cst.str {K : PySem.W.Frag} {mg : Str → Option Value} {x y : Str} {s : List Nat} (h : ∃ t, mg x = some (.str y t)) (e : y.cps.toList = s) (hs : s.length ≤ 16777216) : Cst K mg x (.str s) :=
  let ⟨t, h⟩ := h; ⟨_, .str y, h, ⟨_, rfl⟩, fun _ _ => .str e (by rw [sizeLine_eq]; exact hs)⟩
theorem g_glob {X : Cx} {W : WX} {x : Str} {d : D} {pos : Pos} (h : Cst X.K X.mg x d) (hg : Gl X x := by rfl) (hd : (x == ("__debug__" : Str)) = false := by decide) : GE X W (.Name x pos) (gC d) := by
  obtain ⟨u, v, h1, h2, h3⟩ := h.ex
  exact g_c d (pe_glob hg h1 h2 hd) h3
/-- a built-in class as a value -/
theorem g_ty {X : Cx} {W : WX} {x : Str} (t : Ty) {pos : Pos} (hm : X.mg x = none) (hv : bootBuiltins x = some (.type t.nm)) (hg : Gl X x := by rfl) (hn : x ≠ "__name__" := by decide) (hd : (x == ("__debug__" : Str)) = false := by decide) : GE X W (.Name x pos) (gC (.ty t)) :=
  g_c (.ty t) (pe_bltn hg hm hv (v := .ty t.nm) rfl hn hd) fun _ _ => .ty t
theorem hu_G {X : Cx} {k : Nat} (hr : Room k X.A) : X.A.units + 65 < cLine := hu_g hr

theorem walk_gx {l : PySem.W.OpenLaw} {n k : Nat} {q : Program} {loose : List Str} {XP : (Str → Option Value) → Heap → Prop} {YP : World → Heap → Prop} {d : DefRec} {x : Str}
    (hn : l.most = some n) (hn2 : n ≤ sizeLine) (hdf : d.params.defaults = []) (hr : Room k callerA)
    (F : ∀ (w : World) (mg : Str → Option Value) (fa : Addr) (h : Heap), YP w h → XP mg h → h.Ns mainGlobals mg → mg d.name = some (.ref fa) →
      ∃ (K : PySem.W.Frag) (fd : FuncData) (Fm : List D → Mem → R D), K.In h ∧ (∀ (s : Shared) (v : Value), BindsTo s fd ⟨[v], []⟩ [(x, v)]) ∧ (∀ ns : List Int, ns.length ≤ n → Gives Fm ns) ∧
        ∀ base : Heap, K.In base → base.Ns mainGlobals mg → GOk l.prog w K mg base k fa fd [x] Fm) :
    PySem.W.WalkO q loose XP YP l.row.toRowW d [] (fun f vs => PySem.call f vs) := by
  refine Att.attach_call hn hdf fun w s₀ s₁ mg mb fa o pm cd doc a vs ns G Y ho hd hcd hmg hobj hints hlen hg => ?_
  obtain ⟨K, fd, Fm, inK, hb, hlaw, hG⟩ := F w mg fa _ Y G.X G.T.g hmg
  exact law_g inK G.T.g G.T.b G.T.builtins G.T.nolimit hg hobj hints (Nat.le_trans hlen hn2) hr hG hb (hlaw ns hlen)
end G
set_option maxRecDepth 100000
set_option maxHeartbeats 4000000
/-! G12: what a law's text needs of each def, in short. -/
namespace G
open PySem PySem.Spec PyProof.Rows L2
abbrev Fn := List D → Mem → R D
/-- the def that the top has bound -/
def Df (K : PySem.W.Frag) (mg : Str → Option Value) (x : Str) (st : Stmt) : Prop := ∃ f fd, mg x = some (.ref f) ∧ Fun K x x st f fd
/-- a def keeps its mirror's promise -/
def Ok (P : Program) (w : World) (K : PySem.W.Frag) (mg : Str → Option Value) (base : Heap) (k : Nat) (x : Str) (st : Stmt) (ps : List Str) (F : Fn) : Prop :=
  ∃ f fd, mg x = some (.ref f) ∧ Fun K x x st f fd ∧ GOk P w K mg base k f fd ps F
theorem Ok.mono {P : Program} {w : World} {K : PySem.W.Frag} {mg : Str → Option Value} {base : Heap} {j k : Nat} {x : Str} {st : Stmt} {ps : List Str} {F : Fn} (O : Ok P w K mg base j x st ps F) (h : j ≤ k) : Ok P w K mg base k x st ps F :=
  let ⟨f, fd, a, b, c⟩ := O; ⟨f, fd, a, b, c.mono h⟩
theorem ok_no {P : Program} {w : World} {K : PySem.W.Frag} {mg : Str → Option Value} {base : Heap} {k : Nat} {x : Str} {st : Stmt} {ps : List Str} (d : Df K mg x st) : Ok P w K mg base k x st ps (fun _ _ => .no) :=
  let ⟨f, fd, a, b⟩ := d; ⟨f, fd, a, b, ⟨fun _ _ _ _ _ _ _ _ _ _ _ _ _ _ ⟨_, _, _, _, _, _, h⟩ => h.elim⟩⟩
theorem ok_def {P : Program} {w : World} {K : PySem.W.Frag} {mg : Str → Option Value} {base : Heap} {k : Nat} {x : Str} {st : Stmt} {N ps : List Str} {g : Gs} {n : Nat} (d : Df K mg x st) (S : FnScope N ps (defScope st)) (hn : N.length = n)
    (hbody : ∀ (f : Addr) (cdv : Value) (A : Around) (outer : List Env) (s : Shared) (H : Hp) (E : XK), Room k (A.deeper (envOfC x (defScope st) s.heap.objs.size f cdv)) → (A.deeper (envOfC x (defScope st) s.heap.objs.size f cdv)).guards = some [] →
      Takes (cxOf (L2.CX P w) P w K mg base N x (defScope st) f cdv A outer s H E) (fun c dd _ H' => E c dd H') → PassesOwn (model P w) (A.deeper (envOfC x (defScope st) s.heap.objs.size f cdv)) (envOfC x (defScope st) s.heap.objs.size f cdv) (cxOf (L2.CX P w) P w K mg base N x (defScope st) f cdv A outer s H E).xe →
      GSs (cxOf (L2.CX P w) P w K mg base N x (defScope st) f cdv A outer s H E) (fun c dd _ H' => E c dd H') (defBody st) g) : Ok P w K mg base (k + 1) x st ps (runDef n g) := by
  obtain ⟨f, fd, a, b⟩ := d
  subst hn
  refine ⟨f, fd, a, b, g_def b S fun cdv A outer s H E hr hgd => ?_⟩
  exact hbody f cdv A outer s H E hr hgd (takes_of rfl rfl rfl rfl) (passes_of (X := cxOf (L2.CX P w) P w K mg base N x (defScope st) f cdv A outer s H E) rfl)
section
variable {X : Cx} {W : WX} {k : Nat} {ps ks : List Str} {F : Fn} {x : Str} {st : Stmt} {p pos : Pos} {e : Expr} {es : List Expr} {kws : List Keyword} {gs : Ga} {pm : List Nat}
theorem c_ (O : Ok X.prog X.w X.K X.mg X.base k x st ps F) (hr : Room k X.A) (hgd : X.A.guards = some []) (tk : Takes X W) (hb : ∀ {f fd}, Fun X.K x x st f fd → Binds X.K fd ps []) (ha : GA X W (e :: es) gs) (hlen : ∀ ρ M ds M', gs ρ M = .ok ds M' → ds.length = (e :: es).length)
    (hn : (e :: es).length = ps.length := by rfl) (hg : Gl X x := by rfl) (hdb : (x == ("__debug__" : Str)) = false := by decide) (he : starEach (e :: es) X.env = (false, eval e X.env) :: starEach es X.env := by rfl) (hpl : (backTo pos (starEach es X.env)).any (·.1) = false := by rfl) :
    GE X W (.Call (.Name x p) (e :: es) [] pos) (gCall F gs) := by
  obtain ⟨f, fd, a, b, c⟩ := O
  exact g_call c hr hgd tk a b.kp (hb b) ha hn hg hdb he hpl hlen
theorem ck_ (O : Ok X.prog X.w X.K X.mg X.base k x st ps F) (hr : Room k X.A) (hgd : X.A.guards = some []) (tk : Takes X W) (hb : ∀ {f fd}, Fun X.K x x st f fd → KwB fd ps ks pm) (ha : GK X W kws gs) (hlen : ∀ ρ M ds M', gs ρ M = .ok ds M' → ds.length = kws.length)
    (hn : pm.length = ps.length := by rfl) (hkl : kws.length = ks.length := by rfl) (hall : (backToKw pos (keywordEach kws X.env)).all (·.1.isSome) = true := by rfl) (hks : (backToKw pos (keywordEach kws X.env)).filterMap (·.1) = ks := by rfl) (hg : Gl X x := by rfl) (hdb : (x == ("__debug__" : Str)) = false := by decide)
    (hpl : ((backTo pos (starEach [] X.env)).any (·.1) || (backToKw pos (keywordEach kws X.env)).any (·.1.isNone)) = false := by rfl) :
    GE X W (.Call (.Name x p) [] kws pos) (gCallK F pm gs) := by
  obtain ⟨f, fd, a, b, c⟩ := O
  exact g_callK c hr hgd tk a b.kp (hb b) ha hn hkl hall hks hg hdb hpl hlen

end
theorem Cst.loose {K : PySem.W.Frag} {mg : Str → Option Value} {x : Str} {i : Int} {h : Heap} {p : Program} {lv : List (Str × PySem.W.WData)} (XX : PySem.W.XL p lv mg h) (hx : lv.lookup x = some (PySem.W.WData.int i)) : Cst K mg x (.int i) := by
  obtain ⟨v, a, b⟩ := XX.2.val _ (PySem.W.mem_lookup hx)
  obtain ⟨t, e, _⟩ := PySem.W.readsW_int_inv b
  exact .int ⟨t, by rw [a, e]⟩
end G
namespace G
open PySem PySem.Spec PyProof.Rows L2
theorem gok_of {P : Program} {w : World} {K : PySem.W.Frag} {mg : Str → Option Value} {base : Heap} {k : Nat} {x : Str} {st : Stmt} {ps : List Str} {F : Fn} {f : Addr} {fd : FuncData} (O : Ok P w K mg base k x st ps F) (hm : mg x = some (.ref f)) (b : Fun K x x st f fd) : GOk P w K mg base k f fd ps F := by
  obtain ⟨f', fd', a, b', c⟩ := O
  have e := a.symm.trans hm
  cases e
  have e2 : fd' = fd := by
    obtain ⟨_, _, _, _, _, _, _, _, _, _, l1, _⟩ := b.ex
    obtain ⟨_, _, _, _, _, _, _, _, _, _, l2, _⟩ := b'.ex
    have e3 := l2.symm.trans l1
    cases e3
    rfl
  rw [← e2]
  exact c
end G
set_option maxRecDepth 100000
set_option maxHeartbeats 4000000
/-! G13: how a mirror is evaluated, step by step (no lambda is left behind). -/
namespace G
open PySem PySem.Spec PyProof.Rows L2

def opK2 (f : Op2) (x : D) : R D → R D
  | .ok y M => R.of (f x y M)
  | r => r
def opK (f : Op2) (gb : Ge) (ρ : Rho) : R D → R D
  | .ok x M => opK2 f x (gb ρ M)
  | r => r
def unK (f : D → Mem → Option (D × Mem)) : R D → R D
  | .ok x M => R.of (f x M)
  | r => r
def consK2 (x : D) : R (List D) → R (List D)
  | .ok xs M => .ok (x :: xs) M
  | r => r
def consK (r : Ga) (ρ : Rho) : R D → R (List D)
  | .ok x M => consK2 x (r ρ M)
  | .ex x M => .ex x M
  | .no => .no
def cbK (f : OpN) : R (List D) → R D
  | .ok xs M => R.of (f xs M)
  | .ex x M => .ex x M
  | .no => .no
def tupK : R (List D) → R D
  | .ok xs M => if xs.length ≤ 16777216 then .ok (.tup xs) M else .no
  | .ex x M => .ex x M
  | .no => .no
def lstK : R (List D) → R D
  | .ok xs M => if xs.length ≤ 16777216 then .ok (.ref M.length) (M ++ [.lst xs]) else .no
  | .ex x M => .ex x M
  | .no => .no
def ofB (M : Mem) : Option Bool → R Bool
  | some b => .ok b M
  | none => .no
def truK : R D → R Bool
  | .ok d M => ofB M (truD M d)
  | .ex x M => .ex x M
  | .no => .no
def tstK : R D → R Bool
  | .ok (.bl b) M => .ok b M
  | .ex x M => .ex x M
  | _ => .no
def andTK (b : Gt) (ρ : Rho) : R Bool → R Bool
  | .ok true M => b ρ M
  | .ok false M => .ok false M
  | .ex x M => .ex x M
  | .no => .no
def orTK (b : Gt) (ρ : Rho) : R Bool → R Bool
  | .ok false M => b ρ M
  | .ok true M => .ok true M
  | .ex x M => .ex x M
  | .no => .no
def notTK : R Bool → R Bool
  | .ok c M => .ok (!c) M
  | .ex x M => .ex x M
  | .no => .no
def and2K (b : Ge) (ρ : Rho) (x : D) (M : Mem) : Option Bool → R D
  | some true => b ρ M
  | some false => .ok x M
  | none => .no
def andK (b : Ge) (ρ : Rho) : R D → R D
  | .ok x M => and2K b ρ x M (truD M x)
  | .ex x M => .ex x M
  | .no => .no
def or2K (b : Ge) (ρ : Rho) (x : D) (M : Mem) : Option Bool → R D
  | some true => .ok x M
  | some false => b ρ M
  | none => .no
def orK (b : Ge) (ρ : Rho) : R D → R D
  | .ok x M => or2K b ρ x M (truD M x)
  | .ex x M => .ex x M
  | .no => .no
def not2K (M : Mem) : Option Bool → R D
  | some b => .ok (.bl (!b)) M
  | none => .no
def notK : R D → R D
  | .ok x M => not2K M (truD M x)
  | .ex x M => .ex x M
  | .no => .no
def ifK (a b : Ge) (ρ : Rho) : R Bool → R D
  | .ok true M => a ρ M
  | .ok false M => b ρ M
  | .ex x M => .ex x M
  | .no => .no
def chK2 (f' : Op2) (y : D) : R D → R D
  | .ok w M => R.of (f' y w M)
  | r => r
def chK (f' : Op2) (gc : Ge) (ρ : Rho) (y : D) : R D → R D
  | .ok (.bl true) M => chK2 f' y (gc ρ M)
  | .ok (.bl false) M => .ok (.bl false) M
  | .ex x M => .ex x M
  | _ => .no
def chK1 (f f' : Op2) (gc : Ge) (ρ : Rho) (x : D) : R D → R D
  | .ok y M => chK f' gc ρ y (R.of (f x y M))
  | r => r
def chK0 (f f' : Op2) (gb gc : Ge) (ρ : Rho) : R D → R D
  | .ok x M => chK1 f f' gc ρ x (gb ρ M)
  | r => r
def callK (F : Fn) : R (List D) → R D
  | .ok ds M => callF F ds M
  | .ex x M => .ex x M
  | .no => .no
def perK (F : Fn) (M : Mem) : Option (List D) → R D
  | some es => callF F es M
  | none => .no
def callKK (F : Fn) (pm : List Nat) : R (List D) → R D
  | .ok ds M => perK F M (permO pm ds)
  | .ex x M => .ex x M
  | .no => .no
def partK : R D → R (Option Int)
  | .ok (.int i) M => .ok (some i) M
  | .ex x M => .ex x M
  | _ => .no
def slK3 (x : D) (l : Option Int) : R (Option Int) → R D
  | .ok u M => R.of (slM x l u M)
  | .ex x M => .ex x M
  | .no => .no
def slK2 (x : D) (hi : Go) (ρ : Rho) : R (Option Int) → R D
  | .ok l M => slK3 x l (hi ρ M)
  | .ex x M => .ex x M
  | .no => .no
def slK (lo hi : Go) (ρ : Rho) : R D → R D
  | .ok x M => slK2 x hi ρ (lo ρ M)
  | r => r
def mtK2 (f : OpM) (x : D) : R (List D) → R D
  | .ok xs M => R.of (f x xs M)
  | .ex x M => .ex x M
  | .no => .no
def mtKb (f : OpM) (ga : Ga) (ρ : Rho) (x : D) (M : Mem) : Bool → R D
  | true => mtK2 f x (ga ρ M)
  | false => .no
def mtK (T : Ty) (f : OpM) (ga : Ga) (ρ : Rho) : R D → R D
  | .ok x M => mtKb f ga ρ x M (tyB T x M)
  | r => r
def prK3 (x y : D) : R (List (D × D)) → R (List (D × D))
  | .ok ps M => .ok ((x, y) :: ps) M
  | r => r
def prK2 (r : List (Ge × Ge)) (ρ : Rho) (x : D) : R D → R (List (D × D))
  | .ok y M => prK3 x y (gPairs r ρ M)
  | .ex x M => .ex x M
  | .no => .no
def prK (v : Ge) (r : List (Ge × Ge)) (ρ : Rho) : R D → R (List (D × D))
  | .ok x M => prK2 r ρ x (v ρ M)
  | .ex x M => .ex x M
  | .no => .no
def dispK : R (List (D × D)) → R D
  | .ok ps M => if allKey ps = true ∧ ps.length ≤ 15 then .ok (.ref M.length) (M ++ [.dic false (dMerge [] ps)]) else .no
  | .ex x M => .ex x M
  | .no => .no
def ofS (M : Mem) : Option Src → R Src
  | some s => .ok s M
  | none => .no
def seqIK : R D → R Src
  | .ok d M => ofS M (srcOf M d)
  | .ex x M => .ex x M
  | .no => .no
def rng1K : R D → R Src
  | .ok (.int j) M => if -4611686018427387904 ≤ j ∧ j < 4611686018427387904 then .ok (srcR 0 j.toNat 1) M else .no
  | .ex x M => .ex x M
  | _ => .no
def fIK (f : List D → Mem → R Src) : R (List D) → R Src
  | .ok ds M => f ds M
  | .ex x M => .ex x M
  | .no => .no
def lcK2 : R (List D) → R D
  | .ok ys M => if ys.length ≤ 16777216 then .ok (.ref M.length) (M ++ [.lst ys]) else .no
  | _ => .no
def lcK (tg : Gg) (tt : Gt) (te : Ge) (ρ' : Rho) : R Src → R D
  | .ok src M => lcK2 (lcG src tg tt te ρ' big 0 M)
  | .ex x M => .ex x M
  | .no => .no
/-! statements -/
def seqK (b : Gs) : R Fl → R Fl
  | .ok (.nx ρ') M' => b ρ' M'
  | r => r
def exprK (ρ : Rho) : R D → R Fl
  | .ok _ M => .ok (.nx ρ) M
  | .ex x M => .ok (.xc x ρ) M
  | .no => .no
def retK (ρ : Rho) : R D → R Fl
  | .ok d M => .ok (.rt d) M
  | .ex x M => .ok (.xc x ρ) M
  | .no => .no
def ifSK (a b : Gs) (ρ : Rho) : R Bool → R Fl
  | .ok true M => a ρ M
  | .ok false M => b ρ M
  | .ex x M => .ok (.xc x ρ) M
  | .no => .no
def setK (i : Nat) (ρ : Rho) : R D → R Fl
  | .ok d M => .ok (.nx (ρ.set i (some d))) M
  | .ex x M => .ok (.xc x ρ) M
  | .no => .no
def parK (i j : Nat) (ρ : Rho) : R (List D) → R Fl
  | .ok [d, e] M => .ok (.nx ((ρ.set i (some d)).set j (some e))) M
  | .ex x M => .ok (.xc x ρ) M
  | _ => .no
def par3K (i j l : Nat) (ρ : Rho) : R (List D) → R Fl
  | .ok [d, e, f] M => .ok (.nx (((ρ.set i (some d)).set j (some e)).set l (some f))) M
  | .ex x M => .ok (.xc x ρ) M
  | _ => .no
def ofT : Option (Rho × Mem) → R Fl
  | some (ρ, M) => .ok (.nx ρ) M
  | none => .no
def asgK (t : Gg) (ρ : Rho) : R D → R Fl
  | .ok d M => ofT (t d ρ M)
  | .ex x M => .ok (.xc x ρ) M
  | .no => .no
def forK (tg : Gg) (b : Gs) (ρ : Rho) : R Src → R Fl
  | .ok src M => forG src tg b big 0 ρ M
  | .ex x M => .ok (.xc x ρ) M
  | .no => .no
def runK : R Fl → R D
  | .ok (.rt d) M => .ok d M
  | .ok (.nx _) M => .ok .non M
  | .ok (.xc x _) M => .ex x M
  | _ => .no
section
variable {ρ : Rho} {M : Mem} {d x y z : D} {o : Option D} {i j k l n : Nat} {ga gb gc g : Ge} {gs : Ga} {f f' : Op2} {fu : D → Mem → Option (D × Mem)} {ff : OpN} {fm : OpM} {ta tb : Gt} {sa sb : Gs} {t : Gg} {ds xs : List D} {F : Fn} {T : Ty} {b : Bool}
theorem v0 : gV 0 (some d :: ρ) M = .ok d M := rfl
theorem vS : gV (i + 1) (o :: ρ) M = gV i ρ M := by
  cases ρ <;> rfl
theorem aC : gC d ρ M = .ok d M := rfl
theorem aOp : gOp f ga gb ρ M = opK f gb ρ (ga ρ M) := by
  show (ga ρ M).bind _ = _
  cases ga ρ M with
  | ok x M1 =>
    show (gb ρ M1).bind _ = opK2 f x (gb ρ M1)
    cases gb ρ M1 <;> rfl
  | ex x M1 => rfl
  | no => rfl
theorem aOp1 : opK f gb ρ (.ok x M) = opK2 f x (gb ρ M) := rfl
theorem aOp2 : opK2 f x (.ok y M) = R.of (f x y M) := rfl
theorem aOf {M1 : Mem} : R.of (some (d, M1)) = .ok d M1 := rfl
theorem aUn : gUn fu ga ρ M = unK fu (ga ρ M) := by
  show (ga ρ M).bind _ = _
  cases ga ρ M <;> rfl
theorem aUn1 : unK fu (.ok x M) = R.of (fu x M) := rfl
theorem aNil : G.gNil ρ M = .ok [] M := rfl
theorem aCons : G.gCons g gs ρ M = consK gs ρ (g ρ M) := by
  show (g ρ M).bind _ = _
  cases g ρ M with
  | ok x M1 =>
    show (gs ρ M1).bind _ = consK2 x (gs ρ M1)
    cases gs ρ M1 <;> rfl
  | ex x M1 => rfl
  | no => rfl
theorem aCons1 : consK gs ρ (.ok x M) = consK2 x (gs ρ M) := rfl
theorem aCons2 : consK2 x (.ok xs M) = .ok (x :: xs) M := rfl
theorem aCB : gCB ff gs ρ M = cbK ff (gs ρ M) := by
  show (gs ρ M).bind _ = _
  cases gs ρ M <;> rfl
theorem aCB1 : cbK ff (.ok xs M) = R.of (ff xs M) := rfl
theorem aTup : gTup gs ρ M = tupK (gs ρ M) := by
  show (gs ρ M).bind _ = _
  cases gs ρ M <;> rfl
theorem aTup1 (h : xs.length ≤ 16777216) : tupK (.ok xs M) = .ok (.tup xs) M := if_pos h
theorem aLst : gLst gs ρ M = lstK (gs ρ M) := by
  show (gs ρ M).bind _ = _
  cases gs ρ M <;> rfl
theorem aLst1 (h : xs.length ≤ 16777216) : lstK (.ok xs M) = .ok (.ref M.length) (M ++ [.lst xs]) := if_pos h
theorem aTru : gTru g ρ M = truK (g ρ M) := by
  show (g ρ M).bind _ = _
  cases g ρ M with
  | ok x M1 =>
    show (match truD M1 x with | some b => R.ok b M1 | none => .no) = ofB M1 (truD M1 x)
    cases truD M1 x <;> rfl
  | ex x M1 => rfl
  | no => rfl
theorem aTru1 : truK (.ok x M) = ofB M (truD M x) := rfl
theorem aTru2 : ofB M (some b) = .ok b M := rfl
theorem aTst : gTst g ρ M = tstK (g ρ M) := by
  show (g ρ M).bind _ = _
  cases g ρ M with
  | ok x M1 => cases x <;> rfl
  | ex x M1 => rfl
  | no => rfl
theorem aTst1 : tstK (.ok (.bl b) M) = .ok b M := rfl
theorem aAndT : gAndT ta tb ρ M = andTK tb ρ (ta ρ M) := by
  show (ta ρ M).bind _ = _
  cases ta ρ M with
  | ok x M1 => cases x <;> rfl
  | ex x M1 => rfl
  | no => rfl
theorem aAndT1 : andTK tb ρ (.ok true M) = tb ρ M := rfl
theorem aAndT2 : andTK tb ρ (.ok false M) = .ok false M := rfl
theorem aOrT : gOrT ta tb ρ M = orTK tb ρ (ta ρ M) := by
  show (ta ρ M).bind _ = _
  cases ta ρ M with
  | ok x M1 => cases x <;> rfl
  | ex x M1 => rfl
  | no => rfl
theorem aOrT1 : orTK tb ρ (.ok true M) = .ok true M := rfl
theorem aOrT2 : orTK tb ρ (.ok false M) = tb ρ M := rfl
theorem aNotT : gNotT ta ρ M = notTK (ta ρ M) := by
  show (ta ρ M).bind _ = _
  cases ta ρ M <;> rfl
theorem aNotT1 : notTK (.ok b M) = .ok (!b) M := rfl
theorem aAnd : gAnd ga gb ρ M = andK gb ρ (ga ρ M) := by
  show (ga ρ M).bind _ = _
  cases ga ρ M with
  | ok x M1 =>
    show (match truD M1 x with | some true => gb ρ M1 | some false => .ok x M1 | none => .no) = and2K gb ρ x M1 (truD M1 x)
    cases truD M1 x with
    | none => rfl
    | some c => cases c <;> rfl
  | ex x M1 => rfl
  | no => rfl
theorem aAnd1 : andK gb ρ (.ok x M) = and2K gb ρ x M (truD M x) := rfl
theorem aAnd2 : and2K gb ρ x M (some true) = gb ρ M := rfl
theorem aAnd3 : and2K gb ρ x M (some false) = .ok x M := rfl
theorem aOr : gOr ga gb ρ M = orK gb ρ (ga ρ M) := by
  show (ga ρ M).bind _ = _
  cases ga ρ M with
  | ok x M1 =>
    show (match truD M1 x with | some true => .ok x M1 | some false => gb ρ M1 | none => .no) = or2K gb ρ x M1 (truD M1 x)
    cases truD M1 x with
    | none => rfl
    | some c => cases c <;> rfl
  | ex x M1 => rfl
  | no => rfl
theorem aOr1 : orK gb ρ (.ok x M) = or2K gb ρ x M (truD M x) := rfl
theorem aOr2 : or2K gb ρ x M (some true) = .ok x M := rfl
theorem aOr3 : or2K gb ρ x M (some false) = gb ρ M := rfl
theorem aNot : gNot g ρ M = notK (g ρ M) := by
  show (g ρ M).bind _ = _
  cases g ρ M with
  | ok x M1 =>
    show (match truD M1 x with | some b => R.ok (.bl (!b)) M1 | none => .no) = not2K M1 (truD M1 x)
    cases truD M1 x <;> rfl
  | ex x M1 => rfl
  | no => rfl
theorem aNot1 : notK (.ok x M) = not2K M (truD M x) := rfl
theorem aNot2 : not2K M (some b) = .ok (.bl (!b)) M := rfl
theorem aIf : gIf ta ga gb ρ M = ifK ga gb ρ (ta ρ M) := by
  show (ta ρ M).bind _ = _
  cases ta ρ M with
  | ok x M1 => cases x <;> rfl
  | ex x M1 => rfl
  | no => rfl
theorem aIf1 : ifK ga gb ρ (.ok true M) = ga ρ M := rfl
theorem aIf2 : ifK ga gb ρ (.ok false M) = gb ρ M := rfl
theorem aCh : gChain f f' ga gb gc ρ M = chK0 f f' gb gc ρ (ga ρ M) := by
  show (ga ρ M).bind _ = _
  cases ga ρ M with
  | ok x M1 =>
    show (gb ρ M1).bind _ = chK1 f f' gc ρ x (gb ρ M1)
    cases gb ρ M1 with
    | ok y M2 =>
      show (R.of (f x y M2)).bind _ = chK f' gc ρ y (R.of (f x y M2))
      cases R.of (f x y M2) with
      | ok z M3 =>
        cases z with
        | bl c =>
          cases c with
          | true =>
            show (gc ρ M3).bind _ = chK2 f' y (gc ρ M3)
            cases gc ρ M3 <;> rfl
          | false => rfl
        | _ => rfl
      | ex z M3 => rfl
      | no => rfl
    | ex y M2 => rfl
    | no => rfl
  | ex x M1 => rfl
  | no => rfl
theorem aCh0 : chK0 f f' gb gc ρ (.ok x M) = chK1 f f' gc ρ x (gb ρ M) := rfl
theorem aCh1 : chK1 f f' gc ρ x (.ok y M) = chK f' gc ρ y (R.of (f x y M)) := rfl
theorem aCh2 : chK f' gc ρ y (.ok (.bl true) M) = chK2 f' y (gc ρ M) := rfl
theorem aCh3 : chK f' gc ρ y (.ok (.bl false) M) = .ok (.bl false) M := rfl
theorem aCh4 : chK2 f' y (.ok z M) = R.of (f' y z M) := rfl
theorem aCall : gCall F gs ρ M = callK F (gs ρ M) := by
  show (gs ρ M).bind _ = _
  cases gs ρ M <;> rfl
theorem aCall1 : callK F (.ok ds M) = callF F ds M := rfl
theorem aCallK {pm : List Nat} : gCallK F pm gs ρ M = callKK F pm (gs ρ M) := by
  show (gs ρ M).bind _ = _
  cases gs ρ M with
  | ok ds M1 =>
    show (match permO pm ds with | some es => callF F es M1 | none => .no) = perK F M1 (permO pm ds)
    cases permO pm ds <;> rfl
  | ex x M1 => rfl
  | no => rfl
theorem aCallK1 {pm : List Nat} : callKK F pm (.ok ds M) = perK F M (permO pm ds) := rfl
theorem aCallK2 : perK F M (some ds) = callF F ds M := rfl
theorem aNP : gNoPart ρ M = .ok none M := rfl
theorem aPart : gPart g ρ M = partK (g ρ M) := by
  show (g ρ M).bind _ = _
  cases g ρ M with
  | ok x M1 => cases x <;> rfl
  | ex x M1 => rfl
  | no => rfl
theorem aPart1 {i : Int} : partK (.ok (.int i) M) = .ok (some i) M := rfl
theorem aSl {lo hi : Go} : gSl g lo hi ρ M = slK lo hi ρ (g ρ M) := by
  show (g ρ M).bind _ = _
  cases g ρ M with
  | ok x M1 =>
    show (lo ρ M1).bind _ = slK2 x hi ρ (lo ρ M1)
    cases lo ρ M1 with
    | ok l M2 =>
      show (hi ρ M2).bind _ = slK3 x l (hi ρ M2)
      cases hi ρ M2 <;> rfl
    | ex y M2 => rfl
    | no => rfl
  | ex x M1 => rfl
  | no => rfl
theorem aSl1 {lo hi : Go} : slK lo hi ρ (.ok x M) = slK2 x hi ρ (lo ρ M) := rfl
theorem aSl2 {hi : Go} {l : Option Int} : slK2 x hi ρ (.ok l M) = slK3 x l (hi ρ M) := rfl
theorem aSl3 {l u : Option Int} : slK3 x l (.ok u M) = R.of (slM x l u M) := rfl
theorem aMt : gMt T fm g gs ρ M = mtK T fm gs ρ (g ρ M) := by
  show (g ρ M).bind _ = _
  cases g ρ M with
  | ok x M1 =>
    show (if tyB T x M1 = true then _ else _) = mtKb fm gs ρ x M1 (tyB T x M1)
    cases tyB T x M1 with
    | true =>
      show (gs ρ M1).bind _ = mtK2 fm x (gs ρ M1)
      cases gs ρ M1 <;> rfl
    | false => rfl
  | ex x M1 => rfl
  | no => rfl
theorem aMt1 : mtK T fm gs ρ (.ok x M) = mtKb fm gs ρ x M (tyB T x M) := rfl
theorem aMt2 : mtKb fm gs ρ x M true = mtK2 fm x (gs ρ M) := rfl
theorem aMt3 : mtK2 fm x (.ok xs M) = R.of (fm x xs M) := rfl
theorem aPr0 : gPairs [] ρ M = .ok [] M := rfl
theorem aPr {v : Ge} {r : List (Ge × Ge)} : gPairs ((g, v) :: r) ρ M = prK v r ρ (g ρ M) := by
  show (g ρ M).bind _ = _
  cases g ρ M with
  | ok x M1 =>
    show (v ρ M1).bind _ = prK2 r ρ x (v ρ M1)
    cases v ρ M1 with
    | ok y M2 =>
      show (gPairs r ρ M2).bind _ = prK3 x y (gPairs r ρ M2)
      cases gPairs r ρ M2 <;> rfl
    | ex y M2 => rfl
    | no => rfl
  | ex x M1 => rfl
  | no => rfl
theorem aPr1 {v : Ge} {r : List (Ge × Ge)} : prK v r ρ (.ok x M) = prK2 r ρ x (v ρ M) := rfl
theorem aPr2 {r : List (Ge × Ge)} : prK2 r ρ x (.ok y M) = prK3 x y (gPairs r ρ M) := rfl
theorem aPr3 {ps : List (D × D)} : prK3 x y (.ok ps M) = .ok ((x, y) :: ps) M := rfl
theorem aDisp {prs : List (Ge × Ge)} : gDisp prs ρ M = dispK (gPairs prs ρ M) := by
  show (gPairs prs ρ M).bind _ = _
  cases gPairs prs ρ M <;> rfl
theorem aDisp1 {ps : List (D × D)} (h : allKey ps = true ∧ ps.length ≤ 15) : dispK (.ok ps M) = .ok (.ref M.length) (M ++ [.dic false (dMerge [] ps)]) := if_pos h
theorem aEmp : gEmpty ρ M = .ok (.ref M.length) (M ++ [.dic false []]) := rfl
theorem aSeqI : giSeq g ρ M = seqIK (g ρ M) := by
  show (g ρ M).bind _ = _
  cases g ρ M with
  | ok x M1 =>
    show (match srcOf M1 x with | some s => R.ok s M1 | none => .no) = ofS M1 (srcOf M1 x)
    cases srcOf M1 x <;> rfl
  | ex x M1 => rfl
  | no => rfl
theorem aSeqI1 : seqIK (.ok x M) = ofS M (srcOf M x) := rfl
theorem aSeqI2 {s : Src} : ofS M (some s) = .ok s M := rfl
theorem aRng1 : giRng1 g ρ M = rng1K (g ρ M) := by
  show (g ρ M).bind _ = _
  cases g ρ M with
  | ok x M1 => cases x <;> rfl
  | ex x M1 => rfl
  | no => rfl
theorem aRng1a {j : Int} (h : -4611686018427387904 ≤ j ∧ j < 4611686018427387904) : rng1K (.ok (.int j) M) = .ok (srcR 0 j.toNat 1) M := if_pos h
theorem aEn : giEn gs ρ M = fIK enumF (gs ρ M) := by
  show (gs ρ M).bind _ = _
  cases gs ρ M <;> rfl
theorem aZip : giZip' gs ρ M = fIK zipF' (gs ρ M) := by
  show (gs ρ M).bind _ = _
  cases gs ρ M <;> rfl
theorem aRng2 : giRng2 gs ρ M = fIK rng2F (gs ρ M) := by
  show (gs ρ M).bind _ = _
  cases gs ρ M <;> rfl
theorem aRngD : giRngD gs ρ M = fIK rngDF (gs ρ M) := by
  show (gs ρ M).bind _ = _
  cases gs ρ M <;> rfl
theorem afI {h : List D → Mem → R Src} : fIK h (.ok ds M) = h ds M := rfl
theorem aLc {gi : Gi} {own : List Nat} : gLc gi t ta g own ρ M = lcK t ta g (wipeR ρ own) (gi ρ M) := by
  show (gi ρ M).bind _ = _
  cases gi ρ M with
  | ok s M1 =>
    show (match lcG s t ta g (wipeR ρ own) big 0 M1 with | .ok ys M2 => (if ys.length ≤ 16777216 then R.ok (D.ref M2.length) (M2 ++ [Ob.lst ys]) else R.no) | _ => R.no) = lcK2 (lcG s t ta g (wipeR ρ own) big 0 M1)
    cases lcG s t ta g (wipeR ρ own) big 0 M1 <;> rfl
  | ex x M1 => rfl
  | no => rfl
theorem aLc1 {s : Src} {ρ' : Rho} : lcK t ta g ρ' (.ok s M) = lcK2 (lcG s t ta g ρ' big 0 M) := rfl
theorem aLc2 (h : xs.length ≤ 16777216) : lcK2 (.ok xs M) = .ok (.ref M.length) (M ++ [.lst xs]) := if_pos h
theorem aW0 : wipeR ρ [] = ρ := rfl
theorem aW1 {vs : List Nat} {v : Nat} : wipeR ρ (v :: vs) = (wipeR ρ vs).set v none := rfl
/-! statements -/
theorem aSkip : gsSkip ρ M = .ok (.nx ρ) M := rfl
theorem aSeq : gSeq sa sb ρ M = seqK sb (sa ρ M) := by
  show (match sa ρ M with | .ok (.nx ρ') M' => sb ρ' M' | r => r) = seqK sb (sa ρ M)
  cases sa ρ M with
  | ok f M1 => cases f <;> rfl
  | ex x M1 => rfl
  | no => rfl
theorem aSeq1 : seqK sb (.ok (.nx ρ) M) = sb ρ M := rfl
theorem aSeq2 : seqK sb (.ok (.rt d) M) = .ok (.rt d) M := rfl
theorem aSeq3 : seqK sb (.ok (.bk ρ) M) = .ok (.bk ρ) M := rfl
theorem aSeq4 : seqK sb (.ok (.ct ρ) M) = .ok (.ct ρ) M := rfl
theorem aExpr : gExpr g ρ M = exprK ρ (g ρ M) := by
  show sBind (g ρ M) ρ _ = _
  cases g ρ M <;> rfl
theorem aExpr1 : exprK ρ (.ok d M) = .ok (.nx ρ) M := rfl
theorem aRet : gRet g ρ M = retK ρ (g ρ M) := by
  show sBind (g ρ M) ρ _ = _
  cases g ρ M <;> rfl
theorem aRet1 : retK ρ (.ok d M) = .ok (.rt d) M := rfl
theorem aRetN : gRetN ρ M = .ok (.rt .non) M := rfl
theorem aBrk : gBreak ρ M = .ok (.bk ρ) M := rfl
theorem aCnt : gCont ρ M = .ok (.ct ρ) M := rfl
theorem aIfS : gIfS ta sa sb ρ M = ifSK sa sb ρ (ta ρ M) := by
  show sBind (ta ρ M) ρ _ = _
  cases ta ρ M with
  | ok x M1 => cases x <;> rfl
  | ex x M1 => rfl
  | no => rfl
theorem aIfS1 : ifSK sa sb ρ (.ok true M) = sa ρ M := rfl
theorem aIfS2 : ifSK sa sb ρ (.ok false M) = sb ρ M := rfl
theorem aSet : gSet i g ρ M = setK i ρ (g ρ M) := by
  show sBind (g ρ M) ρ _ = _
  cases g ρ M <;> rfl
theorem aSet1 : setK i ρ (.ok d M) = .ok (.nx (ρ.set i (some d))) M := rfl
theorem aPar : gPar i j gs ρ M = parK i j ρ (gs ρ M) := by
  show sBind (gs ρ M) ρ _ = _
  cases gs ρ M with
  | ok x M1 =>
    match x with
    | [] => rfl
    | [_] => rfl
    | [_, _] => rfl
    | _ :: _ :: _ :: _ => rfl
  | ex x M1 => rfl
  | no => rfl
theorem aPar1 : parK i j ρ (.ok [x, y] M) = .ok (.nx ((ρ.set i (some x)).set j (some y))) M := rfl
theorem aPar3 : gPar3 i j l gs ρ M = par3K i j l ρ (gs ρ M) := by
  show sBind (gs ρ M) ρ _ = _
  cases gs ρ M with
  | ok x M1 =>
    match x with
    | [] => rfl
    | [_] => rfl
    | [_, _] => rfl
    | [_, _, _] => rfl
    | _ :: _ :: _ :: _ :: _ => rfl
  | ex x M1 => rfl
  | no => rfl
theorem aPar31 : par3K i j l ρ (.ok [x, y, z] M) = .ok (.nx (((ρ.set i (some x)).set j (some y)).set l (some z))) M := rfl
theorem aAsg : gAsg t g ρ M = asgK t ρ (g ρ M) := by
  show sBind (g ρ M) ρ _ = _
  cases g ρ M with
  | ok x M1 =>
    show (match t x ρ M1 with | some (ρ', M') => R.ok (Fl.nx ρ') M' | none => .no) = ofT (t x ρ M1)
    cases t x ρ M1 <;> rfl
  | ex x M1 => rfl
  | no => rfl
theorem aAsg1 : asgK t ρ (.ok d M) = ofT (t d ρ M) := rfl
theorem aAsg2 : ofT (some (ρ, M)) = .ok (.nx ρ) M := rfl
theorem aFor {gi : Gi} : gFor gi t sb ρ M = forK t sb ρ (gi ρ M) := by
  show sBind (gi ρ M) ρ _ = _
  cases gi ρ M <;> rfl
theorem aFor1 {s : Src} : forK t sb ρ (.ok s M) = forG s t sb big 0 ρ M := rfl
theorem aRun : runDef n sa ds M = runK (sa (ds.map some ++ List.replicate (n - ds.length) none) M) := by
  unfold runDef
  cases sa (ds.map some ++ List.replicate (n - ds.length) none) M with
  | ok f M1 => cases f <;> rfl
  | ex x M1 => rfl
  | no => rfl
theorem aRun1 : runK (.ok (.rt d) M) = .ok d M := rfl
theorem aRun2 : runK (.ok (.nx ρ) M) = .ok .non M := rfl
/-! calls -/
theorem call_pure {M' : Mem} (h1 : noRefs ds = true) (h2 : noRef d = true) (h : F ds [] = .ok d M') : callF F ds M = .ok d M := by
  unfold callF
  rw [if_pos h1, h]
  exact if_pos h2
theorem call_ref (h : noRefs ds = false) : callF F ds M = F ds M := by
  unfold callF
  rw [h]
  rfl
theorem call_new {M' : Mem} (h1 : noRefs ds = true) (h2 : noRef d = false) (h : F ds [] = .ok d M') : callF F ds M = .ok (shD M.length d) (M ++ M'.map (shO M.length)) := by
  unfold callF
  rw [if_pos h1, h]
  show (if noRef d = true then _ else _) = _
  rw [h2]
  rfl
/-! targets -/
theorem tName : gName' i d ρ M = some (ρ.set i (some d), M) := rfl
theorem tUnp {g : Ggs} : gUnp n g (.tup xs) ρ M = if xs.length = n then g xs ρ M else none := rfl
theorem tsNil : gsNil [] ρ M = some (ρ, M) := rfl
def tsK (r : Ggs) (ds : List D) : Option (Rho × Mem) → Option (Rho × Mem)
  | some (ρ, M) => r ds ρ M
  | none => none
theorem tsCons {r : Ggs} : gsCons t r (d :: ds) ρ M = tsK r ds (t d ρ M) := by
  show (match t d ρ M with | some (ρ1, M1) => r ds ρ1 M1 | none => none) = tsK r ds (t d ρ M)
  cases t d ρ M <;> rfl
theorem tsCons1 {r : Ggs} : tsK r ds (some (ρ, M)) = r ds ρ M := rfl
/-! truth -/
theorem tr_bl : truD M (.bl b) = some b := rfl
theorem tr_non : truD M .non = some false := rfl
theorem tr_int {i : Int} : truD M (.int i) = some (i != 0) := rfl
theorem tr_tup : truD M (.tup xs) = some (!xs.isEmpty) := rfl
theorem tr_str {s : List Nat} : truD M (.str s) = some (!s.isEmpty) := rfl
end
end G
set_option maxRecDepth 100000
set_option maxHeartbeats 4000000
/-! G14: simple data (None, ints, texts, tuples of these): ==, repr. -/
namespace G
open PySem PySem.Spec PyProof.Rows L2
mutual
/-- simple data, at most so deep -/
def sim : Nat → D → Bool
  | _, .non => true
  | _, .int _ => true
  | _, .str s => s.all fun c => decide (c < 1114112)
  | n + 1, .tup xs => sims n xs
  | _, _ => false
def sims : Nat → List D → Bool
  | _, [] => true
  | n, x :: xs => sim n x && sims n xs
end
mutual
def py : D → PyData
  | .non => .none
  | .bl b => .bool b
  | .int i => .int i
  | .str s => .str ⟨s.toArray⟩
  | .tup xs => .tuple (pys xs)
  | _ => .none
def pys : List D → List PyData
  | [] => []
  | x :: xs => py x :: pys xs
end
mutual
theorem pd_sim {M : Mem} : ∀ {n : Nat} {d : D}, sim n d = true → ∀ k, n < k → pd M k d = some (py d)
  | _, .non, _, k + 1, _ => rfl
  | _, .int i, _, k + 1, _ => rfl
  | _, .str s, h, k + 1, _ => by
    have h' : (s.all fun c => decide (c < 1114112)) = true := by
      unfold sim at h
      exact h
    show (if _ then _ else _) = _
    rw [if_pos h']
    rw [py]
  | n + 1, .tup xs, h, k + 1, hk => by
    have h' : sims n xs = true := by
      unfold sim at h
      exact h
    show (match mapO (pd M k) xs with | some ys => some (PyData.tuple ys) | none => none) = _
    rw [pds_sim h' k (by omega), py]
  | 0, .tup xs, h, _, _ => by unfold sim at h; cases h
  | n, .bl _, h, _, _ => by unfold sim at h; cases h
  | n, .ref _, h, _, _ => by unfold sim at h; cases h
  | n, .adr _, h, _, _ => by unfold sim at h; cases h
  | n, .rol _, h, _, _ => by unfold sim at h; cases h
  | n, .ty _, h, _, _ => by unfold sim at h; cases h
  | n, _, _, 0, h => by omega
theorem pds_sim {M : Mem} : ∀ {n : Nat} {ds : List D}, sims n ds = true → ∀ k, n < k → mapO (pd M k) ds = some (pys ds)
  | _, [], _, _, _ => by rw [pys]; rfl
  | n, x :: xs, h, k, hk => by
    unfold sims at h
    rw [Bool.and_eq_true] at h
    rw [mapO, pd_sim h.1 k hk, pds_sim h.2 k hk, pys]
end
mutual
theorem eqv_sim : ∀ {n m : Nat} {d e : D}, sim n d = true → sim m e = true → (PyData.eqv (py d) (py e) = true ↔ d = e)
  | _, _, .non, e, _, h => by
    cases e <;> (first | (unfold sim at h; cases h; done) | skip) <;> simp [py, PyData.eqv]
  | _, _, .int i, e, _, h => by
    cases e <;> (first | (unfold sim at h; cases h; done) | skip) <;> simp [py, PyData.eqv]
  | _, _, .str s, e, _, h => by
    cases e <;> (first | (unfold sim at h; cases h; done) | skip) <;> simp [py, PyData.eqv]
  | n + 1, _, .tup xs, e, h1, h => by
    unfold sim at h1
    cases e with
    | tup ys =>
      rename_i m
      cases m with
      | zero => unfold sim at h; cases h
      | succ m =>
        unfold sim at h
        rw [py, py, PyData.eqv, eqvs_sim h1 h]
        simp
    | _ => first | (unfold sim at h; cases h; done) | simp [py, PyData.eqv]
  | 0, _, .tup xs, e, h1, _ => by unfold sim at h1; cases h1
  | _, _, .bl _, _, h, _ => by unfold sim at h; cases h
  | _, _, .ref _, _, h, _ => by unfold sim at h; cases h
  | _, _, .adr _, _, h, _ => by unfold sim at h; cases h
  | _, _, .rol _, _, h, _ => by unfold sim at h; cases h
  | _, _, .ty _, _, h, _ => by unfold sim at h; cases h
theorem eqvs_sim : ∀ {n m : Nat} {ds es : List D}, sims n ds = true → sims m es = true → (PyData.eqvAll (pys ds) (pys es) = true ↔ ds = es)
  | _, _, [], [], _, _ => by simp [pys, PyData.eqvAll]
  | _, _, [], y :: ys, _, _ => by simp [pys, PyData.eqvAll]
  | _, _, x :: xs, [], _, _ => by simp [pys, PyData.eqvAll]
  | n, m, x :: xs, y :: ys, h1, h2 => by
    unfold sims at h1 h2
    rw [Bool.and_eq_true] at h1 h2
    rw [pys, pys, PyData.eqvAll, Bool.and_eq_true, eqv_sim h1.1 h2.1, eqvs_sim h1.2 h2.2]
    simp
end
section
variable {M : Mem} {n m : Nat} {d e : D} {neg : Bool}
theorem eq_yes (h : sim n d = true) (hn : n < 60) : eqM neg d d M = some (.bl (!neg), M) := by
  unfold eqM
  rw [pd_sim h 60 hn]
  have z := (eqv_sim h h).mpr rfl
  simp only [z]
  cases neg <;> rfl
theorem eq_no (h : sim n d = true) (h' : sim m e = true) (hn : n < 60) (hm : m < 60) (hd : d ≠ e) : eqM neg d e M = some (.bl neg, M) := by
  unfold eqM
  rw [pd_sim h 60 hn, pd_sim h' 60 hm]
  have z : PyData.eqv (py d) (py e) = false := by
    cases q : PyData.eqv (py d) (py e) with
    | false => rfl
    | true => exact absurd ((eqv_sim h h').mp q) hd
  simp only [z]
  cases neg <;> rfl
end
/-! ### how long a repr is -/
mutual
def wid : PyData → Nat
  | .none => 4
  | .bool _ => 5
  | .int _ => 1921
  | .str x => 10 * x.length + 2
  | .list xs => wids xs + 3
  | .tuple xs => wids xs + 3
  | .dict _ => 0
def wids : List PyData → Nat
  | [] => 0
  | x :: xs => wid x + 2 + wids xs
end
mutual
/-- what can be shown, without dicts -/
def shw : PyData → Bool
  | .none => true
  | .bool _ => true
  | .int i => decide (i.natAbs.log2 < 1920)
  | .str x => x.cps.toList.all fun c => decide (c < 1114112)
  | .list xs => shws xs
  | .tuple xs => shws xs
  | .dict _ => false
def shws : List PyData → Bool
  | [] => true
  | x :: xs => shw x && shws xs
end
theorem textFrom_le : ∀ (ts : List Str) (k : Nat) (acc : Str), (textFrom k acc ts).length ≤ acc.length + piled ts
  | [], k, acc => by show acc.length ≤ _; omega
  | t :: ts, k, acc => by
    show (textFrom (k + 1) (acc ++ (if k > 0 then ", " else "" : String) ++ t) ts).length ≤ _
    have h := textFrom_le ts (k + 1) (acc ++ (if k > 0 then ", " else "" : String) ++ t)
    rw [strLen_append, strLen_append] at h
    have e : (((if k > 0 then ", " else "" : String) : Str)).length ≤ 2 := by split <;> decide
    rw [piled_cons]
    omega
mutual
theorem shown_len : ∀ (p : PyData), shw p = true → p.shown.length ≤ wid p ∧ p.showable = true
  | .none, _ => ⟨by simp only [PyData.shown]; decide, by simp [PyData.showable]⟩
  | .bool b, _ => ⟨by cases b <;> simp only [PyData.shown, wid] <;> decide, by simp [PyData.showable]⟩
  | .int i, h => by
    have h' : i.natAbs.log2 < 1920 := by simpa [shw] using h
    refine ⟨?_, by simpa [PyData.showable] using h'⟩
    simp only [PyData.shown, wid]
    exact int_text_len_1921 h'
  | .str x, h => by
    have h' : ∀ c ∈ x.cps.toList, c < 1114112 := by
      unfold shw at h
      simpa only [List.all_eq_true, decide_eq_true_eq] using h
    refine ⟨?_, by simp [PyData.showable]⟩
    simp only [PyData.shown, wid]
    exact StrLaws.reprText_len x fun c hc => Nat.lt_trans (h' c hc) (by decide)
  | .list xs, h => by
    have h' : shws xs = true := by simpa [shw] using h
    obtain ⟨h1, h2⟩ := showns_len xs h'
    refine ⟨?_, by simpa [PyData.showable] using h2⟩
    simp only [PyData.shown, wid]
    unfold listText
    rw [strLen_append]
    have h3 := textFrom_le (PyData.shownAll xs) 0 "["
    have e1 : ((("[" : String) : Str)).length = 1 := rfl
    have e2 : ((("]" : String) : Str)).length = 1 := rfl
    omega
  | .tuple xs, h => by
    have h' : shws xs = true := by simpa [shw] using h
    obtain ⟨h1, h2⟩ := showns_len xs h'
    refine ⟨?_, by simpa [PyData.showable] using h2⟩
    simp only [PyData.shown, wid]
    unfold tupleText
    rw [strLen_append, strLen_append]
    have e1 : ((("(" : String) : Str)).length = 1 := rfl
    have e2 : (((if (PyData.shownAll xs).length == 1 then ",)" else ")" : String) : Str)).length ≤ 2 := by split <;> decide
    by_cases hz : PyData.shownAll xs = []
    · rw [hz]
      have e3 : (Str.join ", " ([] : List Str)).length = 0 := rfl
      have e4 : (((if ([] : List Str).length == 1 then ",)" else ")" : String) : Str)).length = 1 := rfl
      omega
    · have h3 := join_length_add _ hz
      omega
  | .dict _, h => by simp [shw] at h
theorem showns_len : ∀ (ps : List PyData), shws ps = true → piled (PyData.shownAll ps) ≤ wids ps ∧ PyData.showableAll ps = true
  | [], _ => ⟨by simp [PyData.shownAll, wids, piled], by simp [PyData.showableAll]⟩
  | x :: xs, h => by
    have h' : shw x = true ∧ shws xs = true := by simpa [shws] using h
    obtain ⟨h1, h2⟩ := shown_len x h'.1
    obtain ⟨h3, h4⟩ := showns_len xs h'.2
    refine ⟨?_, by simp [PyData.showableAll, h2, h4]⟩
    simp only [PyData.shownAll, wids]
    rw [piled_cons]
    omega
end
theorem repr_eq {M : Mem} {d : D} {p : PyData} (h : pd M 60 d = some p) (h1 : shw p = true) (h2 : wid p ≤ 16777216) : reprN [d] M = some (.str p.shown.cps.toList, M) := by
  obtain ⟨a, b⟩ := shown_len p h1
  have c : p.shown.cps.toList.length ≤ 16777216 := by
    have e : p.shown.cps.toList.length = p.shown.length := rfl
    omega
  show (match pd M 60 d with | some p => (if (p.showable && decide (p.shown.cps.toList.length ≤ 16777216)) = true then some (D.str p.shown.cps.toList, M) else none) | none => none) = _
  rw [h]
  exact if_pos (by rw [b, decide_eq_true c]; rfl)
end G
set_option maxRecDepth 100000
set_option maxHeartbeats 4000000
/-! G15: loops and comprehensions of the mirrors. -/
namespace G
open PySem PySem.Spec PyProof.Rows L2
theorem big_pos : ∃ n, big = n + 1 := ⟨19999999, rfl⟩
section
variable {src : Src} {tg : Gg} {b : Gs} {tt : Gt} {te : Ge} {ρ : Rho} {M : Mem} {its : List D}
/-- a for statement: it runs through, or a return ends it -/
theorem for_inv2 (P : Nat → Rho → Mem → Prop) (Q : D → Mem → Prop) (hl : its.length < big) (h0 : P 0 ρ M) (hsrc : ∀ i ρ M, i ≤ its.length → P i ρ M → src i M = srcS its i M)
    (step : ∀ i ρ M d, its[i]? = some d → P i ρ M → ∃ ρ1 M1, tg d ρ M = some (ρ1, M1) ∧ ((∃ ρ2 M2, (b ρ1 M1 = .ok (.nx ρ2) M2 ∨ b ρ1 M1 = .ok (.ct ρ2) M2) ∧ P (i + 1) ρ2 M2) ∨ ∃ x M2, b ρ1 M1 = .ok (.rt x) M2 ∧ Q x M2)) :
    (∃ ρ' M', forG src tg b big 0 ρ M = .ok (.nx ρ') M' ∧ P its.length ρ' M') ∨ ∃ x M', forG src tg b big 0 ρ M = .ok (.rt x) M' ∧ Q x M' := by
  have key : ∀ (m n i : Nat) (ρ : Rho) (M : Mem), i + m = its.length → m < n → P i ρ M → (∃ ρ' M', forG src tg b n i ρ M = .ok (.nx ρ') M' ∧ P its.length ρ' M') ∨ ∃ x M', forG src tg b n i ρ M = .ok (.rt x) M' ∧ Q x M' := by
    intro m
    induction m with
    | zero =>
      intro n i ρ M e hn hp
      obtain ⟨n, rfl⟩ : ∃ k, n = k + 1 := ⟨n - 1, by omega⟩
      have e1 : i = its.length := by omega
      subst e1
      left
      refine ⟨ρ, M, ?_, hp⟩
      have hs := hsrc _ ρ M (Nat.le_refl _) hp
      have hz : srcS its its.length M = .stop := by
        unfold srcS
        rw [List.getElem?_eq_none (Nat.le_refl _)]
      rw [forG, hs, hz]
    | succ m ih =>
      intro n i ρ M e hn hp
      obtain ⟨n, rfl⟩ : ∃ k, n = k + 1 := ⟨n - 1, by omega⟩
      have hi : i < its.length := by omega
      have hd : its[i]? = some its[i] := List.getElem?_eq_getElem hi
      have hs := hsrc i ρ M (by omega) hp
      have hz : srcS its i M = .item its[i] := by
        unfold srcS
        rw [hd]
      obtain ⟨ρ1, M1, e1, e2 | e2⟩ := step i ρ M _ hd hp
      · obtain ⟨ρ2, M2, e3, p2⟩ := e2
        have q := ih n (i + 1) ρ2 M2 (by omega) (by omega) p2
        have ef : forG src tg b (n + 1) i ρ M = forG src tg b n (i + 1) ρ2 M2 := by
          rw [forG, hs, hz]
          dsimp only
          rw [e1]
          dsimp only
          rcases e3 with e3 | e3 <;> rw [e3]
        rw [ef]
        exact q
      · obtain ⟨x, M2, e3, q2⟩ := e2
        right
        refine ⟨x, M2, ?_, q2⟩
        rw [forG, hs, hz]
        dsimp only
        rw [e1]
        dsimp only
        rw [e3]
  exact key its.length big 0 ρ M (by omega) hl h0
theorem for_inv (P : Nat → Rho → Mem → Prop) (hl : its.length < big) (h0 : P 0 ρ M) (hsrc : ∀ i ρ M, i ≤ its.length → P i ρ M → src i M = srcS its i M)
    (step : ∀ i ρ M d, its[i]? = some d → P i ρ M → ∃ ρ1 M1 ρ2 M2, tg d ρ M = some (ρ1, M1) ∧ (b ρ1 M1 = .ok (.nx ρ2) M2 ∨ b ρ1 M1 = .ok (.ct ρ2) M2) ∧ P (i + 1) ρ2 M2) :
    ∃ ρ' M', forG src tg b big 0 ρ M = .ok (.nx ρ') M' ∧ P its.length ρ' M' := by
  rcases for_inv2 (src := src) (tg := tg) (b := b) P (fun _ _ => False) hl h0 hsrc (fun i ρ M d h p => by
    obtain ⟨ρ1, M1, ρ2, M2, a, c, e⟩ := step i ρ M d h p
    exact ⟨ρ1, M1, a, .inl ⟨ρ2, M2, c, e⟩⟩) with h | ⟨_, _, _, h⟩
  · exact h
  · exact h.elim
/-- a comprehension -/
theorem lc_inv (P : Nat → List D → Mem → Prop) (hl : its.length < big) (h0 : P 0 [] M) (hsrc : ∀ i ys M, i ≤ its.length → P i ys M → src i M = srcS its i M)
    (step : ∀ i ys M d, its[i]? = some d → P i ys M → ∃ ρ1 M1 M2, tg d ρ M = some (ρ1, M1) ∧ ((tt ρ1 M1 = .ok false M2 ∧ P (i + 1) ys M2) ∨ (tt ρ1 M1 = .ok true M2 ∧ ∃ y M3, te ρ1 M2 = .ok y M3 ∧ P (i + 1) (ys ++ [y]) M3))) :
    ∃ ys M', lcG src tg tt te ρ big 0 M = .ok ys M' ∧ P its.length ys M' := by
  have key : ∀ (m n i : Nat) (ys : List D) (M : Mem), i + m = its.length → m < n → P i ys M → ∃ zs M', lcG src tg tt te ρ n i M = .ok zs M' ∧ P its.length (ys ++ zs) M' := by
    intro m
    induction m with
    | zero =>
      intro n i ys M e hn hp
      obtain ⟨n, rfl⟩ : ∃ k, n = k + 1 := ⟨n - 1, by omega⟩
      have e1 : i = its.length := by omega
      subst e1
      refine ⟨[], M, ?_, by rw [List.append_nil]; exact hp⟩
      have hs := hsrc _ ys M (Nat.le_refl _) hp
      have hz : srcS its its.length M = .stop := by
        unfold srcS
        rw [List.getElem?_eq_none (Nat.le_refl _)]
      rw [lcG, hs, hz]
    | succ m ih =>
      intro n i ys M e hn hp
      obtain ⟨n, rfl⟩ : ∃ k, n = k + 1 := ⟨n - 1, by omega⟩
      have hi : i < its.length := by omega
      have hd : its[i]? = some its[i] := List.getElem?_eq_getElem hi
      have hs := hsrc i ys M (by omega) hp
      have hz : srcS its i M = .item its[i] := by
        unfold srcS
        rw [hd]
      obtain ⟨ρ1, M1, M2, e1, ⟨e2, p2⟩ | ⟨e2, y, M3, e3, p3⟩⟩ := step i ys M _ hd hp
      · obtain ⟨zs, M', ez, pz⟩ := ih n (i + 1) ys M2 (by omega) (by omega) p2
        refine ⟨zs, M', ?_, pz⟩
        rw [lcG, hs, hz]
        dsimp only
        rw [e1]
        dsimp only
        rw [e2]
        exact ez
      · obtain ⟨zs, M', ez, pz⟩ := ih n (i + 1) (ys ++ [y]) M3 (by omega) (by omega) p3
        refine ⟨y :: zs, M', ?_, by rw [List.append_assoc] at pz; exact pz⟩
        rw [lcG, hs, hz]
        dsimp only
        rw [e1]
        dsimp only
        rw [e2]
        dsimp only
        rw [e3]
        dsimp only
        rw [ez]
  obtain ⟨zs, M', a, c⟩ := key its.length big 0 [] M (by omega) hl h0
  exact ⟨zs, M', a, c⟩
/-- nothing is laid anew -/
theorem lc_pure (p : D → Bool) (f : D → D) (hl : its.length < big) (hsrc : ∀ i, src i M = srcS its i M) (step : ∀ d, d ∈ its → ∃ ρ1, tg d ρ M = some (ρ1, M) ∧ tt ρ1 M = .ok (p d) M ∧ (p d = true → te ρ1 M = .ok (f d) M)) :
    lcG src tg tt te ρ big 0 M = .ok ((its.filter p).map f) M := by
  obtain ⟨ys, M', e, h1, h2⟩ := lc_inv (src := src) (tg := tg) (tt := tt) (te := te) (ρ := ρ) (M := M) (its := its) (fun i ys M1 => M1 = M ∧ ys = ((its.take i).filter p).map f) hl ⟨rfl, rfl⟩ (fun i ys M1 _ h => by rw [h.1]; exact hsrc i)
    (fun i ys M1 d hd h => by
      obtain ⟨rfl, rfl⟩ := h
      obtain ⟨ρ1, a, b, c⟩ := step d (List.mem_of_getElem? hd)
      refine ⟨ρ1, M1, M1, a, ?_⟩
      have et : its.take (i + 1) = its.take i ++ [d] := by rw [List.take_add_one, hd]; rfl
      cases hp : p d with
      | false =>
        left
        refine ⟨by rw [b, hp], rfl, ?_⟩
        rw [et, List.filter_append]
        simp [hp]
      | true =>
        right
        refine ⟨by rw [b, hp], f d, M1, c hp, rfl, ?_⟩
        rw [et, List.filter_append]
        simp [hp])
  rw [e, h2, h1, List.take_length]
theorem lc_map (f : D → D) (hl : its.length < big) (hsrc : ∀ i, src i M = srcS its i M) (step : ∀ d, d ∈ its → ∃ ρ1, tg d ρ M = some (ρ1, M) ∧ tt ρ1 M = .ok true M ∧ te ρ1 M = .ok (f d) M) : lcG src tg tt te ρ big 0 M = .ok (its.map f) M := by
  have h := lc_pure (src := src) (tg := tg) (tt := tt) (te := te) (ρ := ρ) (M := M) (its := its) (fun _ => true) f hl hsrc (fun d hd => by
    obtain ⟨ρ1, a, b, c⟩ := step d hd
    exact ⟨ρ1, a, b, fun _ => c⟩)
  rw [h, List.filter_eq_self.mpr (fun _ _ => rfl)]
/-- a while statement by a measure -/
theorem while_inv {c : Gt} (P : Nat → Rho → Mem → Prop) (h0 : ∃ m, m < big ∧ P m ρ M)
    (step : ∀ m ρ M, P m ρ M → ∃ k M1, c ρ M = .ok k M1 ∧ (k = true → ∃ ρ2 M2 m', (b ρ M1 = .ok (.nx ρ2) M2 ∨ b ρ M1 = .ok (.ct ρ2) M2) ∧ m' < m ∧ P m' ρ2 M2)) :
    ∃ m ρ' M1 M', whileG c b big ρ M = .ok (.nx ρ') M' ∧ P m ρ' M1 ∧ c ρ' M1 = .ok false M' := by
  have key : ∀ (m n : Nat) (ρ : Rho) (M : Mem), m < n → P m ρ M → ∃ m ρ' M1 M', whileG c b n ρ M = .ok (.nx ρ') M' ∧ P m ρ' M1 ∧ c ρ' M1 = .ok false M' := by
    intro m
    induction m using Nat.strongRecOn with
    | ind m ih =>
      intro n ρ M hn hp
      obtain ⟨n, rfl⟩ : ∃ k, n = k + 1 := ⟨n - 1, by omega⟩
      obtain ⟨k, M1, e, h⟩ := step m ρ M hp
      cases k with
      | false =>
        refine ⟨m, ρ, M, M1, ?_, hp, e⟩
        rw [whileG, e]
        rfl
      | true =>
        obtain ⟨ρ2, M2, m', e2, hm, p2⟩ := h rfl
        obtain ⟨m3, ρ', M3, M', q1, q2, q3⟩ := ih m' hm n ρ2 M2 (by omega) p2
        refine ⟨m3, ρ', M3, M', ?_, q2, q3⟩
        rw [whileG, e]
        simp only [sBind, if_true]
        rcases e2 with e2 | e2 <;> rw [e2] <;> exact q1
  obtain ⟨m, hm, hp⟩ := h0
  exact key m big ρ M hm hp
end
/-! what is walked, as a list -/
section
variable {M : Mem} {xs ys : List D} {s t : Src}
def zipD (xs ys : List D) : List D := List.zipWith (fun a b => .tup [a, b]) xs ys
def enumD (xs : List D) : List D := List.zipWith (fun (i : Nat) d => .tup [.int (i : Int), d]) (List.range xs.length) xs
def rngD (lo : Int) (n : Nat) (c : Int) : List D := (List.range n).map fun (k : Nat) => .int (lo + (k : Int) * c)
theorem srcM_is {n : Nat} (h : M[n]? = some (.lst xs)) (i : Nat) : srcM n i M = srcS xs i M := by
  unfold srcM srcS
  rw [h]
theorem srcC_is {s : List Nat} (i : Nat) : srcC s i M = srcS (s.map fun c => .str [c]) i M := by
  unfold srcC srcS
  rw [List.getElem?_map]
  cases s[i]? <;> rfl
theorem srcR_is {lo c : Int} {n : Nat} (i : Nat) : srcR lo n c i M = srcS (rngD lo n c) i M := by
  unfold srcR srcS rngD
  rw [List.getElem?_map]
  by_cases h : i < n
  · rw [if_pos h, List.getElem?_range h]
    rfl
  · rw [if_neg h, List.getElem?_eq_none (by rw [List.length_range]; omega)]
    rfl
theorem srcE_is (hs : ∀ i, s i M = srcS xs i M) (i : Nat) : srcE s i M = srcS (enumD xs) i M := by
  unfold srcE
  rw [hs]
  unfold srcS enumD
  rw [List.getElem?_zipWith]
  cases h : xs[i]? with
  | none =>
    have hn : ¬ i < xs.length := fun z => by rw [List.getElem?_eq_getElem z] at h; cases h
    rw [List.getElem?_eq_none (l := List.range xs.length) (by rw [List.length_range]; omega)]
  | some d =>
    have hn : i < xs.length := (List.getElem?_eq_some_iff.mp h).1
    rw [List.getElem?_range hn]
theorem srcZ_is (hs : ∀ i, s i M = srcS xs i M) (ht : ∀ i, t i M = srcS ys i M) (i : Nat) : srcZ s t i M = srcS (zipD xs ys) i M := by
  unfold srcZ
  rw [hs, ht]
  unfold srcS zipD
  rw [List.getElem?_zipWith]
  cases xs[i]? with
  | none => rfl
  | some d => cases ys[i]? <;> rfl
theorem srcZ'_is (hs : ∀ i, s i M = srcS xs i M) (ht : ∀ i, t i M = srcS ys i M) (i : Nat) : srcZ' s t i M = srcS (zipD xs ys) i M := by
  unfold srcZ' zComb
  rw [hs, ht]
  unfold srcS zipD
  rw [List.getElem?_zipWith]
  cases xs[i]? with
  | none => cases ys[i]? <;> rfl
  | some d => cases ys[i]? <;> rfl
theorem enumD_len : (enumD xs).length = xs.length := by
  unfold enumD
  rw [List.length_zipWith, List.length_range, Nat.min_self]
theorem rngD_len {lo c : Int} {n : Nat} : (rngD lo n c).length = n := by
  unfold rngD
  rw [List.length_map, List.length_range]
theorem zipD_len : (zipD xs ys).length = min xs.length ys.length := List.length_zipWith
/-! memory -/
theorem mem_new {o : Ob} : (M ++ [o])[M.length]? = some o := by simp
theorem mem_old {o : Ob} {n : Nat} {M' : Mem} (h : M[n]? = some o) : (M ++ M')[n]? = some o := by
  rw [List.getElem?_append_left (List.getElem?_eq_some_iff.mp h).1]
  exact h
theorem mem_set {o o' : Ob} {n : Nat} (h : M[n]? = some o) : (M.set n o')[n]? = some o' := List.getElem?_set_self (List.getElem?_eq_some_iff.mp h).1
theorem mem_set_ne {n m : Nat} {o' : Ob} (h : n ≠ m) : (M.set n o')[m]? = M[m]? := List.getElem?_set_ne h
end
end G
set_option maxRecDepth 100000
set_option maxHeartbeats 4000000
/-! G16: built-ins at given data. -/
namespace G
open PySem PySem.Spec PyProof.Rows L2
section
variable {M : Mem} {d x y : D} {t : Ty} {b : Bool} {i j : Int} {n : Nat} {xs ys : List D} {s : List Nat} {kvs : List (D × D)}
def isK (M : Mem) : Option Bool → Option (D × Mem)
  | some b => some (.bl b, M)
  | none => none
theorem oIsi : isiN [d, .ty t] M = isK M (isiT M d t) := by
  show (match isiT M d t with | some b => some (D.bl b, M) | none => none) = _
  cases isiT M d t <;> rfl
theorem oIsi1 : isK M (some b) = some (.bl b, M) := rfl
theorem iNon : isiT M .non t = some false := rfl
theorem iBl : isiT M (.bl b) t = some (match t with | .bool => true | .int => true | _ => false) := by cases t <;> rfl
theorem iInt : isiT M (.int i) t = some (match t with | .int => true | _ => false) := by cases t <;> rfl
theorem iStr : isiT M (.str s) t = some (match t with | .str => true | _ => false) := by cases t <;> rfl
theorem iTup : isiT M (.tup xs) t = some (match t with | .tup => true | _ => false) := by cases t <;> rfl
theorem iRol : isiT M (.rol xs) t = some (match t with | .lst => true | _ => false) := by cases t <;> rfl
theorem iLst (h : M[n]? = some (.lst xs)) : isiT M (.ref n) t = some (match t with | .lst => true | _ => false) := by
  show (match M[n]? with | some (Ob.lst _) => _ | some (Ob.dic false _) => _ | _ => none) = _
  rw [h]
  cases t <;> rfl
theorem iDic (h : M[n]? = some (.dic false kvs)) : isiT M (.ref n) t = some (match t with | .dic => true | _ => false) := by
  show (match M[n]? with | some (Ob.lst _) => _ | some (Ob.dic false _) => _ | _ => none) = _
  rw [h]
  cases t <;> rfl
theorem oEqI : eqM false (.int i) (.int j) M = some (.bl (decide (i = j)), M) := by
  show some (D.bl (i == j), M) = _
  congr 3
theorem oNeI : eqM true (.int i) (.int j) M = some (.bl (!decide (i = j)), M) := by
  show some (D.bl (!(i == j)), M) = _
  congr 3
theorem oLtI : ltM (.int i) (.int j) M = some (.bl (decide (i < j)), M) := rfl
theorem oPow30 : powM (.int 10) (.int 30) M = some (.int 1000000000000000000000000000000, M) := by
  unfold powM
  simp
theorem oPow18 : powM (.int 10) (.int 18) M = some (.int 1000000000000000000, M) := by
  unfold powM
  simp
theorem oPow9 : powM (.int 10) (.int 9) M = some (.int 1000000000, M) := by
  unfold powM
  simp
theorem oIxT (h : atD xs i = some d) : ixM (.tup xs) (.int i) M = some (d, M) := by
  show (match atD xs i with | some d => some (d, M) | none => none) = _
  rw [h]
theorem oIxR (h : atD xs i = some d) : ixM (.rol xs) (.int i) M = some (d, M) := by
  show (match atD xs i with | some d => some (d, M) | none => none) = _
  rw [h]
theorem oIxL (h0 : M[n]? = some (.lst xs)) (h : atD xs i = some d) : ixM (.ref n) (.int i) M = some (d, M) := by
  simp only [ixM, h0, h]
theorem at0 : atD (x :: xs) 0 = some x := rfl
theorem at1 : atD (x :: y :: xs) 1 = some y := rfl
theorem at2 {z : D} : atD (x :: y :: z :: xs) 2 = some z := rfl
theorem atN_nat {k : Nat} (h : xs[k]? = some d) : atD xs (k : Int) = some d := by
  unfold atD
  rw [if_pos (by omega)]
  simpa using h
theorem at_pos (h0 : 0 ≤ i) (h : xs[i.toNat]? = some d) : atD xs i = some d := by
  unfold atD
  rw [if_pos h0]
  exact h
theorem at_last (h : xs.getLast? = some d) : atD xs (-1) = some d := by
  unfold atD
  have hne : xs ≠ [] := fun z => by rw [z] at h; cases h
  have hl : 0 < xs.length := List.length_pos_iff.mpr hne
  rw [if_neg (by omega), if_pos (by omega)]
  rw [List.getLast?_eq_getElem?] at h
  have : (-1 + (xs.length : Int)).toNat = xs.length - 1 := by omega
  rw [this]
  exact h
theorem cut_from {α : Type} {xs : List α} {k : Nat} : cutD xs (some (k : Int)) none = xs.drop k := by
  unfold cutD
  rw [HT.sIx_none, HT.sIx_nat]
  rw [List.take_of_length_le (by rw [List.length_drop]; omega)]
  by_cases h : k ≤ xs.length
  · rw [Nat.min_eq_left h]
  · rw [Nat.min_eq_right (by omega), List.drop_eq_nil_of_le (Nat.le_refl _), List.drop_eq_nil_of_le (by omega)]
theorem cut_to {α : Type} {xs : List α} {k : Nat} : cutD xs none (some (k : Int)) = xs.take k := by
  unfold cutD
  rw [HT.sIx_none, HT.sIx_nat]
  rw [List.drop_zero, Nat.sub_zero]
  by_cases h : k ≤ xs.length
  · rw [Nat.min_eq_left h]
  · rw [Nat.min_eq_right (by omega), List.take_of_length_le (Nat.le_refl _), List.take_of_length_le (by omega)]
theorem cut_neg1 {α : Type} {xs : List α} : cutD xs none (some (-1)) = xs.dropLast := by
  unfold cutD
  rw [HT.sIx_none, List.drop_zero, Nat.sub_zero, List.dropLast_eq_take]
  congr 1
  show (if (-1 : Int) < 0 then (-1 + (xs.length : Int)).toNat else min (-1 : Int).toNat xs.length) = _
  rw [if_pos (by decide)]
  omega
theorem cut_last {α : Type} {xs : List α} : cutD xs (some (-1)) none = xs.drop (xs.length - 1) := by
  unfold cutD
  rw [HT.sIx_none]
  have e : HT.sIx xs.length 0 (some (-1)) = xs.length - 1 := by
    show (if (-1 : Int) < 0 then (-1 + (xs.length : Int)).toNat else min (-1 : Int).toNat xs.length) = _
    rw [if_pos (by decide)]
    omega
  rw [e, List.take_of_length_le (by rw [List.length_drop]; omega)]
def subK3 (ρ : Rho) : Option Mem → Option (Rho × Mem)
  | some M => some (ρ, M)
  | none => none
def subK2 (o d : D) (ρ : Rho) : R D → Option (Rho × Mem)
  | .ok i M => subK3 ρ (setM o i d M)
  | _ => none
def subK (gi : Ge) (d : D) (ρ : Rho) : R D → Option (Rho × Mem)
  | .ok o M => subK2 o d ρ (gi ρ M)
  | _ => none
theorem tSub {go gi : Ge} {ρ : Rho} : gSub go gi d ρ M = subK gi d ρ (go ρ M) := by
  unfold gSub
  cases go ρ M with
  | ok o M1 =>
    show (match gi ρ M1 with | .ok i M2 => (match setM o i d M2 with | some M3 => some (ρ, M3) | none => none) | _ => none) = subK2 o d ρ (gi ρ M1)
    cases gi ρ M1 with
    | ok i M2 =>
      show (match setM o i d M2 with | some M3 => some (ρ, M3) | none => none) = subK3 ρ (setM o i d M2)
      cases setM o i d M2 <;> rfl
    | ex e M2 => rfl
    | no => rfl
  | ex e M1 => rfl
  | no => rfl
theorem tSub1 {gi : Ge} {ρ : Rho} {o : D} : subK gi d ρ (.ok o M) = subK2 o d ρ (gi ρ M) := rfl
theorem tSub2 {ρ : Rho} {o i : D} : subK2 o d ρ (.ok i M) = subK3 ρ (setM o i d M) := rfl
theorem tSub3 {ρ : Rho} : subK3 ρ (some M) = some (ρ, M) := rfl
theorem oSetL {k : Int} {j : Nat} (h : M[n]? = some (.lst xs)) (h2 : ixN xs.length k = some j) : setM (.ref n) (.int k) d M = some (M.set n (.lst (xs.set j d))) := by
  simp only [setM, h, h2]
theorem log2_lt64 {n : Nat} (h : n < 18446744073709551616) : n.log2 < 64 := by
  by_cases h0 : n = 0
  · subst h0
    decide
  · exact (Nat.log2_lt h0).mpr h
theorem mulOk_of (h1 : i.natAbs < 18446744073709551616) (h2 : j.natAbs < 18446744073709551616) : mulOk i j = true := by
  have a := log2_lt64 h1
  have b := log2_lt64 h2
  unfold mulOk
  exact decide_eq_true (by omega)
theorem oMul (h : mulOk i j = true) : mulM (.int i) (.int j) M = some (.int (i * j), M) := by
  simp only [mulM, h, if_true]
theorem oMod (h : 0 < j) : modM (.int i) (.int j) M = some (.int (i % j), M) := by
  simp only [modM, h, if_true]
theorem oFdiv (h : 0 < j) (h2 : j.natAbs < 18446744073709551616) : fdivM (.int i) (.int j) M = some (.int (i / j), M) := by
  have a := log2_lt64 h2
  unfold fdivM
  exact if_pos ⟨h, by omega⟩
theorem oDmod (h : 0 < j) (h2 : j.natAbs < 18446744073709551616) : dmodN [.int i, .int j] M = some (.tup [.int (i / j), .int (i % j)], M) := by
  have a := log2_lt64 h2
  unfold dmodN
  exact if_pos ⟨h, by omega⟩
theorem oInt : intN [.int i] M = some (.int i, M) := rfl
theorem oAbs : absN [.int i] M = some (.int (if i < 0 then -i else i), M) := rfl
theorem oMax2 : maxN [.int i, .int j] M = some (.int (if j > i then j else i), M) := rfl
theorem sT : srcOf M (.tup xs) = some (srcS xs) := rfl
theorem sR : srcOf M (.rol xs) = some (srcS xs) := rfl
theorem sS : srcOf M (.str s) = some (srcC s) := rfl
theorem sL (h : M[n]? = some (.lst xs)) : srcOf M (.ref n) = some (srcM n) := by
  simp only [srcOf, h]
theorem oAddI : addM (.int i) (.int j) M = some (.int (i + j), M) := rfl
theorem oAddT (h : xs.length + ys.length ≤ 16777216) : addM (.tup xs) (.tup ys) M = some (.tup (xs ++ ys), M) := if_pos h
theorem oAddL {m : Nat} (h1 : M[n]? = some (.lst xs)) (h2 : M[m]? = some (.lst ys)) (h : xs.length + ys.length ≤ 16777216) : addM (.ref n) (.ref m) M = some (.ref M.length, M ++ [.lst (xs ++ ys)]) := by
  simp only [addM, h1, h2, h, if_true]
theorem oSubI : subM (.int i) (.int j) M = some (.int (i - j), M) := rfl
theorem oLeI : leM (.int i) (.int j) M = some (.bl (decide (i ≤ j)), M) := rfl
theorem oGtI : gtM (.int i) (.int j) M = some (.bl (decide (j < i)), M) := rfl
theorem oGeI : geM (.int i) (.int j) M = some (.bl (decide (j ≤ i)), M) := rfl
theorem oIsB {c : Bool} : isM false (.bl b) (.bl c) M = some (.bl (decide (b = c)), M) := rfl
theorem oIsntB {c : Bool} : isM true (.bl b) (.bl c) M = some (.bl (!decide (b = c)), M) := rfl
theorem oIsN : isM false x .non M = some (.bl (isNon x), M) := by cases x <;> rfl
theorem oIsntN : isM true x .non M = some (.bl (!isNon x), M) := by cases x <;> rfl
theorem oLenT : lenN [.tup xs] M = some (.int xs.length, M) := rfl
theorem oLenR : lenN [.rol xs] M = some (.int xs.length, M) := rfl
theorem oLenS : lenN [.str s] M = some (.int s.length, M) := rfl
theorem oLenL (h : M[n]? = some (.lst xs)) : lenN [.ref n] M = some (.int xs.length, M) := by
  simp only [lenN, h]
/-! all, any, sum over what a comprehension has laid -/
theorem bols_map (f : D → Bool) : ∀ xs : List D, bolsM (xs.map fun d => .bl (f d)) = some (xs.map f)
  | [] => rfl
  | x :: xs => by
    rw [List.map_cons, List.map_cons, bolsM, bols_map f xs]
theorem ints_map {α : Type} (f : α → Int) : ∀ xs : List α, intsM (xs.map fun d => .int (f d)) = some (xs.map f)
  | [] => rfl
  | x :: xs => by
    rw [List.map_cons, List.map_cons, intsM, ints_map f xs]
theorem oAll {M : Mem} {bs : List Bool} (h : M[n]? = some (.lst xs)) (hb : bolsM xs = some bs) : allN [.ref n] M = some (.bl (bs.all id), M) := by
  have e : lstM M (.ref n) = some xs := by simp only [lstM, h]
  show (match lstM M (.ref n) with | some xs => (match bolsM xs with | some bs => some (D.bl (bs.all id), M) | none => none) | none => none) = _
  rw [e]
  dsimp only
  rw [hb]
theorem oAny {M : Mem} {bs : List Bool} (h : M[n]? = some (.lst xs)) (hb : bolsM xs = some bs) : anyN [.ref n] M = some (.bl (bs.any id), M) := by
  have e : lstM M (.ref n) = some xs := by simp only [lstM, h]
  show (match lstM M (.ref n) with | some xs => (match bolsM xs with | some bs => some (D.bl (bs.any id), M) | none => none) | none => none) = _
  rw [e]
  dsimp only
  rw [hb]
theorem oSum {M : Mem} {is : List Int} (h : M[n]? = some (.lst xs)) (hb : intsM xs = some is) : sumN [.ref n] M = some (.int is.sum, M) := by
  have e : lstM M (.ref n) = some xs := by simp only [lstM, h]
  show (match lstM M (.ref n) with | some xs => (match intsM xs with | some is => some (D.int is.sum, M) | none => none) | none => none) = _
  rw [e]
  dsimp only
  rw [hb]
theorem oTup {M : Mem} (h : M[n]? = some (.lst xs)) : tupN [.ref n] M = some (.tup xs, M) := by
  have e : seqM M (.ref n) = some xs := by simp only [seqM, h]
  show (match seqM M (.ref n) with | some xs => some (D.tup xs, M) | none => none) = _
  rw [e]
/-- all([..]) of a comprehension that lays nothing else -/
theorem all_lc {tg : Gg} {tt : Gt} {te : Ge} {ρ ρ' : Rho} {src : Src} {its : List D} (f : D → Bool) (hl : its.length ≤ 16777216) (hsrc : ∀ i, src i M = srcS its i M)
    (step : ∀ d, d ∈ its → ∃ ρ1, tg d ρ M = some (ρ1, M) ∧ tt ρ1 M = .ok true M ∧ te ρ1 M = .ok (.bl (f d)) M) :
    cbK allN (consK gNil ρ' (lcK2 (lcG src tg tt te ρ big 0 M))) = .ok (.bl (its.all f)) (M ++ [.lst (its.map fun d => .bl (f d))]) := by
  rw [lc_map (fun d => .bl (f d)) (Nat.lt_of_le_of_lt hl (by decide)) hsrc step, aLc2 (by rw [List.length_map]; exact hl), aCons1, aNil, aCons2, aCB1, oAll mem_new (bols_map f its), aOf]
  congr 2
  induction its with
  | nil => rfl
  | cons a r ih => simp
end
end G
set_option maxRecDepth 100000
set_option maxHeartbeats 4000000
/-! G17: < of rows of data. -/
namespace G
open PySem PySem.W PyProof.Rows
/-- < of two rows of data -/
def ltA (xs ys : List PyData) : Bool := lexLt itemOrd (keyToksAll xs) (keyToksAll ys)
theorem ltA_nn : ltA [] [] = false := by
  unfold ltA
  rw [lex_irrefl]
theorem ltA_nc {y : PyData} {ys : List PyData} : ltA [] (y :: ys) = true := by
  unfold ltA
  rw [toks_all_cons]
  simp only [keyToksAll]
  rw [lex_diff (O := itemOrd) (by simp)]
  simp [itemLt]
theorem ltA_cn {y : PyData} {ys : List PyData} : ltA (y :: ys) [] = false := by
  unfold ltA
  rw [toks_all_cons]
  simp only [keyToksAll]
  rw [lex_diff (O := itemOrd) (by simp)]
  simp [itemLt]
theorem ltA_same {x y : PyData} {xs ys : List PyData} (h : alike x y = true) (e : PyData.eqv x y = true) : ltA (x :: xs) (y :: ys) = ltA xs ys := dataLt_all_yes h e
theorem ltA_diff {x y : PyData} {xs ys : List PyData} (h : alike x y = true) (e : PyData.eqv x y = false) : ltA (x :: xs) (y :: ys) = dataLt x y := dataLt_all_no h e
theorem ltA_int {i j : Int} {xs ys : List PyData} : ltA (.int i :: xs) (.int j :: ys) = if i = j then ltA xs ys else decide (i < j) := by
  have ha : alike (.int i) (.int j) = true := by simp [alike]
  by_cases e : i = j
  · rw [if_pos e, ltA_same ha (by simp [PyData.eqv, e])]
  · rw [if_neg e, ltA_diff ha (by simp [PyData.eqv, e]), dataLt_int]
theorem alikeAll_int : ∀ (xs ys : List Int), alikeAll (xs.map PyData.int) (ys.map PyData.int) = true
  | [], _ => by simp [alikeAll]
  | _ :: _, [] => by simp [alikeAll]
  | x :: xs, y :: ys => by
    rw [List.map_cons, List.map_cons, alikeAll, alikeAll_int xs ys, Bool.and_true]
    simp [alike]
/-- < of two rows of numbers -/
def ltI : List Int → List Int → Bool
  | [], [] => false
  | [], _ :: _ => true
  | _ :: _, [] => false
  | x :: xs, y :: ys => if x = y then ltI xs ys else decide (x < y)
theorem ltA_ints : ∀ (xs ys : List Int), ltA (xs.map PyData.int) (ys.map PyData.int) = ltI xs ys
  | [], [] => ltA_nn
  | [], _ :: _ => ltA_nc
  | _ :: _, [] => ltA_cn
  | x :: xs, y :: ys => by
    rw [List.map_cons, List.map_cons, ltA_int, ltA_ints xs ys]
    rfl
theorem eqvAll_ints : ∀ (xs ys : List Int), PyData.eqvAll (xs.map PyData.int) (ys.map PyData.int) = decide (xs = ys)
  | [], [] => by simp [PyData.eqvAll]
  | [], _ :: _ => by simp [PyData.eqvAll]
  | _ :: _, [] => by simp [PyData.eqvAll]
  | x :: xs, y :: ys => by
    rw [List.map_cons, List.map_cons, PyData.eqvAll, eqvAll_ints xs ys]
    simp [PyData.eqv]
    rfl
/-! pairs of numbers -/
abbrev PQ := List (Int × Int)
def encP (p : Int × Int) : D := .tup [.int p.1, .int p.2]
def encL (l : PQ) : D := .tup (l.map encP)
def pyP (p : Int × Int) : PyData := .tuple [.int p.1, .int p.2]
theorem py_encP (p : Int × Int) : py (encP p) = pyP p := by simp [encP, py, pys, pyP]
theorem pys_encL : ∀ l : PQ, pys (l.map encP) = l.map pyP
  | [] => by simp [pys]
  | p :: l => by simp [pys, py_encP, pys_encL l]
theorem sim_encP (p : Int × Int) : sim 1 (encP p) = true := by simp [encP, sim, sims]
theorem sims_encL : ∀ l : PQ, sims 1 (l.map encP) = true
  | [] => by simp [sims]
  | p :: l => by
    rw [List.map_cons]
    unfold sims
    rw [sim_encP, sims_encL l]
    rfl
theorem sim_encL (l : PQ) : sim 2 (encL l) = true := by
  unfold encL sim
  exact sims_encL l
theorem encP_inj {p q : Int × Int} (h : encP p = encP q) : p = q := by
  unfold encP at h
  simp only [D.tup.injEq, List.cons.injEq, D.int.injEq] at h
  exact Prod.ext h.1 h.2.1
theorem encL_inj {a b : PQ} (h : encL a = encL b) : a = b := by
  unfold encL at h
  have h' : a.map encP = b.map encP := D.tup.inj h
  induction a generalizing b with
  | nil => cases b with
    | nil => rfl
    | cons y ys => cases h'
  | cons x xs ih => cases b with
    | nil => cases h'
    | cons y ys =>
      rw [List.map_cons, List.map_cons] at h'
      have h1 := List.cons.inj h'
      rw [encP_inj h1.1, ih (by rw [h1.2]) h1.2]
theorem noRefs_encL : ∀ l : PQ, noRefs (l.map encP) = true
  | [] => rfl
  | p :: l => noRefs_encL l
theorem noRef_encL (l : PQ) : noRef (encL l) = true := noRefs_encL l
def lexL : PQ → PQ → Bool
  | [], [] => false
  | [], _ :: _ => true
  | _ :: _, [] => false
  | x :: xs, y :: ys => if x = y then lexL xs ys else if x.1 = y.1 then decide (x.2 < y.2) else decide (x.1 < y.1)
theorem alike_pyP (p q : Int × Int) : alike (pyP p) (pyP q) = true := by simp [pyP, alike, alikeAll]
theorem alikeAll_pyP : ∀ (a b : PQ), alikeAll (a.map pyP) (b.map pyP) = true
  | [], _ => by simp [alikeAll]
  | _ :: _, [] => by simp [alikeAll]
  | x :: xs, y :: ys => by
    rw [List.map_cons, List.map_cons, alikeAll, alike_pyP, alikeAll_pyP xs ys]
    rfl
theorem ltA_pyP : ∀ (a b : PQ), ltA (a.map pyP) (b.map pyP) = lexL a b
  | [], [] => ltA_nn
  | [], _ :: _ => ltA_nc
  | _ :: _, [] => ltA_cn
  | x :: xs, y :: ys => by
    rw [List.map_cons, List.map_cons]
    show _ = if x = y then lexL xs ys else if x.1 = y.1 then decide (x.2 < y.2) else decide (x.1 < y.1)
    have he : PyData.eqv (pyP x) (pyP y) = decide (x.1 = y.1 ∧ x.2 = y.2) := by
      simp [pyP, PyData.eqv, PyData.eqvAll]
      rfl
    by_cases e : x = y
    · subst e
      rw [if_pos rfl, ltA_same (alike_pyP x x) (by rw [he]; simp), ltA_pyP xs ys]
    · have hne : ¬ (x.1 = y.1 ∧ x.2 = y.2) := fun z => e (Prod.ext z.1 z.2)
      rw [if_neg e, ltA_diff (alike_pyP x y) (by rw [he]; exact decide_eq_false hne)]
      unfold pyP
      rw [dataLt_tuple]
      show ltA [.int x.1, .int x.2] [.int y.1, .int y.2] = _
      rw [ltA_int, ltA_int]
      by_cases e1 : x.1 = y.1
      · rw [if_pos e1, if_pos e1, if_neg (fun z => hne ⟨e1, z⟩)]
      · rw [if_neg e1, if_neg e1]
theorem lt_encL {M : Mem} (a b : PQ) : ltM (encL a) (encL b) M = some (.bl (lexL a b), M) := by
  unfold encL
  show (match pd M 60 (.tup (a.map encP)) with | none => none | some p => (match pd M 60 (.tup (b.map encP)) with | none => none | some q => if (alike p q && notNone p) = true then some (D.bl (dataLt p q), M) else none)) = _
  have e : ∀ l : PQ, pd M 60 (.tup (l.map encP)) = some (.tuple (l.map pyP)) := fun l => by
    have h := pd_sim (M := M) (sim_encL l) 60 (by decide)
    unfold encL at h
    rw [h, py, pys_encL]
  rw [e, e]
  have h2 : alike (.tuple (a.map pyP)) (.tuple (b.map pyP)) = true := by
    rw [alike]
    exact alikeAll_pyP a b
  simp only [h2, notNone, Bool.true_and, if_true]
  rw [dataLt_tuple]
  show some (D.bl (ltA (a.map pyP) (b.map pyP)), M) = _
  rw [ltA_pyP]
theorem eq_encL {M : Mem} (neg : Bool) (a b : PQ) : eqM neg (encL a) (encL b) M = some (.bl (if neg then !decide (a = b) else decide (a = b)), M) := by
  by_cases h : a = b
  · subst h
    rw [eq_yes (sim_encL a) (by decide)]
    cases neg <;> simp
  · rw [eq_no (sim_encL a) (sim_encL b) (by decide) (by decide) (fun z => h (encL_inj z))]
    cases neg <;> simp [h]
theorem eq_encL0 {M : Mem} (neg : Bool) (a : PQ) : eqM neg (encL a) (.tup []) M = some (.bl (if neg then !decide (a = []) else decide (a = [])), M) := eq_encL neg a []
/-! rows of numbers in the memory -/
abbrev row (r : List Int) : Option Ob := some (.lst (r.map D.int))
theorem pd_row {M : Mem} {n : Nat} {r : List Int} (h : M[n]? = row r) : pd M 60 (.ref n) = some (.list (r.map PyData.int)) := by
  have e : ∀ l : List Int, mapO (pd M 59) (l.map D.int) = some (l.map PyData.int) := by
    intro l
    induction l with
    | nil => rfl
    | cons x l ih =>
      rw [List.map_cons, mapO, show pd M 59 (D.int x) = some (PyData.int x) from rfl]
      simp only [ih]
      rfl
  show (match M[n]? with | some (.lst xs) => (match mapO (pd M 59) xs with | some ys => some (PyData.list ys) | none => none) | _ => none) = _
  rw [h]
  simp only [e]
theorem eq_rows {M : Mem} {n m : Nat} {r s : List Int} (neg : Bool) (h : M[n]? = row r) (h' : M[m]? = row s) : eqM neg (.ref n) (.ref m) M = some (.bl (if neg then !decide (r = s) else decide (r = s)), M) := by
  unfold eqM
  rw [pd_row h, pd_row h']
  simp only [PyData.eqv, eqvAll_ints]
theorem oEn {M : Mem} {n : Nat} {xs : List D} (h : M[n]? = some (.lst xs)) : enumF [.ref n] M = .ok (srcE (srcM n)) M := by
  show (match M[n]? with | some (.lst _) => R.ok (srcE (srcM n)) M | _ => .no) = _
  rw [h]
theorem oRev {M : Mem} {n : Nat} {xs : List D} (h : M[n]? = some (.lst xs)) : rev2M (.ref n) M = some (.ref M.length, M ++ [.lst xs.reverse]) := by
  show (match M[n]? with | some (.lst xs) => some (D.ref M.length, M ++ [Ob.lst xs.reverse]) | _ => none) = _
  rw [h]
theorem oRevT {M : Mem} {xs : List D} : rev2M (.tup xs) M = some (.tup xs.reverse, M) := rfl
theorem oRep {M : Mem} {n : Nat} {xs : List D} {k : Nat} (h : M[n]? = some (.lst xs)) (hk : k ≤ 1000000) (hx : xs.length ≤ 16) : mulM (.ref n) (.int k) M = some (.ref M.length, M ++ [.lst (List.replicate k xs).flatten]) := by
  show (match M[n]? with | some (.lst xs) => (if -9223372036854775808 ≤ (k : Int) ∧ (k : Int) < 9223372036854775808 ∧ xs.length * (k : Int).toNat ≤ 16777216 then some (D.ref M.length, M ++ [Ob.lst (List.replicate (k : Int).toNat xs).flatten]) else none) | _ => none) = _
  rw [h]
  have e : xs.length * (k : Int).toNat ≤ 16777216 := by
    rw [Int.toNat_natCast]
    exact Nat.le_trans (Nat.mul_le_mul hx hk) (by decide)
  simp only [Int.toNat_natCast]
  rw [Int.toNat_natCast] at e
  exact if_pos ⟨by omega, by omega, e⟩
theorem flat_rep {α : Type} (x : α) : ∀ k : Nat, (List.replicate k [x]).flatten = List.replicate k x
  | 0 => rfl
  | k + 1 => by
    rw [List.replicate_succ, List.flatten_cons, flat_rep x k]
    rfl
theorem aRng1n {M : Mem} {n : Nat} (h : n ≤ 1000000) : rng1K (.ok (.int n) M) = .ok (srcR 0 n 1) M := by
  have e := aRng1a (M := M) (j := (n : Int)) (by omega)
  rw [Int.toNat_natCast] at e
  exact e
/-! told: the places above 0, the greatest ahead -/
def toldN (r : List Int) : Nat → PQ
  | 0 => []
  | n + 1 => if 0 < r.getD n 0 then ((n : Int), r.getD n 0) :: toldN r n else toldN r n
def told (r : List Int) : PQ := toldN r r.length
def posP : D → Bool
  | .tup [_, .int m] => decide (0 < m)
  | _ => false
theorem told_enum (r : List Int) : ((enumD (r.map D.int)).filter posP).reverse = (told r).map encP := by
  have key : ∀ n, n ≤ r.length → (((enumD (r.map D.int)).take n).filter posP).reverse = (toldN r n).map encP := by
    intro n
    induction n with
    | zero => intro _; rfl
    | succ n ih =>
      intro hn
      have hl : (enumD (r.map D.int)).length = r.length := by rw [enumD_len, List.length_map]
      have hg : (enumD (r.map D.int))[n]? = some (.tup [.int n, .int (r.getD n 0)]) := by
        unfold enumD
        rw [List.getElem?_zipWith, List.length_map, List.getElem?_range (by omega), List.getElem?_map, List.getElem?_eq_getElem (by omega)]
        simp only [Option.map_some]
        rw [List.getD_eq_getElem?_getD, List.getElem?_eq_getElem (by omega)]
        rfl
      rw [List.take_add_one, hg, List.filter_append, List.reverse_append, ih (by omega)]
      show (List.filter posP [D.tup [D.int n, D.int (r.getD n 0)]]).reverse ++ _ = List.map encP (if 0 < r.getD n 0 then ((n : Int), r.getD n 0) :: toldN r n else toldN r n)
      by_cases h : 0 < r.getD n 0
      · rw [if_pos h]
        have e : posP (D.tup [D.int n, D.int (r.getD n 0)]) = true := decide_eq_true h
        rw [List.filter_cons, e]
        rfl
      · rw [if_neg h]
        have e : posP (D.tup [D.int n, D.int (r.getD n 0)]) = false := decide_eq_false h
        rw [List.filter_cons, e]
        rfl
  have h := key r.length (Nat.le_refl _)
  rw [List.take_of_length_le (by rw [enumD_len, List.length_map]; exact Nat.le_refl _)] at h
  exact h
end G
set_option maxRecDepth 100000
set_option maxHeartbeats 4000000
/-! G18: built-ins at places of the memory: each asks what stands there. -/
namespace G
open PySem
section
variable {M X : Mem} {n m i : Nat} {xs ys : List D} {d x y : D} {k : Int} {lo hi : Option Int} {t : Ty}
theorem memAt0 : (M ++ X)[M.length]? = X[0]? := by
  rw [List.getElem?_append_right (Nat.le_refl _), Nat.sub_self]
theorem memAt : (M ++ X)[M.length + i]? = X[i]? := by
  rw [List.getElem?_append_right (by omega), Nat.add_sub_cancel_left]
def lenK (M : Mem) : Option Ob → Option (D × Mem)
  | some (.lst xs) => some (.int xs.length, M)
  | some (.dic false kvs) => some (.int kvs.length, M)
  | _ => none
theorem xLen : lenN [.ref n] M = lenK M M[n]? := by
  show (match M[n]? with | some (.lst xs) => some (D.int xs.length, M) | some (.dic false kvs) => some (D.int kvs.length, M) | _ => none) = _
  cases M[n]? with
  | none => rfl
  | some o => cases o with
    | lst xs => rfl
    | dic b kvs => cases b <;> rfl
theorem xLen1 : lenK M (some (.lst xs)) = some (.int xs.length, M) := rfl
theorem xLen2 {kvs : List (D × D)} : lenK M (some (.dic false kvs)) = some (.int kvs.length, M) := rfl
/-- a list there -/
def lisK : Option Ob → Option (List D)
  | some (.lst xs) => some xs
  | _ => none
theorem xLis1 : lisK (some (.lst xs)) = some xs := rfl
theorem xLst : lstM M (.ref n) = lisK M[n]? := by
  show (match M[n]? with | some (.lst xs) => some xs | _ => none) = _
  cases M[n]? with
  | none => rfl
  | some o => cases o <;> rfl
theorem xSeq : seqM M (.ref n) = lisK M[n]? := by
  show (match M[n]? with | some (.lst xs) => some xs | _ => none) = _
  cases M[n]? with
  | none => rfl
  | some o => cases o <;> rfl
theorem xSeqT : seqM M (.tup xs) = some xs := rfl
theorem xSeqR : seqM M (.rol xs) = some xs := rfl
def tupK' (M : Mem) : Option (List D) → Option (D × Mem)
  | some xs => some (.tup xs, M)
  | none => none
def lisK' (M : Mem) : Option (List D) → Option (D × Mem)
  | some xs => some (.ref M.length, M ++ [.lst xs])
  | none => none
theorem xTup : tupN [d] M = tupK' M (seqM M d) := by
  show (match seqM M d with | some xs => some (D.tup xs, M) | none => none) = _
  cases seqM M d <;> rfl
theorem xTup1 : tupK' M (some xs) = some (.tup xs, M) := rfl
theorem xLis : lisN [d] M = lisK' M (seqM M d) := by
  show (match seqM M d with | some xs => some (D.ref M.length, M ++ [Ob.lst xs]) | none => none) = _
  cases seqM M d <;> rfl
theorem xLis2 : lisK' M (some xs) = some (.ref M.length, M ++ [.lst xs]) := rfl
def allK (f : List Bool → Bool) (M : Mem) : Option (List Bool) → Option (D × Mem)
  | some bs => some (.bl (f bs), M)
  | none => none
def allK0 (f : List Bool → Bool) (M : Mem) : Option (List D) → Option (D × Mem)
  | some xs => allK f M (bolsM xs)
  | none => none
def allB (bs : List Bool) : Bool := bs.all id
def anyB (bs : List Bool) : Bool := bs.any id
theorem xAll : allN [d] M = allK0 allB M (lstM M d) := by
  show (match lstM M d with | some xs => (match bolsM xs with | some bs => some (D.bl (bs.all id), M) | none => none) | none => none) = _
  cases lstM M d with
  | none => rfl
  | some xs =>
    show _ = allK allB M (bolsM xs)
    dsimp only
    cases bolsM xs <;> rfl
theorem xAny : anyN [d] M = allK0 anyB M (lstM M d) := by
  show (match lstM M d with | some xs => (match bolsM xs with | some bs => some (D.bl (bs.any id), M) | none => none) | none => none) = _
  cases lstM M d with
  | none => rfl
  | some xs =>
    show _ = allK anyB M (bolsM xs)
    dsimp only
    cases bolsM xs <;> rfl
theorem xAll0 {f : List Bool → Bool} : allK0 f M (some xs) = allK f M (bolsM xs) := rfl
theorem xAll1 {f : List Bool → Bool} {bs : List Bool} : allK f M (some bs) = some (.bl (f bs), M) := rfl
def sumK (M : Mem) : Option (List Int) → Option (D × Mem)
  | some is => some (.int is.sum, M)
  | none => none
def sumK0 (M : Mem) : Option (List D) → Option (D × Mem)
  | some xs => sumK M (intsM xs)
  | none => none
theorem xSum : sumN [d] M = sumK0 M (lstM M d) := by
  show (match lstM M d with | some xs => (match intsM xs with | some is => some (D.int is.sum, M) | none => none) | none => none) = _
  cases lstM M d with
  | none => rfl
  | some xs =>
    show _ = sumK M (intsM xs)
    dsimp only
    cases intsM xs <;> rfl
theorem xSum0 : sumK0 M (some xs) = sumK M (intsM xs) := rfl
theorem xSum1 {is : List Int} : sumK M (some is) = some (.int is.sum, M) := rfl
def enK (n : Nat) (M : Mem) : Option (List D) → R Src
  | some _ => .ok (srcE (srcM n)) M
  | none => .no
theorem xEn : enumF [.ref n] M = enK n M (lisK M[n]?) := by
  show (match M[n]? with | some (.lst _) => R.ok (srcE (srcM n)) M | _ => .no) = _
  cases M[n]? with
  | none => rfl
  | some o => cases o <;> rfl
theorem xEn1 : enK n M (some xs) = .ok (srcE (srcM n)) M := rfl
theorem xEnR : enumF [.rol xs] M = .ok (srcE (srcS xs)) M := rfl
def srcK (n : Nat) : Option (List D) → Option Src
  | some _ => some (srcM n)
  | none => none
theorem xSrc : srcOf M (.ref n) = srcK n (lisK M[n]?) := by
  show (match M[n]? with | some (.lst _) => some (srcM n) | _ => none) = _
  cases M[n]? with
  | none => rfl
  | some o => cases o <;> rfl
theorem xSrc1 : srcK n (some xs) = some (srcM n) := rfl
def ixK2 (M : Mem) : Option D → Option (D × Mem)
  | some d => some (d, M)
  | none => none
theorem xIx1 : ixK2 M (some d) = some (d, M) := rfl
def ixK (M : Mem) (k : Int) : Option Ob → Option (D × Mem)
  | some (.lst xs) => ixK2 M (atD xs k)
  | _ => none
theorem xIx0 : ixK M k (some (.lst xs)) = ixK2 M (atD xs k) := rfl
theorem xIxL : ixM (.ref n) (.int k) M = ixM (.ref n) (.int k) M := rfl
theorem xIxT : ixM (.tup xs) (.int k) M = ixK2 M (atD xs k) := by
  show (match atD xs k with | some d => some (d, M) | none => none) = _
  cases atD xs k <;> rfl
theorem xIxR : ixM (.rol xs) (.int k) M = ixK2 M (atD xs k) := by
  show (match atD xs k with | some d => some (d, M) | none => none) = _
  cases atD xs k <;> rfl
/-- in a list; in a dict -/
def ixRK (M : Mem) (y : D) : Option Ob → Option (D × Mem)
  | some (.lst xs) => (match y with
    | .int k => ixK2 M (atD xs k)
    | _ => none)
  | some (.dic false kvs) => (match isKey y with
    | some _ => ixK2 M (dLook kvs y)
    | none => none)
  | _ => none
theorem xIx : ixM (.ref n) y M = ixRK M y M[n]? := by
  unfold ixM
  dsimp only
  cases M[n]? with
  | none => rfl
  | some o =>
    cases o with
    | lst xs =>
      cases y with
      | int k =>
        dsimp only [ixRK]
        cases atD xs k <;> rfl
      | _ => rfl
    | dic b kvs =>
      cases b with
      | true => rfl
      | false =>
        dsimp only [ixRK]
        cases isKey y with
        | none => rfl
        | some _ =>
          dsimp only
          cases dLook kvs y <;> rfl
theorem xIxA : ixRK M (.int k) (some (.lst xs)) = ixK2 M (atD xs k) := rfl
theorem xIxS {s : List Nat} {kvs : List (D × D)} : ixRK M (.str s) (some (.dic false kvs)) = ixK2 M (dLook kvs (.str s)) := rfl
theorem xIxI {kvs : List (D × D)} : ixRK M (.int k) (some (.dic false kvs)) = ixK2 M (dLook kvs (.int k)) := rfl
def addK (M : Mem) : Option (List D) → Option (List D) → Option (D × Mem)
  | some xs, some ys => if xs.length + ys.length ≤ 16777216 then some (.ref M.length, M ++ [.lst (xs ++ ys)]) else none
  | _, _ => none
theorem xAdd : addM (.ref n) (.ref m) M = addK M (lisK M[n]?) (lisK M[m]?) := by
  show (match M[n]? with | some (.lst xs) => (match M[m]? with | some (.lst ys) => (if xs.length + ys.length ≤ 16777216 then some (D.ref M.length, M ++ [Ob.lst (xs ++ ys)]) else none) | _ => none) | _ => none) = _
  cases M[n]? with
  | none => rfl
  | some o =>
    cases o with
    | dic b kvs => rfl
    | lst xs =>
      dsimp only
      cases M[m]? with
      | none => rfl
      | some o => cases o <;> rfl
theorem xAdd1 (h : xs.length + ys.length ≤ 16777216) : addK M (some xs) (some ys) = some (.ref M.length, M ++ [.lst (xs ++ ys)]) := if_pos h
def mulK (k : Int) (M : Mem) : Option (List D) → Option (D × Mem)
  | some xs => if -9223372036854775808 ≤ k ∧ k < 9223372036854775808 ∧ xs.length * k.toNat ≤ 16777216 then some (.ref M.length, M ++ [.lst (List.replicate k.toNat xs).flatten]) else none
  | none => none
theorem xMul : mulM (.ref n) (.int k) M = mulK k M (lisK M[n]?) := by
  unfold mulM
  dsimp only
  cases M[n]? with
  | none => rfl
  | some o => cases o <;> rfl
theorem xMul1 {j : Nat} (h : j ≤ 1000000) : mulK (j : Int) M (some [d]) = some (.ref M.length, M ++ [.lst (List.replicate j d)]) := by
  unfold mulK
  dsimp only
  rw [if_pos ⟨by omega, by omega, by rw [Int.toNat_natCast]; simp only [List.length_cons, List.length_nil]; omega⟩, Int.toNat_natCast, flat_rep]
def revK (M : Mem) : Option (List D) → Option (D × Mem)
  | some xs => some (.ref M.length, M ++ [.lst xs.reverse])
  | none => none
theorem xRev : rev2M (.ref n) M = revK M (lisK M[n]?) := by
  show (match M[n]? with | some (.lst xs) => some (D.ref M.length, M ++ [Ob.lst xs.reverse]) | _ => none) = _
  cases M[n]? with
  | none => rfl
  | some o => cases o <;> rfl
theorem xRev1 : revK M (some xs) = some (.ref M.length, M ++ [.lst xs.reverse]) := rfl
def cutK (lo hi : Option Int) (M : Mem) : Option (List D) → Option (D × Mem)
  | some xs => some (.ref M.length, M ++ [.lst (cutD xs lo hi)])
  | none => none
theorem xCut : slM (.ref n) lo hi M = cutK lo hi M (lisK M[n]?) := by
  show (match M[n]? with | some (.lst xs) => some (D.ref M.length, M ++ [Ob.lst (cutD xs lo hi)]) | _ => none) = _
  cases M[n]? with
  | none => rfl
  | some o => cases o <;> rfl
theorem xCut1 : cutK lo hi M (some xs) = some (.ref M.length, M ++ [.lst (cutD xs lo hi)]) := rfl
theorem xCutT : slM (.tup xs) lo hi M = some (.tup (cutD xs lo hi), M) := rfl
theorem xCutS {s : List Nat} : slM (.str s) lo hi M = some (.str (cutD s lo hi), M) := rfl
def isiK (t : Ty) : Option Ob → Option Bool
  | some (.lst _) => some (match t with | .lst => true | _ => false)
  | some (.dic false _) => some (match t with | .dic => true | _ => false)
  | _ => none
theorem xIsi : isiT M (.ref n) t = isiK t M[n]? := by
  unfold isiT
  dsimp only
  cases M[n]? with
  | none => rfl
  | some o =>
    cases o with
    | lst xs => cases t <;> rfl
    | dic b kvs => cases b <;> cases t <;> rfl
theorem xIsi1 : isiK t (some (.lst xs)) = some (match t with | .lst => true | _ => false) := rfl
theorem xIsi2 {kvs : List (D × D)} : isiK t (some (.dic false kvs)) = some (match t with | .dic => true | _ => false) := rfl
def setK2 (n : Nat) (xs : List D) (d : D) (M : Mem) : Option Nat → Option Mem
  | some j => some (M.set n (.lst (xs.set j d)))
  | none => none
def setLK (k : Int) (n : Nat) (d : D) (M : Mem) : Option (List D) → Option Mem
  | some xs => setK2 n xs d M (L2.ixN xs.length k)
  | none => none
def isSomeK : Option (List D) → Bool
  | some _ => true
  | none => false
theorem xTyL : tyB .lst (.ref n) M = isSomeK (lisK M[n]?) := by
  show (lstM M (.ref n)).isSome = _
  rw [xLst]
  cases lisK M[n]? <;> rfl
theorem xTyL1 : isSomeK (some xs) = true := rfl
def appK (n : Nat) (y : D) (M : Mem) : Option (List D) → Option (D × Mem)
  | some xs => if xs.length < 16777216 then some (.non, M.set n (.lst (xs ++ [y]))) else none
  | none => none
theorem xApp : appM (.ref n) [y] M = appK n y M (lisK M[n]?) := by
  show (match M[n]? with | some (.lst xs) => (if xs.length < 16777216 then some (D.non, M.set n (.lst (xs ++ [y]))) else none) | _ => none) = _
  cases M[n]? with
  | none => rfl
  | some o => cases o <;> rfl
theorem xApp1 (h : xs.length < 16777216) : appK n y M (some xs) = some (.non, M.set n (.lst (xs ++ [y]))) := if_pos h
def extK (n : Nat) (M : Mem) : Option (List D) → Option (List D) → Option (D × Mem)
  | some xs, some ys => if xs.length + ys.length ≤ 16777216 then some (.non, M.set n (.lst (xs ++ ys))) else none
  | _, _ => none
theorem xExt : extM (.ref n) [.ref m] M = extK n M (lisK M[n]?) (lisK M[m]?) := by
  show (match M[n]? with | some (.lst xs) => (match M[m]? with | some (.lst ys) => (if xs.length + ys.length ≤ 16777216 then some (D.non, M.set n (.lst (xs ++ ys))) else none) | _ => none) | _ => none) = _
  cases M[n]? with
  | none => rfl
  | some o =>
    cases o with
    | dic b kvs => rfl
    | lst xs =>
      dsimp only
      cases M[m]? with
      | none => rfl
      | some o => cases o <;> rfl
theorem xExt1 (h : xs.length + ys.length ≤ 16777216) : extK n M (some xs) (some ys) = some (.non, M.set n (.lst (xs ++ ys))) := if_pos h
end
/-! enumerate, range: their items -/
theorem enumD_get {xs : List D} {k : Nat} : (enumD xs)[k]? = xs[k]?.map fun d => .tup [.int k, d] := by
  unfold enumD
  rw [List.getElem?_zipWith]
  cases h : xs[k]? with
  | none =>
    have hn : ¬ k < xs.length := fun z => by rw [List.getElem?_eq_getElem z] at h; cases h
    rw [List.getElem?_eq_none (l := List.range xs.length) (by rw [List.length_range]; omega)]
    rfl
  | some d =>
    have hn : k < xs.length := (List.getElem?_eq_some_iff.mp h).1
    rw [List.getElem?_range hn]
    rfl
theorem row_get {r : List Int} {k : Nat} (h : k < r.length) : (r.map D.int)[k]? = some (.int (r.getD k 0)) := by
  rw [List.getElem?_map, List.getElem?_eq_getElem h, List.getD_eq_getElem?_getD, List.getElem?_eq_getElem h]
  rfl
theorem mem_enum {r : List Int} {d : D} (h : d ∈ enumD (r.map D.int)) : ∃ (k : Nat), k < r.length ∧ d = .tup [.int k, .int (r.getD k 0)] := by
  obtain ⟨k, e⟩ := List.getElem?_of_mem h
  rw [enumD_get] at e
  by_cases hk : k < r.length
  · rw [row_get hk] at e
    cases e
    exact ⟨k, hk, rfl⟩
  · rw [List.getElem?_eq_none (by rw [List.length_map]; omega)] at e
    cases e
theorem enum_map {r : List Int} (f : Nat → Int → Int) (g : D → D) (hg : ∀ (k : Nat) (m : Int), g (.tup [.int k, .int m]) = .int (f k m)) : (enumD (r.map D.int)).map g = ((List.range r.length).map fun k => f k (r.getD k 0)).map D.int := by
  apply List.ext_getElem?
  intro k
  rw [List.getElem?_map, enumD_get, List.getElem?_map (f := D.int) (l := List.map _ _), List.getElem?_map (l := List.range _)]
  by_cases hk : k < r.length
  · rw [row_get hk, List.getElem?_range hk]
    simp only [Option.map_some, hg]
  · rw [List.getElem?_eq_none (l := r.map D.int) (by rw [List.length_map]; omega), List.getElem?_eq_none (l := List.range r.length) (by rw [List.length_range]; omega)]
    rfl
theorem rng_map {n : Nat} (f : Nat → Int) (g : D → D) (hg : ∀ (k : Nat), g (.int k) = .int (f k)) : (rngD 0 n 1).map g = ((List.range n).map f).map D.int := by
  unfold rngD
  rw [List.map_map, List.map_map]
  refine List.map_congr_left fun k hk => ?_
  show g (.int (0 + (k : Int) * 1)) = .int (f k)
  rw [Int.zero_add, Int.mul_one, hg]
theorem mem_rng {n : Nat} {d : D} (h : d ∈ rngD 0 n 1) : ∃ k : Nat, k < n ∧ d = .int k := by
  unfold rngD at h
  obtain ⟨k, hk, rfl⟩ := List.mem_map.mp h
  refine ⟨k, List.mem_range.mp hk, ?_⟩
  rw [Int.zero_add, Int.mul_one]
theorem row_at {M : Mem} {n : Nat} {r : List Int} (h : M[n]? = row r) {k : Nat} (hk : k < r.length) : ixM (.ref n) (.int k) M = some (.int (r.getD k 0), M) := oIxL h (atN_nat (row_get hk))
end G
set_option maxRecDepth 100000
set_option maxHeartbeats 4000000
/-! G19: words; timelines as trees. -/
namespace G
open PySem
section
variable {M : Mem}
theorem eW_on_on : eqM false (.str [111, 110]) (.str [111, 110]) M = some (.bl true, M) := eq_yes (n := 0) rfl (by decide)
theorem eW_on_fr : eqM false (.str [111, 110]) (.str [102, 114, 111, 109]) M = some (.bl false, M) := eq_no (n := 0) (m := 0) rfl rfl (by decide) (by decide) (by simp)
theorem eW_on_ro : eqM false (.str [111, 110]) (.str [114, 111, 119]) M = some (.bl false, M) := eq_no (n := 0) (m := 0) rfl rfl (by decide) (by decide) (by simp)
theorem eW_on_mi : eqM false (.str [111, 110]) (.str [109, 105, 120]) M = some (.bl false, M) := eq_no (n := 0) (m := 0) rfl rfl (by decide) (by decide) (by simp)
theorem eW_on_le : eqM false (.str [111, 110]) (.str [108, 101, 116, 116, 101, 114]) M = some (.bl false, M) := eq_no (n := 0) (m := 0) rfl rfl (by decide) (by decide) (by simp)
theorem eW_fr_on : eqM false (.str [102, 114, 111, 109]) (.str [111, 110]) M = some (.bl false, M) := eq_no (n := 0) (m := 0) rfl rfl (by decide) (by decide) (by simp)
theorem eW_fr_fr : eqM false (.str [102, 114, 111, 109]) (.str [102, 114, 111, 109]) M = some (.bl true, M) := eq_yes (n := 0) rfl (by decide)
theorem eW_fr_ro : eqM false (.str [102, 114, 111, 109]) (.str [114, 111, 119]) M = some (.bl false, M) := eq_no (n := 0) (m := 0) rfl rfl (by decide) (by decide) (by simp)
theorem eW_fr_mi : eqM false (.str [102, 114, 111, 109]) (.str [109, 105, 120]) M = some (.bl false, M) := eq_no (n := 0) (m := 0) rfl rfl (by decide) (by decide) (by simp)
theorem eW_fr_le : eqM false (.str [102, 114, 111, 109]) (.str [108, 101, 116, 116, 101, 114]) M = some (.bl false, M) := eq_no (n := 0) (m := 0) rfl rfl (by decide) (by decide) (by simp)
theorem eW_ro_on : eqM false (.str [114, 111, 119]) (.str [111, 110]) M = some (.bl false, M) := eq_no (n := 0) (m := 0) rfl rfl (by decide) (by decide) (by simp)
theorem eW_ro_fr : eqM false (.str [114, 111, 119]) (.str [102, 114, 111, 109]) M = some (.bl false, M) := eq_no (n := 0) (m := 0) rfl rfl (by decide) (by decide) (by simp)
theorem eW_ro_ro : eqM false (.str [114, 111, 119]) (.str [114, 111, 119]) M = some (.bl true, M) := eq_yes (n := 0) rfl (by decide)
theorem eW_ro_mi : eqM false (.str [114, 111, 119]) (.str [109, 105, 120]) M = some (.bl false, M) := eq_no (n := 0) (m := 0) rfl rfl (by decide) (by decide) (by simp)
theorem eW_ro_le : eqM false (.str [114, 111, 119]) (.str [108, 101, 116, 116, 101, 114]) M = some (.bl false, M) := eq_no (n := 0) (m := 0) rfl rfl (by decide) (by decide) (by simp)
theorem eW_mi_on : eqM false (.str [109, 105, 120]) (.str [111, 110]) M = some (.bl false, M) := eq_no (n := 0) (m := 0) rfl rfl (by decide) (by decide) (by simp)
theorem eW_mi_fr : eqM false (.str [109, 105, 120]) (.str [102, 114, 111, 109]) M = some (.bl false, M) := eq_no (n := 0) (m := 0) rfl rfl (by decide) (by decide) (by simp)
theorem eW_mi_ro : eqM false (.str [109, 105, 120]) (.str [114, 111, 119]) M = some (.bl false, M) := eq_no (n := 0) (m := 0) rfl rfl (by decide) (by decide) (by simp)
theorem eW_mi_mi : eqM false (.str [109, 105, 120]) (.str [109, 105, 120]) M = some (.bl true, M) := eq_yes (n := 0) rfl (by decide)
theorem eW_mi_le : eqM false (.str [109, 105, 120]) (.str [108, 101, 116, 116, 101, 114]) M = some (.bl false, M) := eq_no (n := 0) (m := 0) rfl rfl (by decide) (by decide) (by simp)
theorem eW_le_on : eqM false (.str [108, 101, 116, 116, 101, 114]) (.str [111, 110]) M = some (.bl false, M) := eq_no (n := 0) (m := 0) rfl rfl (by decide) (by decide) (by simp)
theorem eW_le_fr : eqM false (.str [108, 101, 116, 116, 101, 114]) (.str [102, 114, 111, 109]) M = some (.bl false, M) := eq_no (n := 0) (m := 0) rfl rfl (by decide) (by decide) (by simp)
theorem eW_le_ro : eqM false (.str [108, 101, 116, 116, 101, 114]) (.str [114, 111, 119]) M = some (.bl false, M) := eq_no (n := 0) (m := 0) rfl rfl (by decide) (by decide) (by simp)
theorem eW_le_mi : eqM false (.str [108, 101, 116, 116, 101, 114]) (.str [109, 105, 120]) M = some (.bl false, M) := eq_no (n := 0) (m := 0) rfl rfl (by decide) (by decide) (by simp)
theorem eW_le_le : eqM false (.str [108, 101, 116, 116, 101, 114]) (.str [108, 101, 116, 116, 101, 114]) M = some (.bl true, M) := eq_yes (n := 0) rfl (by decide)
theorem iW_on_on : inM false (.str [111, 110]) (.tup [.str [111, 110], .str [102, 114, 111, 109]]) M = some (.bl true, M) := rfl
theorem iW_on_onn : inM true (.str [111, 110]) (.tup [.str [111, 110], .str [102, 114, 111, 109]]) M = some (.bl false, M) := rfl
theorem iW_on_ro : inM false (.str [111, 110]) (.tup [.str [114, 111, 119], .str [109, 105, 120]]) M = some (.bl false, M) := rfl
theorem iW_on_ron : inM true (.str [111, 110]) (.tup [.str [114, 111, 119], .str [109, 105, 120]]) M = some (.bl true, M) := rfl
theorem iW_fr_on : inM false (.str [102, 114, 111, 109]) (.tup [.str [111, 110], .str [102, 114, 111, 109]]) M = some (.bl true, M) := rfl
theorem iW_fr_onn : inM true (.str [102, 114, 111, 109]) (.tup [.str [111, 110], .str [102, 114, 111, 109]]) M = some (.bl false, M) := rfl
theorem iW_fr_ro : inM false (.str [102, 114, 111, 109]) (.tup [.str [114, 111, 119], .str [109, 105, 120]]) M = some (.bl false, M) := rfl
theorem iW_fr_ron : inM true (.str [102, 114, 111, 109]) (.tup [.str [114, 111, 119], .str [109, 105, 120]]) M = some (.bl true, M) := rfl
theorem iW_ro_on : inM false (.str [114, 111, 119]) (.tup [.str [111, 110], .str [102, 114, 111, 109]]) M = some (.bl false, M) := rfl
theorem iW_ro_onn : inM true (.str [114, 111, 119]) (.tup [.str [111, 110], .str [102, 114, 111, 109]]) M = some (.bl true, M) := rfl
theorem iW_ro_ro : inM false (.str [114, 111, 119]) (.tup [.str [114, 111, 119], .str [109, 105, 120]]) M = some (.bl true, M) := rfl
theorem iW_ro_ron : inM true (.str [114, 111, 119]) (.tup [.str [114, 111, 119], .str [109, 105, 120]]) M = some (.bl false, M) := rfl
theorem iW_mi_on : inM false (.str [109, 105, 120]) (.tup [.str [111, 110], .str [102, 114, 111, 109]]) M = some (.bl false, M) := rfl
theorem iW_mi_onn : inM true (.str [109, 105, 120]) (.tup [.str [111, 110], .str [102, 114, 111, 109]]) M = some (.bl true, M) := rfl
theorem iW_mi_ro : inM false (.str [109, 105, 120]) (.tup [.str [114, 111, 119], .str [109, 105, 120]]) M = some (.bl true, M) := rfl
theorem iW_mi_ron : inM true (.str [109, 105, 120]) (.tup [.str [114, 111, 119], .str [109, 105, 120]]) M = some (.bl false, M) := rfl
theorem iW_le_on : inM false (.str [108, 101, 116, 116, 101, 114]) (.tup [.str [111, 110], .str [102, 114, 111, 109]]) M = some (.bl false, M) := rfl
theorem iW_le_onn : inM true (.str [108, 101, 116, 116, 101, 114]) (.tup [.str [111, 110], .str [102, 114, 111, 109]]) M = some (.bl true, M) := rfl
theorem iW_le_ro : inM false (.str [108, 101, 116, 116, 101, 114]) (.tup [.str [114, 111, 119], .str [109, 105, 120]]) M = some (.bl false, M) := rfl
theorem iW_le_ron : inM true (.str [108, 101, 116, 116, 101, 114]) (.tup [.str [114, 111, 119], .str [109, 105, 120]]) M = some (.bl true, M) := rfl
end
section
variable {M X : Mem} {i : Nat} {o o' : Ob}
theorem setAt0 : (M ++ o :: X).set M.length o' = M ++ o' :: X := by
  rw [List.set_append_right _ _ (Nat.le_refl _), Nat.sub_self]
  rfl
theorem setAt : (M ++ X).set (M.length + i) o' = M ++ X.set i o' := by
  rw [List.set_append_right _ _ (by omega), Nat.add_sub_cancel_left]
end
/-- a timeline: a letter; on, from of one; a row, a mix of some -/
inductive Tl where
  | ltr (c : Nat)
  | one (w : Bool) (t : Tl)
  | many (w : Bool) (ts : List Tl)
def wordO : Bool → List Nat
  | true => [111, 110]
  | false => [102, 114, 111, 109]
def wordM : Bool → List Nat
  | true => [114, 111, 119]
  | false => [109, 105, 120]
mutual
def Tl.enc : Tl → D
  | .ltr c => .str [c]
  | .one w t => .tup [.str (wordO w), t.enc]
  | .many w ts => .tup [.str (wordM w), .tup (encs ts)]
def encs : List Tl → List D
  | [] => []
  | t :: ts => t.enc :: encs ts
end
theorem encs_map : ∀ ts : List Tl, encs ts = ts.map Tl.enc
  | [] => rfl
  | t :: ts => by rw [encs, encs_map ts]; rfl
mutual
theorem noRef_enc : ∀ t : Tl, noRef t.enc = true
  | .ltr c => rfl
  | .one w t => by
    show (noRef (.str (wordO w)) && (noRef t.enc && true)) = true
    rw [noRef_enc t]
    rfl
  | .many w ts => by
    show (noRef (.str (wordM w)) && (noRefs (encs ts) && true)) = true
    rw [noRefs_encs ts]
    rfl
theorem noRefs_encs : ∀ ts : List Tl, noRefs (encs ts) = true
  | [] => rfl
  | t :: ts => by
    show (noRef t.enc && noRefs (encs ts)) = true
    rw [noRef_enc t, noRefs_encs ts]
    rfl
end
def isRow : Tl → Bool
  | .many true _ => true
  | _ => false
mutual
def Tl.size : Tl → Nat
  | .ltr _ => 1
  | .one _ t => t.size + 1
  | .many w ts => (if w then 0 else 1) + sizes ts
def sizes : List Tl → Nat
  | [] => 0
  | t :: ts => t.size + sizes ts
end
mutual
def Tl.dep : Tl → Nat
  | .ltr _ => 1
  | .one _ t => t.dep + 1
  | .many _ ts => deps ts + 1
def deps : List Tl → Nat
  | [] => 0
  | t :: ts => max t.dep (deps ts)
end
mutual
/-- of the form that the program asks for, but for sizes -/
def Tl.wf : Tl → Bool
  | .ltr c => decide (97 ≤ c) && decide (c ≤ 122)
  | .one _ t => t.wf
  | .many w ts => wfs ts && (if w then decide (2 ≤ ts.length) && ts.all (fun t => !isRow t) else decide (1 ≤ ts.length))
def wfs : List Tl → Bool
  | [] => true
  | t :: ts => t.wf && wfs ts
end
theorem wfs_mem : ∀ {ts : List Tl}, wfs ts = true → ∀ t ∈ ts, t.wf = true
  | t :: ts, h, u, hu => by
    rw [wfs, Bool.and_eq_true] at h
    rcases List.mem_cons.mp hu with e | e
    · rw [e]; exact h.1
    · exact wfs_mem h.2 u e
theorem wfs_of : ∀ {ts : List Tl}, (∀ t ∈ ts, t.wf = true) → wfs ts = true
  | [], _ => rfl
  | t :: ts, h => by
    rw [wfs, h t List.mem_cons_self, wfs_of fun u hu => h u (List.mem_cons_of_mem _ hu)]
    rfl
mutual
/-- the letters, as they come first -/
def Tl.lts (cs : List Nat) : Tl → List Nat
  | .ltr c => if c ∈ cs then cs else cs ++ [c]
  | .one _ t => t.lts cs
  | .many _ ts => ltss cs ts
def ltss (cs : List Nat) : List Tl → List Nat
  | [] => cs
  | t :: ts => ltss (t.lts cs) ts
end
end G
set_option maxRecDepth 100000
set_option maxHeartbeats 4000000
/-! G20: the signs of a repr. -/
namespace G
open PySem
def Vs (x : Str) : Prop := ∀ c ∈ x.cps.toList, c < 1114112
theorem vs_app {x y : Str} (h : Vs x) (g : Vs y) : Vs (x ++ y) := by
  intro c hc
  have e : (x ++ y).cps.toList = x.cps.toList ++ y.cps.toList := by
    show (x.cps ++ y.cps).toList = _
    rw [Array.toList_append]
  rw [e] at hc
  rcases List.mem_append.mp hc with z | z
  · exact h c z
  · exact g c z
theorem vs_of (s : String) : Vs (Str.ofString s) := by
  rw [Str.ofString_eq_toList]
  intro c hc
  have hc' : c ∈ s.toList.map Char.toNat := by simpa using hc
  obtain ⟨d, _, rfl⟩ := List.mem_map.mp hc'
  have h := d.valid
  have h' : d.val.toNat < 0xd800 ∨ (0xdfff < d.val.toNat ∧ d.val.toNat < 0x110000) := h
  show d.val.toNat < 1114112
  omega
theorem vs_join : ∀ ts : List Str, (∀ t ∈ ts, Vs t) → Vs (Str.join ", " ts)
  | [], _ => fun c hc => by cases hc
  | [x], h => h x (by simp)
  | x :: y :: r, h => by
    show Vs (x ++ ", " ++ Str.join ", " (y :: r))
    exact vs_app (vs_app (h x (by simp)) (vs_of ", ")) (vs_join (y :: r) fun t ht => h t (List.mem_cons_of_mem _ ht))
theorem vs_textFrom : ∀ (ts : List Str) (k : Nat) (acc : Str), Vs acc → (∀ t ∈ ts, Vs t) → Vs (textFrom k acc ts)
  | [], _, _, h, _ => h
  | t :: ts, k, acc, h, g => by
    show Vs (textFrom (k + 1) (acc ++ (if k > 0 then ", " else "" : String) ++ t) ts)
    exact vs_textFrom ts _ _ (vs_app (vs_app h (vs_of _)) (g t (by simp))) fun u hu => g u (List.mem_cons_of_mem _ hu)
mutual
/-- shown without texts -/
def sho : PyData → Bool
  | .none => true
  | .bool _ => true
  | .int i => decide (i.natAbs.log2 < 1920)
  | .list xs => shos xs
  | .tuple xs => shos xs
  | _ => false
def shos : List PyData → Bool
  | [] => true
  | x :: xs => sho x && shos xs
end
mutual
theorem sho_vs : ∀ p : PyData, sho p = true → shw p = true ∧ Vs p.shown
  | .none, _ => ⟨by simp [shw], by rw [PyData.shown]; exact vs_of _⟩
  | .bool b, _ => ⟨by simp [shw], by rw [PyData.shown]; cases b <;> exact vs_of _⟩
  | .int i, h => ⟨by simpa [sho, shw] using h, by rw [PyData.shown]; exact vs_of _⟩
  | .str x, h => by simp [sho] at h
  | .dict x, h => by simp [sho] at h
  | .list xs, h => by
    have q := shos_vs xs (by simpa [sho] using h)
    refine ⟨by simpa [shw] using q.1, ?_⟩
    rw [PyData.shown]
    unfold listText
    exact vs_app (vs_textFrom _ _ _ (vs_of _) q.2) (vs_of _)
  | .tuple xs, h => by
    have q := shos_vs xs (by simpa [sho] using h)
    refine ⟨by simpa [shw] using q.1, ?_⟩
    rw [PyData.shown]
    unfold tupleText
    exact vs_app (vs_app (vs_of _) (vs_join _ q.2)) (vs_of _)
theorem shos_vs : ∀ ps : List PyData, shos ps = true → shws ps = true ∧ ∀ t ∈ PyData.shownAll ps, Vs t
  | [], _ => ⟨by simp [shws], by simp [PyData.shownAll]⟩
  | x :: xs, h => by
    have h' : sho x = true ∧ shos xs = true := by simpa [shos] using h
    have a := sho_vs x h'.1
    have b := shos_vs xs h'.2
    refine ⟨by simp [shws, a.1, b.1], fun t ht => ?_⟩
    rw [PyData.shownAll] at ht
    rcases List.mem_cons.mp ht with z | z
    · rw [z]; exact a.2
    · exact b.2 t z
end
/-- two lists of the same data have the same repr -/
theorem repr_same {M M' : Mem} {x : D} {p : PyData} (h : pd M 60 x = some p) (h1 : sho p = true) (h2 : wid p ≤ 16777216) :
    reprN [x] M = some (.str p.shown.cps.toList, M) ∧ eqM true (.str p.shown.cps.toList) (.str p.shown.cps.toList) M' = some (.bl false, M') ∧ eqM false (.str p.shown.cps.toList) (.str p.shown.cps.toList) M' = some (.bl true, M') := by
  obtain ⟨a, b⟩ := sho_vs p h1
  have hs : sim 0 (.str p.shown.cps.toList) = true := by
    unfold sim
    rw [List.all_eq_true]
    exact fun c hc => decide_eq_true (b c hc)
  exact ⟨repr_eq h a h2, eq_yes hs (by decide), eq_yes hs (by decide)⟩
/-- a list of data that hold no place -/
theorem pd_lst {M : Mem} {n : Nat} {xs : List D} {ps : List PyData} (h : M[n]? = some (.lst xs)) (hp : mapO (pd M 59) xs = some ps) : pd M 60 (.ref n) = some (.list ps) := by
  show (match M[n]? with | some (.lst xs) => (match mapO (pd M 59) xs with | some ys => some (PyData.list ys) | none => none) | _ => none) = _
  rw [h]
  simp only [hp]
theorem pd_encL {M : Mem} {k : Nat} {l : PQ} (hk : 2 < k) : pd M k (encL l) = some (.tuple (l.map pyP)) := by
  rw [pd_sim (sim_encL l) k hk]
  unfold encL
  rw [py, pys_encL]
theorem shos_pyP : ∀ l : PQ, (∀ q ∈ l, q.1.natAbs < 18446744073709551616 * 18446744073709551616 ∧ q.2.natAbs < 18446744073709551616 * 18446744073709551616) → shos (l.map pyP) = true ∧ wids (l.map pyP) ≤ l.length * 4000
  | [], _ => ⟨by simp [shos], by simp [wids]⟩
  | q :: l, h => by
    have ih := shos_pyP l fun x hx => h x (List.mem_cons_of_mem _ hx)
    have hq := h q List.mem_cons_self
    have lg : ∀ n : Nat, n < 18446744073709551616 * 18446744073709551616 → n.log2 < 1920 := by
      intro n hn
      by_cases h0 : n = 0
      · rw [h0]; decide
      · exact Nat.lt_trans ((Nat.log2_lt (k := 128) h0).mpr hn) (by decide)
    have l1 := lg _ hq.1
    have l2 := lg _ hq.2
    refine ⟨?_, ?_⟩
    · rw [List.map_cons, shos, ih.1]
      simp [pyP, sho, shos, l1, l2]
    · rw [List.map_cons, wids]
      have : wid (pyP q) = 3849 := by simp [pyP, wid, wids]
      rw [List.length_cons]
      omega
end G
section
open PySem PySem.W PyProof.Rows
set_option maxRecDepth 100000
set_option maxHeartbeats 0
open_top head for PySem.Challenge.rw_nextless_k56_whole_lengths_and_sums
end
set_option maxRecDepth 100000
set_option maxHeartbeats 4000000
/-! the walk of k56 (printed by gen.py) -/
namespace K56
open PySem PySem.Spec PyProof.Rows L2 G
def topS (i : Nat) : Stmt := PySem.Challenge.pw_nextless_k56_whole_lengths_and_sums.main.body.getD i (.Pass ⟨0, 0, 0, 0⟩)
abbrev s_law_told_length : Stmt := topS 59
theorem sc_law_told_length : FnScope ["row", "power", "many"] ["row"] (defScope s_law_told_length) := ⟨rfl, rfl, rfl, by decide +kernel, rfl, by decide +kernel, by decide +kernel⟩
theorem bn_law_told_length {K : PySem.W.Frag} {f : Addr} {fd : FuncData} (F : Fun K "_law_told_length" "_law_told_length" s_law_told_length f fd) : Binds K fd ["row"] [] := F.binds fun _ _ _ _ _ _ us hl => match us, hl with | [_], _ => rfl
abbrev s_law_draw : Stmt := topS 52
theorem sc_law_draw : FnScope ["pot", "many", "digit"] ["pot", "many"] (defScope s_law_draw) := ⟨rfl, rfl, rfl, by decide +kernel, rfl, by decide +kernel, by decide +kernel⟩
theorem bn_law_draw {K : PySem.W.Frag} {f : Addr} {fd : FuncData} (F : Fun K "_law_draw" "_law_draw" s_law_draw f fd) : Binds K fd ["pot", "many"] [] := F.binds fun _ _ _ _ _ _ us hl => match us, hl with | [_, _], _ => rfl
abbrev s_law_pick : Stmt := topS 53
theorem sc_law_pick : FnScope ["pot", "some"] ["pot", "some"] (defScope s_law_pick) := ⟨rfl, rfl, rfl, by decide +kernel, rfl, by decide +kernel, by decide +kernel⟩
theorem bn_law_pick {K : PySem.W.Frag} {f : Addr} {fd : FuncData} (F : Fun K "_law_pick" "_law_pick" s_law_pick f fd) : Binds K fd ["pot", "some"] [] := F.binds fun _ _ _ _ _ _ us hl => match us, hl with | [_, _], _ => rfl
abbrev s_law_flat : Stmt := topS 55
theorem sc_law_flat : FnScope ["parts", "found", "one"] ["parts"] (defScope s_law_flat) := ⟨rfl, rfl, rfl, by decide +kernel, rfl, by decide +kernel, by decide +kernel⟩
theorem bn_law_flat {K : PySem.W.Frag} {f : Addr} {fd : FuncData} (F : Fun K "_law_flat" "_law_flat" s_law_flat f fd) : Binds K fd ["parts"] [] := F.binds fun _ _ _ _ _ _ us hl => match us, hl with | [_], _ => rfl
abbrev s_law_time : Stmt := topS 54
theorem sc_law_time : FnScope ["pot", "letters", "words", "deep", "word", "many", "parts", "turn"] ["pot", "letters", "words", "deep"] (defScope s_law_time) := ⟨rfl, rfl, rfl, by decide +kernel, rfl, by decide +kernel, by decide +kernel⟩
theorem bn_law_time {K : PySem.W.Frag} {f : Addr} {fd : FuncData} (F : Fun K "_law_time" "_law_time" s_law_time f fd) : Binds K fd ["pot", "letters", "words", "deep"] [] := F.binds fun _ _ _ _ _ _ us hl => match us, hl with | [_, _, _, _], _ => rfl
abbrev s_law_led : Stmt := topS 57
theorem sc_law_led : FnScope ["row"] ["row"] (defScope s_law_led) := ⟨rfl, rfl, rfl, by decide +kernel, rfl, by decide +kernel, by decide +kernel⟩
theorem bn_law_led {K : PySem.W.Frag} {f : Addr} {fd : FuncData} (F : Fun K "_law_led" "_law_led" s_law_led f fd) : Binds K fd ["row"] [] := F.binds fun _ _ _ _ _ _ us hl => match us, hl with | [_], _ => rfl
abbrev s_law_length : Stmt := topS 61
theorem sc_law_length : FnScope ["pot", "most", "many", "row", "power"] ["pot", "most"] (defScope s_law_length) := ⟨rfl, rfl, rfl, by decide +kernel, rfl, by decide +kernel, by decide +kernel⟩
theorem bn_law_length {K : PySem.W.Frag} {f : Addr} {fd : FuncData} (F : Fun K "_law_length" "_law_length" s_law_length f fd) : Binds K fd ["pot", "most"] [] := F.binds fun _ _ _ _ _ _ us hl => match us, hl with | [_, _], _ => rfl
abbrev s_law_plus : Stmt := topS 58
theorem sc_law_plus : FnScope ["one", "other", "at", "kept", "power", "many"] ["one", "other"] (defScope s_law_plus) := ⟨rfl, rfl, rfl, by decide +kernel, rfl, by decide +kernel, by decide +kernel⟩
theorem bn_law_plus {K : PySem.W.Frag} {f : Addr} {fd : FuncData} (F : Fun K "_law_plus" "_law_plus" s_law_plus f fd) : Binds K fd ["one", "other"] [] := F.binds fun _ _ _ _ _ _ us hl => match us, hl with | [_, _], _ => rfl
abbrev s_law_is_length : Stmt := topS 62
theorem sc_law_is_length : FnScope ["value", "last", "one", "part"] ["value"] (defScope s_law_is_length) := ⟨rfl, rfl, rfl, by decide +kernel, rfl, by decide +kernel, by decide +kernel⟩
theorem bn_law_is_length {K : PySem.W.Frag} {f : Addr} {fd : FuncData} (F : Fun K "_law_is_length" "_law_is_length" s_law_is_length f fd) : Binds K fd ["value"] [] := F.binds fun _ _ _ _ _ _ us hl => match us, hl with | [_], _ => rfl
abbrev s_law_own_length : Stmt := topS 60
theorem sc_law_own_length : FnScope ["timeline", "found", "one"] ["timeline"] (defScope s_law_own_length) := ⟨rfl, rfl, rfl, by decide +kernel, rfl, by decide +kernel, by decide +kernel⟩
theorem bn_law_own_length {K : PySem.W.Frag} {f : Addr} {fd : FuncData} (F : Fun K "_law_own_length" "_law_own_length" s_law_own_length f fd) : Binds K fd ["timeline"] [] := F.binds fun _ _ _ _ _ _ us hl => match us, hl with | [_], _ => rfl
abbrev s_is_tuple : Stmt := topS 3
theorem sc_is_tuple : FnScope ["value", "many"] ["value", "many"] (defScope s_is_tuple) := ⟨rfl, rfl, rfl, by decide +kernel, rfl, by decide +kernel, by decide +kernel⟩
theorem bn_is_tuple {K : PySem.W.Frag} {f : Addr} {fd : FuncData} (F : Fun K "is_tuple" "is_tuple" s_is_tuple f fd) : Binds K fd ["value", "many"] [] := F.binds fun _ _ _ _ _ _ us hl => match us, hl with | [_, _], _ => rfl
abbrev s_is_integer : Stmt := topS 1
theorem sc_is_integer : FnScope ["value"] ["value"] (defScope s_is_integer) := ⟨rfl, rfl, rfl, by decide +kernel, rfl, by decide +kernel, by decide +kernel⟩
theorem bn_is_integer {K : PySem.W.Frag} {f : Addr} {fd : FuncData} (F : Fun K "is_integer" "is_integer" s_is_integer f fd) : Binds K fd ["value"] [] := F.binds fun _ _ _ _ _ _ us hl => match us, hl with | [_], _ => rfl
abbrev s_is_within : Stmt := topS 2
theorem sc_is_within : FnScope ["value", "least", "most"] ["value", "least", "most"] (defScope s_is_within) := ⟨rfl, rfl, rfl, by decide +kernel, rfl, by decide +kernel, by decide +kernel⟩
theorem bn_is_within {K : PySem.W.Frag} {f : Addr} {fd : FuncData} (F : Fun K "is_within" "is_within" s_is_within f fd) : Binds K fd ["value", "least", "most"] [] := F.binds fun _ _ _ _ _ _ us hl => match us, hl with | [_, _, _], _ => rfl
abbrev s_is_length_value : Stmt := topS 36
theorem sc_is_length_value : FnScope ["value", "near", "far", "power", "many", "row"] ["value"] (defScope s_is_length_value) := ⟨rfl, rfl, rfl, by decide +kernel, rfl, by decide +kernel, by decide +kernel⟩
theorem bn_is_length_value {K : PySem.W.Frag} {f : Addr} {fd : FuncData} (F : Fun K "is_length_value" "is_length_value" s_is_length_value f fd) : Binds K fd ["value"] [] := F.binds fun _ _ _ _ _ _ us hl => match us, hl with | [_], _ => rfl
abbrev s_want_length : Stmt := topS 43
theorem sc_want_length : FnScope ["length"] ["length"] (defScope s_want_length) := ⟨rfl, rfl, rfl, by decide +kernel, rfl, by decide +kernel, by decide +kernel⟩
theorem bn_want_length {K : PySem.W.Frag} {f : Addr} {fd : FuncData} (F : Fun K "want_length" "want_length" s_want_length f fd) : Binds K fd ["length"] [] := F.binds fun _ _ _ _ _ _ us hl => match us, hl with | [_], _ => rfl
abbrev s_bounded_length : Stmt := topS 41
theorem sc_bounded_length : FnScope ["length", "power", "many"] ["length"] (defScope s_bounded_length) := ⟨rfl, rfl, rfl, by decide +kernel, rfl, by decide +kernel, by decide +kernel⟩
theorem bn_bounded_length {K : PySem.W.Frag} {f : Addr} {fd : FuncData} (F : Fun K "bounded_length" "bounded_length" s_bounded_length f fd) : Binds K fd ["length"] [] := F.binds fun _ _ _ _ _ _ us hl => match us, hl with | [_], _ => rfl
abbrev s_sum_by : Stmt := topS 37
theorem sc_sum_by : FnScope ["one", "other", "power", "many", "kept", "same", "row"] ["one", "other"] (defScope s_sum_by) := ⟨rfl, rfl, rfl, by decide +kernel, rfl, by decide +kernel, by decide +kernel⟩
theorem bn_sum_by {K : PySem.W.Frag} {f : Addr} {fd : FuncData} (F : Fun K "sum_by" "sum_by" s_sum_by f fd) : Binds K fd ["one", "other"] [] := F.binds fun _ _ _ _ _ _ us hl => match us, hl with | [_, _], _ => rfl
abbrev s_sum_of : Stmt := topS 45
theorem sc_sum_of : FnScope ["length", "other"] ["length", "other"] (defScope s_sum_of) := ⟨rfl, rfl, rfl, by decide +kernel, rfl, by decide +kernel, by decide +kernel⟩
theorem bn_sum_of {K : PySem.W.Frag} {f : Addr} {fd : FuncData} (F : Fun K "sum_of" "sum_of" s_sum_of f fd) : Binds K fd ["length", "other"] [] := F.binds fun _ _ _ _ _ _ us hl => match us, hl with | [_, _], _ => rfl
abbrev s_is_less : Stmt := topS 46
theorem sc_is_less : FnScope ["length", "other"] ["length", "other"] (defScope s_is_less) := ⟨rfl, rfl, rfl, by decide +kernel, rfl, by decide +kernel, by decide +kernel⟩
theorem bn_is_less {K : PySem.W.Frag} {f : Addr} {fd : FuncData} (F : Fun K "is_less" "is_less" s_is_less f fd) : Binds K fd ["length", "other"] [] := F.binds fun _ _ _ _ _ _ us hl => match us, hl with | [_, _], _ => rfl
abbrev s_law_bent : Stmt := topS 63
theorem sc_law_bent : FnScope ["pot", "value", "at", "odd"] ["pot", "value"] (defScope s_law_bent) := ⟨rfl, rfl, rfl, by decide +kernel, rfl, by decide +kernel, by decide +kernel⟩
theorem bn_law_bent {K : PySem.W.Frag} {f : Addr} {fd : FuncData} (F : Fun K "_law_bent" "_law_bent" s_law_bent f fd) : Binds K fd ["pot", "value"] [] := F.binds fun _ _ _ _ _ _ us hl => match us, hl with | [_, _], _ => rfl
abbrev s_times_by : Stmt := topS 38
theorem sc_times_by : FnScope ["length", "many"] ["length", "many"] (defScope s_times_by) := ⟨rfl, rfl, rfl, by decide +kernel, rfl, by decide +kernel, by decide +kernel⟩
theorem bn_times_by {K : PySem.W.Frag} {f : Addr} {fd : FuncData} (F : Fun K "times_by" "times_by" s_times_by f fd) : Binds K fd ["length", "many"] [] := F.binds fun _ _ _ _ _ _ us hl => match us, hl with | [_, _], _ => rfl
abbrev s_times : Stmt := topS 47
theorem sc_times : FnScope ["length", "many"] ["length", "many"] (defScope s_times) := ⟨rfl, rfl, rfl, by decide +kernel, rfl, by decide +kernel, by decide +kernel⟩
theorem bn_times {K : PySem.W.Frag} {f : Addr} {fd : FuncData} (F : Fun K "times" "times" s_times f fd) : Binds K fd ["length", "many"] [] := F.binds fun _ _ _ _ _ _ us hl => match us, hl with | [_, _], _ => rfl
abbrev s_is_small : Stmt := topS 23
theorem sc_is_small : FnScope ["value", "least", "most", "sign"] ["value", "least", "most"] (defScope s_is_small) := ⟨rfl, rfl, rfl, by decide +kernel, rfl, by decide +kernel, by decide +kernel⟩
theorem bn_is_small {K : PySem.W.Frag} {f : Addr} {fd : FuncData} (F : Fun K "is_small" "is_small" s_is_small f fd) : Binds K fd ["value", "least", "most"] [] := F.binds fun _ _ _ _ _ _ us hl => match us, hl with | [_, _, _], _ => rfl
abbrev s_is_letter_value : Stmt := topS 24
theorem sc_is_letter_value : FnScope ["value"] ["value"] (defScope s_is_letter_value) := ⟨rfl, rfl, rfl, by decide +kernel, rfl, by decide +kernel, by decide +kernel⟩
theorem bn_is_letter_value {K : PySem.W.Frag} {f : Addr} {fd : FuncData} (F : Fun K "is_letter_value" "is_letter_value" s_is_letter_value f fd) : Binds K fd ["value"] [] := F.binds fun _ _ _ _ _ _ us hl => match us, hl with | [_], _ => rfl
abbrev s_are_parts : Stmt := topS 25
theorem sc_are_parts : FnScope ["value", "least"] ["value", "least"] (defScope s_are_parts) := ⟨rfl, rfl, rfl, by decide +kernel, rfl, by decide +kernel, by decide +kernel⟩
theorem bn_are_parts {K : PySem.W.Frag} {f : Addr} {fd : FuncData} (F : Fun K "are_parts" "are_parts" s_are_parts f fd) : Binds K fd ["value", "least"] [] := F.binds fun _ _ _ _ _ _ us hl => match us, hl with | [_, _], _ => rfl
abbrev s_measures : Stmt := topS 26
theorem sc_measures : FnScope ["value", "deep", "word", "told", "inner", "size", "depth", "letters", "one"] ["value", "deep"] (defScope s_measures) := ⟨rfl, rfl, rfl, by decide +kernel, rfl, by decide +kernel, by decide +kernel⟩
theorem bn_measures {K : PySem.W.Frag} {f : Addr} {fd : FuncData} (F : Fun K "measures" "measures" s_measures f fd) : Binds K fd ["value", "deep"] [] := F.binds fun _ _ _ _ _ _ us hl => match us, hl with | [_, _], _ => rfl
abbrev s_is_timeline_value : Stmt := topS 27
theorem sc_is_timeline_value : FnScope ["value", "told"] ["value"] (defScope s_is_timeline_value) := ⟨rfl, rfl, rfl, by decide +kernel, rfl, by decide +kernel, by decide +kernel⟩
theorem bn_is_timeline_value {K : PySem.W.Frag} {f : Addr} {fd : FuncData} (F : Fun K "is_timeline_value" "is_timeline_value" s_is_timeline_value f fd) : Binds K fd ["value"] [] := F.binds fun _ _ _ _ _ _ us hl => match us, hl with | [_], _ => rfl
abbrev s_want_timeline : Stmt := topS 28
theorem sc_want_timeline : FnScope ["timeline"] ["timeline"] (defScope s_want_timeline) := ⟨rfl, rfl, rfl, by decide +kernel, rfl, by decide +kernel, by decide +kernel⟩
theorem bn_want_timeline {K : PySem.W.Frag} {f : Addr} {fd : FuncData} (F : Fun K "want_timeline" "want_timeline" s_want_timeline f fd) : Binds K fd ["timeline"] [] := F.binds fun _ _ _ _ _ _ us hl => match us, hl with | [_], _ => rfl
abbrev s_is_so_many : Stmt := topS 32
theorem sc_is_so_many : FnScope ["words", "kind", "barred", "word"] ["words", "kind"] (defScope s_is_so_many) := ⟨rfl, rfl, rfl, by decide +kernel, rfl, by decide +kernel, by decide +kernel⟩
theorem bn_is_so_many {K : PySem.W.Frag} {f : Addr} {fd : FuncData} (F : Fun K "is_so_many" "is_so_many" s_is_so_many f fd) : Binds K fd ["words", "kind"] [] := F.binds fun _ _ _ _ _ _ us hl => match us, hl with | [_, _], _ => rfl
abbrev s_parts_of : Stmt := topS 30
theorem sc_parts_of : FnScope ["timeline"] ["timeline"] (defScope s_parts_of) := ⟨rfl, rfl, rfl, by decide +kernel, rfl, by decide +kernel, by decide +kernel⟩
theorem bn_parts_of {K : PySem.W.Frag} {f : Addr} {fd : FuncData} (F : Fun K "parts_of" "parts_of" s_parts_of f fd) : Binds K fd ["timeline"] [] := F.binds fun _ _ _ _ _ _ us hl => match us, hl with | [_], _ => rfl
abbrev s_words_in : Stmt := topS 31
theorem sc_words_in : FnScope ["timeline", "found", "one"] ["timeline"] (defScope s_words_in) := ⟨rfl, rfl, rfl, by decide +kernel, rfl, by decide +kernel, by decide +kernel⟩
theorem bn_words_in {K : PySem.W.Frag} {f : Addr} {fd : FuncData} (F : Fun K "words_in" "words_in" s_words_in f fd) : Binds K fd ["timeline"] [] := F.binds fun _ _ _ _ _ _ us hl => match us, hl with | [_], _ => rfl
abbrev s_want_rising : Stmt := topS 42
theorem sc_want_rising : FnScope ["timeline"] ["timeline"] (defScope s_want_rising) := ⟨rfl, rfl, rfl, by decide +kernel, rfl, by decide +kernel, by decide +kernel⟩
theorem bn_want_rising {K : PySem.W.Frag} {f : Addr} {fd : FuncData} (F : Fun K "want_rising" "want_rising" s_want_rising f fd) : Binds K fd ["timeline"] [] := F.binds fun _ _ _ _ _ _ us hl => match us, hl with | [_], _ => rfl
abbrev s_forever_by : Stmt := topS 39
theorem sc_forever_by : FnScope ["length"] ["length"] (defScope s_forever_by) := ⟨rfl, rfl, rfl, by decide +kernel, rfl, by decide +kernel, by decide +kernel⟩
theorem bn_forever_by {K : PySem.W.Frag} {f : Addr} {fd : FuncData} (F : Fun K "forever_by" "forever_by" s_forever_by f fd) : Binds K fd ["length"] [] := F.binds fun _ _ _ _ _ _ us hl => match us, hl with | [_], _ => rfl
abbrev s_length_in : Stmt := topS 40
theorem sc_length_in : FnScope ["timeline", "found", "part"] ["timeline"] (defScope s_length_in) := ⟨rfl, rfl, rfl, by decide +kernel, rfl, by decide +kernel, by decide +kernel⟩
theorem bn_length_in {K : PySem.W.Frag} {f : Addr} {fd : FuncData} (F : Fun K "length_in" "length_in" s_length_in f fd) : Binds K fd ["timeline"] [] := F.binds fun _ _ _ _ _ _ us hl => match us, hl with | [_], _ => rfl
abbrev s_length_of : Stmt := topS 49
theorem sc_length_of : FnScope ["timeline"] ["timeline"] (defScope s_length_of) := ⟨rfl, rfl, rfl, by decide +kernel, rfl, by decide +kernel, by decide +kernel⟩
theorem bn_length_of {K : PySem.W.Frag} {f : Addr} {fd : FuncData} (F : Fun K "length_of" "length_of" s_length_of f fd) : Binds K fd ["timeline"] [] := F.binds fun _ _ _ _ _ _ us hl => match us, hl with | [_], _ => rfl
abbrev s_forever : Stmt := topS 48
theorem sc_forever : FnScope ["length"] ["length"] (defScope s_forever) := ⟨rfl, rfl, rfl, by decide +kernel, rfl, by decide +kernel, by decide +kernel⟩
theorem bn_forever {K : PySem.W.Frag} {f : Addr} {fd : FuncData} (F : Fun K "forever" "forever" s_forever f fd) : Binds K fd ["length"] [] := F.binds fun _ _ _ _ _ _ us hl => match us, hl with | [_], _ => rfl
abbrev s_is_length : Stmt := topS 44
theorem sc_is_length : FnScope ["value"] ["value"] (defScope s_is_length) := ⟨rfl, rfl, rfl, by decide +kernel, rfl, by decide +kernel, by decide +kernel⟩
theorem bn_is_length {K : PySem.W.Frag} {f : Addr} {fd : FuncData} (F : Fun K "is_length" "is_length" s_is_length f fd) : Binds K fd ["value"] [] := F.binds fun _ _ _ _ _ _ us hl => match us, hl with | [_], _ => rfl
abbrev s_law_right : Stmt := topS 64
theorem sc_law_right : FnScope ["pot", "rows", "one", "other", "third", "due", "less", "many", "row", "turn", "ever", "value", "says", "timeline", "told"] ["pot"] (defScope s_law_right) := ⟨rfl, rfl, rfl, by decide +kernel, rfl, by decide +kernel, by decide +kernel⟩
theorem bn_law_right {K : PySem.W.Frag} {f : Addr} {fd : FuncData} (F : Fun K "_law_right" "_law_right" s_law_right f fd) : Binds K fd ["pot"] [] := F.binds fun _ _ _ _ _ _ us hl => match us, hl with | [_], _ => rfl
abbrev s_law_pot : Stmt := topS 51
theorem sc_law_pot : FnScope ["script", "k", "cell"] ["script", "k"] (defScope s_law_pot) := ⟨rfl, rfl, rfl, by decide +kernel, rfl, by decide +kernel, by decide +kernel⟩
theorem bn_law_pot {K : PySem.W.Frag} {f : Addr} {fd : FuncData} (F : Fun K "_law_pot" "_law_pot" s_law_pot f fd) : Binds K fd ["script", "k"] [] := F.binds fun _ _ _ _ _ _ us hl => match us, hl with | [_, _], _ => rfl
abbrev s_law : Stmt := topS 65
theorem sc_law : FnScope ["script", "k"] ["script"] (defScope s_law) := ⟨rfl, rfl, rfl, by decide +kernel, rfl, by decide +kernel, by decide +kernel⟩
theorem bn_law {K : PySem.W.Frag} {f : Addr} {fd : FuncData} (F : Fun K "law" "law" s_law f fd) : Binds K fd ["script"] [] := F.binds fun _ _ _ _ _ _ us hl => match us, hl with | [_], _ => rfl
theorem kw_sum_of_0 {K : PySem.W.Frag} {f : Addr} {fd : FuncData} (F : Fun K "sum_of" "sum_of" s_sum_of f fd) : KwB fd ["length", "other"] ["other", "length"] [1, 0] := G.Fun.kw F fun _ _ _ _ _ _ ws us hl hp => match ws, hl with | [_, _], _ => by cases hp; rfl
theorem kw_is_less_1 {K : PySem.W.Frag} {f : Addr} {fd : FuncData} (F : Fun K "is_less" "is_less" s_is_less f fd) : KwB fd ["length", "other"] ["other", "length"] [1, 0] := G.Fun.kw F fun _ _ _ _ _ _ ws us hl hp => match ws, hl with | [_, _], _ => by cases hp; rfl
theorem kw_times_2 {K : PySem.W.Frag} {f : Addr} {fd : FuncData} (F : Fun K "times" "times" s_times f fd) : KwB fd ["length", "many"] ["many", "length"] [1, 0] := G.Fun.kw F fun _ _ _ _ _ _ ws us hl hp => match ws, hl with | [_, _], _ => by cases hp; rfl
theorem kw_forever_3 {K : PySem.W.Frag} {f : Addr} {fd : FuncData} (F : Fun K "forever" "forever" s_forever f fd) : KwB fd ["length"] ["length"] [0] := G.Fun.kw F fun _ _ _ _ _ _ ws us hl hp => match ws, hl with | [_], _ => by cases hp; rfl
theorem kw_is_length_4 {K : PySem.W.Frag} {f : Addr} {fd : FuncData} (F : Fun K "is_length" "is_length" s_is_length f fd) : KwB fd ["value"] ["value"] [0] := G.Fun.kw F fun _ _ _ _ _ _ ws us hl hp => match ws, hl with | [_], _ => by cases hp; rfl
theorem kw_length_of_5 {K : PySem.W.Frag} {f : Addr} {fd : FuncData} (F : Fun K "length_of" "length_of" s_length_of f fd) : KwB fd ["timeline"] ["timeline"] [0] := G.Fun.kw F fun _ _ _ _ _ _ ws us hl hp => match ws, hl with | [_], _ => by cases hp; rfl
def c_MOST_POWER : D := .int 15
def c_MOST_MANY : D := .int 1000000000000000000000000000000
def c_ALPHABET : D := .str [97, 98, 99, 100, 101, 102, 103, 104, 105, 106, 107, 108, 109, 110, 111, 112, 113, 114, 115, 116, 117, 118, 119, 120, 121, 122]
def c_MOST_SIZE : D := .int 100
def c_FROM : D := .str [102, 114, 111, 109]
def c_ON : D := .str [111, 110]
def c_MIX : D := .str [109, 105, 120]
def c_ROW : D := .str [114, 111, 119]
def c_MOST_DEPTH : D := .int 16
def c_MOST_LETTERS : D := .int 8
structure Hd (K : PySem.W.Frag) (mg : Str → Option Value) : Prop where
  d_law_told_length : Df K mg "_law_told_length" s_law_told_length
  d_law_draw : Df K mg "_law_draw" s_law_draw
  d_law_pick : Df K mg "_law_pick" s_law_pick
  d_law_flat : Df K mg "_law_flat" s_law_flat
  d_law_time : Df K mg "_law_time" s_law_time
  d_law_led : Df K mg "_law_led" s_law_led
  d_law_length : Df K mg "_law_length" s_law_length
  d_law_plus : Df K mg "_law_plus" s_law_plus
  d_law_is_length : Df K mg "_law_is_length" s_law_is_length
  d_law_own_length : Df K mg "_law_own_length" s_law_own_length
  d_is_tuple : Df K mg "is_tuple" s_is_tuple
  d_is_integer : Df K mg "is_integer" s_is_integer
  d_is_within : Df K mg "is_within" s_is_within
  d_is_length_value : Df K mg "is_length_value" s_is_length_value
  d_want_length : Df K mg "want_length" s_want_length
  d_bounded_length : Df K mg "bounded_length" s_bounded_length
  d_sum_by : Df K mg "sum_by" s_sum_by
  d_sum_of : Df K mg "sum_of" s_sum_of
  d_is_less : Df K mg "is_less" s_is_less
  d_law_bent : Df K mg "_law_bent" s_law_bent
  d_times_by : Df K mg "times_by" s_times_by
  d_times : Df K mg "times" s_times
  d_is_small : Df K mg "is_small" s_is_small
  d_is_letter_value : Df K mg "is_letter_value" s_is_letter_value
  d_are_parts : Df K mg "are_parts" s_are_parts
  d_measures : Df K mg "measures" s_measures
  d_is_timeline_value : Df K mg "is_timeline_value" s_is_timeline_value
  d_want_timeline : Df K mg "want_timeline" s_want_timeline
  d_is_so_many : Df K mg "is_so_many" s_is_so_many
  d_parts_of : Df K mg "parts_of" s_parts_of
  d_words_in : Df K mg "words_in" s_words_in
  d_want_rising : Df K mg "want_rising" s_want_rising
  d_forever_by : Df K mg "forever_by" s_forever_by
  d_length_in : Df K mg "length_in" s_length_in
  d_length_of : Df K mg "length_of" s_length_of
  d_forever : Df K mg "forever" s_forever
  d_is_length : Df K mg "is_length" s_is_length
  d_law_right : Df K mg "_law_right" s_law_right
  d_law_pot : Df K mg "_law_pot" s_law_pot
  d_law : Df K mg "law" s_law
  z_enumerate : mg "enumerate" = none
  z_tuple : mg "tuple" = none
  z_divmod : mg "divmod" = none
  z_int : mg "int" = none
  z_len : mg "len" = none
  z_str : mg "str" = none
  z_isinstance : mg "isinstance" = none
  z_list : mg "list" = none
  z_range : mg "range" = none
  z_max : mg "max" = none
  z_bool : mg "bool" = none
  z_all : mg "all" = none
  z_zip : mg "zip" = none
  z_any : mg "any" = none
  z_sum : mg "sum" = none
  z_repr : mg "repr" = none
  z_abs : mg "abs" = none
  c_MOST_POWER : Cst K mg "MOST_POWER" c_MOST_POWER
  c_MOST_MANY : Cst K mg "MOST_MANY" c_MOST_MANY
  c_ALPHABET : Cst K mg "ALPHABET" c_ALPHABET
  c_MOST_SIZE : Cst K mg "MOST_SIZE" c_MOST_SIZE
  c_FROM : Cst K mg "FROM" c_FROM
  c_ON : Cst K mg "ON" c_ON
  c_MIX : Cst K mg "MIX" c_MIX
  c_ROW : Cst K mg "ROW" c_ROW
  c_MOST_DEPTH : Cst K mg "MOST_DEPTH" c_MOST_DEPTH
  c_MOST_LETTERS : Cst K mg "MOST_LETTERS" c_MOST_LETTERS
section
variable {P : Program} {w : World} {K : PySem.W.Frag} {mg : Str → Option Value} {base : Heap}
def b_law_told_length : Gs :=
    gRet (gCB tupN (gCons (gUn rev2M (gLc (giEn (gCons (gV 0) (gNil))) (gUnp 2 (gsCons (gName' 1) (gsCons (gName' 2) (gsNil)))) (gTst (gOp (gtM) (gV 2) (gC (.int 0)))) (gTup (gCons (gV 1) (gCons (gV 2) (gNil)))) [1, 2])) (gNil)))
def m_law_told_length : Fn := runDef 3 b_law_told_length
theorem ok_law_told_length (Z : Hd K mg) : Ok P w K mg base 1 "_law_told_length" s_law_told_length ["row"] m_law_told_length := ok_def (k := 0) Z.d_law_told_length sc_law_told_length rfl (fun f cdv A outer s H E' hr hgd tk pa => by
    have hu := hu_g hr
    have nd := sc_law_told_length.nd
    exact ss_one (s_ret (g_callT (tup_ok) Z.z_tuple boot_tuple (g_cons (g_rev2 (g_lc (own := [("power", 1), ("many", 2)]) rfl nd (i_enum Z.z_enumerate (g_cons (g_v 0) (g_nil))) (by rfl) (fun _ _ _ _ _ => aw_unp rfl (asw_cons (aw_name (i := 1) nd) (asw_cons (aw_name (i := 2) nd) (asw_nil)))) (fun _ _ _ _ _ => ts_one (t_cmp (gt_ok) (g_v 2) (g_int))) (fun _ _ _ _ _ => g_tup (g_cons (g_v 1) (g_cons (g_v 2) (g_nil)))))) (g_nil)))))
def b_law_draw : Gs :=
    gSeq (gIfS (gTst (gOp (gtM) (gOp ixM (gV 0) (gC (.int 0))) (gC (.int 0)))) (gSeq (gAsg (gUnp 2 (gsCons (gSub (gV 0) (gC (.int 0))) (gsCons (gName' 2) (gsNil)))) (gCB dmodN (gCons (gOp ixM (gV 0) (gC (.int 0))) (gCons (gV 1) (gNil)))))
          (gRet (gV 2))) (gsSkip))
        (gSeq (gAsg (gSub (gV 0) (gC (.int 1))) (gOp modM (gCB intN (gCons (gOp addM (gOp mulM (gOp ixM (gV 0) (gC (.int 1))) (gC (.int 46174))) (gC (.int 3291))) (gNil))) (gC (.int 2147483587))))
        (gRet (gOp modM (gCB intN (gCons (gOp fdivM (gOp modM (gCB intN (gCons (gOp mulM (gOp ixM (gV 0) (gC (.int 1))) (gOp ixM (gV 0) (gC (.int 1)))) (gNil))) (gC (.int 2147483579))) (gC (.int 19))) (gNil))) (gV 1))))
def m_law_draw : Fn := runDef 3 b_law_draw
theorem ok_law_draw (Z : Hd K mg) : Ok P w K mg base 1 "_law_draw" s_law_draw ["pot", "many"] m_law_draw := ok_def (k := 0) Z.d_law_draw sc_law_draw rfl (fun f cdv A outer s H E' hr hgd tk pa => by
    have hu := hu_g hr
    have nd := sc_law_draw.nd
    exact ss_cons (s_if (t_cmp (gt_ok) (g_ix hu (g_v 0) (g_int)) (g_int)) (ss_cons (s_asg (g_callB (dmod_ok) Z.z_divmod boot_divmod (g_cons (g_ix hu (g_v 0) (g_int)) (g_cons (g_v 1) (g_nil)))) (a_unp rfl (as_cons (a_sub hu (g_v 0) (g_int)) (as_cons (a_name (i := 2) nd) (as_nil)))))
          (ss_one (s_ret (g_v 2)))) (ss_nil))
        (ss_cons (s_asg (g_op mod_ok (g_callT (int_ok) Z.z_int boot_int (g_cons (g_op add_ok (g_op mul_ok (g_ix hu (g_v 0) (g_int)) (g_int)) (g_int)) (g_nil))) (g_int)) (a_sub hu (g_v 0) (g_int)))
        (ss_one (s_ret (g_op mod_ok (g_callT (int_ok) Z.z_int boot_int (g_cons (g_op fdiv_ok (g_op mod_ok (g_callT (int_ok) Z.z_int boot_int (g_cons (g_op mul_ok (g_ix hu (g_v 0) (g_int)) (g_ix hu (g_v 0) (g_int))) (g_nil))) (g_int)) (g_int)) (g_nil))) (g_v 1))))))
def b_law_pick : Gs :=
    gRet (gOp ixM (gV 1) (gCall m_law_draw (gCons (gV 0) (gCons (gCB lenN (gCons (gV 1) (gNil))) (gNil)))))
def m_law_pick : Fn := runDef 2 b_law_pick
theorem ok_law_pick (Z : Hd K mg) : Ok P w K mg base 2 "_law_pick" s_law_pick ["pot", "some"] m_law_pick := ok_def (k := 1) Z.d_law_pick sc_law_pick rfl (fun f cdv A outer s H E' hr hgd tk pa => by
    have hu := hu_g hr
    have nd := sc_law_pick.nd
    exact ss_one (s_ret (g_ix hu (g_v 1) (c_ ((ok_law_draw Z).mono (by decide)) hr hgd tk bn_law_draw (g_cons (g_v 0) (g_cons (g_callB (len_ok) Z.z_len boot_len (g_cons (g_v 1) (g_nil))) (g_nil))) (gCons_len (gCons_len (gNil_len')))))))
def b_law_flat : Gs :=
    gSeq (gSet 1 (gLst (gNil)))
        (gSeq (gFor (giSeq (gV 0)) (gName' 2) (gExpr (gMt .lst extM (gV 1) (gCons (gIf (gAndT (gNotT (gTru (gCB isiN (gCons (gV 2) (gCons (gC (.ty .str)) (gNil)))))) (gTst (gOp (eqM false) (gOp ixM (gV 2) (gC (.int 0))) (gC (.str [114, 111, 119]))))) (gCB lisN (gCons (gOp ixM (gV 2) (gC (.int 1))) (gNil))) (gLst (gCons (gV 2) (gNil)))) (gNil)))))
        (gRet (gIf (gTst (gOp (gtM) (gCB lenN (gCons (gV 1) (gNil))) (gC (.int 1)))) (gTup (gCons (gC (.str [114, 111, 119])) (gCons (gCB tupN (gCons (gV 1) (gNil))) (gNil)))) (gOp ixM (gV 1) (gC (.int 0))))))
def m_law_flat : Fn := runDef 3 b_law_flat
theorem ok_law_flat (Z : Hd K mg) : Ok P w K mg base 1 "_law_flat" s_law_flat ["parts"] m_law_flat := ok_def (k := 0) Z.d_law_flat sc_law_flat rfl (fun f cdv A outer s H E' hr hgd tk pa => by
    have hu := hu_g hr
    have nd := sc_law_flat.nd
    exact ss_cons (s_set 1 nd (g_lst (g_nil)))
        (ss_cons (s_for pa rfl (i_seq (g_v 0)) (a_name (i := 2) nd) (ss_one (s_expr (g_mt (T := .lst) PySem.F.plainAttrs_list PySem.F.slot_list_extend PySem.F.type_list_extend ext_ok (g_v 1) (g_cons (g_if (t_w (w_and (t_not (t_tru (g_callB (isi_ok) Z.z_isinstance boot_isinstance (g_cons (g_v 2) (g_cons (g_ty .str Z.z_str boot_str) (g_nil)))))) (w_and1 (t_cmp (eq_ok hu) (g_ix hu (g_v 2) (g_int)) (g_str [114, 111, 119]))))) (g_callT (lis_ok) Z.z_list boot_list (g_cons (g_ix hu (g_v 2) (g_int)) (g_nil))) (g_lst (g_cons (g_v 2) (g_nil)))) (g_nil))))))
        (ss_one (s_ret (g_if (t_cmp (gt_ok) (g_callB (len_ok) Z.z_len boot_len (g_cons (g_v 1) (g_nil))) (g_int)) (g_tup (g_cons (g_str [114, 111, 119]) (g_cons (g_callT (tup_ok) Z.z_tuple boot_tuple (g_cons (g_v 1) (g_nil))) (g_nil)))) (g_ix hu (g_v 1) (g_int)))))))
def b_law_time (me : Fn) : Gs :=
    gSeq (gSet 4 (gIf (gTst (gOp (gtM) (gV 3) (gC (.int 1)))) (gCall m_law_pick (gCons (gV 0) (gCons (gOp addM (gLst (gCons (gC (.str [108, 101, 116, 116, 101, 114])) (gCons (gC (.str [108, 101, 116, 116, 101, 114])) (gCons (gC (.str [114, 111, 119])) (gCons (gC (.str [114, 111, 119])) (gNil)))))) (gV 2)) (gNil)))) (gC (.str [108, 101, 116, 116, 101, 114]))))
        (gSeq (gIfS (gTst (gOp (eqM false) (gV 4) (gC (.str [108, 101, 116, 116, 101, 114])))) (gRet (gCall m_law_pick (gCons (gV 0) (gCons (gV 1) (gNil))))) (gsSkip))
        (gSeq (gIfS (gTst (gOp (inM false) (gV 4) (gTup (gCons (gC (.str [111, 110])) (gCons (gC (.str [102, 114, 111, 109])) (gNil)))))) (gRet (gTup (gCons (gV 4) (gCons (gCall me (gCons (gV 0) (gCons (gV 1) (gCons (gV 2) (gCons (gOp subM (gV 3) (gC (.int 1))) (gNil)))))) (gNil))))) (gsSkip))
        (gSeq (gSet 5 (gIf (gTst (gOp (eqM false) (gV 4) (gC (.str [114, 111, 119])))) (gOp addM (gC (.int 2)) (gCall m_law_draw (gCons (gV 0) (gCons (gIf (gTst (gOp (ltM) (gV 3) (gC (.int 5)))) (gC (.int 2)) (gC (.int 1))) (gNil))))) (gOp addM (gC (.int 1)) (gCall m_law_draw (gCons (gV 0) (gCons (gIf (gTst (gOp (ltM) (gV 3) (gC (.int 4)))) (gC (.int 3)) (gC (.int 2))) (gNil)))))))
        (gSeq (gSet 6 (gLc (giRng1 (gV 5)) (gName' 7) (gYes) (gCall me (gCons (gV 0) (gCons (gV 1) (gCons (gV 2) (gCons (gOp subM (gV 3) (gC (.int 1))) (gNil)))))) [7]))
        (gRet (gIf (gTst (gOp (eqM false) (gV 4) (gC (.str [114, 111, 119])))) (gCall m_law_flat (gCons (gV 6) (gNil))) (gTup (gCons (gV 4) (gCons (gCB tupN (gCons (gV 6) (gNil))) (gNil))))))))))
def r_law_time : Nat → Fn
  | 0 => fun _ _ => .no
  | n + 1 => runDef 8 (b_law_time (r_law_time n))
def m_law_time : Fn := r_law_time 8
theorem okr_law_time (Z : Hd K mg) : ∀ n, Ok P w K mg base (2 + n) "_law_time" s_law_time ["pot", "letters", "words", "deep"] (r_law_time n)
  | 0 => ok_no Z.d_law_time
  | n + 1 => by
    have ih := okr_law_time Z n
    have hk_law_pick : 2 ≤ 2 + n := by omega
    have hk_law_flat : 1 ≤ 2 + n := by omega
    have hk_law_draw : 1 ≤ 2 + n := by omega
    exact ok_def (k := 2 + n) Z.d_law_time sc_law_time rfl (fun f cdv A outer s H E' hr hgd tk pa => by
    have hu := hu_g hr
    have nd := sc_law_time.nd
    exact ss_cons (s_set 4 nd (g_if (t_cmp (gt_ok) (g_v 3) (g_int)) (c_ ((ok_law_pick Z).mono hk_law_pick) hr hgd tk bn_law_pick (g_cons (g_v 0) (g_cons (g_op add_ok (g_lst (g_cons (g_str [108, 101, 116, 116, 101, 114]) (g_cons (g_str [108, 101, 116, 116, 101, 114]) (g_cons (g_str [114, 111, 119]) (g_cons (g_str [114, 111, 119]) (g_nil)))))) (g_v 2)) (g_nil))) (gCons_len (gCons_len (gNil_len')))) (g_str [108, 101, 116, 116, 101, 114])))
        (ss_cons (s_if (t_cmp (eq_ok hu) (g_v 4) (g_str [108, 101, 116, 116, 101, 114])) (ss_one (s_ret (c_ ((ok_law_pick Z).mono hk_law_pick) hr hgd tk bn_law_pick (g_cons (g_v 0) (g_cons (g_v 1) (g_nil))) (gCons_len (gCons_len (gNil_len')))))) (ss_nil))
        (ss_cons (s_if (t_cmp (in_ok hu) (g_v 4) (g_tup (g_cons (g_str [111, 110]) (g_cons (g_str [102, 114, 111, 109]) (g_nil))))) (ss_one (s_ret (g_tup (g_cons (g_v 4) (g_cons (c_ ih hr hgd tk bn_law_time (g_cons (g_v 0) (g_cons (g_v 1) (g_cons (g_v 2) (g_cons (g_op sub_ok (g_v 3) (g_int)) (g_nil))))) (gCons_len (gCons_len (gCons_len (gCons_len (gNil_len')))))) (g_nil)))))) (ss_nil))
        (ss_cons (s_set 5 nd (g_if (t_cmp (eq_ok hu) (g_v 4) (g_str [114, 111, 119])) (g_op add_ok (g_int) (c_ ((ok_law_draw Z).mono hk_law_draw) hr hgd tk bn_law_draw (g_cons (g_v 0) (g_cons (g_if (t_cmp (lt_ok hu) (g_v 3) (g_int)) (g_int) (g_int)) (g_nil))) (gCons_len (gCons_len (gNil_len'))))) (g_op add_ok (g_int) (c_ ((ok_law_draw Z).mono hk_law_draw) hr hgd tk bn_law_draw (g_cons (g_v 0) (g_cons (g_if (t_cmp (lt_ok hu) (g_v 3) (g_int)) (g_int) (g_int)) (g_nil))) (gCons_len (gCons_len (gNil_len')))))))
        (ss_cons (s_setLc 6 (own := [("turn", 7)]) rfl nd (i_rng1 Z.z_range (g_v 5)) (by rfl) (fun _ _ _ _ _ => aw_name (i := 7) nd) (fun _ _ _ _ _ => ts_nil) (fun _ _ _ _ _ => c_ ih hr hgd takes0 bn_law_time (g_cons (g_v 0) (g_cons (g_v 1) (g_cons (g_v 2) (g_cons (g_op sub_ok (g_v 3) (g_int)) (g_nil))))) (gCons_len (gCons_len (gCons_len (gCons_len (gNil_len')))))) rfl)
        (ss_one (s_ret (g_if (t_cmp (eq_ok hu) (g_v 4) (g_str [114, 111, 119])) (c_ ((ok_law_flat Z).mono hk_law_flat) hr hgd tk bn_law_flat (g_cons (g_v 6) (g_nil)) (gCons_len (gNil_len'))) (g_tup (g_cons (g_v 4) (g_cons (g_callT (tup_ok) Z.z_tuple boot_tuple (g_cons (g_v 6) (g_nil))) (g_nil))))))))))))
theorem ok_law_time (Z : Hd K mg) : Ok P w K mg base 10 "_law_time" s_law_time ["pot", "letters", "words", "deep"] m_law_time := okr_law_time Z 8
def b_law_led : Gs :=
    gSeq (whileG (gAndT (gTst (gOp (eqM true) (gV 0) (gLst (gNil)))) (gTst (gOp (eqM false) (gOp ixM (gV 0) (gUn negM (gC (.int 1)))) (gC (.int 0))))) (gSet 0 (gSl (gV 0) (gNoPart) (gPart (gUn negM (gC (.int 1)))))) big)
        (gRet (gV 0))
def m_law_led : Fn := runDef 1 b_law_led
theorem ok_law_led (Z : Hd K mg) : Ok P w K mg base 1 "_law_led" s_law_led ["row"] m_law_led := ok_def (k := 0) Z.d_law_led sc_law_led rfl (fun f cdv A outer s H E' hr hgd tk pa => by
    have hu := hu_g hr
    have nd := sc_law_led.nd
    exact ss_cons (s_while big pa (t_w (w_and (t_cmp (ne_ok hu) (g_v 0) (g_lst (g_nil))) (w_and1 (t_cmp (eq_ok hu) (g_ix hu (g_v 0) (g_un neg_ok (g_int))) (g_int))))) (ss_one (s_set 0 nd (g_sl (g_v 0) (o_non) (o_some (g_un neg_ok (g_int)))))))
        (ss_one (s_ret (g_v 0))))
def b_law_length : Gs :=
    gSeq (gSet 2 (gCall m_law_pick (gCons (gV 0) (gCons (gLst (gCons (gC (.int 1)) (gCons (gC (.int 2)) (gCons (gC (.int 5)) (gCons (gOp powM (gC (.int 10)) (gC (.int 9))) (gNil)))))) (gNil)))))
        (gSeq (gSet 3 (gLc (giRng1 (gCall m_law_draw (gCons (gV 0) (gCons (gV 1) (gNil))))) (gName' 4) (gYes) (gOp mulM (gCall m_law_draw (gCons (gV 0) (gCons (gC (.int 2)) (gNil)))) (gCall m_law_draw (gCons (gV 0) (gCons (gV 2) (gNil))))) [4]))
        (gRet (gCall m_law_led (gCons (gV 3) (gNil)))))
def m_law_length : Fn := runDef 5 b_law_length
theorem ok_law_length (Z : Hd K mg) : Ok P w K mg base 3 "_law_length" s_law_length ["pot", "most"] m_law_length := ok_def (k := 2) Z.d_law_length sc_law_length rfl (fun f cdv A outer s H E' hr hgd tk pa => by
    have hu := hu_g hr
    have nd := sc_law_length.nd
    exact ss_cons (s_set 2 nd (c_ ((ok_law_pick Z).mono (by decide)) hr hgd tk bn_law_pick (g_cons (g_v 0) (g_cons (g_lst (g_cons (g_int) (g_cons (g_int) (g_cons (g_int) (g_cons (g_op pow_ok (g_int) (g_int)) (g_nil)))))) (g_nil))) (gCons_len (gCons_len (gNil_len')))))
        (ss_cons (s_setLc 3 (own := [("power", 4)]) rfl nd (i_rng1 Z.z_range (c_ ((ok_law_draw Z).mono (by decide)) hr hgd tk bn_law_draw (g_cons (g_v 0) (g_cons (g_v 1) (g_nil))) (gCons_len (gCons_len (gNil_len'))))) (by rfl) (fun _ _ _ _ _ => aw_name (i := 4) nd) (fun _ _ _ _ _ => ts_nil) (fun _ _ _ _ _ => g_op mul_ok (c_ ((ok_law_draw Z).mono (by decide)) hr hgd takes0 bn_law_draw (g_cons (g_v 0) (g_cons (g_int) (g_nil))) (gCons_len (gCons_len (gNil_len')))) (c_ ((ok_law_draw Z).mono (by decide)) hr hgd takes0 bn_law_draw (g_cons (g_v 0) (g_cons (g_v 2) (g_nil))) (gCons_len (gCons_len (gNil_len'))))) rfl)
        (ss_one (s_ret (c_ ((ok_law_led Z).mono (by decide)) hr hgd tk bn_law_led (g_cons (g_v 3) (g_nil)) (gCons_len (gNil_len')))))))
def b_law_plus : Gs :=
    gSeq (gIfS (gTst (gOp (eqM false) (gV 1) (gLst (gNil)))) (gRet (gV 0)) (gsSkip))
        (gSeq (gSet 2 (gOp subM (gCB lenN (gCons (gV 1) (gNil))) (gC (.int 1))))
        (gSeq (gSet 3 (gOp addM (gLc (giEn (gCons (gV 0) (gNil))) (gUnp 2 (gsCons (gName' 4) (gsCons (gName' 5) (gsNil)))) (gYes) (gIf (gTst (gOp (geM) (gV 4) (gV 2))) (gV 5) (gC (.int 0))) [4, 5]) (gOp mulM (gLst (gCons (gC (.int 0)) (gNil))) (gCB maxN (gCons (gC (.int 0)) (gCons (gOp subM (gCB lenN (gCons (gV 1) (gNil))) (gCB lenN (gCons (gV 0) (gNil)))) (gNil)))))))
        (gRet (gLc (giRng1 (gCB lenN (gCons (gV 3) (gNil)))) (gName' 4) (gYes) (gIf (gTst (gOp (geM) (gV 4) (gV 2))) (gOp addM (gOp ixM (gV 3) (gV 4)) (gIf (gTst (gOp (leM) (gV 4) (gV 2))) (gOp ixM (gV 1) (gV 4)) (gC (.int 0)))) (gOp ixM (gV 1) (gV 4))) [4]))))
def m_law_plus : Fn := runDef 6 b_law_plus
theorem ok_law_plus (Z : Hd K mg) : Ok P w K mg base 1 "_law_plus" s_law_plus ["one", "other"] m_law_plus := ok_def (k := 0) Z.d_law_plus sc_law_plus rfl (fun f cdv A outer s H E' hr hgd tk pa => by
    have hu := hu_g hr
    have nd := sc_law_plus.nd
    exact ss_cons (s_if (t_cmp (eq_ok hu) (g_v 1) (g_lst (g_nil))) (ss_one (s_ret (g_v 0))) (ss_nil))
        (ss_cons (s_set 2 nd (g_op sub_ok (g_callB (len_ok) Z.z_len boot_len (g_cons (g_v 1) (g_nil))) (g_int)))
        (ss_cons (s_set 3 nd (g_op add_ok (g_lc (own := [("power", 4), ("many", 5)]) rfl nd (i_enum Z.z_enumerate (g_cons (g_v 0) (g_nil))) (by rfl) (fun _ _ _ _ _ => aw_unp rfl (asw_cons (aw_name (i := 4) nd) (asw_cons (aw_name (i := 5) nd) (asw_nil)))) (fun _ _ _ _ _ => ts_nil) (fun _ _ _ _ _ => g_if (t_cmp (ge_ok) (g_v 4) (g_v 2)) (g_v 5) (g_int))) (g_op mul_ok (g_lst (g_cons (g_int) (g_nil))) (g_callB (max_ok rfl) Z.z_max boot_max (g_cons (g_int) (g_cons (g_op sub_ok (g_callB (len_ok) Z.z_len boot_len (g_cons (g_v 1) (g_nil))) (g_callB (len_ok) Z.z_len boot_len (g_cons (g_v 0) (g_nil)))) (g_nil)))))))
        (ss_one (s_ret (g_lc (own := [("power", 4)]) rfl nd (i_rng1 Z.z_range (g_callB (len_ok) Z.z_len boot_len (g_cons (g_v 3) (g_nil)))) (by rfl) (fun _ _ _ _ _ => aw_name (i := 4) nd) (fun _ _ _ _ _ => ts_nil) (fun _ _ _ _ _ => g_if (t_cmp (ge_ok) (g_v 4) (g_v 2)) (g_op add_ok (g_ix hu (g_v 3) (g_v 4)) (g_if (t_cmp (le_ok) (g_v 4) (g_v 2)) (g_ix hu (g_v 1) (g_v 4)) (g_int))) (g_ix hu (g_v 1) (g_v 4)))))))))
def b_law_is_length : Gs :=
    gSeq (gIfS (gNotT (gTru (gCB isiN (gCons (gV 0) (gCons (gC (.ty .tup)) (gNil)))))) (gRet (gC (.bl false))) (gsSkip))
        (gSeq (gSet 1 (gC (.int 16)))
        (gSeq (gFor (giSeq (gV 0)) (gName' 2) (gSeq (gIfS (gOrT (gNotT (gTru (gCB isiN (gCons (gV 2) (gCons (gC (.ty .tup)) (gNil)))))) (gOrT (gTst (gOp (eqM true) (gCB lenN (gCons (gV 2) (gNil))) (gC (.int 2)))) (gNotT (gTru (gCB allN (gCons (gLc (giSeq (gV 2)) (gName' 3) (gYes) (gAnd (gCB isiN (gCons (gV 3) (gCons (gC (.ty .int)) (gNil)))) (gNot (gCB isiN (gCons (gV 3) (gCons (gC (.ty .bool)) (gNil)))))) [3]) (gNil))))))) (gRet (gC (.bl false))) (gsSkip))
          (gSeq (gIfS (gOrT (gNotT (gTst (gChain (leM) (ltM) (gC (.int 0)) (gOp ixM (gV 2) (gC (.int 0))) (gV 1)))) (gNotT (gTst (gChain (leM) (leM) (gC (.int 1)) (gOp ixM (gV 2) (gC (.int 1))) (gOp powM (gC (.int 10)) (gC (.int 30))))))) (gRet (gC (.bl false))) (gsSkip))
          (gSet 1 (gOp ixM (gV 2) (gC (.int 0)))))))
        (gRet (gC (.bl true)))))
def m_law_is_length : Fn := runDef 4 b_law_is_length
theorem ok_law_is_length (Z : Hd K mg) : Ok P w K mg base 1 "_law_is_length" s_law_is_length ["value"] m_law_is_length := ok_def (k := 0) Z.d_law_is_length sc_law_is_length rfl (fun f cdv A outer s H E' hr hgd tk pa => by
    have hu := hu_g hr
    have nd := sc_law_is_length.nd
    exact ss_cons (s_if (t_not (t_tru (g_callB (isi_ok) Z.z_isinstance boot_isinstance (g_cons (g_v 0) (g_cons (g_ty .tup Z.z_tuple boot_tuple) (g_nil)))))) (ss_one (s_ret (g_bl))) (ss_nil))
        (ss_cons (s_set 1 nd (g_int))
        (ss_cons (s_for pa rfl (i_seq (g_v 0)) (a_name (i := 2) nd) (ss_cons (s_if (t_w (w_or (t_not (t_tru (g_callB (isi_ok) Z.z_isinstance boot_isinstance (g_cons (g_v 2) (g_cons (g_ty .tup Z.z_tuple boot_tuple) (g_nil)))))) (w_or (t_cmp (ne_ok hu) (g_callB (len_ok) Z.z_len boot_len (g_cons (g_v 2) (g_nil))) (g_int)) (w_or1 (t_not (t_tru (g_callB (all_ok rfl) Z.z_all boot_all (g_cons (g_lc (own := [("part", 3)]) rfl nd (i_seq (g_v 2)) (by rfl) (fun _ _ _ _ _ => aw_name (i := 3) nd) (fun _ _ _ _ _ => ts_nil) (fun _ _ _ _ _ => g_and (g_callB (isi_ok) Z.z_isinstance boot_isinstance (g_cons (g_v 3) (g_cons (g_ty .int Z.z_int boot_int) (g_nil)))) (g_one (g_not (g_callB (isi_ok) Z.z_isinstance boot_isinstance (g_cons (g_v 3) (g_cons (g_ty .bool Z.z_bool boot_bool) (g_nil)))))))) (g_nil))))))))) (ss_one (s_ret (g_bl))) (ss_nil))
          (ss_cons (s_if (t_w (w_or (t_not (t_chain (le_ok) (lt_ok hu) (g_int) (g_ix hu (g_v 2) (g_int)) (g_v 1))) (w_or1 (t_not (t_chain (le_ok) (le_ok) (g_int) (g_ix hu (g_v 2) (g_int)) (g_op pow_ok (g_int) (g_int))))))) (ss_one (s_ret (g_bl))) (ss_nil))
          (ss_one (s_set 1 nd (g_ix hu (g_v 2) (g_int)))))))
        (ss_one (s_ret (g_bl))))))
def b_law_own_length (me : Fn) : Gs :=
    gSeq (gIfS (gTru (gCB isiN (gCons (gV 0) (gCons (gC (.ty .str)) (gNil))))) (gRet (gLst (gCons (gC (.int 1)) (gNil)))) (gsSkip))
        (gSeq (gIfS (gTst (gOp (eqM false) (gOp ixM (gV 0) (gC (.int 0))) (gC (.str [111, 110])))) (gRet (gOp addM (gOp mulM (gLst (gCons (gC (.int 0)) (gNil))) (gCB lenN (gCons (gCall me (gCons (gOp ixM (gV 0) (gC (.int 1))) (gNil))) (gNil)))) (gLst (gCons (gC (.int 1)) (gNil))))) (gsSkip))
        (gSeq (gSet 1 (gLst (gNil)))
        (gSeq (gFor (giSeq (gOp ixM (gV 0) (gC (.int 1)))) (gName' 2) (gSet 1 (gCall m_law_plus (gCons (gV 1) (gCons (gCall me (gCons (gV 2) (gNil))) (gNil))))))
        (gRet (gV 1)))))
def r_law_own_length : Nat → Fn
  | 0 => fun _ _ => .no
  | n + 1 => runDef 3 (b_law_own_length (r_law_own_length n))
def m_law_own_length : Fn := r_law_own_length 12
theorem okr_law_own_length (Z : Hd K mg) : ∀ n, Ok P w K mg base (1 + n) "_law_own_length" s_law_own_length ["timeline"] (r_law_own_length n)
  | 0 => ok_no Z.d_law_own_length
  | n + 1 => by
    have ih := okr_law_own_length Z n
    have hk_law_plus : 1 ≤ 1 + n := by omega
    exact ok_def (k := 1 + n) Z.d_law_own_length sc_law_own_length rfl (fun f cdv A outer s H E' hr hgd tk pa => by
    have hu := hu_g hr
    have nd := sc_law_own_length.nd
    exact ss_cons (s_if (t_tru (g_callB (isi_ok) Z.z_isinstance boot_isinstance (g_cons (g_v 0) (g_cons (g_ty .str Z.z_str boot_str) (g_nil))))) (ss_one (s_ret (g_lst (g_cons (g_int) (g_nil))))) (ss_nil))
        (ss_cons (s_if (t_cmp (eq_ok hu) (g_ix hu (g_v 0) (g_int)) (g_str [111, 110])) (ss_one (s_ret (g_op add_ok (g_op mul_ok (g_lst (g_cons (g_int) (g_nil))) (g_callB (len_ok) Z.z_len boot_len (g_cons (c_ ih hr hgd tk bn_law_own_length (g_cons (g_ix hu (g_v 0) (g_int)) (g_nil)) (gCons_len (gNil_len'))) (g_nil)))) (g_lst (g_cons (g_int) (g_nil)))))) (ss_nil))
        (ss_cons (s_set 1 nd (g_lst (g_nil)))
        (ss_cons (s_for pa rfl (i_seq (g_ix hu (g_v 0) (g_int))) (a_name (i := 2) nd) (ss_one (s_set 1 nd (c_ ((ok_law_plus Z).mono hk_law_plus) hr hgd tk bn_law_plus (g_cons (g_v 1) (g_cons (c_ ih hr hgd tk bn_law_own_length (g_cons (g_v 2) (g_nil)) (gCons_len (gNil_len'))) (g_nil))) (gCons_len (gCons_len (gNil_len')))))))
        (ss_one (s_ret (g_v 1)))))))
theorem ok_law_own_length (Z : Hd K mg) : Ok P w K mg base 13 "_law_own_length" s_law_own_length ["timeline"] m_law_own_length := okr_law_own_length Z 12
def b_is_tuple : Gs :=
    gRet (gAnd (gCB isiN (gCons (gV 0) (gCons (gC (.ty .tup)) (gNil)))) (gOp (eqM false) (gCB lenN (gCons (gV 0) (gNil))) (gV 1)))
def m_is_tuple : Fn := runDef 2 b_is_tuple
theorem ok_is_tuple (Z : Hd K mg) : Ok P w K mg base 1 "is_tuple" s_is_tuple ["value", "many"] m_is_tuple := ok_def (k := 0) Z.d_is_tuple sc_is_tuple rfl (fun f cdv A outer s H E' hr hgd tk pa => by
    have hu := hu_g hr
    have nd := sc_is_tuple.nd
    exact ss_one (s_ret (g_and (g_callB (isi_ok) Z.z_isinstance boot_isinstance (g_cons (g_v 0) (g_cons (g_ty .tup Z.z_tuple boot_tuple) (g_nil)))) (g_one (g_cmp (eq_ok hu) (g_callB (len_ok) Z.z_len boot_len (g_cons (g_v 0) (g_nil))) (g_v 1))))))
def b_is_integer : Gs :=
    gRet (gAnd (gCB isiN (gCons (gV 0) (gCons (gC (.ty .int)) (gNil)))) (gNot (gCB isiN (gCons (gV 0) (gCons (gC (.ty .bool)) (gNil))))))
def m_is_integer : Fn := runDef 1 b_is_integer
theorem ok_is_integer (Z : Hd K mg) : Ok P w K mg base 1 "is_integer" s_is_integer ["value"] m_is_integer := ok_def (k := 0) Z.d_is_integer sc_is_integer rfl (fun f cdv A outer s H E' hr hgd tk pa => by
    have hu := hu_g hr
    have nd := sc_is_integer.nd
    exact ss_one (s_ret (g_and (g_callB (isi_ok) Z.z_isinstance boot_isinstance (g_cons (g_v 0) (g_cons (g_ty .int Z.z_int boot_int) (g_nil)))) (g_one (g_not (g_callB (isi_ok) Z.z_isinstance boot_isinstance (g_cons (g_v 0) (g_cons (g_ty .bool Z.z_bool boot_bool) (g_nil)))))))))
def b_is_within : Gs :=
    gRet (gAnd (gCall m_is_integer (gCons (gV 0) (gNil))) (gChain (leM) (leM) (gV 1) (gV 0) (gV 2)))
def m_is_within : Fn := runDef 3 b_is_within
theorem ok_is_within (Z : Hd K mg) : Ok P w K mg base 2 "is_within" s_is_within ["value", "least", "most"] m_is_within := ok_def (k := 1) Z.d_is_within sc_is_within rfl (fun f cdv A outer s H E' hr hgd tk pa => by
    have hu := hu_g hr
    have nd := sc_is_within.nd
    exact ss_one (s_ret (g_and (c_ ((ok_is_integer Z).mono (by decide)) hr hgd tk bn_is_integer (g_cons (g_v 0) (g_nil)) (gCons_len (gNil_len'))) (g_one (g_chain (le_ok) (le_ok) (g_v 1) (g_v 0) (g_v 2))))))
def b_is_length_value : Gs :=
    gSeq (gIfS (gOrT (gNotT (gTru (gCB isiN (gCons (gV 0) (gCons (gC (.ty .tup)) (gNil)))))) (gNotT (gTru (gCB allN (gCons (gLc (giSeq (gV 0)) (gName' 5) (gYes) (gCall m_is_tuple (gCons (gV 5) (gCons (gC (.int 2)) (gNil)))) [5]) (gNil)))))) (gRet (gC (.bl false))) (gsSkip))
        (gSeq (gIfS (gNotT (gTru (gCB allN (gCons (gLc (giSeq (gV 0)) (gUnp 2 (gsCons (gName' 3) (gsCons (gName' 4) (gsNil)))) (gYes) (gAnd (gCall m_is_within (gCons (gV 3) (gCons (gC (.int 0)) (gCons (gC c_MOST_POWER) (gNil))))) (gCall m_is_within (gCons (gV 4) (gCons (gC (.int 1)) (gCons (gC c_MOST_MANY) (gNil)))))) [3, 4]) (gNil))))) (gRet (gC (.bl false))) (gsSkip))
        (gRet (gCB allN (gCons (gLc (giZip' (gCons (gV 0) (gCons (gSl (gV 0) (gPart (gC (.int 1))) (gNoPart)) (gNil)))) (gUnp 2 (gsCons (gName' 1) (gsCons (gName' 2) (gsNil)))) (gYes) (gOp (gtM) (gOp ixM (gV 1) (gC (.int 0))) (gOp ixM (gV 2) (gC (.int 0)))) [1, 2]) (gNil)))))
def m_is_length_value : Fn := runDef 6 b_is_length_value
theorem ok_is_length_value (Z : Hd K mg) : Ok P w K mg base 3 "is_length_value" s_is_length_value ["value"] m_is_length_value := ok_def (k := 2) Z.d_is_length_value sc_is_length_value rfl (fun f cdv A outer s H E' hr hgd tk pa => by
    have hu := hu_g hr
    have nd := sc_is_length_value.nd
    exact ss_cons (s_if (t_w (w_or (t_not (t_tru (g_callB (isi_ok) Z.z_isinstance boot_isinstance (g_cons (g_v 0) (g_cons (g_ty .tup Z.z_tuple boot_tuple) (g_nil)))))) (w_or1 (t_not (t_tru (g_callB (all_ok rfl) Z.z_all boot_all (g_cons (g_lc (own := [("row", 5)]) rfl nd (i_seq (g_v 0)) (by rfl) (fun _ _ _ _ _ => aw_name (i := 5) nd) (fun _ _ _ _ _ => ts_nil) (fun _ _ _ _ _ => c_ ((ok_is_tuple Z).mono (by decide)) hr hgd takes0 bn_is_tuple (g_cons (g_v 5) (g_cons (g_int) (g_nil))) (gCons_len (gCons_len (gNil_len'))))) (g_nil)))))))) (ss_one (s_ret (g_bl))) (ss_nil))
        (ss_cons (s_if (t_not (t_tru (g_callB (all_ok rfl) Z.z_all boot_all (g_cons (g_lc (own := [("power", 3), ("many", 4)]) rfl nd (i_seq (g_v 0)) (by rfl) (fun _ _ _ _ _ => aw_unp rfl (asw_cons (aw_name (i := 3) nd) (asw_cons (aw_name (i := 4) nd) (asw_nil)))) (fun _ _ _ _ _ => ts_nil) (fun _ _ _ _ _ => g_and (c_ ((ok_is_within Z).mono (by decide)) hr hgd takes0 bn_is_within (g_cons (g_v 3) (g_cons (g_int) (g_cons (g_glob Z.c_MOST_POWER) (g_nil)))) (gCons_len (gCons_len (gCons_len (gNil_len'))))) (g_one (c_ ((ok_is_within Z).mono (by decide)) hr hgd takes0 bn_is_within (g_cons (g_v 4) (g_cons (g_int) (g_cons (g_glob Z.c_MOST_MANY) (g_nil)))) (gCons_len (gCons_len (gCons_len (gNil_len')))))))) (g_nil))))) (ss_one (s_ret (g_bl))) (ss_nil))
        (ss_one (s_ret (g_callB (all_ok rfl) Z.z_all boot_all (g_cons (g_lc (own := [("near", 1), ("far", 2)]) rfl nd (i_zip Z.z_zip (g_cons (g_v 0) (g_cons (g_sl (g_v 0) (o_some (g_int)) (o_non)) (g_nil)))) (by rfl) (fun _ _ _ _ _ => aw_unp rfl (asw_cons (aw_name (i := 1) nd) (asw_cons (aw_name (i := 2) nd) (asw_nil)))) (fun _ _ _ _ _ => ts_nil) (fun _ _ _ _ _ => g_cmp (gt_ok) (g_ix hu (g_v 1) (g_int)) (g_ix hu (g_v 2) (g_int)))) (g_nil)))))))
def b_want_length : Gs :=
    gIfS (gNotT (gTru (gCall m_is_length_value (gCons (gV 0) (gNil))))) (gNever) (gsSkip)
def m_want_length : Fn := runDef 1 b_want_length
theorem ok_want_length (Z : Hd K mg) : Ok P w K mg base 4 "want_length" s_want_length ["length"] m_want_length := ok_def (k := 3) Z.d_want_length sc_want_length rfl (fun f cdv A outer s H E' hr hgd tk pa => by
    have hu := hu_g hr
    have nd := sc_want_length.nd
    exact ss_one (s_if (t_not (t_tru (c_ ((ok_is_length_value Z).mono (by decide)) hr hgd tk bn_is_length_value (g_cons (g_v 0) (g_nil)) (gCons_len (gNil_len'))))) (ss_one (s_never)) (ss_nil)))
def b_bounded_length : Gs :=
    gSeq (gIfS (gTru (gCB anyN (gCons (gLc (giSeq (gV 0)) (gUnp 2 (gsCons (gName' 1) (gsCons (gName' 2) (gsNil)))) (gYes) (gOp (gtM) (gV 2) (gC c_MOST_MANY)) [1, 2]) (gNil)))) (gNever) (gsSkip))
        (gRet (gV 0))
def m_bounded_length : Fn := runDef 3 b_bounded_length
theorem ok_bounded_length (Z : Hd K mg) : Ok P w K mg base 1 "bounded_length" s_bounded_length ["length"] m_bounded_length := ok_def (k := 0) Z.d_bounded_length sc_bounded_length rfl (fun f cdv A outer s H E' hr hgd tk pa => by
    have hu := hu_g hr
    have nd := sc_bounded_length.nd
    exact ss_cons (s_if (t_tru (g_callB (any_ok rfl) Z.z_any boot_any (g_cons (g_lc (own := [("power", 1), ("many", 2)]) rfl nd (i_seq (g_v 0)) (by rfl) (fun _ _ _ _ _ => aw_unp rfl (asw_cons (aw_name (i := 1) nd) (asw_cons (aw_name (i := 2) nd) (asw_nil)))) (fun _ _ _ _ _ => ts_nil) (fun _ _ _ _ _ => g_cmp (gt_ok) (g_v 2) (g_glob Z.c_MOST_MANY))) (g_nil)))) (ss_one (s_never)) (ss_nil))
        (ss_one (s_ret (g_v 0))))
def b_sum_by : Gs :=
    gSeq (gIfS (gTst (gOp (eqM false) (gV 1) (gTup (gNil)))) (gRet (gV 0)) (gsSkip))
        (gSeq (gAsg (gUnp 2 (gsCons (gName' 2) (gsCons (gName' 3) (gsNil)))) (gOp ixM (gV 1) (gC (.int 0))))
        (gSeq (gSet 4 (gCB tupN (gCons (gLc (giSeq (gV 0)) (gName' 6) (gTst (gOp (gtM) (gOp ixM (gV 6) (gC (.int 0))) (gV 2))) (gV 6) [6]) (gNil))))
        (gSeq (gSet 5 (gCB sumN (gCons (gLc (giSeq (gV 0)) (gName' 6) (gTst (gOp (eqM false) (gOp ixM (gV 6) (gC (.int 0))) (gV 2))) (gOp ixM (gV 6) (gC (.int 1))) [6]) (gNil))))
        (gRet (gOp addM (gOp addM (gV 4) (gTup (gCons (gTup (gCons (gV 2) (gCons (gOp addM (gV 5) (gV 3)) (gNil)))) (gNil)))) (gSl (gV 1) (gPart (gC (.int 1))) (gNoPart)))))))
def m_sum_by : Fn := runDef 7 b_sum_by
theorem ok_sum_by (Z : Hd K mg) : Ok P w K mg base 1 "sum_by" s_sum_by ["one", "other"] m_sum_by := ok_def (k := 0) Z.d_sum_by sc_sum_by rfl (fun f cdv A outer s H E' hr hgd tk pa => by
    have hu := hu_g hr
    have nd := sc_sum_by.nd
    exact ss_cons (s_if (t_cmp (eq_ok hu) (g_v 1) (g_tup (g_nil))) (ss_one (s_ret (g_v 0))) (ss_nil))
        (ss_cons (s_asg (g_ix hu (g_v 1) (g_int)) (a_unp rfl (as_cons (a_name (i := 2) nd) (as_cons (a_name (i := 3) nd) (as_nil)))))
        (ss_cons (s_set 4 nd (g_callT (tup_ok) Z.z_tuple boot_tuple (g_cons (g_lc (own := [("row", 6)]) rfl nd (i_seq (g_v 0)) (by rfl) (fun _ _ _ _ _ => aw_name (i := 6) nd) (fun _ _ _ _ _ => ts_one (t_cmp (gt_ok) (g_ix hu (g_v 6) (g_int)) (g_v 2))) (fun _ _ _ _ _ => g_v 6)) (g_nil))))
        (ss_cons (s_set 5 nd (g_callB (sum_ok rfl) Z.z_sum boot_sum (g_cons (g_lc (own := [("row", 6)]) rfl nd (i_seq (g_v 0)) (by rfl) (fun _ _ _ _ _ => aw_name (i := 6) nd) (fun _ _ _ _ _ => ts_one (t_cmp (eq_ok hu) (g_ix hu (g_v 6) (g_int)) (g_v 2))) (fun _ _ _ _ _ => g_ix hu (g_v 6) (g_int))) (g_nil))))
        (ss_one (s_ret (g_op add_ok (g_op add_ok (g_v 4) (g_tup (g_cons (g_tup (g_cons (g_v 2) (g_cons (g_op add_ok (g_v 5) (g_v 3)) (g_nil)))) (g_nil)))) (g_sl (g_v 1) (o_some (g_int)) (o_non)))))))))
def b_sum_of : Gs :=
    gSeq (gExpr (gCall m_want_length (gCons (gV 0) (gNil))))
        (gSeq (gIfS (gNotT (gTru (gCall m_is_length_value (gCons (gV 1) (gNil))))) (gNever) (gsSkip))
        (gRet (gCall m_bounded_length (gCons (gCall m_sum_by (gCons (gV 0) (gCons (gV 1) (gNil)))) (gNil)))))
def m_sum_of : Fn := runDef 2 b_sum_of
theorem ok_sum_of (Z : Hd K mg) : Ok P w K mg base 5 "sum_of" s_sum_of ["length", "other"] m_sum_of := ok_def (k := 4) Z.d_sum_of sc_sum_of rfl (fun f cdv A outer s H E' hr hgd tk pa => by
    have hu := hu_g hr
    have nd := sc_sum_of.nd
    exact ss_cons (s_expr (c_ ((ok_want_length Z).mono (by decide)) hr hgd tk bn_want_length (g_cons (g_v 0) (g_nil)) (gCons_len (gNil_len'))))
        (ss_cons (s_if (t_not (t_tru (c_ ((ok_is_length_value Z).mono (by decide)) hr hgd tk bn_is_length_value (g_cons (g_v 1) (g_nil)) (gCons_len (gNil_len'))))) (ss_one (s_never)) (ss_nil))
        (ss_one (s_ret (c_ ((ok_bounded_length Z).mono (by decide)) hr hgd tk bn_bounded_length (g_cons (c_ ((ok_sum_by Z).mono (by decide)) hr hgd tk bn_sum_by (g_cons (g_v 0) (g_cons (g_v 1) (g_nil))) (gCons_len (gCons_len (gNil_len')))) (g_nil)) (gCons_len (gNil_len')))))))
def b_is_less : Gs :=
    gSeq (gExpr (gCall m_want_length (gCons (gV 0) (gNil))))
        (gSeq (gIfS (gNotT (gTru (gCall m_is_length_value (gCons (gV 1) (gNil))))) (gNever) (gsSkip))
        (gRet (gOp (ltM) (gV 0) (gV 1))))
def m_is_less : Fn := runDef 2 b_is_less
theorem ok_is_less (Z : Hd K mg) : Ok P w K mg base 5 "is_less" s_is_less ["length", "other"] m_is_less := ok_def (k := 4) Z.d_is_less sc_is_less rfl (fun f cdv A outer s H E' hr hgd tk pa => by
    have hu := hu_g hr
    have nd := sc_is_less.nd
    exact ss_cons (s_expr (c_ ((ok_want_length Z).mono (by decide)) hr hgd tk bn_want_length (g_cons (g_v 0) (g_nil)) (gCons_len (gNil_len'))))
        (ss_cons (s_if (t_not (t_tru (c_ ((ok_is_length_value Z).mono (by decide)) hr hgd tk bn_is_length_value (g_cons (g_v 1) (g_nil)) (gCons_len (gNil_len'))))) (ss_one (s_never)) (ss_nil))
        (ss_one (s_ret (g_cmp (lt_ok hu) (g_v 0) (g_v 1))))))
def b_law_bent : Gs :=
    gSeq (gPar 2 3 (gCons (gCall m_law_draw (gCons (gV 0) (gCons (gOp addM (gCB lenN (gCons (gV 1) (gNil))) (gC (.int 1))) (gNil)))) (gCons (gCall m_law_pick (gCons (gV 0) (gCons (gLst (gCons (gC .non) (gCons (gTup (gCons (gC (.int 0)) (gCons (gC (.int 1)) (gNil)))) (gCons (gTup (gCons (gC (.int 1)) (gCons (gC (.int 0)) (gNil)))) (gCons (gTup (gCons (gC (.int 15)) (gCons (gC (.int 1)) (gNil)))) (gCons (gTup (gCons (gC (.int 16)) (gCons (gC (.int 1)) (gNil)))) (gCons (gTup (gCons (gC (.int 0)) (gCons (gOp powM (gC (.int 10)) (gC (.int 30))) (gNil)))) (gCons (gTup (gCons (gC (.int 0)) (gCons (gOp addM (gOp powM (gC (.int 10)) (gC (.int 30))) (gC (.int 1))) (gNil)))) (gCons (gTup (gCons (gC (.bl true)) (gCons (gC (.int 1)) (gNil)))) (gCons (gTup (gCons (gC (.int 1)) (gCons (gC (.int 1)) (gCons (gC (.int 1)) (gNil))))) (gCons (gLst (gCons (gC (.int 1)) (gCons (gC (.int 1)) (gNil)))) (gCons (gC (.int 0)) (gNil))))))))))))) (gNil)))) (gNil))))
        (gRet (gCall m_law_pick (gCons (gV 0) (gCons (gLst (gCons (gOp addM (gOp addM (gSl (gV 1) (gNoPart) (gPart (gV 2))) (gTup (gCons (gV 3) (gNil)))) (gSl (gV 1) (gPart (gV 2)) (gNoPart))) (gCons (gOp addM (gOp addM (gSl (gV 1) (gNoPart) (gPart (gV 2))) (gTup (gCons (gV 3) (gNil)))) (gSl (gV 1) (gPart (gOp addM (gV 2) (gC (.int 1)))) (gNoPart))) (gCons (gCB lisN (gCons (gV 1) (gNil))) (gCons (gUn rev2M (gV 1)) (gCons (gOp addM (gV 1) (gSl (gV 1) (gPart (gUn negM (gC (.int 1)))) (gNoPart))) (gNil))))))) (gNil)))))
def m_law_bent : Fn := runDef 4 b_law_bent
theorem ok_law_bent (Z : Hd K mg) : Ok P w K mg base 3 "_law_bent" s_law_bent ["pot", "value"] m_law_bent := ok_def (k := 2) Z.d_law_bent sc_law_bent rfl (fun f cdv A outer s H E' hr hgd tk pa => by
    have hu := hu_g hr
    have nd := sc_law_bent.nd
    exact ss_cons (s_par 2 3 rfl nd (g_cons (c_ ((ok_law_draw Z).mono (by decide)) hr hgd tk bn_law_draw (g_cons (g_v 0) (g_cons (g_op add_ok (g_callB (len_ok) Z.z_len boot_len (g_cons (g_v 1) (g_nil))) (g_int)) (g_nil))) (gCons_len (gCons_len (gNil_len')))) (g_cons (c_ ((ok_law_pick Z).mono (by decide)) hr hgd tk bn_law_pick (g_cons (g_v 0) (g_cons (g_lst (g_cons (g_non) (g_cons (g_tup (g_cons (g_int) (g_cons (g_int) (g_nil)))) (g_cons (g_tup (g_cons (g_int) (g_cons (g_int) (g_nil)))) (g_cons (g_tup (g_cons (g_int) (g_cons (g_int) (g_nil)))) (g_cons (g_tup (g_cons (g_int) (g_cons (g_int) (g_nil)))) (g_cons (g_tup (g_cons (g_int) (g_cons (g_op pow_ok (g_int) (g_int)) (g_nil)))) (g_cons (g_tup (g_cons (g_int) (g_cons (g_op add_ok (g_op pow_ok (g_int) (g_int)) (g_int)) (g_nil)))) (g_cons (g_tup (g_cons (g_bl) (g_cons (g_int) (g_nil)))) (g_cons (g_tup (g_cons (g_int) (g_cons (g_int) (g_cons (g_int) (g_nil))))) (g_cons (g_lst (g_cons (g_int) (g_cons (g_int) (g_nil)))) (g_cons (g_int) (g_nil))))))))))))) (g_nil))) (gCons_len (gCons_len (gNil_len')))) (g_nil))))
        (ss_one (s_ret (c_ ((ok_law_pick Z).mono (by decide)) hr hgd tk bn_law_pick (g_cons (g_v 0) (g_cons (g_lst (g_cons (g_op add_ok (g_op add_ok (g_sl (g_v 1) (o_non) (o_some (g_v 2))) (g_tup (g_cons (g_v 3) (g_nil)))) (g_sl (g_v 1) (o_some (g_v 2)) (o_non))) (g_cons (g_op add_ok (g_op add_ok (g_sl (g_v 1) (o_non) (o_some (g_v 2))) (g_tup (g_cons (g_v 3) (g_nil)))) (g_sl (g_v 1) (o_some (g_op add_ok (g_v 2) (g_int))) (o_non))) (g_cons (g_callT (lis_ok) Z.z_list boot_list (g_cons (g_v 1) (g_nil))) (g_cons (g_rev2 (g_v 1)) (g_cons (g_op add_ok (g_v 1) (g_sl (g_v 1) (o_some (g_un neg_ok (g_int))) (o_non))) (g_nil))))))) (g_nil))) (gCons_len (gCons_len (gNil_len')))))))
def b_times_by : Gs :=
    gSeq (gIfS (gOrT (gTst (gOp (eqM false) (gV 1) (gC (.int 0)))) (gTst (gOp (eqM false) (gV 0) (gTup (gNil))))) (gRet (gTup (gNil))) (gsSkip))
        (gRet (gOp addM (gTup (gCons (gTup (gCons (gOp ixM (gOp ixM (gV 0) (gC (.int 0))) (gC (.int 0))) (gCons (gOp mulM (gOp ixM (gOp ixM (gV 0) (gC (.int 0))) (gC (.int 1))) (gV 1)) (gNil)))) (gNil))) (gSl (gV 0) (gPart (gC (.int 1))) (gNoPart))))
def m_times_by : Fn := runDef 2 b_times_by
theorem ok_times_by (Z : Hd K mg) : Ok P w K mg base 1 "times_by" s_times_by ["length", "many"] m_times_by := ok_def (k := 0) Z.d_times_by sc_times_by rfl (fun f cdv A outer s H E' hr hgd tk pa => by
    have hu := hu_g hr
    have nd := sc_times_by.nd
    exact ss_cons (s_if (t_w (w_or (t_cmp (eq_ok hu) (g_v 1) (g_int)) (w_or1 (t_cmp (eq_ok hu) (g_v 0) (g_tup (g_nil)))))) (ss_one (s_ret (g_tup (g_nil)))) (ss_nil))
        (ss_one (s_ret (g_op add_ok (g_tup (g_cons (g_tup (g_cons (g_ix hu (g_ix hu (g_v 0) (g_int)) (g_int)) (g_cons (g_op mul_ok (g_ix hu (g_ix hu (g_v 0) (g_int)) (g_int)) (g_v 1)) (g_nil)))) (g_nil))) (g_sl (g_v 0) (o_some (g_int)) (o_non))))))
def b_times : Gs :=
    gSeq (gExpr (gCall m_want_length (gCons (gV 0) (gNil))))
        (gSeq (gIfS (gNotT (gTru (gCall m_is_within (gCons (gV 1) (gCons (gC (.int 0)) (gCons (gC c_MOST_MANY) (gNil))))))) (gNever) (gsSkip))
        (gRet (gCall m_bounded_length (gCons (gCall m_times_by (gCons (gV 0) (gCons (gV 1) (gNil)))) (gNil)))))
def m_times : Fn := runDef 2 b_times
theorem ok_times (Z : Hd K mg) : Ok P w K mg base 5 "times" s_times ["length", "many"] m_times := ok_def (k := 4) Z.d_times sc_times rfl (fun f cdv A outer s H E' hr hgd tk pa => by
    have hu := hu_g hr
    have nd := sc_times.nd
    exact ss_cons (s_expr (c_ ((ok_want_length Z).mono (by decide)) hr hgd tk bn_want_length (g_cons (g_v 0) (g_nil)) (gCons_len (gNil_len'))))
        (ss_cons (s_if (t_not (t_tru (c_ ((ok_is_within Z).mono (by decide)) hr hgd tk bn_is_within (g_cons (g_v 1) (g_cons (g_int) (g_cons (g_glob Z.c_MOST_MANY) (g_nil)))) (gCons_len (gCons_len (gCons_len (gNil_len'))))))) (ss_one (s_never)) (ss_nil))
        (ss_one (s_ret (c_ ((ok_bounded_length Z).mono (by decide)) hr hgd tk bn_bounded_length (g_cons (c_ ((ok_times_by Z).mono (by decide)) hr hgd tk bn_times_by (g_cons (g_v 0) (g_cons (g_v 1) (g_nil))) (gCons_len (gCons_len (gNil_len')))) (g_nil)) (gCons_len (gNil_len')))))))
def b_is_small : Gs :=
    gRet (gAnd (gCB isiN (gCons (gV 0) (gCons (gC (.ty .str)) (gNil)))) (gAnd (gChain (leM) (leM) (gV 1) (gCB lenN (gCons (gV 0) (gNil))) (gV 2)) (gCB allN (gCons (gLc (giSeq (gV 0)) (gName' 3) (gYes) (gOp (inM false) (gV 3) (gC c_ALPHABET)) [3]) (gNil)))))
def m_is_small : Fn := runDef 4 b_is_small
theorem ok_is_small (Z : Hd K mg) : Ok P w K mg base 1 "is_small" s_is_small ["value", "least", "most"] m_is_small := ok_def (k := 0) Z.d_is_small sc_is_small rfl (fun f cdv A outer s H E' hr hgd tk pa => by
    have hu := hu_g hr
    have nd := sc_is_small.nd
    exact ss_one (s_ret (g_and (g_callB (isi_ok) Z.z_isinstance boot_isinstance (g_cons (g_v 0) (g_cons (g_ty .str Z.z_str boot_str) (g_nil)))) (g_and (g_chain (le_ok) (le_ok) (g_v 1) (g_callB (len_ok) Z.z_len boot_len (g_cons (g_v 0) (g_nil))) (g_v 2)) (g_one (g_callB (all_ok rfl) Z.z_all boot_all (g_cons (g_lc (own := [("sign", 3)]) rfl nd (i_seq (g_v 0)) (by rfl) (fun _ _ _ _ _ => aw_name (i := 3) nd) (fun _ _ _ _ _ => ts_nil) (fun _ _ _ _ _ => g_cmp (in_ok hu) (g_v 3) (g_glob Z.c_ALPHABET))) (g_nil))))))))
def b_is_letter_value : Gs :=
    gRet (gCall m_is_small (gCons (gV 0) (gCons (gC (.int 1)) (gCons (gC (.int 1)) (gNil)))))
def m_is_letter_value : Fn := runDef 1 b_is_letter_value
theorem ok_is_letter_value (Z : Hd K mg) : Ok P w K mg base 2 "is_letter_value" s_is_letter_value ["value"] m_is_letter_value := ok_def (k := 1) Z.d_is_letter_value sc_is_letter_value rfl (fun f cdv A outer s H E' hr hgd tk pa => by
    have hu := hu_g hr
    have nd := sc_is_letter_value.nd
    exact ss_one (s_ret (c_ ((ok_is_small Z).mono (by decide)) hr hgd tk bn_is_small (g_cons (g_v 0) (g_cons (g_int) (g_cons (g_int) (g_nil)))) (gCons_len (gCons_len (gCons_len (gNil_len')))))))
def b_are_parts : Gs :=
    gRet (gAnd (gCB isiN (gCons (gV 0) (gCons (gC (.ty .tup)) (gNil)))) (gChain (leM) (leM) (gV 1) (gCB lenN (gCons (gV 0) (gNil))) (gC c_MOST_SIZE)))
def m_are_parts : Fn := runDef 2 b_are_parts
theorem ok_are_parts (Z : Hd K mg) : Ok P w K mg base 1 "are_parts" s_are_parts ["value", "least"] m_are_parts := ok_def (k := 0) Z.d_are_parts sc_are_parts rfl (fun f cdv A outer s H E' hr hgd tk pa => by
    have hu := hu_g hr
    have nd := sc_are_parts.nd
    exact ss_one (s_ret (g_and (g_callB (isi_ok) Z.z_isinstance boot_isinstance (g_cons (g_v 0) (g_cons (g_ty .tup Z.z_tuple boot_tuple) (g_nil)))) (g_one (g_chain (le_ok) (le_ok) (g_v 1) (g_callB (len_ok) Z.z_len boot_len (g_cons (g_v 0) (g_nil))) (g_glob Z.c_MOST_SIZE))))))
def b_measures (me : Fn) : Gs :=
    gSeq (gIfS (gTru (gCall m_is_letter_value (gCons (gV 0) (gNil)))) (gRet (gTup (gCons (gC (.int 1)) (gCons (gC (.int 1)) (gCons (gDisp [(gV 0, gC (.bl true))]) (gNil)))))) (gsSkip))
        (gSeq (gIfS (gOrT (gTst (gOp (ltM) (gV 1) (gC (.int 2)))) (gOrT (gNotT (gTru (gCall m_is_tuple (gCons (gV 0) (gCons (gC (.int 2)) (gNil)))))) (gNotT (gTru (gCB isiN (gCons (gOp ixM (gV 0) (gC (.int 0))) (gCons (gC (.ty .str)) (gNil)))))))) (gRet (gC .non)) (gsSkip))
        (gSeq (gAsg (gUnp 2 (gsCons (gName' 2) (gsCons (gName' 3) (gsNil)))) (gV 0))
        (gSeq (gIfS (gTst (gOp (inM false) (gV 2) (gTup (gCons (gC c_ON) (gCons (gC c_FROM) (gNil)))))) (gSeq (gSet 4 (gCall me (gCons (gV 3) (gCons (gOp subM (gV 1) (gC (.int 1))) (gNil)))))
          (gRet (gIf (gTst (gOp (isM true) (gV 4) (gC .non))) (gTup (gCons (gOp addM (gOp ixM (gV 4) (gC (.int 0))) (gC (.int 1))) (gCons (gOp addM (gOp ixM (gV 4) (gC (.int 1))) (gC (.int 1))) (gCons (gOp ixM (gV 4) (gC (.int 2))) (gNil))))) (gC .non)))) (gsSkip))
        (gSeq (gIfS (gOrT (gTst (gOp (inM true) (gV 2) (gTup (gCons (gC c_ROW) (gCons (gC c_MIX) (gNil)))))) (gNotT (gTru (gCall m_are_parts (gCons (gV 3) (gCons (gIf (gTst (gOp (eqM false) (gV 2) (gC c_ROW))) (gC (.int 2)) (gC (.int 1))) (gNil))))))) (gRet (gC .non)) (gsSkip))
        (gSeq (gIfS (gAndT (gTst (gOp (eqM false) (gV 2) (gC c_ROW))) (gTru (gCB anyN (gCons (gLc (giSeq (gV 3)) (gName' 8) (gYes) (gAnd (gCall m_is_tuple (gCons (gV 8) (gCons (gC (.int 2)) (gNil)))) (gAnd (gCB isiN (gCons (gOp ixM (gV 8) (gC (.int 0))) (gCons (gC (.ty .str)) (gNil)))) (gOp (eqM false) (gOp ixM (gV 8) (gC (.int 0))) (gC c_ROW)))) [8]) (gNil))))) (gRet (gC .non)) (gsSkip))
        (gSeq (gPar3 5 6 7 (gCons (gIf (gTst (gOp (eqM false) (gV 2) (gC c_ROW))) (gC (.int 0)) (gC (.int 1))) (gCons (gC (.int 0)) (gCons (gEmpty) (gNil)))))
        (gSeq (gFor (giSeq (gV 3)) (gName' 8) (gSeq (gSet 4 (gCall me (gCons (gV 8) (gCons (gOp subM (gV 1) (gC (.int 1))) (gNil)))))
          (gSeq (gIfS (gTst (gOp (isM false) (gV 4) (gC .non))) (gRet (gC .non)) (gsSkip))
          (gSeq (gPar 5 6 (gCons (gOp addM (gV 5) (gOp ixM (gV 4) (gC (.int 0)))) (gCons (gCB maxN (gCons (gV 6) (gCons (gOp ixM (gV 4) (gC (.int 1))) (gNil)))) (gNil))))
          (gSeq (gExpr (gMt .dic updM (gV 7) (gCons (gOp ixM (gV 4) (gC (.int 2))) (gNil))))
          (gIfS (gTst (gOp (gtM) (gV 5) (gC c_MOST_SIZE))) (gRet (gC .non)) (gsSkip)))))))
        (gRet (gTup (gCons (gV 5) (gCons (gOp addM (gV 6) (gC (.int 1))) (gCons (gV 7) (gNil)))))))))))))
def r_measures : Nat → Fn
  | 0 => fun _ _ => .no
  | n + 1 => runDef 9 (b_measures (r_measures n))
def m_measures : Fn := r_measures 20
theorem okr_measures (Z : Hd K mg) : ∀ n, Ok P w K mg base (2 + n) "measures" s_measures ["value", "deep"] (r_measures n)
  | 0 => ok_no Z.d_measures
  | n + 1 => by
    have ih := okr_measures Z n
    have hk_is_letter_value : 2 ≤ 2 + n := by omega
    have hk_is_tuple : 1 ≤ 2 + n := by omega
    have hk_are_parts : 1 ≤ 2 + n := by omega
    exact ok_def (k := 2 + n) Z.d_measures sc_measures rfl (fun f cdv A outer s H E' hr hgd tk pa => by
    have hu := hu_g hr
    have nd := sc_measures.nd
    exact ss_cons (s_if (t_tru (c_ ((ok_is_letter_value Z).mono hk_is_letter_value) hr hgd tk bn_is_letter_value (g_cons (g_v 0) (g_nil)) (gCons_len (gNil_len')))) (ss_one (s_ret (g_tup (g_cons (g_int) (g_cons (g_int) (g_cons (g_disp (.cons (g_v 0) (g_bl) (.nil))) (g_nil))))))) (ss_nil))
        (ss_cons (s_if (t_w (w_or (t_cmp (lt_ok hu) (g_v 1) (g_int)) (w_or (t_not (t_tru (c_ ((ok_is_tuple Z).mono hk_is_tuple) hr hgd tk bn_is_tuple (g_cons (g_v 0) (g_cons (g_int) (g_nil))) (gCons_len (gCons_len (gNil_len')))))) (w_or1 (t_not (t_tru (g_callB (isi_ok) Z.z_isinstance boot_isinstance (g_cons (g_ix hu (g_v 0) (g_int)) (g_cons (g_ty .str Z.z_str boot_str) (g_nil)))))))))) (ss_one (s_ret (g_non))) (ss_nil))
        (ss_cons (s_asg (g_v 0) (a_unp rfl (as_cons (a_name (i := 2) nd) (as_cons (a_name (i := 3) nd) (as_nil)))))
        (ss_cons (s_if (t_cmp (in_ok hu) (g_v 2) (g_tup (g_cons (g_glob Z.c_ON) (g_cons (g_glob Z.c_FROM) (g_nil))))) (ss_cons (s_set 4 nd (c_ ih hr hgd tk bn_measures (g_cons (g_v 3) (g_cons (g_op sub_ok (g_v 1) (g_int)) (g_nil))) (gCons_len (gCons_len (gNil_len')))))
          (ss_one (s_ret (g_if (t_cmp (isnot_ok) (g_v 4) (g_non)) (g_tup (g_cons (g_op add_ok (g_ix hu (g_v 4) (g_int)) (g_int)) (g_cons (g_op add_ok (g_ix hu (g_v 4) (g_int)) (g_int)) (g_cons (g_ix hu (g_v 4) (g_int)) (g_nil))))) (g_non))))) (ss_nil))
        (ss_cons (s_if (t_w (w_or (t_cmp (notin_ok hu) (g_v 2) (g_tup (g_cons (g_glob Z.c_ROW) (g_cons (g_glob Z.c_MIX) (g_nil))))) (w_or1 (t_not (t_tru (c_ ((ok_are_parts Z).mono hk_are_parts) hr hgd tk bn_are_parts (g_cons (g_v 3) (g_cons (g_if (t_cmp (eq_ok hu) (g_v 2) (g_glob Z.c_ROW)) (g_int) (g_int)) (g_nil))) (gCons_len (gCons_len (gNil_len'))))))))) (ss_one (s_ret (g_non))) (ss_nil))
        (ss_cons (s_if (t_w (w_and (t_cmp (eq_ok hu) (g_v 2) (g_glob Z.c_ROW)) (w_and1 (t_tru (g_callB (any_ok rfl) Z.z_any boot_any (g_cons (g_lc (own := [("one", 8)]) rfl nd (i_seq (g_v 3)) (by rfl) (fun _ _ _ _ _ => aw_name (i := 8) nd) (fun _ _ _ _ _ => ts_nil) (fun _ _ _ _ _ => g_and (c_ ((ok_is_tuple Z).mono hk_is_tuple) hr hgd takes0 bn_is_tuple (g_cons (g_v 8) (g_cons (g_int) (g_nil))) (gCons_len (gCons_len (gNil_len')))) (g_and (g_callB (isi_ok) Z.z_isinstance boot_isinstance (g_cons (g_ix hu (g_v 8) (g_int)) (g_cons (g_ty .str Z.z_str boot_str) (g_nil)))) (g_one (g_cmp (eq_ok hu) (g_ix hu (g_v 8) (g_int)) (g_glob Z.c_ROW)))))) (g_nil))))))) (ss_one (s_ret (g_non))) (ss_nil))
        (ss_cons (s_par3 5 6 7 rfl nd (g_cons (g_if (t_cmp (eq_ok hu) (g_v 2) (g_glob Z.c_ROW)) (g_int) (g_int)) (g_cons (g_int) (g_cons (g_empty) (g_nil)))))
        (ss_cons (s_for pa rfl (i_seq (g_v 3)) (a_name (i := 8) nd) (ss_cons (s_set 4 nd (c_ ih hr hgd tk bn_measures (g_cons (g_v 8) (g_cons (g_op sub_ok (g_v 1) (g_int)) (g_nil))) (gCons_len (gCons_len (gNil_len')))))
          (ss_cons (s_if (t_cmp (is_ok) (g_v 4) (g_non)) (ss_one (s_ret (g_non))) (ss_nil))
          (ss_cons (s_par 5 6 rfl nd (g_cons (g_op add_ok (g_v 5) (g_ix hu (g_v 4) (g_int))) (g_cons (g_callB (max_ok rfl) Z.z_max boot_max (g_cons (g_v 6) (g_cons (g_ix hu (g_v 4) (g_int)) (g_nil)))) (g_nil))))
          (ss_cons (s_expr (g_mt (T := .dic) PySem.F.plainAttrs_dict PySem.F.slot_dict_update PySem.F.type_dict_update upd_ok (g_v 7) (g_cons (g_ix hu (g_v 4) (g_int)) (g_nil))))
          (ss_one (s_if (t_cmp (gt_ok) (g_v 5) (g_glob Z.c_MOST_SIZE)) (ss_one (s_ret (g_non))) (ss_nil))))))))
        (ss_one (s_ret (g_tup (g_cons (g_v 5) (g_cons (g_op add_ok (g_v 6) (g_int)) (g_cons (g_v 7) (g_nil)))))))))))))))
theorem ok_measures (Z : Hd K mg) : Ok P w K mg base 22 "measures" s_measures ["value", "deep"] m_measures := okr_measures Z 20
def b_is_timeline_value : Gs :=
    gSeq (gSet 1 (gCall m_measures (gCons (gV 0) (gCons (gC c_MOST_DEPTH) (gNil)))))
        (gRet (gAnd (gOp (isM true) (gV 1) (gC .non)) (gAnd (gOp (leM) (gOp ixM (gV 1) (gC (.int 0))) (gC c_MOST_SIZE)) (gOp (leM) (gCB lenN (gCons (gOp ixM (gV 1) (gC (.int 2))) (gNil))) (gC c_MOST_LETTERS)))))
def m_is_timeline_value : Fn := runDef 2 b_is_timeline_value
theorem ok_is_timeline_value (Z : Hd K mg) : Ok P w K mg base 23 "is_timeline_value" s_is_timeline_value ["value"] m_is_timeline_value := ok_def (k := 22) Z.d_is_timeline_value sc_is_timeline_value rfl (fun f cdv A outer s H E' hr hgd tk pa => by
    have hu := hu_g hr
    have nd := sc_is_timeline_value.nd
    exact ss_cons (s_set 1 nd (c_ ((ok_measures Z).mono (by decide)) hr hgd tk bn_measures (g_cons (g_v 0) (g_cons (g_glob Z.c_MOST_DEPTH) (g_nil))) (gCons_len (gCons_len (gNil_len')))))
        (ss_one (s_ret (g_and (g_cmp (isnot_ok) (g_v 1) (g_non)) (g_and (g_cmp (le_ok) (g_ix hu (g_v 1) (g_int)) (g_glob Z.c_MOST_SIZE)) (g_one (g_cmp (le_ok) (g_callB (len_ok) Z.z_len boot_len (g_cons (g_ix hu (g_v 1) (g_int)) (g_nil))) (g_glob Z.c_MOST_LETTERS))))))))
def b_want_timeline : Gs :=
    gIfS (gNotT (gTru (gCall m_is_timeline_value (gCons (gV 0) (gNil))))) (gNever) (gsSkip)
def m_want_timeline : Fn := runDef 1 b_want_timeline
theorem ok_want_timeline (Z : Hd K mg) : Ok P w K mg base 24 "want_timeline" s_want_timeline ["timeline"] m_want_timeline := ok_def (k := 23) Z.d_want_timeline sc_want_timeline rfl (fun f cdv A outer s H E' hr hgd tk pa => by
    have hu := hu_g hr
    have nd := sc_want_timeline.nd
    exact ss_one (s_if (t_not (t_tru (c_ ((ok_is_timeline_value Z).mono (by decide)) hr hgd tk bn_is_timeline_value (g_cons (g_v 0) (g_nil)) (gCons_len (gNil_len'))))) (ss_one (s_never)) (ss_nil)))
def b_is_so_many : Gs :=
    gSeq (gSet 2 (gDisp [(gC (.str [102, 105, 110, 105, 116, 101]), gTup (gCons (gC c_ON) (gCons (gC c_FROM) (gCons (gC c_MIX) (gNil))))), (gC (.str [114, 105, 115, 105, 110, 103]), gTup (gCons (gC c_FROM) (gCons (gC c_MIX) (gNil)))), (gC (.str [102, 97, 108, 108, 105, 110, 103]), gTup (gCons (gC c_ON) (gCons (gC c_MIX) (gNil)))), (gC (.str [115, 99, 97, 116, 116, 101, 114, 101, 100]), gTup (gCons (gC c_MIX) (gNil))), (gC (.str [97, 108, 108]), gTup (gNil))]))
        (gRet (gNot (gCB anyN (gCons (gLc (giSeq (gOp ixM (gV 2) (gV 1))) (gName' 3) (gYes) (gOp (inM false) (gV 3) (gV 0)) [3]) (gNil)))))
def m_is_so_many : Fn := runDef 4 b_is_so_many
theorem ok_is_so_many (Z : Hd K mg) : Ok P w K mg base 1 "is_so_many" s_is_so_many ["words", "kind"] m_is_so_many := ok_def (k := 0) Z.d_is_so_many sc_is_so_many rfl (fun f cdv A outer s H E' hr hgd tk pa => by
    have hu := hu_g hr
    have nd := sc_is_so_many.nd
    exact ss_cons (s_set 2 nd (g_disp (.cons (g_str [102, 105, 110, 105, 116, 101]) (g_tup (g_cons (g_glob Z.c_ON) (g_cons (g_glob Z.c_FROM) (g_cons (g_glob Z.c_MIX) (g_nil))))) (.cons (g_str [114, 105, 115, 105, 110, 103]) (g_tup (g_cons (g_glob Z.c_FROM) (g_cons (g_glob Z.c_MIX) (g_nil)))) (.cons (g_str [102, 97, 108, 108, 105, 110, 103]) (g_tup (g_cons (g_glob Z.c_ON) (g_cons (g_glob Z.c_MIX) (g_nil)))) (.cons (g_str [115, 99, 97, 116, 116, 101, 114, 101, 100]) (g_tup (g_cons (g_glob Z.c_MIX) (g_nil))) (.cons (g_str [97, 108, 108]) (g_tup (g_nil)) (.nil))))))))
        (ss_one (s_ret (g_not (g_callB (any_ok rfl) Z.z_any boot_any (g_cons (g_lc (own := [("word", 3)]) rfl nd (i_seq (g_ix hu (g_v 2) (g_v 1))) (by rfl) (fun _ _ _ _ _ => aw_name (i := 3) nd) (fun _ _ _ _ _ => ts_nil) (fun _ _ _ _ _ => g_cmp (in_ok hu) (g_v 3) (g_v 0))) (g_nil)))))))
def b_parts_of : Gs :=
    gSeq (gIfS (gTru (gCB isiN (gCons (gV 0) (gCons (gC (.ty .str)) (gNil))))) (gRet (gTup (gNil))) (gsSkip))
        (gRet (gIf (gTst (gOp (inM false) (gOp ixM (gV 0) (gC (.int 0))) (gTup (gCons (gC c_ON) (gCons (gC c_FROM) (gNil)))))) (gTup (gCons (gOp ixM (gV 0) (gC (.int 1))) (gNil))) (gOp ixM (gV 0) (gC (.int 1)))))
def m_parts_of : Fn := runDef 1 b_parts_of
theorem ok_parts_of (Z : Hd K mg) : Ok P w K mg base 1 "parts_of" s_parts_of ["timeline"] m_parts_of := ok_def (k := 0) Z.d_parts_of sc_parts_of rfl (fun f cdv A outer s H E' hr hgd tk pa => by
    have hu := hu_g hr
    have nd := sc_parts_of.nd
    exact ss_cons (s_if (t_tru (g_callB (isi_ok) Z.z_isinstance boot_isinstance (g_cons (g_v 0) (g_cons (g_ty .str Z.z_str boot_str) (g_nil))))) (ss_one (s_ret (g_tup (g_nil)))) (ss_nil))
        (ss_one (s_ret (g_if (t_cmp (in_ok hu) (g_ix hu (g_v 0) (g_int)) (g_tup (g_cons (g_glob Z.c_ON) (g_cons (g_glob Z.c_FROM) (g_nil))))) (g_tup (g_cons (g_ix hu (g_v 0) (g_int)) (g_nil))) (g_ix hu (g_v 0) (g_int))))))
def b_words_in (me : Fn) : Gs :=
    gSeq (gSet 1 (gIf (gTru (gCB isiN (gCons (gV 0) (gCons (gC (.ty .str)) (gNil))))) (gEmpty) (gDisp [(gOp ixM (gV 0) (gC (.int 0)), gC (.bl true))])))
        (gSeq (gFor (giSeq (gCall m_parts_of (gCons (gV 0) (gNil)))) (gName' 2) (gExpr (gMt .dic updM (gV 1) (gCons (gCall me (gCons (gV 2) (gNil))) (gNil)))))
        (gRet (gV 1)))
def r_words_in : Nat → Fn
  | 0 => fun _ _ => .no
  | n + 1 => runDef 3 (b_words_in (r_words_in n))
def m_words_in : Fn := r_words_in 12
theorem okr_words_in (Z : Hd K mg) : ∀ n, Ok P w K mg base (1 + n) "words_in" s_words_in ["timeline"] (r_words_in n)
  | 0 => ok_no Z.d_words_in
  | n + 1 => by
    have ih := okr_words_in Z n
    have hk_parts_of : 1 ≤ 1 + n := by omega
    exact ok_def (k := 1 + n) Z.d_words_in sc_words_in rfl (fun f cdv A outer s H E' hr hgd tk pa => by
    have hu := hu_g hr
    have nd := sc_words_in.nd
    exact ss_cons (s_set 1 nd (g_if (t_tru (g_callB (isi_ok) Z.z_isinstance boot_isinstance (g_cons (g_v 0) (g_cons (g_ty .str Z.z_str boot_str) (g_nil))))) (g_empty) (g_disp (.cons (g_ix hu (g_v 0) (g_int)) (g_bl) (.nil)))))
        (ss_cons (s_for pa rfl (i_seq (c_ ((ok_parts_of Z).mono hk_parts_of) hr hgd tk bn_parts_of (g_cons (g_v 0) (g_nil)) (gCons_len (gNil_len')))) (a_name (i := 2) nd) (ss_one (s_expr (g_mt (T := .dic) PySem.F.plainAttrs_dict PySem.F.slot_dict_update PySem.F.type_dict_update upd_ok (g_v 1) (g_cons (c_ ih hr hgd tk bn_words_in (g_cons (g_v 2) (g_nil)) (gCons_len (gNil_len'))) (g_nil))))))
        (ss_one (s_ret (g_v 1)))))
theorem ok_words_in (Z : Hd K mg) : Ok P w K mg base 13 "words_in" s_words_in ["timeline"] m_words_in := okr_words_in Z 12
def b_want_rising : Gs :=
    gIfS (gNotT (gTru (gCall m_is_so_many (gCons (gCall m_words_in (gCons (gV 0) (gNil))) (gCons (gC (.str [114, 105, 115, 105, 110, 103])) (gNil)))))) (gNever) (gsSkip)
def m_want_rising : Fn := runDef 1 b_want_rising
theorem ok_want_rising (Z : Hd K mg) : Ok P w K mg base 14 "want_rising" s_want_rising ["timeline"] m_want_rising := ok_def (k := 13) Z.d_want_rising sc_want_rising rfl (fun f cdv A outer s H E' hr hgd tk pa => by
    have hu := hu_g hr
    have nd := sc_want_rising.nd
    exact ss_one (s_if (t_not (t_tru (c_ ((ok_is_so_many Z).mono (by decide)) hr hgd tk bn_is_so_many (g_cons (c_ ((ok_words_in Z).mono (by decide)) hr hgd tk bn_words_in (g_cons (g_v 0) (g_nil)) (gCons_len (gNil_len'))) (g_cons (g_str [114, 105, 115, 105, 110, 103]) (g_nil))) (gCons_len (gCons_len (gNil_len')))))) (ss_one (s_never)) (ss_nil)))
def b_forever_by : Gs :=
    gRet (gIf (gTst (gOp (eqM true) (gV 0) (gTup (gNil)))) (gTup (gCons (gTup (gCons (gOp addM (gOp ixM (gOp ixM (gV 0) (gC (.int 0))) (gC (.int 0))) (gC (.int 1))) (gCons (gC (.int 1)) (gNil)))) (gNil))) (gTup (gNil)))
def m_forever_by : Fn := runDef 1 b_forever_by
theorem ok_forever_by (Z : Hd K mg) : Ok P w K mg base 1 "forever_by" s_forever_by ["length"] m_forever_by := ok_def (k := 0) Z.d_forever_by sc_forever_by rfl (fun f cdv A outer s H E' hr hgd tk pa => by
    have hu := hu_g hr
    have nd := sc_forever_by.nd
    exact ss_one (s_ret (g_if (t_cmp (ne_ok hu) (g_v 0) (g_tup (g_nil))) (g_tup (g_cons (g_tup (g_cons (g_op add_ok (g_ix hu (g_ix hu (g_v 0) (g_int)) (g_int)) (g_int)) (g_cons (g_int) (g_nil)))) (g_nil))) (g_tup (g_nil)))))
def b_length_in (me : Fn) : Gs :=
    gSeq (gIfS (gTru (gCB isiN (gCons (gV 0) (gCons (gC (.ty .str)) (gNil))))) (gRet (gTup (gCons (gTup (gCons (gC (.int 0)) (gCons (gC (.int 1)) (gNil)))) (gNil)))) (gsSkip))
        (gSeq (gIfS (gTst (gOp (eqM false) (gOp ixM (gV 0) (gC (.int 0))) (gC c_ON))) (gRet (gCall m_forever_by (gCons (gCall me (gCons (gOp ixM (gV 0) (gC (.int 1))) (gNil))) (gNil)))) (gsSkip))
        (gSeq (gSet 1 (gTup (gNil)))
        (gSeq (gFor (giSeq (gOp ixM (gV 0) (gC (.int 1)))) (gName' 2) (gSet 1 (gCall m_sum_by (gCons (gV 1) (gCons (gCall me (gCons (gV 2) (gNil))) (gNil))))))
        (gRet (gV 1)))))
def r_length_in : Nat → Fn
  | 0 => fun _ _ => .no
  | n + 1 => runDef 3 (b_length_in (r_length_in n))
def m_length_in : Fn := r_length_in 12
theorem okr_length_in (Z : Hd K mg) : ∀ n, Ok P w K mg base (1 + n) "length_in" s_length_in ["timeline"] (r_length_in n)
  | 0 => ok_no Z.d_length_in
  | n + 1 => by
    have ih := okr_length_in Z n
    have hk_forever_by : 1 ≤ 1 + n := by omega
    have hk_sum_by : 1 ≤ 1 + n := by omega
    exact ok_def (k := 1 + n) Z.d_length_in sc_length_in rfl (fun f cdv A outer s H E' hr hgd tk pa => by
    have hu := hu_g hr
    have nd := sc_length_in.nd
    exact ss_cons (s_if (t_tru (g_callB (isi_ok) Z.z_isinstance boot_isinstance (g_cons (g_v 0) (g_cons (g_ty .str Z.z_str boot_str) (g_nil))))) (ss_one (s_ret (g_tup (g_cons (g_tup (g_cons (g_int) (g_cons (g_int) (g_nil)))) (g_nil))))) (ss_nil))
        (ss_cons (s_if (t_cmp (eq_ok hu) (g_ix hu (g_v 0) (g_int)) (g_glob Z.c_ON)) (ss_one (s_ret (c_ ((ok_forever_by Z).mono hk_forever_by) hr hgd tk bn_forever_by (g_cons (c_ ih hr hgd tk bn_length_in (g_cons (g_ix hu (g_v 0) (g_int)) (g_nil)) (gCons_len (gNil_len'))) (g_nil)) (gCons_len (gNil_len'))))) (ss_nil))
        (ss_cons (s_set 1 nd (g_tup (g_nil)))
        (ss_cons (s_for pa rfl (i_seq (g_ix hu (g_v 0) (g_int))) (a_name (i := 2) nd) (ss_one (s_set 1 nd (c_ ((ok_sum_by Z).mono hk_sum_by) hr hgd tk bn_sum_by (g_cons (g_v 1) (g_cons (c_ ih hr hgd tk bn_length_in (g_cons (g_v 2) (g_nil)) (gCons_len (gNil_len'))) (g_nil))) (gCons_len (gCons_len (gNil_len')))))))
        (ss_one (s_ret (g_v 1)))))))
theorem ok_length_in (Z : Hd K mg) : Ok P w K mg base 13 "length_in" s_length_in ["timeline"] m_length_in := okr_length_in Z 12
def b_length_of : Gs :=
    gSeq (gExpr (gCall m_want_timeline (gCons (gV 0) (gNil))))
        (gSeq (gExpr (gCall m_want_rising (gCons (gV 0) (gNil))))
        (gRet (gCall m_length_in (gCons (gV 0) (gNil)))))
def m_length_of : Fn := runDef 1 b_length_of
theorem ok_length_of (Z : Hd K mg) : Ok P w K mg base 25 "length_of" s_length_of ["timeline"] m_length_of := ok_def (k := 24) Z.d_length_of sc_length_of rfl (fun f cdv A outer s H E' hr hgd tk pa => by
    have hu := hu_g hr
    have nd := sc_length_of.nd
    exact ss_cons (s_expr (c_ ((ok_want_timeline Z).mono (by decide)) hr hgd tk bn_want_timeline (g_cons (g_v 0) (g_nil)) (gCons_len (gNil_len'))))
        (ss_cons (s_expr (c_ ((ok_want_rising Z).mono (by decide)) hr hgd tk bn_want_rising (g_cons (g_v 0) (g_nil)) (gCons_len (gNil_len'))))
        (ss_one (s_ret (c_ ((ok_length_in Z).mono (by decide)) hr hgd tk bn_length_in (g_cons (g_v 0) (g_nil)) (gCons_len (gNil_len')))))))
def b_forever : Gs :=
    gSeq (gExpr (gCall m_want_length (gCons (gV 0) (gNil))))
        (gSeq (gIfS (gAndT (gTst (gOp (eqM true) (gV 0) (gTup (gNil)))) (gTst (gOp (eqM false) (gOp ixM (gOp ixM (gV 0) (gC (.int 0))) (gC (.int 0))) (gC c_MOST_POWER)))) (gNever) (gsSkip))
        (gRet (gCall m_forever_by (gCons (gV 0) (gNil)))))
def m_forever : Fn := runDef 1 b_forever
theorem ok_forever (Z : Hd K mg) : Ok P w K mg base 5 "forever" s_forever ["length"] m_forever := ok_def (k := 4) Z.d_forever sc_forever rfl (fun f cdv A outer s H E' hr hgd tk pa => by
    have hu := hu_g hr
    have nd := sc_forever.nd
    exact ss_cons (s_expr (c_ ((ok_want_length Z).mono (by decide)) hr hgd tk bn_want_length (g_cons (g_v 0) (g_nil)) (gCons_len (gNil_len'))))
        (ss_cons (s_if (t_w (w_and (t_cmp (ne_ok hu) (g_v 0) (g_tup (g_nil))) (w_and1 (t_cmp (eq_ok hu) (g_ix hu (g_ix hu (g_v 0) (g_int)) (g_int)) (g_glob Z.c_MOST_POWER))))) (ss_one (s_never)) (ss_nil))
        (ss_one (s_ret (c_ ((ok_forever_by Z).mono (by decide)) hr hgd tk bn_forever_by (g_cons (g_v 0) (g_nil)) (gCons_len (gNil_len')))))))
def b_is_length : Gs :=
    gRet (gCall m_is_length_value (gCons (gV 0) (gNil)))
def m_is_length : Fn := runDef 1 b_is_length
theorem ok_is_length (Z : Hd K mg) : Ok P w K mg base 4 "is_length" s_is_length ["value"] m_is_length := ok_def (k := 3) Z.d_is_length sc_is_length rfl (fun f cdv A outer s H E' hr hgd tk pa => by
    have hu := hu_g hr
    have nd := sc_is_length.nd
    exact ss_one (s_ret (c_ ((ok_is_length_value Z).mono (by decide)) hr hgd tk bn_is_length_value (g_cons (g_v 0) (g_nil)) (gCons_len (gNil_len')))))
def b_law_right : Gs :=
    gSeq (gSet 1 (gLc (giRng1 (gC (.int 3))) (gName' 9) (gYes) (gCall m_law_length (gCons (gV 0) (gCons (gC (.int 8)) (gNil)))) [9]))
        (gSeq (gAsg (gUnp 3 (gsCons (gName' 2) (gsCons (gName' 3) (gsCons (gName' 4) (gsNil))))) (gLc (giSeq (gV 1)) (gName' 8) (gYes) (gCall m_law_told_length (gCons (gV 8) (gNil))) [8]))
        (gSeq (gSet 5 (gCall m_law_told_length (gCons (gCall m_law_plus (gCons (gOp ixM (gV 1) (gC (.int 0))) (gCons (gOp ixM (gV 1) (gC (.int 1))) (gNil)))) (gNil))))
        (gSeq (gIfS (gTst (gOp (eqM true) (gCB reprN (gCons (gLst (gCons (gCall m_sum_of (gCons (gV 2) (gCons (gV 3) (gNil)))) (gCons (gCallK m_sum_of [1, 0] (gCons (gV 3) (gCons (gV 2) (gNil)))) (gNil)))) (gNil))) (gCB reprN (gCons (gLst (gCons (gV 5) (gCons (gV 5) (gNil)))) (gNil))))) (gRet (gC (.bl false))) (gsSkip))
        (gSeq (gIfS (gOrT (gTst (gOp (eqM true) (gCall m_sum_of (gCons (gCall m_sum_of (gCons (gV 2) (gCons (gV 3) (gNil)))) (gCons (gV 4) (gNil)))) (gCall m_sum_of (gCons (gV 2) (gCons (gCall m_sum_of (gCons (gV 3) (gCons (gV 4) (gNil)))) (gNil)))))) (gOrT (gTst (gOp (eqM true) (gCall m_sum_of (gCons (gV 2) (gCons (gTup (gNil)) (gNil)))) (gV 2))) (gTst (gOp (eqM true) (gCall m_sum_of (gCons (gTup (gNil)) (gCons (gV 2) (gNil)))) (gV 2))))) (gRet (gC (.bl false))) (gsSkip))
        (gSeq (gSet 6 (gAnd (gOp (eqM true) (gOp ixM (gV 1) (gC (.int 0))) (gOp ixM (gV 1) (gC (.int 1)))) (gOp (ltM) (gTup (gCons (gCB lenN (gCons (gOp ixM (gV 1) (gC (.int 0))) (gNil))) (gCons (gUn rev2M (gOp ixM (gV 1) (gC (.int 0)))) (gNil)))) (gTup (gCons (gCB lenN (gCons (gOp ixM (gV 1) (gC (.int 1))) (gNil))) (gCons (gUn rev2M (gOp ixM (gV 1) (gC (.int 1)))) (gNil)))))))
        (gSeq (gIfS (gOrT (gTst (gOp (eqM true) (gCB reprN (gCons (gLst (gCons (gCall m_is_less (gCons (gV 2) (gCons (gV 3) (gNil)))) (gCons (gCallK m_is_less [1, 0] (gCons (gV 3) (gCons (gV 2) (gNil)))) (gNil)))) (gNil))) (gCB reprN (gCons (gLst (gCons (gV 6) (gCons (gV 6) (gNil)))) (gNil))))) (gTst (gOp (isM true) (gCall m_is_less (gCons (gV 5) (gCons (gV 2) (gNil)))) (gC (.bl false))))) (gRet (gC (.bl false))) (gsSkip))
        (gSeq (gPar 7 8 (gCons (gCall m_law_draw (gCons (gV 0) (gCons (gC (.int 7)) (gNil)))) (gCons (gLst (gNil)) (gNil))))
        (gSeq (gFor (giRng1 (gV 7)) (gName' 9) (gSet 8 (gCall m_law_plus (gCons (gV 8) (gCons (gOp ixM (gV 1) (gC (.int 2))) (gNil))))))
        (gSeq (gIfS (gTst (gOp (eqM true) (gCB reprN (gCons (gLst (gCons (gCall m_times (gCons (gV 4) (gCons (gV 7) (gNil)))) (gCons (gCallK m_times [1, 0] (gCons (gV 7) (gCons (gV 4) (gNil)))) (gNil)))) (gNil))) (gCB reprN (gCons (gOp mulM (gLst (gCons (gCall m_law_told_length (gCons (gV 8) (gNil))) (gNil))) (gC (.int 2))) (gNil))))) (gRet (gC (.bl false))) (gsSkip))
        (gSeq (gSet 10 (gIf (gTst (gOp (eqM true) (gOp ixM (gV 1) (gC (.int 2))) (gLst (gNil)))) (gCall m_law_told_length (gCons (gOp addM (gOp mulM (gLst (gCons (gC (.int 0)) (gNil))) (gCB lenN (gCons (gOp ixM (gV 1) (gC (.int 2))) (gNil)))) (gLst (gCons (gC (.int 1)) (gNil)))) (gNil))) (gTup (gNil))))
        (gSeq (gIfS (gOrT (gTst (gOp (eqM true) (gCB reprN (gCons (gLst (gCons (gCall m_forever (gCons (gV 4) (gNil))) (gCons (gCallK m_forever [0] (gCons (gV 4) (gNil))) (gNil)))) (gNil))) (gCB reprN (gCons (gLst (gCons (gV 10) (gCons (gV 10) (gNil)))) (gNil))))) (gAndT (gTst (gOp (eqM true) (gV 10) (gTup (gNil)))) (gTst (gOp (eqM true) (gCall m_sum_of (gCons (gV 4) (gCons (gV 10) (gNil)))) (gV 10))))) (gRet (gC (.bl false))) (gsSkip))
        (gSeq (gFor (giSeq (gOp addM (gLst (gCons (gV 2) (gCons (gC .non) (gCons (gTup (gNil)) (gCons (gCB lisN (gCons (gV 2) (gNil))) (gNil)))))) (gLc (giRng1 (gC (.int 8))) (gName' 9) (gYes) (gCall m_law_bent (gCons (gV 0) (gCons (gCall m_law_pick (gCons (gV 0) (gCons (gLst (gCons (gV 2) (gCons (gV 3) (gCons (gV 4) (gNil))))) (gNil)))) (gNil)))) [9]))) (gName' 11) (gSeq (gSet 12 (gCall m_law_is_length (gCons (gV 11) (gNil))))
          (gIfS (gTst (gOp (eqM true) (gCB reprN (gCons (gLst (gCons (gCall m_is_length (gCons (gV 11) (gNil))) (gCons (gCallK m_is_length [0] (gCons (gV 11) (gNil))) (gNil)))) (gNil))) (gCB reprN (gCons (gLst (gCons (gV 12) (gCons (gV 12) (gNil)))) (gNil))))) (gRet (gC (.bl false))) (gsSkip))))
        (gSeq (gSet 13 (gCall m_law_time (gCons (gV 0) (gCons (gC (.str [97, 98])) (gCons (gLst (gCons (gC (.str [111, 110])) (gCons (gC (.str [111, 110])) (gNil)))) (gCons (gC (.int 5)) (gNil)))))))
        (gSeq (gSet 14 (gCall m_law_told_length (gCons (gCall m_law_own_length (gCons (gV 13) (gNil))) (gNil))))
        (gRet (gOp (eqM false) (gCB reprN (gCons (gLst (gCons (gCall m_length_of (gCons (gV 13) (gNil))) (gCons (gCallK m_length_of [0] (gCons (gV 13) (gNil))) (gNil)))) (gNil))) (gCB reprN (gCons (gLst (gCons (gV 14) (gCons (gV 14) (gNil)))) (gNil)))))))))))))))))))
def m_law_right : Fn := runDef 15 b_law_right
theorem ok_law_right (Z : Hd K mg) : Ok P w K mg base 26 "_law_right" s_law_right ["pot"] m_law_right := ok_def (k := 25) Z.d_law_right sc_law_right rfl (fun f cdv A outer s H E' hr hgd tk pa => by
    have hu := hu_g hr
    have nd := sc_law_right.nd
    exact ss_cons (s_setLc 1 (own := [("turn", 9)]) rfl nd (i_rng1 Z.z_range (g_int)) (by rfl) (fun _ _ _ _ _ => aw_name (i := 9) nd) (fun _ _ _ _ _ => ts_nil) (fun _ _ _ _ _ => c_ ((ok_law_length Z).mono (by decide)) hr hgd takes0 bn_law_length (g_cons (g_v 0) (g_cons (g_int) (g_nil))) (gCons_len (gCons_len (gNil_len')))) rfl)
        (ss_cons (s_asg (g_lc (own := [("row", 8)]) rfl nd (i_seq (g_v 1)) (by rfl) (fun _ _ _ _ _ => aw_name (i := 8) nd) (fun _ _ _ _ _ => ts_nil) (fun _ _ _ _ _ => c_ ((ok_law_told_length Z).mono (by decide)) hr hgd takes0 bn_law_told_length (g_cons (g_v 8) (g_nil)) (gCons_len (gNil_len')))) (a_unp rfl (as_cons (a_name (i := 2) nd) (as_cons (a_name (i := 3) nd) (as_cons (a_name (i := 4) nd) (as_nil))))))
        (ss_cons (s_set 5 nd (c_ ((ok_law_told_length Z).mono (by decide)) hr hgd tk bn_law_told_length (g_cons (c_ ((ok_law_plus Z).mono (by decide)) hr hgd tk bn_law_plus (g_cons (g_ix hu (g_v 1) (g_int)) (g_cons (g_ix hu (g_v 1) (g_int)) (g_nil))) (gCons_len (gCons_len (gNil_len')))) (g_nil)) (gCons_len (gNil_len'))))
        (ss_cons (s_if (t_cmp (ne_ok hu) (g_callB (repr_ok hgd hu) Z.z_repr boot_repr (g_cons (g_lst (g_cons (c_ ((ok_sum_of Z).mono (by decide)) hr hgd tk bn_sum_of (g_cons (g_v 2) (g_cons (g_v 3) (g_nil))) (gCons_len (gCons_len (gNil_len')))) (g_cons (ck_ ((ok_sum_of Z).mono (by decide)) hr hgd tk kw_sum_of_0 (k_cons (g_v 3) (k_cons (g_v 2) (k_nil))) (gCons_len (gCons_len (gNil_len')))) (g_nil)))) (g_nil))) (g_callB (repr_ok hgd hu) Z.z_repr boot_repr (g_cons (g_lst (g_cons (g_v 5) (g_cons (g_v 5) (g_nil)))) (g_nil)))) (ss_one (s_ret (g_bl))) (ss_nil))
        (ss_cons (s_if (t_w (w_or (t_cmp (ne_ok hu) (c_ ((ok_sum_of Z).mono (by decide)) hr hgd tk bn_sum_of (g_cons (c_ ((ok_sum_of Z).mono (by decide)) hr hgd tk bn_sum_of (g_cons (g_v 2) (g_cons (g_v 3) (g_nil))) (gCons_len (gCons_len (gNil_len')))) (g_cons (g_v 4) (g_nil))) (gCons_len (gCons_len (gNil_len')))) (c_ ((ok_sum_of Z).mono (by decide)) hr hgd tk bn_sum_of (g_cons (g_v 2) (g_cons (c_ ((ok_sum_of Z).mono (by decide)) hr hgd tk bn_sum_of (g_cons (g_v 3) (g_cons (g_v 4) (g_nil))) (gCons_len (gCons_len (gNil_len')))) (g_nil))) (gCons_len (gCons_len (gNil_len'))))) (w_or (t_cmp (ne_ok hu) (c_ ((ok_sum_of Z).mono (by decide)) hr hgd tk bn_sum_of (g_cons (g_v 2) (g_cons (g_tup (g_nil)) (g_nil))) (gCons_len (gCons_len (gNil_len')))) (g_v 2)) (w_or1 (t_cmp (ne_ok hu) (c_ ((ok_sum_of Z).mono (by decide)) hr hgd tk bn_sum_of (g_cons (g_tup (g_nil)) (g_cons (g_v 2) (g_nil))) (gCons_len (gCons_len (gNil_len')))) (g_v 2)))))) (ss_one (s_ret (g_bl))) (ss_nil))
        (ss_cons (s_set 6 nd (g_and (g_cmp (ne_ok hu) (g_ix hu (g_v 1) (g_int)) (g_ix hu (g_v 1) (g_int))) (g_one (g_cmp (lt_ok hu) (g_tup (g_cons (g_callB (len_ok) Z.z_len boot_len (g_cons (g_ix hu (g_v 1) (g_int)) (g_nil))) (g_cons (g_rev2 (g_ix hu (g_v 1) (g_int))) (g_nil)))) (g_tup (g_cons (g_callB (len_ok) Z.z_len boot_len (g_cons (g_ix hu (g_v 1) (g_int)) (g_nil))) (g_cons (g_rev2 (g_ix hu (g_v 1) (g_int))) (g_nil))))))))
        (ss_cons (s_if (t_w (w_or (t_cmp (ne_ok hu) (g_callB (repr_ok hgd hu) Z.z_repr boot_repr (g_cons (g_lst (g_cons (c_ ((ok_is_less Z).mono (by decide)) hr hgd tk bn_is_less (g_cons (g_v 2) (g_cons (g_v 3) (g_nil))) (gCons_len (gCons_len (gNil_len')))) (g_cons (ck_ ((ok_is_less Z).mono (by decide)) hr hgd tk kw_is_less_1 (k_cons (g_v 3) (k_cons (g_v 2) (k_nil))) (gCons_len (gCons_len (gNil_len')))) (g_nil)))) (g_nil))) (g_callB (repr_ok hgd hu) Z.z_repr boot_repr (g_cons (g_lst (g_cons (g_v 6) (g_cons (g_v 6) (g_nil)))) (g_nil)))) (w_or1 (t_cmp (isnot_ok) (c_ ((ok_is_less Z).mono (by decide)) hr hgd tk bn_is_less (g_cons (g_v 5) (g_cons (g_v 2) (g_nil))) (gCons_len (gCons_len (gNil_len')))) (g_bl))))) (ss_one (s_ret (g_bl))) (ss_nil))
        (ss_cons (s_par 7 8 rfl nd (g_cons (c_ ((ok_law_draw Z).mono (by decide)) hr hgd tk bn_law_draw (g_cons (g_v 0) (g_cons (g_int) (g_nil))) (gCons_len (gCons_len (gNil_len')))) (g_cons (g_lst (g_nil)) (g_nil))))
        (ss_cons (s_for pa rfl (i_rng1 Z.z_range (g_v 7)) (a_name (i := 9) nd) (ss_one (s_set 8 nd (c_ ((ok_law_plus Z).mono (by decide)) hr hgd tk bn_law_plus (g_cons (g_v 8) (g_cons (g_ix hu (g_v 1) (g_int)) (g_nil))) (gCons_len (gCons_len (gNil_len')))))))
        (ss_cons (s_if (t_cmp (ne_ok hu) (g_callB (repr_ok hgd hu) Z.z_repr boot_repr (g_cons (g_lst (g_cons (c_ ((ok_times Z).mono (by decide)) hr hgd tk bn_times (g_cons (g_v 4) (g_cons (g_v 7) (g_nil))) (gCons_len (gCons_len (gNil_len')))) (g_cons (ck_ ((ok_times Z).mono (by decide)) hr hgd tk kw_times_2 (k_cons (g_v 7) (k_cons (g_v 4) (k_nil))) (gCons_len (gCons_len (gNil_len')))) (g_nil)))) (g_nil))) (g_callB (repr_ok hgd hu) Z.z_repr boot_repr (g_cons (g_op mul_ok (g_lst (g_cons (c_ ((ok_law_told_length Z).mono (by decide)) hr hgd tk bn_law_told_length (g_cons (g_v 8) (g_nil)) (gCons_len (gNil_len'))) (g_nil))) (g_int)) (g_nil)))) (ss_one (s_ret (g_bl))) (ss_nil))
        (ss_cons (s_set 10 nd (g_if (t_cmp (ne_ok hu) (g_ix hu (g_v 1) (g_int)) (g_lst (g_nil))) (c_ ((ok_law_told_length Z).mono (by decide)) hr hgd tk bn_law_told_length (g_cons (g_op add_ok (g_op mul_ok (g_lst (g_cons (g_int) (g_nil))) (g_callB (len_ok) Z.z_len boot_len (g_cons (g_ix hu (g_v 1) (g_int)) (g_nil)))) (g_lst (g_cons (g_int) (g_nil)))) (g_nil)) (gCons_len (gNil_len'))) (g_tup (g_nil))))
        (ss_cons (s_if (t_w (w_or (t_cmp (ne_ok hu) (g_callB (repr_ok hgd hu) Z.z_repr boot_repr (g_cons (g_lst (g_cons (c_ ((ok_forever Z).mono (by decide)) hr hgd tk bn_forever (g_cons (g_v 4) (g_nil)) (gCons_len (gNil_len'))) (g_cons (ck_ ((ok_forever Z).mono (by decide)) hr hgd tk kw_forever_3 (k_cons (g_v 4) (k_nil)) (gCons_len (gNil_len'))) (g_nil)))) (g_nil))) (g_callB (repr_ok hgd hu) Z.z_repr boot_repr (g_cons (g_lst (g_cons (g_v 10) (g_cons (g_v 10) (g_nil)))) (g_nil)))) (w_or1 (t_w (w_and (t_cmp (ne_ok hu) (g_v 10) (g_tup (g_nil))) (w_and1 (t_cmp (ne_ok hu) (c_ ((ok_sum_of Z).mono (by decide)) hr hgd tk bn_sum_of (g_cons (g_v 4) (g_cons (g_v 10) (g_nil))) (gCons_len (gCons_len (gNil_len')))) (g_v 10)))))))) (ss_one (s_ret (g_bl))) (ss_nil))
        (ss_cons (s_for pa rfl (i_seq (g_op add_ok (g_lst (g_cons (g_v 2) (g_cons (g_non) (g_cons (g_tup (g_nil)) (g_cons (g_callT (lis_ok) Z.z_list boot_list (g_cons (g_v 2) (g_nil))) (g_nil)))))) (g_lc (own := [("turn", 9)]) rfl nd (i_rng1 Z.z_range (g_int)) (by rfl) (fun _ _ _ _ _ => aw_name (i := 9) nd) (fun _ _ _ _ _ => ts_nil) (fun _ _ _ _ _ => c_ ((ok_law_bent Z).mono (by decide)) hr hgd takes0 bn_law_bent (g_cons (g_v 0) (g_cons (c_ ((ok_law_pick Z).mono (by decide)) hr hgd takes0 bn_law_pick (g_cons (g_v 0) (g_cons (g_lst (g_cons (g_v 2) (g_cons (g_v 3) (g_cons (g_v 4) (g_nil))))) (g_nil))) (gCons_len (gCons_len (gNil_len')))) (g_nil))) (gCons_len (gCons_len (gNil_len'))))))) (a_name (i := 11) nd) (ss_cons (s_set 12 nd (c_ ((ok_law_is_length Z).mono (by decide)) hr hgd tk bn_law_is_length (g_cons (g_v 11) (g_nil)) (gCons_len (gNil_len'))))
          (ss_one (s_if (t_cmp (ne_ok hu) (g_callB (repr_ok hgd hu) Z.z_repr boot_repr (g_cons (g_lst (g_cons (c_ ((ok_is_length Z).mono (by decide)) hr hgd tk bn_is_length (g_cons (g_v 11) (g_nil)) (gCons_len (gNil_len'))) (g_cons (ck_ ((ok_is_length Z).mono (by decide)) hr hgd tk kw_is_length_4 (k_cons (g_v 11) (k_nil)) (gCons_len (gNil_len'))) (g_nil)))) (g_nil))) (g_callB (repr_ok hgd hu) Z.z_repr boot_repr (g_cons (g_lst (g_cons (g_v 12) (g_cons (g_v 12) (g_nil)))) (g_nil)))) (ss_one (s_ret (g_bl))) (ss_nil)))))
        (ss_cons (s_set 13 nd (c_ ((ok_law_time Z).mono (by decide)) hr hgd tk bn_law_time (g_cons (g_v 0) (g_cons (g_str [97, 98]) (g_cons (g_lst (g_cons (g_str [111, 110]) (g_cons (g_str [111, 110]) (g_nil)))) (g_cons (g_int) (g_nil))))) (gCons_len (gCons_len (gCons_len (gCons_len (gNil_len')))))))
        (ss_cons (s_set 14 nd (c_ ((ok_law_told_length Z).mono (by decide)) hr hgd tk bn_law_told_length (g_cons (c_ ((ok_law_own_length Z).mono (by decide)) hr hgd tk bn_law_own_length (g_cons (g_v 13) (g_nil)) (gCons_len (gNil_len'))) (g_nil)) (gCons_len (gNil_len'))))
        (ss_one (s_ret (g_cmp (eq_ok hu) (g_callB (repr_ok hgd hu) Z.z_repr boot_repr (g_cons (g_lst (g_cons (c_ ((ok_length_of Z).mono (by decide)) hr hgd tk bn_length_of (g_cons (g_v 13) (g_nil)) (gCons_len (gNil_len'))) (g_cons (ck_ ((ok_length_of Z).mono (by decide)) hr hgd tk kw_length_of_5 (k_cons (g_v 13) (k_nil)) (gCons_len (gNil_len'))) (g_nil)))) (g_nil))) (g_callB (repr_ok hgd hu) Z.z_repr boot_repr (g_cons (g_lst (g_cons (g_v 14) (g_cons (g_v 14) (g_nil)))) (g_nil)))))))))))))))))))))
def b_law_pot : Gs :=
    gSeq (gSet 2 (gIf (gTst (gOp (ltM) (gV 1) (gCB lenN (gCons (gV 0) (gNil))))) (gCB absN (gCons (gOp ixM (gV 0) (gV 1)) (gNil))) (gOp addM (gOp mulM (gC (.int 4072)) (gV 1)) (gC (.int 5969)))))
        (gRet (gLst (gCons (gCB maxN (gCons (gC (.int 0)) (gCons (gOp subM (gV 2) (gOp powM (gC (.int 10)) (gC (.int 18)))) (gNil)))) (gCons (gOp addM (gOp modM (gCB intN (gCons (gOp addM (gOp addM (gOp mulM (gOp modM (gCB intN (gCons (gV 2) (gNil))) (gC (.int 2147483549))) (gC (.int 46174))) (gOp mulM (gC (.int 4072)) (gV 1))) (gC (.int 3291))) (gNil))) (gC (.int 2147483579))) (gC (.int 1))) (gNil)))))
def m_law_pot : Fn := runDef 3 b_law_pot
theorem ok_law_pot (Z : Hd K mg) : Ok P w K mg base 1 "_law_pot" s_law_pot ["script", "k"] m_law_pot := ok_def (k := 0) Z.d_law_pot sc_law_pot rfl (fun f cdv A outer s H E' hr hgd tk pa => by
    have hu := hu_g hr
    have nd := sc_law_pot.nd
    exact ss_cons (s_set 2 nd (g_if (t_cmp (lt_ok hu) (g_v 1) (g_callB (len_ok) Z.z_len boot_len (g_cons (g_v 0) (g_nil)))) (g_callB (abs_ok) Z.z_abs boot_abs (g_cons (g_ix hu (g_v 0) (g_v 1)) (g_nil))) (g_op add_ok (g_op mul_ok (g_int) (g_v 1)) (g_int))))
        (ss_one (s_ret (g_lst (g_cons (g_callB (max_ok rfl) Z.z_max boot_max (g_cons (g_int) (g_cons (g_op sub_ok (g_v 2) (g_op pow_ok (g_int) (g_int))) (g_nil)))) (g_cons (g_op add_ok (g_op mod_ok (g_callT (int_ok) Z.z_int boot_int (g_cons (g_op add_ok (g_op add_ok (g_op mul_ok (g_op mod_ok (g_callT (int_ok) Z.z_int boot_int (g_cons (g_v 2) (g_nil))) (g_int)) (g_int)) (g_op mul_ok (g_int) (g_v 1))) (g_int)) (g_nil))) (g_int)) (g_int)) (g_nil)))))))
def b_law : Gs :=
    gRet (gCB allN (gCons (gLc (giRng1 (gC (.int 4))) (gName' 1) (gYes) (gCall m_law_right (gCons (gCall m_law_pot (gCons (gV 0) (gCons (gV 1) (gNil)))) (gNil))) [1]) (gNil)))
def m_law : Fn := runDef 2 b_law
theorem ok_law (Z : Hd K mg) : Ok P w K mg base 27 "law" s_law ["script"] m_law := ok_def (k := 26) Z.d_law sc_law rfl (fun f cdv A outer s H E' hr hgd tk pa => by
    have hu := hu_g hr
    have nd := sc_law.nd
    exact ss_one (s_ret (g_callB (all_ok rfl) Z.z_all boot_all (g_cons (g_lc (own := [("k", 1)]) rfl nd (i_rng1 Z.z_range (g_int)) (by rfl) (fun _ _ _ _ _ => aw_name (i := 1) nd) (fun _ _ _ _ _ => ts_nil) (fun _ _ _ _ _ => c_ ((ok_law_right Z).mono (by decide)) hr hgd takes0 bn_law_right (g_cons (c_ ((ok_law_pot Z).mono (by decide)) hr hgd takes0 bn_law_pot (g_cons (g_v 0) (g_cons (g_v 1) (g_nil))) (gCons_len (gCons_len (gNil_len')))) (g_nil)) (gCons_len (gNil_len')))) (g_nil)))))
end
theorem all_mk {l : PySem.W.OpenLaw} (hl : l.prog = PySem.Challenge.pw_nextless_k56_whole_lengths_and_sums) {w : World} {K : PySem.W.Frag} {h : Heap} {mg : Str → Option Value} {fa : Addr} (KX : K.In h) (GX : h.Ns mainGlobals mg) (hfa : mg "law" = some (.ref fa))
    {f0 : Addr} {od0 an0 : Option Addr} {sl0 : Array (Option Value)} {oc0 kV0 dc0 pm0 cd0 ct0 : Value}
    (a0 : PySem.W.nsIn K mainGlobals "_law_told_length" = some (some (.ref f0))) (l0 : K.lookup f0 = some ⟨oc0, od0, .func (PySem.W.fnOf "_law_told_length" "_law_told_length" (defArgs s_law_told_length) (defBody s_law_told_length) (defScope s_law_told_length) .none kV0 dc0 pm0 an0 cd0 ct0), sl0⟩) (e0 : PySem.W.codeIn K cd0 "_law_told_length" = true) (p0 : PySem.W.keepIn K (.ref f0) = true)
    {f1 : Addr} {od1 an1 : Option Addr} {sl1 : Array (Option Value)} {oc1 kV1 dc1 pm1 cd1 ct1 : Value}
    (a1 : PySem.W.nsIn K mainGlobals "_law_draw" = some (some (.ref f1))) (l1 : K.lookup f1 = some ⟨oc1, od1, .func (PySem.W.fnOf "_law_draw" "_law_draw" (defArgs s_law_draw) (defBody s_law_draw) (defScope s_law_draw) .none kV1 dc1 pm1 an1 cd1 ct1), sl1⟩) (e1 : PySem.W.codeIn K cd1 "_law_draw" = true) (p1 : PySem.W.keepIn K (.ref f1) = true)
    {f2 : Addr} {od2 an2 : Option Addr} {sl2 : Array (Option Value)} {oc2 kV2 dc2 pm2 cd2 ct2 : Value}
    (a2 : PySem.W.nsIn K mainGlobals "_law_pick" = some (some (.ref f2))) (l2 : K.lookup f2 = some ⟨oc2, od2, .func (PySem.W.fnOf "_law_pick" "_law_pick" (defArgs s_law_pick) (defBody s_law_pick) (defScope s_law_pick) .none kV2 dc2 pm2 an2 cd2 ct2), sl2⟩) (e2 : PySem.W.codeIn K cd2 "_law_pick" = true) (p2 : PySem.W.keepIn K (.ref f2) = true)
    {f3 : Addr} {od3 an3 : Option Addr} {sl3 : Array (Option Value)} {oc3 kV3 dc3 pm3 cd3 ct3 : Value}
    (a3 : PySem.W.nsIn K mainGlobals "_law_flat" = some (some (.ref f3))) (l3 : K.lookup f3 = some ⟨oc3, od3, .func (PySem.W.fnOf "_law_flat" "_law_flat" (defArgs s_law_flat) (defBody s_law_flat) (defScope s_law_flat) .none kV3 dc3 pm3 an3 cd3 ct3), sl3⟩) (e3 : PySem.W.codeIn K cd3 "_law_flat" = true) (p3 : PySem.W.keepIn K (.ref f3) = true)
    {f4 : Addr} {od4 an4 : Option Addr} {sl4 : Array (Option Value)} {oc4 kV4 dc4 pm4 cd4 ct4 : Value}
    (a4 : PySem.W.nsIn K mainGlobals "_law_time" = some (some (.ref f4))) (l4 : K.lookup f4 = some ⟨oc4, od4, .func (PySem.W.fnOf "_law_time" "_law_time" (defArgs s_law_time) (defBody s_law_time) (defScope s_law_time) .none kV4 dc4 pm4 an4 cd4 ct4), sl4⟩) (e4 : PySem.W.codeIn K cd4 "_law_time" = true) (p4 : PySem.W.keepIn K (.ref f4) = true)
    {f5 : Addr} {od5 an5 : Option Addr} {sl5 : Array (Option Value)} {oc5 kV5 dc5 pm5 cd5 ct5 : Value}
    (a5 : PySem.W.nsIn K mainGlobals "_law_led" = some (some (.ref f5))) (l5 : K.lookup f5 = some ⟨oc5, od5, .func (PySem.W.fnOf "_law_led" "_law_led" (defArgs s_law_led) (defBody s_law_led) (defScope s_law_led) .none kV5 dc5 pm5 an5 cd5 ct5), sl5⟩) (e5 : PySem.W.codeIn K cd5 "_law_led" = true) (p5 : PySem.W.keepIn K (.ref f5) = true)
    {f6 : Addr} {od6 an6 : Option Addr} {sl6 : Array (Option Value)} {oc6 kV6 dc6 pm6 cd6 ct6 : Value}
    (a6 : PySem.W.nsIn K mainGlobals "_law_length" = some (some (.ref f6))) (l6 : K.lookup f6 = some ⟨oc6, od6, .func (PySem.W.fnOf "_law_length" "_law_length" (defArgs s_law_length) (defBody s_law_length) (defScope s_law_length) .none kV6 dc6 pm6 an6 cd6 ct6), sl6⟩) (e6 : PySem.W.codeIn K cd6 "_law_length" = true) (p6 : PySem.W.keepIn K (.ref f6) = true)
    {f7 : Addr} {od7 an7 : Option Addr} {sl7 : Array (Option Value)} {oc7 kV7 dc7 pm7 cd7 ct7 : Value}
    (a7 : PySem.W.nsIn K mainGlobals "_law_plus" = some (some (.ref f7))) (l7 : K.lookup f7 = some ⟨oc7, od7, .func (PySem.W.fnOf "_law_plus" "_law_plus" (defArgs s_law_plus) (defBody s_law_plus) (defScope s_law_plus) .none kV7 dc7 pm7 an7 cd7 ct7), sl7⟩) (e7 : PySem.W.codeIn K cd7 "_law_plus" = true) (p7 : PySem.W.keepIn K (.ref f7) = true)
    {f8 : Addr} {od8 an8 : Option Addr} {sl8 : Array (Option Value)} {oc8 kV8 dc8 pm8 cd8 ct8 : Value}
    (a8 : PySem.W.nsIn K mainGlobals "_law_is_length" = some (some (.ref f8))) (l8 : K.lookup f8 = some ⟨oc8, od8, .func (PySem.W.fnOf "_law_is_length" "_law_is_length" (defArgs s_law_is_length) (defBody s_law_is_length) (defScope s_law_is_length) .none kV8 dc8 pm8 an8 cd8 ct8), sl8⟩) (e8 : PySem.W.codeIn K cd8 "_law_is_length" = true) (p8 : PySem.W.keepIn K (.ref f8) = true)
    {f9 : Addr} {od9 an9 : Option Addr} {sl9 : Array (Option Value)} {oc9 kV9 dc9 pm9 cd9 ct9 : Value}
    (a9 : PySem.W.nsIn K mainGlobals "_law_own_length" = some (some (.ref f9))) (l9 : K.lookup f9 = some ⟨oc9, od9, .func (PySem.W.fnOf "_law_own_length" "_law_own_length" (defArgs s_law_own_length) (defBody s_law_own_length) (defScope s_law_own_length) .none kV9 dc9 pm9 an9 cd9 ct9), sl9⟩) (e9 : PySem.W.codeIn K cd9 "_law_own_length" = true) (p9 : PySem.W.keepIn K (.ref f9) = true)
    {f10 : Addr} {od10 an10 : Option Addr} {sl10 : Array (Option Value)} {oc10 kV10 dc10 pm10 cd10 ct10 : Value}
    (a10 : PySem.W.nsIn K mainGlobals "is_tuple" = some (some (.ref f10))) (l10 : K.lookup f10 = some ⟨oc10, od10, .func (PySem.W.fnOf "is_tuple" "is_tuple" (defArgs s_is_tuple) (defBody s_is_tuple) (defScope s_is_tuple) .none kV10 dc10 pm10 an10 cd10 ct10), sl10⟩) (e10 : PySem.W.codeIn K cd10 "is_tuple" = true) (p10 : PySem.W.keepIn K (.ref f10) = true)
    {f11 : Addr} {od11 an11 : Option Addr} {sl11 : Array (Option Value)} {oc11 kV11 dc11 pm11 cd11 ct11 : Value}
    (a11 : PySem.W.nsIn K mainGlobals "is_integer" = some (some (.ref f11))) (l11 : K.lookup f11 = some ⟨oc11, od11, .func (PySem.W.fnOf "is_integer" "is_integer" (defArgs s_is_integer) (defBody s_is_integer) (defScope s_is_integer) .none kV11 dc11 pm11 an11 cd11 ct11), sl11⟩) (e11 : PySem.W.codeIn K cd11 "is_integer" = true) (p11 : PySem.W.keepIn K (.ref f11) = true)
    {f12 : Addr} {od12 an12 : Option Addr} {sl12 : Array (Option Value)} {oc12 kV12 dc12 pm12 cd12 ct12 : Value}
    (a12 : PySem.W.nsIn K mainGlobals "is_within" = some (some (.ref f12))) (l12 : K.lookup f12 = some ⟨oc12, od12, .func (PySem.W.fnOf "is_within" "is_within" (defArgs s_is_within) (defBody s_is_within) (defScope s_is_within) .none kV12 dc12 pm12 an12 cd12 ct12), sl12⟩) (e12 : PySem.W.codeIn K cd12 "is_within" = true) (p12 : PySem.W.keepIn K (.ref f12) = true)
    {f13 : Addr} {od13 an13 : Option Addr} {sl13 : Array (Option Value)} {oc13 kV13 dc13 pm13 cd13 ct13 : Value}
    (a13 : PySem.W.nsIn K mainGlobals "is_length_value" = some (some (.ref f13))) (l13 : K.lookup f13 = some ⟨oc13, od13, .func (PySem.W.fnOf "is_length_value" "is_length_value" (defArgs s_is_length_value) (defBody s_is_length_value) (defScope s_is_length_value) .none kV13 dc13 pm13 an13 cd13 ct13), sl13⟩) (e13 : PySem.W.codeIn K cd13 "is_length_value" = true) (p13 : PySem.W.keepIn K (.ref f13) = true)
    {f14 : Addr} {od14 an14 : Option Addr} {sl14 : Array (Option Value)} {oc14 kV14 dc14 pm14 cd14 ct14 : Value}
    (a14 : PySem.W.nsIn K mainGlobals "want_length" = some (some (.ref f14))) (l14 : K.lookup f14 = some ⟨oc14, od14, .func (PySem.W.fnOf "want_length" "want_length" (defArgs s_want_length) (defBody s_want_length) (defScope s_want_length) .none kV14 dc14 pm14 an14 cd14 ct14), sl14⟩) (e14 : PySem.W.codeIn K cd14 "want_length" = true) (p14 : PySem.W.keepIn K (.ref f14) = true)
    {f15 : Addr} {od15 an15 : Option Addr} {sl15 : Array (Option Value)} {oc15 kV15 dc15 pm15 cd15 ct15 : Value}
    (a15 : PySem.W.nsIn K mainGlobals "bounded_length" = some (some (.ref f15))) (l15 : K.lookup f15 = some ⟨oc15, od15, .func (PySem.W.fnOf "bounded_length" "bounded_length" (defArgs s_bounded_length) (defBody s_bounded_length) (defScope s_bounded_length) .none kV15 dc15 pm15 an15 cd15 ct15), sl15⟩) (e15 : PySem.W.codeIn K cd15 "bounded_length" = true) (p15 : PySem.W.keepIn K (.ref f15) = true)
    {f16 : Addr} {od16 an16 : Option Addr} {sl16 : Array (Option Value)} {oc16 kV16 dc16 pm16 cd16 ct16 : Value}
    (a16 : PySem.W.nsIn K mainGlobals "sum_by" = some (some (.ref f16))) (l16 : K.lookup f16 = some ⟨oc16, od16, .func (PySem.W.fnOf "sum_by" "sum_by" (defArgs s_sum_by) (defBody s_sum_by) (defScope s_sum_by) .none kV16 dc16 pm16 an16 cd16 ct16), sl16⟩) (e16 : PySem.W.codeIn K cd16 "sum_by" = true) (p16 : PySem.W.keepIn K (.ref f16) = true)
    {f17 : Addr} {od17 an17 : Option Addr} {sl17 : Array (Option Value)} {oc17 kV17 dc17 pm17 cd17 ct17 : Value}
    (a17 : PySem.W.nsIn K mainGlobals "sum_of" = some (some (.ref f17))) (l17 : K.lookup f17 = some ⟨oc17, od17, .func (PySem.W.fnOf "sum_of" "sum_of" (defArgs s_sum_of) (defBody s_sum_of) (defScope s_sum_of) .none kV17 dc17 pm17 an17 cd17 ct17), sl17⟩) (e17 : PySem.W.codeIn K cd17 "sum_of" = true) (p17 : PySem.W.keepIn K (.ref f17) = true)
    {f18 : Addr} {od18 an18 : Option Addr} {sl18 : Array (Option Value)} {oc18 kV18 dc18 pm18 cd18 ct18 : Value}
    (a18 : PySem.W.nsIn K mainGlobals "is_less" = some (some (.ref f18))) (l18 : K.lookup f18 = some ⟨oc18, od18, .func (PySem.W.fnOf "is_less" "is_less" (defArgs s_is_less) (defBody s_is_less) (defScope s_is_less) .none kV18 dc18 pm18 an18 cd18 ct18), sl18⟩) (e18 : PySem.W.codeIn K cd18 "is_less" = true) (p18 : PySem.W.keepIn K (.ref f18) = true)
    {f19 : Addr} {od19 an19 : Option Addr} {sl19 : Array (Option Value)} {oc19 kV19 dc19 pm19 cd19 ct19 : Value}
    (a19 : PySem.W.nsIn K mainGlobals "_law_bent" = some (some (.ref f19))) (l19 : K.lookup f19 = some ⟨oc19, od19, .func (PySem.W.fnOf "_law_bent" "_law_bent" (defArgs s_law_bent) (defBody s_law_bent) (defScope s_law_bent) .none kV19 dc19 pm19 an19 cd19 ct19), sl19⟩) (e19 : PySem.W.codeIn K cd19 "_law_bent" = true) (p19 : PySem.W.keepIn K (.ref f19) = true)
    {f20 : Addr} {od20 an20 : Option Addr} {sl20 : Array (Option Value)} {oc20 kV20 dc20 pm20 cd20 ct20 : Value}
    (a20 : PySem.W.nsIn K mainGlobals "times_by" = some (some (.ref f20))) (l20 : K.lookup f20 = some ⟨oc20, od20, .func (PySem.W.fnOf "times_by" "times_by" (defArgs s_times_by) (defBody s_times_by) (defScope s_times_by) .none kV20 dc20 pm20 an20 cd20 ct20), sl20⟩) (e20 : PySem.W.codeIn K cd20 "times_by" = true) (p20 : PySem.W.keepIn K (.ref f20) = true)
    {f21 : Addr} {od21 an21 : Option Addr} {sl21 : Array (Option Value)} {oc21 kV21 dc21 pm21 cd21 ct21 : Value}
    (a21 : PySem.W.nsIn K mainGlobals "times" = some (some (.ref f21))) (l21 : K.lookup f21 = some ⟨oc21, od21, .func (PySem.W.fnOf "times" "times" (defArgs s_times) (defBody s_times) (defScope s_times) .none kV21 dc21 pm21 an21 cd21 ct21), sl21⟩) (e21 : PySem.W.codeIn K cd21 "times" = true) (p21 : PySem.W.keepIn K (.ref f21) = true)
    {f22 : Addr} {od22 an22 : Option Addr} {sl22 : Array (Option Value)} {oc22 kV22 dc22 pm22 cd22 ct22 : Value}
    (a22 : PySem.W.nsIn K mainGlobals "is_small" = some (some (.ref f22))) (l22 : K.lookup f22 = some ⟨oc22, od22, .func (PySem.W.fnOf "is_small" "is_small" (defArgs s_is_small) (defBody s_is_small) (defScope s_is_small) .none kV22 dc22 pm22 an22 cd22 ct22), sl22⟩) (e22 : PySem.W.codeIn K cd22 "is_small" = true) (p22 : PySem.W.keepIn K (.ref f22) = true)
    {f23 : Addr} {od23 an23 : Option Addr} {sl23 : Array (Option Value)} {oc23 kV23 dc23 pm23 cd23 ct23 : Value}
    (a23 : PySem.W.nsIn K mainGlobals "is_letter_value" = some (some (.ref f23))) (l23 : K.lookup f23 = some ⟨oc23, od23, .func (PySem.W.fnOf "is_letter_value" "is_letter_value" (defArgs s_is_letter_value) (defBody s_is_letter_value) (defScope s_is_letter_value) .none kV23 dc23 pm23 an23 cd23 ct23), sl23⟩) (e23 : PySem.W.codeIn K cd23 "is_letter_value" = true) (p23 : PySem.W.keepIn K (.ref f23) = true)
    {f24 : Addr} {od24 an24 : Option Addr} {sl24 : Array (Option Value)} {oc24 kV24 dc24 pm24 cd24 ct24 : Value}
    (a24 : PySem.W.nsIn K mainGlobals "are_parts" = some (some (.ref f24))) (l24 : K.lookup f24 = some ⟨oc24, od24, .func (PySem.W.fnOf "are_parts" "are_parts" (defArgs s_are_parts) (defBody s_are_parts) (defScope s_are_parts) .none kV24 dc24 pm24 an24 cd24 ct24), sl24⟩) (e24 : PySem.W.codeIn K cd24 "are_parts" = true) (p24 : PySem.W.keepIn K (.ref f24) = true)
    {f25 : Addr} {od25 an25 : Option Addr} {sl25 : Array (Option Value)} {oc25 kV25 dc25 pm25 cd25 ct25 : Value}
    (a25 : PySem.W.nsIn K mainGlobals "measures" = some (some (.ref f25))) (l25 : K.lookup f25 = some ⟨oc25, od25, .func (PySem.W.fnOf "measures" "measures" (defArgs s_measures) (defBody s_measures) (defScope s_measures) .none kV25 dc25 pm25 an25 cd25 ct25), sl25⟩) (e25 : PySem.W.codeIn K cd25 "measures" = true) (p25 : PySem.W.keepIn K (.ref f25) = true)
    {f26 : Addr} {od26 an26 : Option Addr} {sl26 : Array (Option Value)} {oc26 kV26 dc26 pm26 cd26 ct26 : Value}
    (a26 : PySem.W.nsIn K mainGlobals "is_timeline_value" = some (some (.ref f26))) (l26 : K.lookup f26 = some ⟨oc26, od26, .func (PySem.W.fnOf "is_timeline_value" "is_timeline_value" (defArgs s_is_timeline_value) (defBody s_is_timeline_value) (defScope s_is_timeline_value) .none kV26 dc26 pm26 an26 cd26 ct26), sl26⟩) (e26 : PySem.W.codeIn K cd26 "is_timeline_value" = true) (p26 : PySem.W.keepIn K (.ref f26) = true)
    {f27 : Addr} {od27 an27 : Option Addr} {sl27 : Array (Option Value)} {oc27 kV27 dc27 pm27 cd27 ct27 : Value}
    (a27 : PySem.W.nsIn K mainGlobals "want_timeline" = some (some (.ref f27))) (l27 : K.lookup f27 = some ⟨oc27, od27, .func (PySem.W.fnOf "want_timeline" "want_timeline" (defArgs s_want_timeline) (defBody s_want_timeline) (defScope s_want_timeline) .none kV27 dc27 pm27 an27 cd27 ct27), sl27⟩) (e27 : PySem.W.codeIn K cd27 "want_timeline" = true) (p27 : PySem.W.keepIn K (.ref f27) = true)
    {f28 : Addr} {od28 an28 : Option Addr} {sl28 : Array (Option Value)} {oc28 kV28 dc28 pm28 cd28 ct28 : Value}
    (a28 : PySem.W.nsIn K mainGlobals "is_so_many" = some (some (.ref f28))) (l28 : K.lookup f28 = some ⟨oc28, od28, .func (PySem.W.fnOf "is_so_many" "is_so_many" (defArgs s_is_so_many) (defBody s_is_so_many) (defScope s_is_so_many) .none kV28 dc28 pm28 an28 cd28 ct28), sl28⟩) (e28 : PySem.W.codeIn K cd28 "is_so_many" = true) (p28 : PySem.W.keepIn K (.ref f28) = true)
    {f29 : Addr} {od29 an29 : Option Addr} {sl29 : Array (Option Value)} {oc29 kV29 dc29 pm29 cd29 ct29 : Value}
    (a29 : PySem.W.nsIn K mainGlobals "parts_of" = some (some (.ref f29))) (l29 : K.lookup f29 = some ⟨oc29, od29, .func (PySem.W.fnOf "parts_of" "parts_of" (defArgs s_parts_of) (defBody s_parts_of) (defScope s_parts_of) .none kV29 dc29 pm29 an29 cd29 ct29), sl29⟩) (e29 : PySem.W.codeIn K cd29 "parts_of" = true) (p29 : PySem.W.keepIn K (.ref f29) = true)
    {f30 : Addr} {od30 an30 : Option Addr} {sl30 : Array (Option Value)} {oc30 kV30 dc30 pm30 cd30 ct30 : Value}
    (a30 : PySem.W.nsIn K mainGlobals "words_in" = some (some (.ref f30))) (l30 : K.lookup f30 = some ⟨oc30, od30, .func (PySem.W.fnOf "words_in" "words_in" (defArgs s_words_in) (defBody s_words_in) (defScope s_words_in) .none kV30 dc30 pm30 an30 cd30 ct30), sl30⟩) (e30 : PySem.W.codeIn K cd30 "words_in" = true) (p30 : PySem.W.keepIn K (.ref f30) = true)
    {f31 : Addr} {od31 an31 : Option Addr} {sl31 : Array (Option Value)} {oc31 kV31 dc31 pm31 cd31 ct31 : Value}
    (a31 : PySem.W.nsIn K mainGlobals "want_rising" = some (some (.ref f31))) (l31 : K.lookup f31 = some ⟨oc31, od31, .func (PySem.W.fnOf "want_rising" "want_rising" (defArgs s_want_rising) (defBody s_want_rising) (defScope s_want_rising) .none kV31 dc31 pm31 an31 cd31 ct31), sl31⟩) (e31 : PySem.W.codeIn K cd31 "want_rising" = true) (p31 : PySem.W.keepIn K (.ref f31) = true)
    {f32 : Addr} {od32 an32 : Option Addr} {sl32 : Array (Option Value)} {oc32 kV32 dc32 pm32 cd32 ct32 : Value}
    (a32 : PySem.W.nsIn K mainGlobals "forever_by" = some (some (.ref f32))) (l32 : K.lookup f32 = some ⟨oc32, od32, .func (PySem.W.fnOf "forever_by" "forever_by" (defArgs s_forever_by) (defBody s_forever_by) (defScope s_forever_by) .none kV32 dc32 pm32 an32 cd32 ct32), sl32⟩) (e32 : PySem.W.codeIn K cd32 "forever_by" = true) (p32 : PySem.W.keepIn K (.ref f32) = true)
    {f33 : Addr} {od33 an33 : Option Addr} {sl33 : Array (Option Value)} {oc33 kV33 dc33 pm33 cd33 ct33 : Value}
    (a33 : PySem.W.nsIn K mainGlobals "length_in" = some (some (.ref f33))) (l33 : K.lookup f33 = some ⟨oc33, od33, .func (PySem.W.fnOf "length_in" "length_in" (defArgs s_length_in) (defBody s_length_in) (defScope s_length_in) .none kV33 dc33 pm33 an33 cd33 ct33), sl33⟩) (e33 : PySem.W.codeIn K cd33 "length_in" = true) (p33 : PySem.W.keepIn K (.ref f33) = true)
    {f34 : Addr} {od34 an34 : Option Addr} {sl34 : Array (Option Value)} {oc34 kV34 dc34 pm34 cd34 ct34 : Value}
    (a34 : PySem.W.nsIn K mainGlobals "length_of" = some (some (.ref f34))) (l34 : K.lookup f34 = some ⟨oc34, od34, .func (PySem.W.fnOf "length_of" "length_of" (defArgs s_length_of) (defBody s_length_of) (defScope s_length_of) .none kV34 dc34 pm34 an34 cd34 ct34), sl34⟩) (e34 : PySem.W.codeIn K cd34 "length_of" = true) (p34 : PySem.W.keepIn K (.ref f34) = true)
    {f35 : Addr} {od35 an35 : Option Addr} {sl35 : Array (Option Value)} {oc35 kV35 dc35 pm35 cd35 ct35 : Value}
    (a35 : PySem.W.nsIn K mainGlobals "forever" = some (some (.ref f35))) (l35 : K.lookup f35 = some ⟨oc35, od35, .func (PySem.W.fnOf "forever" "forever" (defArgs s_forever) (defBody s_forever) (defScope s_forever) .none kV35 dc35 pm35 an35 cd35 ct35), sl35⟩) (e35 : PySem.W.codeIn K cd35 "forever" = true) (p35 : PySem.W.keepIn K (.ref f35) = true)
    {f36 : Addr} {od36 an36 : Option Addr} {sl36 : Array (Option Value)} {oc36 kV36 dc36 pm36 cd36 ct36 : Value}
    (a36 : PySem.W.nsIn K mainGlobals "is_length" = some (some (.ref f36))) (l36 : K.lookup f36 = some ⟨oc36, od36, .func (PySem.W.fnOf "is_length" "is_length" (defArgs s_is_length) (defBody s_is_length) (defScope s_is_length) .none kV36 dc36 pm36 an36 cd36 ct36), sl36⟩) (e36 : PySem.W.codeIn K cd36 "is_length" = true) (p36 : PySem.W.keepIn K (.ref f36) = true)
    {f37 : Addr} {od37 an37 : Option Addr} {sl37 : Array (Option Value)} {oc37 kV37 dc37 pm37 cd37 ct37 : Value}
    (a37 : PySem.W.nsIn K mainGlobals "_law_right" = some (some (.ref f37))) (l37 : K.lookup f37 = some ⟨oc37, od37, .func (PySem.W.fnOf "_law_right" "_law_right" (defArgs s_law_right) (defBody s_law_right) (defScope s_law_right) .none kV37 dc37 pm37 an37 cd37 ct37), sl37⟩) (e37 : PySem.W.codeIn K cd37 "_law_right" = true) (p37 : PySem.W.keepIn K (.ref f37) = true)
    {f38 : Addr} {od38 an38 : Option Addr} {sl38 : Array (Option Value)} {oc38 kV38 dc38 pm38 cd38 ct38 : Value}
    (a38 : PySem.W.nsIn K mainGlobals "_law_pot" = some (some (.ref f38))) (l38 : K.lookup f38 = some ⟨oc38, od38, .func (PySem.W.fnOf "_law_pot" "_law_pot" (defArgs s_law_pot) (defBody s_law_pot) (defScope s_law_pot) .none kV38 dc38 pm38 an38 cd38 ct38), sl38⟩) (e38 : PySem.W.codeIn K cd38 "_law_pot" = true) (p38 : PySem.W.keepIn K (.ref f38) = true)
    {f39 : Addr} {od39 an39 : Option Addr} {sl39 : Array (Option Value)} {oc39 kV39 dc39 pm39 cd39 ct39 : Value}
    (a39 : PySem.W.nsIn K mainGlobals "law" = some (some (.ref f39))) (l39 : K.lookup f39 = some ⟨oc39, od39, .func (PySem.W.fnOf "law" "law" (defArgs s_law) (defBody s_law) (defScope s_law) .none kV39 dc39 pm39 an39 cd39 ct39), sl39⟩) (e39 : PySem.W.codeIn K cd39 "law" = true) (p39 : PySem.W.keepIn K (.ref f39) = true)
    (z_enumerate : PySem.W.nsIn K mainGlobals "enumerate" = some none)
    (z_tuple : PySem.W.nsIn K mainGlobals "tuple" = some none)
    (z_divmod : PySem.W.nsIn K mainGlobals "divmod" = some none)
    (z_int : PySem.W.nsIn K mainGlobals "int" = some none)
    (z_len : PySem.W.nsIn K mainGlobals "len" = some none)
    (z_str : PySem.W.nsIn K mainGlobals "str" = some none)
    (z_isinstance : PySem.W.nsIn K mainGlobals "isinstance" = some none)
    (z_list : PySem.W.nsIn K mainGlobals "list" = some none)
    (z_range : PySem.W.nsIn K mainGlobals "range" = some none)
    (z_max : PySem.W.nsIn K mainGlobals "max" = some none)
    (z_bool : PySem.W.nsIn K mainGlobals "bool" = some none)
    (z_all : PySem.W.nsIn K mainGlobals "all" = some none)
    (z_zip : PySem.W.nsIn K mainGlobals "zip" = some none)
    (z_any : PySem.W.nsIn K mainGlobals "any" = some none)
    (z_sum : PySem.W.nsIn K mainGlobals "sum" = some none)
    (z_repr : PySem.W.nsIn K mainGlobals "repr" = some none)
    (z_abs : PySem.W.nsIn K mainGlobals "abs" = some none)
    (c_MOST_POWER : Cst K mg "MOST_POWER" c_MOST_POWER)
    (c_MOST_MANY : Cst K mg "MOST_MANY" c_MOST_MANY)
    (c_ALPHABET : Cst K mg "ALPHABET" c_ALPHABET)
    (c_MOST_SIZE : Cst K mg "MOST_SIZE" c_MOST_SIZE)
    (c_FROM : Cst K mg "FROM" c_FROM)
    (c_ON : Cst K mg "ON" c_ON)
    (c_MIX : Cst K mg "MIX" c_MIX)
    (c_ROW : Cst K mg "ROW" c_ROW)
    (c_MOST_DEPTH : Cst K mg "MOST_DEPTH" c_MOST_DEPTH)
    (c_MOST_LETTERS : Cst K mg "MOST_LETTERS" c_MOST_LETTERS)
    {m : Nat} (hlaw : ∀ ns : List Int, ns.length ≤ m → Gives m_law ns) : ∃ (K : PySem.W.Frag) (fd : FuncData) (Fm : List D → Mem → R D), K.In h ∧ (∀ (s : Shared) (v : Value), BindsTo s fd ⟨[v], []⟩ [("script", v)]) ∧ (∀ ns : List Int, ns.length ≤ m → Gives Fm ns) ∧
      ∀ base : Heap, K.In base → base.Ns mainGlobals mg → GOk l.prog w K mg base 27 fa fd ["script"] Fm := by
  rw [hl]
  have F0 := fun_mk (st := s_law_told_length) l0 e0 p0
  have F1 := fun_mk (st := s_law_draw) l1 e1 p1
  have F2 := fun_mk (st := s_law_pick) l2 e2 p2
  have F3 := fun_mk (st := s_law_flat) l3 e3 p3
  have F4 := fun_mk (st := s_law_time) l4 e4 p4
  have F5 := fun_mk (st := s_law_led) l5 e5 p5
  have F6 := fun_mk (st := s_law_length) l6 e6 p6
  have F7 := fun_mk (st := s_law_plus) l7 e7 p7
  have F8 := fun_mk (st := s_law_is_length) l8 e8 p8
  have F9 := fun_mk (st := s_law_own_length) l9 e9 p9
  have F10 := fun_mk (st := s_is_tuple) l10 e10 p10
  have F11 := fun_mk (st := s_is_integer) l11 e11 p11
  have F12 := fun_mk (st := s_is_within) l12 e12 p12
  have F13 := fun_mk (st := s_is_length_value) l13 e13 p13
  have F14 := fun_mk (st := s_want_length) l14 e14 p14
  have F15 := fun_mk (st := s_bounded_length) l15 e15 p15
  have F16 := fun_mk (st := s_sum_by) l16 e16 p16
  have F17 := fun_mk (st := s_sum_of) l17 e17 p17
  have F18 := fun_mk (st := s_is_less) l18 e18 p18
  have F19 := fun_mk (st := s_law_bent) l19 e19 p19
  have F20 := fun_mk (st := s_times_by) l20 e20 p20
  have F21 := fun_mk (st := s_times) l21 e21 p21
  have F22 := fun_mk (st := s_is_small) l22 e22 p22
  have F23 := fun_mk (st := s_is_letter_value) l23 e23 p23
  have F24 := fun_mk (st := s_are_parts) l24 e24 p24
  have F25 := fun_mk (st := s_measures) l25 e25 p25
  have F26 := fun_mk (st := s_is_timeline_value) l26 e26 p26
  have F27 := fun_mk (st := s_want_timeline) l27 e27 p27
  have F28 := fun_mk (st := s_is_so_many) l28 e28 p28
  have F29 := fun_mk (st := s_parts_of) l29 e29 p29
  have F30 := fun_mk (st := s_words_in) l30 e30 p30
  have F31 := fun_mk (st := s_want_rising) l31 e31 p31
  have F32 := fun_mk (st := s_forever_by) l32 e32 p32
  have F33 := fun_mk (st := s_length_in) l33 e33 p33
  have F34 := fun_mk (st := s_length_of) l34 e34 p34
  have F35 := fun_mk (st := s_forever) l35 e35 p35
  have F36 := fun_mk (st := s_is_length) l36 e36 p36
  have F37 := fun_mk (st := s_law_right) l37 e37 p37
  have F38 := fun_mk (st := s_law_pot) l38 e38 p38
  have F39 := fun_mk (st := s_law) l39 e39 p39
  have Z : Hd K mg := ⟨⟨_, _, PySem.W.mg_of KX GX a0, F0⟩, ⟨_, _, PySem.W.mg_of KX GX a1, F1⟩, ⟨_, _, PySem.W.mg_of KX GX a2, F2⟩, ⟨_, _, PySem.W.mg_of KX GX a3, F3⟩, ⟨_, _, PySem.W.mg_of KX GX a4, F4⟩, ⟨_, _, PySem.W.mg_of KX GX a5, F5⟩, ⟨_, _, PySem.W.mg_of KX GX a6, F6⟩, ⟨_, _, PySem.W.mg_of KX GX a7, F7⟩, ⟨_, _, PySem.W.mg_of KX GX a8, F8⟩, ⟨_, _, PySem.W.mg_of KX GX a9, F9⟩, ⟨_, _, PySem.W.mg_of KX GX a10, F10⟩, ⟨_, _, PySem.W.mg_of KX GX a11, F11⟩, ⟨_, _, PySem.W.mg_of KX GX a12, F12⟩, ⟨_, _, PySem.W.mg_of KX GX a13, F13⟩, ⟨_, _, PySem.W.mg_of KX GX a14, F14⟩, ⟨_, _, PySem.W.mg_of KX GX a15, F15⟩, ⟨_, _, PySem.W.mg_of KX GX a16, F16⟩, ⟨_, _, PySem.W.mg_of KX GX a17, F17⟩, ⟨_, _, PySem.W.mg_of KX GX a18, F18⟩, ⟨_, _, PySem.W.mg_of KX GX a19, F19⟩, ⟨_, _, PySem.W.mg_of KX GX a20, F20⟩, ⟨_, _, PySem.W.mg_of KX GX a21, F21⟩, ⟨_, _, PySem.W.mg_of KX GX a22, F22⟩, ⟨_, _, PySem.W.mg_of KX GX a23, F23⟩, ⟨_, _, PySem.W.mg_of KX GX a24, F24⟩, ⟨_, _, PySem.W.mg_of KX GX a25, F25⟩, ⟨_, _, PySem.W.mg_of KX GX a26, F26⟩, ⟨_, _, PySem.W.mg_of KX GX a27, F27⟩, ⟨_, _, PySem.W.mg_of KX GX a28, F28⟩, ⟨_, _, PySem.W.mg_of KX GX a29, F29⟩, ⟨_, _, PySem.W.mg_of KX GX a30, F30⟩, ⟨_, _, PySem.W.mg_of KX GX a31, F31⟩, ⟨_, _, PySem.W.mg_of KX GX a32, F32⟩, ⟨_, _, PySem.W.mg_of KX GX a33, F33⟩, ⟨_, _, PySem.W.mg_of KX GX a34, F34⟩, ⟨_, _, PySem.W.mg_of KX GX a35, F35⟩, ⟨_, _, PySem.W.mg_of KX GX a36, F36⟩, ⟨_, _, PySem.W.mg_of KX GX a37, F37⟩, ⟨_, _, PySem.W.mg_of KX GX a38, F38⟩, ⟨_, _, PySem.W.mg_of KX GX a39, F39⟩, PySem.W.mg_none_of KX GX z_enumerate, PySem.W.mg_none_of KX GX z_tuple, PySem.W.mg_none_of KX GX z_divmod, PySem.W.mg_none_of KX GX z_int, PySem.W.mg_none_of KX GX z_len, PySem.W.mg_none_of KX GX z_str, PySem.W.mg_none_of KX GX z_isinstance, PySem.W.mg_none_of KX GX z_list, PySem.W.mg_none_of KX GX z_range, PySem.W.mg_none_of KX GX z_max, PySem.W.mg_none_of KX GX z_bool, PySem.W.mg_none_of KX GX z_all, PySem.W.mg_none_of KX GX z_zip, PySem.W.mg_none_of KX GX z_any, PySem.W.mg_none_of KX GX z_sum, PySem.W.mg_none_of KX GX z_repr, PySem.W.mg_none_of KX GX z_abs, c_MOST_POWER, c_MOST_MANY, c_ALPHABET, c_MOST_SIZE, c_FROM, c_ON, c_MIX, c_ROW, c_MOST_DEPTH, c_MOST_LETTERS⟩
  have e := hfa.symm.trans (PySem.W.mg_of KX GX a39)
  cases e
  refine ⟨K, PySem.W.fnOf "law" "law" (defArgs s_law) (defBody s_law) (defScope s_law) .none kV39 dc39 pm39 an39 cd39 ct39, m_law, KX, fun s v => .of_eq rfl, hlaw, fun base _ _ => ?_⟩
  exact gok_of (ok_law Z) (PySem.W.mg_of KX GX a39) F39
end K56
set_option maxRecDepth 100000
set_option maxHeartbeats 4000000
namespace K56
open PySem G
local macro_rules
  | `(tactic| simp! [$xs,*]) => `(tactic| simp only [v0, vS, aC, aOp, aOp1, aOp2, aOf, aUn, aUn1, aNil, aCons, aCons1, aCons2, aCB, aCB1, aTup, aTup1, aLst, aLst1, aTru, aTru1, aTru2, aTst, aTst1, aAndT, aAndT1, aAndT2, aOrT, aOrT1, aOrT2, aNotT, aNotT1, aAnd, aAnd1, aAnd2, aAnd3, aOr, aOr1, aOr2, aOr3, aNot, aNot1, aNot2, aIf, aIf1, aIf2, aCh, aCh0, aCh1, aCh2, aCh3, aCh4, aCall, aCall1, aCallK, aCallK1, aCallK2, aNP, aPart, aPart1, aSl, aSl1, aSl2, aSl3, aMt, aMt1, aMt2, aMt3, aPr0, aPr, aPr1, aPr2, aPr3, aDisp, aDisp1, aEmp, aSeqI, aSeqI1, aSeqI2, aRng1, aEn, aZip, aRng2, aRngD, afI, aLc, aLc1, aLc2, aW0, aW1, aSkip, aSeq, aSeq1, aSeq2, aSeq3, aSeq4, aExpr, aExpr1, aRet, aRet1, aRetN, aBrk, aCnt, aIfS, aIfS1, aIfS2, aSet, aSet1, aPar, aPar1, aPar3, aPar31, aAsg, aAsg1, aAsg2, aFor, aFor1, aRun, aRun1, aRun2, tName, tUnp, tsNil, tsCons, tsCons1, tr_bl, tr_non, tr_int, tr_tup, tr_str,
      List.map_cons, List.map_nil, List.length_cons, List.length_nil, Nat.reduceAdd, Nat.reduceSub, Nat.zero_add, List.replicate, List.cons_append, List.nil_append, List.set_cons_zero, List.set_cons_succ, Nat.reduceLeDiff, Bool.not_true, Bool.not_false, if_true, if_false, ↓reduceIte, G.oAddI, G.oSubI, G.oLeI, G.oGtI, G.oGeI, G.oIsB, G.oIsntB, G.oIsN, G.oIsntN, G.oLenT, G.oLenR, G.oLenS, oIsi, oIsi1, iNon, iBl, iInt, iStr, iTup, iRol, G.tSub, G.tSub1, G.tSub2, G.tSub3, G.oInt, G.oAbs, G.oMax2, G.oPow30, G.oPow18, G.oPow9, G.oEqI, G.oNeI, G.oLtI, isNon, Bool.true_and, Bool.and_true, Bool.false_and, Bool.and_false, Bool.true_or, Bool.false_or, Bool.or_true, Bool.or_false, Bool.not_not, Bool.false_eq_true, G.sT, G.sR, G.sS, Int.cast_ofNat_Int, decide_true, decide_false, Int.reduceEq, Int.reduceLT, Int.reduceLE, Int.reduceAdd, Int.reduceSub, Int.reduceMul, Int.reducePow, Int.reduceNeg, Int.reduceNe, $xs,*])
  | `(tactic| simp! [$xs,*] at $h:ident) => `(tactic| simp only [v0, vS, aC, aOp, aOp1, aOp2, aOf, aUn, aUn1, aNil, aCons, aCons1, aCons2, aCB, aCB1, aTup, aTup1, aLst, aLst1, aTru, aTru1, aTru2, aTst, aTst1, aAndT, aAndT1, aAndT2, aOrT, aOrT1, aOrT2, aNotT, aNotT1, aAnd, aAnd1, aAnd2, aAnd3, aOr, aOr1, aOr2, aOr3, aNot, aNot1, aNot2, aIf, aIf1, aIf2, aCh, aCh0, aCh1, aCh2, aCh3, aCh4, aCall, aCall1, aCallK, aCallK1, aCallK2, aNP, aPart, aPart1, aSl, aSl1, aSl2, aSl3, aMt, aMt1, aMt2, aMt3, aPr0, aPr, aPr1, aPr2, aPr3, aDisp, aDisp1, aEmp, aSeqI, aSeqI1, aSeqI2, aRng1, aEn, aZip, aRng2, aRngD, afI, aLc, aLc1, aLc2, aW0, aW1, aSkip, aSeq, aSeq1, aSeq2, aSeq3, aSeq4, aExpr, aExpr1, aRet, aRet1, aRetN, aBrk, aCnt, aIfS, aIfS1, aIfS2, aSet, aSet1, aPar, aPar1, aPar3, aPar31, aAsg, aAsg1, aAsg2, aFor, aFor1, aRun, aRun1, aRun2, tName, tUnp, tsNil, tsCons, tsCons1, tr_bl, tr_non, tr_int, tr_tup, tr_str,
      List.map_cons, List.map_nil, List.length_cons, List.length_nil, Nat.reduceAdd, Nat.reduceSub, Nat.zero_add, List.replicate, List.cons_append, List.nil_append, List.set_cons_zero, List.set_cons_succ, Nat.reduceLeDiff, Bool.not_true, Bool.not_false, if_true, if_false, ↓reduceIte, G.oAddI, G.oSubI, G.oLeI, G.oGtI, G.oGeI, G.oIsB, G.oIsntB, G.oIsN, G.oIsntN, G.oLenT, G.oLenR, G.oLenS, oIsi, oIsi1, iNon, iBl, iInt, iStr, iTup, iRol, G.tSub, G.tSub1, G.tSub2, G.tSub3, G.oInt, G.oAbs, G.oMax2, G.oPow30, G.oPow18, G.oPow9, G.oEqI, G.oNeI, G.oLtI, isNon, Bool.true_and, Bool.and_true, Bool.false_and, Bool.and_false, Bool.true_or, Bool.false_or, Bool.or_true, Bool.or_false, Bool.not_not, Bool.false_eq_true, G.sT, G.sR, G.sS, Int.cast_ofNat_Int, decide_true, decide_false, Int.reduceEq, Int.reduceLT, Int.reduceLE, Int.reduceAdd, Int.reduceSub, Int.reduceMul, Int.reducePow, Int.reduceNeg, Int.reduceNe, $xs,*] at $h:ident)
/-! is_integer, is_within, is_tuple -/
def isI : D → Bool
  | .int _ => true
  | _ => false
def isT (n : Nat) : D → Bool
  | .tup xs => decide (xs.length = n)
  | _ => false
/-- its kind can be asked -/
def Kd (M : Mem) (d : D) : Prop := (isiT M d .tup).isSome = true
theorem kd_int {M : Mem} {d : D} (h : Kd M d) : (isiT M d .int = some false ∧ isI d = false) ∨ (isiT M d .int = some true ∧ isiT M d .bool = some true ∧ isI d = false) ∨ ∃ i, d = .int i := by
  unfold Kd at h
  cases d with
  | int i => exact .inr (.inr ⟨i, rfl⟩)
  | bl b => exact .inr (.inl ⟨rfl, rfl, rfl⟩)
  | non => exact .inl ⟨rfl, rfl⟩
  | str s => exact .inl ⟨rfl, rfl⟩
  | tup xs => exact .inl ⟨rfl, rfl⟩
  | rol xs => exact .inl ⟨rfl, rfl⟩
  | adr a => cases h
  | ty t => cases h
  | ref n =>
    left
    refine ⟨?_, rfl⟩
    simp only [isiT] at h ⊢
    split at h <;> first | rfl | cases h
theorem kd_tup {M : Mem} {d : D} (h : Kd M d) : (isiT M d .tup = some false ∧ ∀ n, isT n d = false) ∨ ∃ xs, d = .tup xs := by
  unfold Kd at h
  cases d with
  | tup xs => exact .inr ⟨xs, rfl⟩
  | bl b => exact .inl ⟨rfl, fun _ => rfl⟩
  | non => exact .inl ⟨rfl, fun _ => rfl⟩
  | str s => exact .inl ⟨rfl, fun _ => rfl⟩
  | int xs => exact .inl ⟨rfl, fun _ => rfl⟩
  | rol xs => exact .inl ⟨rfl, fun _ => rfl⟩
  | adr a => cases h
  | ty t => cases h
  | ref n =>
    left
    refine ⟨?_, fun _ => rfl⟩
    simp only [isiT] at h ⊢
    split at h <;> first | rfl | cases h
theorem f_is_integer {M : Mem} {d : D} (h : Kd M d) : m_is_integer [d] M = .ok (.bl (isI d)) M := by
  rcases kd_int h with ⟨h1, h2⟩ | ⟨h1, h2, h3⟩ | ⟨i, rfl⟩
  · simp! [m_is_integer, b_is_integer, h1, h2]
  · simp! [m_is_integer, b_is_integer, h1, h2, h3]
  · simp! [m_is_integer, b_is_integer, isI]
/-- a call that lays nothing -/
theorem call_same {F : Fn} {ds : List D} {d : D} {M : Mem} (hd : noRef d = true) (h : ∀ M, F ds M = .ok d M) : callF F ds M = .ok d M := by
  cases e : noRefs ds with
  | true => exact call_pure e hd (h [])
  | false => rw [call_ref e]; exact h M
theorem c_is_integer {M : Mem} {d : D} (h : Kd M d) : callF m_is_integer [d] M = .ok (.bl (isI d)) M := by
  cases e : noRefs [d] with
  | true =>
    refine call_pure e rfl (f_is_integer (M := []) ?_)
    unfold Kd at h ⊢
    cases d <;> first | rfl | exact h | cases e
  | false => rw [call_ref e]; exact f_is_integer h
def inI (lo hi : Int) : D → Bool
  | .int i => decide (lo ≤ i) && decide (i ≤ hi)
  | _ => false
theorem c_is_within {M : Mem} {d : D} {lo hi : Int} (h : Kd M d) : callF m_is_within [d, .int lo, .int hi] M = .ok (.bl (inI lo hi d)) M := by
  have key : ∀ M, Kd M d → m_is_within [d, .int lo, .int hi] M = .ok (.bl (inI lo hi d)) M := by
    intro M h
    cases ei : isI d with
    | false =>
      have e2 : inI lo hi d = false := by cases d <;> first | rfl | cases ei
      simp! [m_is_within, b_is_within, c_is_integer h, ei, e2]
    | true =>
      obtain ⟨i, rfl⟩ : ∃ i, d = .int i := by cases d <;> first | exact ⟨_, rfl⟩ | cases ei
      simp! [m_is_within, b_is_within, c_is_integer h, ei, inI]
      cases decide (lo ≤ i) <;> simp! []
  cases e : noRefs [d, .int lo, .int hi] with
  | true =>
    refine call_pure e rfl (key [] ?_)
    unfold Kd at h ⊢
    cases d <;> first | rfl | exact h | cases e
  | false => rw [call_ref e]; exact key M h
theorem c_is_tuple {M : Mem} {d : D} {n : Nat} (h : Kd M d) : callF m_is_tuple [d, .int n] M = .ok (.bl (isT n d)) M := by
  have key : ∀ M, Kd M d → m_is_tuple [d, .int n] M = .ok (.bl (isT n d)) M := by
    intro M h
    rcases kd_tup h with ⟨h1, h2⟩ | ⟨xs, rfl⟩
    · simp! [m_is_tuple, b_is_tuple, h1, h2]
    · simp! [m_is_tuple, b_is_tuple, isT]
      congr 2
      rw [Bool.eq_iff_iff]
      simp only [decide_eq_true_eq]
      exact Int.ofNat_inj
  cases e : noRefs [d, .int n] with
  | true =>
    refine call_pure e rfl (key [] ?_)
    unfold Kd at h ⊢
    cases d <;> first | rfl | exact h | cases e
  | false => rw [call_ref e]; exact key M h
end K56
set_option maxRecDepth 100000
set_option maxHeartbeats 4000000
namespace K56
open PySem G
local macro_rules
  | `(tactic| simp! [$xs,*]) => `(tactic| simp only [v0, vS, aC, aOp, aOp1, aOp2, aOf, aUn, aUn1, aNil, aCons, aCons1, aCons2, aCB, aCB1, aTup, aTup1, aLst, aLst1, aTru, aTru1, aTru2, aTst, aTst1, aAndT, aAndT1, aAndT2, aOrT, aOrT1, aOrT2, aNotT, aNotT1, aAnd, aAnd1, aAnd2, aAnd3, aOr, aOr1, aOr2, aOr3, aNot, aNot1, aNot2, aIf, aIf1, aIf2, aCh, aCh0, aCh1, aCh2, aCh3, aCh4, aCall, aCall1, aCallK, aCallK1, aCallK2, aNP, aPart, aPart1, aSl, aSl1, aSl2, aSl3, aMt, aMt1, aMt2, aMt3, aPr0, aPr, aPr1, aPr2, aPr3, aDisp, aDisp1, aEmp, aSeqI, aSeqI1, aSeqI2, aRng1, aEn, aZip, aRng2, aRngD, afI, aLc, aLc1, aLc2, aW0, aW1, aSkip, aSeq, aSeq1, aSeq2, aSeq3, aSeq4, aExpr, aExpr1, aRet, aRet1, aRetN, aBrk, aCnt, aIfS, aIfS1, aIfS2, aSet, aSet1, aPar, aPar1, aPar3, aPar31, aAsg, aAsg1, aAsg2, aFor, aFor1, aRun, aRun1, aRun2, tName, tUnp, tsNil, tsCons, tsCons1, tr_bl, tr_non, tr_int, tr_tup, tr_str,
      List.map_cons, List.map_nil, List.length_cons, List.length_nil, Nat.reduceAdd, Nat.reduceSub, Nat.zero_add, List.replicate, List.cons_append, List.nil_append, List.set_cons_zero, List.set_cons_succ, Nat.reduceLeDiff, Bool.not_true, Bool.not_false, if_true, if_false, ↓reduceIte, G.oAddI, G.oSubI, G.oLeI, G.oGtI, G.oGeI, G.oIsB, G.oIsntB, G.oIsN, G.oIsntN, G.oLenT, G.oLenR, G.oLenS, oIsi, oIsi1, iNon, iBl, iInt, iStr, iTup, iRol, G.tSub, G.tSub1, G.tSub2, G.tSub3, G.oInt, G.oAbs, G.oMax2, G.oPow30, G.oPow18, G.oPow9, G.oEqI, G.oNeI, G.oLtI, isNon, Bool.true_and, Bool.and_true, Bool.false_and, Bool.and_false, Bool.true_or, Bool.false_or, Bool.or_true, Bool.or_false, Bool.not_not, Bool.false_eq_true, G.sT, G.sR, G.sS, Int.cast_ofNat_Int, decide_true, decide_false, Int.reduceEq, Int.reduceLT, Int.reduceLE, Int.reduceAdd, Int.reduceSub, Int.reduceMul, Int.reducePow, Int.reduceNeg, Int.reduceNe, $xs,*])
  | `(tactic| simp! [$xs,*] at $h:ident) => `(tactic| simp only [v0, vS, aC, aOp, aOp1, aOp2, aOf, aUn, aUn1, aNil, aCons, aCons1, aCons2, aCB, aCB1, aTup, aTup1, aLst, aLst1, aTru, aTru1, aTru2, aTst, aTst1, aAndT, aAndT1, aAndT2, aOrT, aOrT1, aOrT2, aNotT, aNotT1, aAnd, aAnd1, aAnd2, aAnd3, aOr, aOr1, aOr2, aOr3, aNot, aNot1, aNot2, aIf, aIf1, aIf2, aCh, aCh0, aCh1, aCh2, aCh3, aCh4, aCall, aCall1, aCallK, aCallK1, aCallK2, aNP, aPart, aPart1, aSl, aSl1, aSl2, aSl3, aMt, aMt1, aMt2, aMt3, aPr0, aPr, aPr1, aPr2, aPr3, aDisp, aDisp1, aEmp, aSeqI, aSeqI1, aSeqI2, aRng1, aEn, aZip, aRng2, aRngD, afI, aLc, aLc1, aLc2, aW0, aW1, aSkip, aSeq, aSeq1, aSeq2, aSeq3, aSeq4, aExpr, aExpr1, aRet, aRet1, aRetN, aBrk, aCnt, aIfS, aIfS1, aIfS2, aSet, aSet1, aPar, aPar1, aPar3, aPar31, aAsg, aAsg1, aAsg2, aFor, aFor1, aRun, aRun1, aRun2, tName, tUnp, tsNil, tsCons, tsCons1, tr_bl, tr_non, tr_int, tr_tup, tr_str,
      List.map_cons, List.map_nil, List.length_cons, List.length_nil, Nat.reduceAdd, Nat.reduceSub, Nat.zero_add, List.replicate, List.cons_append, List.nil_append, List.set_cons_zero, List.set_cons_succ, Nat.reduceLeDiff, Bool.not_true, Bool.not_false, if_true, if_false, ↓reduceIte, G.oAddI, G.oSubI, G.oLeI, G.oGtI, G.oGeI, G.oIsB, G.oIsntB, G.oIsN, G.oIsntN, G.oLenT, G.oLenR, G.oLenS, oIsi, oIsi1, iNon, iBl, iInt, iStr, iTup, iRol, G.tSub, G.tSub1, G.tSub2, G.tSub3, G.oInt, G.oAbs, G.oMax2, G.oPow30, G.oPow18, G.oPow9, G.oEqI, G.oNeI, G.oLtI, isNon, Bool.true_and, Bool.and_true, Bool.false_and, Bool.and_false, Bool.true_or, Bool.false_or, Bool.or_true, Bool.or_false, Bool.not_not, Bool.false_eq_true, G.sT, G.sR, G.sS, Int.cast_ofNat_Int, decide_true, decide_false, Int.reduceEq, Int.reduceLT, Int.reduceLE, Int.reduceAdd, Int.reduceSub, Int.reduceMul, Int.reducePow, Int.reduceNeg, Int.reduceNe, $xs,*] at $h:ident)
theorem kd_app {M X : Mem} {d : D} (h : Kd M d) : Kd (M ++ X) d := by
  unfold Kd at h ⊢
  cases d with
  | ref n =>
    cases e : M[n]? with
    | none => simp only [isiT, e] at h; cases h
    | some o =>
      simp only [isiT, e] at h
      simp only [isiT, mem_old e]
      exact h
  | adr a => cases h
  | ty t => cases h
  | _ => rfl
/-! is_length_value -/
def pairOk : D → Bool
  | .tup [a, b] => inI 0 15 a && inI 1 1000000000000000000000000000000 b
  | _ => false
def fstI : D → Int
  | .tup (.int i :: _) => i
  | _ => 0
def desc (xs : List D) : Bool := (zipD xs (xs.drop 1)).all fun d => match d with
  | .tup [x, y] => decide (fstI y < fstI x)
  | _ => true
def lenV : D → Bool
  | .tup xs => xs.all (isT 2) && (xs.all pairOk && desc xs)
  | _ => false
/-- what may be asked whether it is a length -/
structure Fine (M : Mem) (v : D) : Prop where
  kd : Kd M v
  len : ∀ xs, v = .tup xs → xs.length ≤ 1000000
  it : ∀ xs d, v = .tup xs → d ∈ xs → Kd M d
  part : ∀ xs ys d, v = .tup xs → .tup ys ∈ xs → d ∈ ys → Kd M d
  few : ∀ xs ys, v = .tup xs → .tup ys ∈ xs → ys.length ≤ 1000000
theorem Fine.app {M X : Mem} {v : D} (h : Fine M v) : Fine (M ++ X) v := ⟨kd_app h.kd, h.len, fun xs d e m => kd_app (h.it xs d e m), fun xs ys d e m q => kd_app (h.part xs ys d e m q), h.few⟩
theorem isT2 {d : D} (h : isT 2 d = true) : ∃ a b, d = .tup [a, b] := by
  cases d with
  | tup xs =>
    have h' : xs.length = 2 := of_decide_eq_true h
    match xs, h' with
    | [a, b], _ => exact ⟨a, b, rfl⟩
  | _ => cases h
theorem zip_mem {xs ys : List D} {d : D} (h : d ∈ zipD xs ys) : ∃ x y, d = .tup [x, y] ∧ x ∈ xs ∧ y ∈ ys := by
  unfold zipD at h
  obtain ⟨i, hi, e⟩ := List.getElem_of_mem h
  rw [List.getElem_zipWith] at e
  exact ⟨_, _, e.symm, List.getElem_mem _, List.getElem_mem _⟩
theorem f_is_length_value {M : Mem} {v : D} (h : Fine M v) : ∃ X, m_is_length_value [v] M = .ok (.bl (lenV v)) (M ++ X) := by
  rcases kd_tup h.kd with ⟨h1, h2⟩ | ⟨xs, rfl⟩
  · have e : lenV v = false := by
      cases v <;> first | rfl | cases h1
    exact ⟨[], by simp! [m_is_length_value, b_is_length_value, h1, e, List.append_nil]⟩
  · have hl := h.len xs rfl
    have hl2 : xs.length ≤ 16777216 := Nat.le_trans hl (by decide)
    simp! [m_is_length_value, b_is_length_value]
    rw [all_lc (its := xs) (isT 2) hl2 (fun _ => rfl) (fun d hd => ⟨_, rfl, rfl, by simp! []; exact c_is_tuple (h.it xs d rfl hd)⟩)]
    cases hA : xs.all (isT 2) with
    | false =>
      refine ⟨[.lst (xs.map fun d => .bl (isT 2 d))], ?_⟩
      simp! [lenV, hA]
    | true =>
      have hA' : ∀ d ∈ xs, isT 2 d = true := List.all_eq_true.mp hA
      simp! []
      rw [all_lc (its := xs) pairOk hl2 (fun _ => rfl) (fun d hd => by
        obtain ⟨a, b, rfl⟩ := isT2 (hA' d hd)
        refine ⟨_, rfl, rfl, ?_⟩
        have ka : Kd M a := h.part xs [a, b] a rfl hd (by simp)
        have kb : Kd M b := h.part xs [a, b] b rfl hd (by simp)
        simp! [c_is_within (kd_app ka), c_MOST_POWER]
        cases e : inI 0 15 a with
        | false => simp! [pairOk, e]
        | true => simp! [pairOk, e, c_MOST_MANY, c_is_within (kd_app kb)])]
      cases hB : xs.all pairOk with
      | false =>
        refine ⟨[.lst (xs.map fun d => .bl (isT 2 d)), .lst (xs.map fun d => .bl (pairOk d))], ?_⟩
        simp! [lenV, hA, hB, List.append_assoc]
      | true =>
        have hB' : ∀ d ∈ xs, pairOk d = true := List.all_eq_true.mp hB
        have hint : ∀ d ∈ xs, ∃ (i : Int) (b : D), d = .tup [.int i, b] := by
          intro d hd
          obtain ⟨a, b, rfl⟩ := isT2 (hA' d hd)
          have q := hB' _ hd
          unfold pairOk at q
          rw [Bool.and_eq_true] at q
          cases a with
          | int i => exact ⟨i, b, rfl⟩
          | _ => cases q.1
        simp! [slM]
        have e1 : cutD xs (some 1) none = xs.drop 1 := cut_from (k := 1)
        rw [e1]
        simp! [zipF']
        rw [all_lc (its := zipD xs (xs.drop 1)) (fun d => match d with | .tup [x, y] => decide (fstI y < fstI x) | _ => true) (by rw [zipD_len]; omega) (srcZ_is (fun _ => rfl) (fun _ => rfl)) (fun d hd => by
          obtain ⟨x, y, rfl, hx, hy⟩ := zip_mem hd
          obtain ⟨i, b, rfl⟩ := hint x hx
          obtain ⟨j, c, rfl⟩ := hint y (List.mem_of_mem_drop hy)
          refine ⟨_, rfl, rfl, ?_⟩
          simp! [oIxT at0, fstI]
          rfl)]
        exact ⟨[_, _, _], by
          simp! [lenV, hA, hB, List.append_assoc, desc]
          rfl⟩
end K56
set_option maxRecDepth 100000
set_option maxHeartbeats 4000000
namespace K56
open PySem G
local macro_rules
  | `(tactic| simp! [$xs,*]) => `(tactic| simp only [v0, vS, aC, aOp, aOp1, aOp2, aOf, aUn, aUn1, aNil, aCons, aCons1, aCons2, aCB, aCB1, aTup, aTup1, aLst, aLst1, aTru, aTru1, aTru2, aTst, aTst1, aAndT, aAndT1, aAndT2, aOrT, aOrT1, aOrT2, aNotT, aNotT1, aAnd, aAnd1, aAnd2, aAnd3, aOr, aOr1, aOr2, aOr3, aNot, aNot1, aNot2, aIf, aIf1, aIf2, aCh, aCh0, aCh1, aCh2, aCh3, aCh4, aCall, aCall1, aCallK, aCallK1, aCallK2, aNP, aPart, aPart1, aSl, aSl1, aSl2, aSl3, aMt, aMt1, aMt2, aMt3, aPr0, aPr, aPr1, aPr2, aPr3, aDisp, aDisp1, aEmp, aSeqI, aSeqI1, aSeqI2, aRng1, aEn, aZip, aRng2, aRngD, afI, aLc, aLc1, aLc2, aW0, aW1, aSkip, aSeq, aSeq1, aSeq2, aSeq3, aSeq4, aExpr, aExpr1, aRet, aRet1, aRetN, aBrk, aCnt, aIfS, aIfS1, aIfS2, aSet, aSet1, aPar, aPar1, aPar3, aPar31, aAsg, aAsg1, aAsg2, aFor, aFor1, aRun, aRun1, aRun2, tName, tUnp, tsNil, tsCons, tsCons1, tr_bl, tr_non, tr_int, tr_tup, tr_str,
      List.map_cons, List.map_nil, List.length_cons, List.length_nil, Nat.reduceAdd, Nat.reduceSub, Nat.zero_add, List.replicate, List.cons_append, List.nil_append, List.set_cons_zero, List.set_cons_succ, Nat.reduceLeDiff, Bool.not_true, Bool.not_false, if_true, if_false, ↓reduceIte, G.oAddI, G.oSubI, G.oLeI, G.oGtI, G.oGeI, G.oIsB, G.oIsntB, G.oIsN, G.oIsntN, G.oLenT, G.oLenR, G.oLenS, oIsi, oIsi1, iNon, iBl, iInt, iStr, iTup, iRol, G.tSub, G.tSub1, G.tSub2, G.tSub3, G.oInt, G.oAbs, G.oMax2, G.oPow30, G.oPow18, G.oPow9, G.oEqI, G.oNeI, G.oLtI, isNon, Bool.true_and, Bool.and_true, Bool.false_and, Bool.and_false, Bool.true_or, Bool.false_or, Bool.or_true, Bool.or_false, Bool.not_not, Bool.false_eq_true, G.sT, G.sR, G.sS, Int.cast_ofNat_Int, decide_true, decide_false, Int.reduceEq, Int.reduceLT, Int.reduceLE, Int.reduceAdd, Int.reduceSub, Int.reduceMul, Int.reducePow, Int.reduceNeg, Int.reduceNe, $xs,*])
  | `(tactic| simp! [$xs,*] at $h:ident) => `(tactic| simp only [v0, vS, aC, aOp, aOp1, aOp2, aOf, aUn, aUn1, aNil, aCons, aCons1, aCons2, aCB, aCB1, aTup, aTup1, aLst, aLst1, aTru, aTru1, aTru2, aTst, aTst1, aAndT, aAndT1, aAndT2, aOrT, aOrT1, aOrT2, aNotT, aNotT1, aAnd, aAnd1, aAnd2, aAnd3, aOr, aOr1, aOr2, aOr3, aNot, aNot1, aNot2, aIf, aIf1, aIf2, aCh, aCh0, aCh1, aCh2, aCh3, aCh4, aCall, aCall1, aCallK, aCallK1, aCallK2, aNP, aPart, aPart1, aSl, aSl1, aSl2, aSl3, aMt, aMt1, aMt2, aMt3, aPr0, aPr, aPr1, aPr2, aPr3, aDisp, aDisp1, aEmp, aSeqI, aSeqI1, aSeqI2, aRng1, aEn, aZip, aRng2, aRngD, afI, aLc, aLc1, aLc2, aW0, aW1, aSkip, aSeq, aSeq1, aSeq2, aSeq3, aSeq4, aExpr, aExpr1, aRet, aRet1, aRetN, aBrk, aCnt, aIfS, aIfS1, aIfS2, aSet, aSet1, aPar, aPar1, aPar3, aPar31, aAsg, aAsg1, aAsg2, aFor, aFor1, aRun, aRun1, aRun2, tName, tUnp, tsNil, tsCons, tsCons1, tr_bl, tr_non, tr_int, tr_tup, tr_str,
      List.map_cons, List.map_nil, List.length_cons, List.length_nil, Nat.reduceAdd, Nat.reduceSub, Nat.zero_add, List.replicate, List.cons_append, List.nil_append, List.set_cons_zero, List.set_cons_succ, Nat.reduceLeDiff, Bool.not_true, Bool.not_false, if_true, if_false, ↓reduceIte, G.oAddI, G.oSubI, G.oLeI, G.oGtI, G.oGeI, G.oIsB, G.oIsntB, G.oIsN, G.oIsntN, G.oLenT, G.oLenR, G.oLenS, oIsi, oIsi1, iNon, iBl, iInt, iStr, iTup, iRol, G.tSub, G.tSub1, G.tSub2, G.tSub3, G.oInt, G.oAbs, G.oMax2, G.oPow30, G.oPow18, G.oPow9, G.oEqI, G.oNeI, G.oLtI, isNon, Bool.true_and, Bool.and_true, Bool.false_and, Bool.and_false, Bool.true_or, Bool.false_or, Bool.or_true, Bool.or_false, Bool.not_not, Bool.false_eq_true, G.sT, G.sR, G.sS, Int.cast_ofNat_Int, decide_true, decide_false, Int.reduceEq, Int.reduceLT, Int.reduceLE, Int.reduceAdd, Int.reduceSub, Int.reduceMul, Int.reducePow, Int.reduceNeg, Int.reduceNe, $xs,*] at $h:ident)
/-! _law_is_length -/
def stepOk (last : Int) : D → Bool
  | .tup [.int a, .int b] => (decide (0 ≤ a) && decide (a < last)) && (decide (1 ≤ b) && decide (b ≤ 1000000000000000000000000000000))
  | _ => false
def chk : Int → List D → Bool
  | _, [] => true
  | last, d :: r => stepOk last d && chk (fstI d) r
theorem step_two {last : Int} {d : D} (h : stepOk last d = true) : ∃ a b, d = .tup [.int a, .int b] ∧ 0 ≤ a ∧ a < last ∧ 1 ≤ b ∧ b ≤ 1000000000000000000000000000000 := by
  unfold stepOk at h
  split at h
  · simp only [Bool.and_eq_true, decide_eq_true_eq] at h
    exact ⟨_, _, rfl, h.1.1, h.1.2, h.2.1, h.2.2⟩
  · cases h
theorem pair_two {d : D} (h : pairOk d = true) : ∃ a b, d = .tup [.int a, .int b] ∧ 0 ≤ a ∧ a ≤ 15 ∧ 1 ≤ b ∧ b ≤ 1000000000000000000000000000000 := by
  unfold pairOk at h
  split at h
  · rename_i a b
    rw [Bool.and_eq_true] at h
    cases a <;> first | (cases h.1; done) | skip
    cases b <;> first | (cases h.2; done) | skip
    simp only [inI, Bool.and_eq_true, decide_eq_true_eq] at h
    exact ⟨_, _, rfl, h.1.1, h.1.2, h.2.1, h.2.2⟩
  · cases h
theorem step_pair {last : Int} {d : D} : stepOk last d = (pairOk d && decide (fstI d < last)) ∨ 16 < last := by
  by_cases hl : 16 < last
  · exact .inr hl
  left
  rw [Bool.eq_iff_iff]
  constructor
  · intro h
    obtain ⟨a, b, rfl, h1, h2, h3, h4⟩ := step_two h
    simp only [pairOk, inI, fstI, Bool.and_eq_true, decide_eq_true_eq]
    exact ⟨⟨⟨h1, by omega⟩, h3, h4⟩, decide_eq_true h2⟩
  · intro h
    rw [Bool.and_eq_true] at h
    obtain ⟨a, b, rfl, h1, h2, h3, h4⟩ := pair_two h.1
    have h5 : a < last := of_decide_eq_true h.2
    simp only [stepOk, Bool.and_eq_true, decide_eq_true_eq]
    exact ⟨⟨h1, h5⟩, h3, h4⟩
theorem desc_cons {x : D} {xs : List D} : desc (x :: xs) = ((match xs with | [] => true | y :: _ => decide (fstI y < fstI x)) && desc xs) := by
  cases xs with
  | nil => rfl
  | cons y r => rfl
theorem chk_is : ∀ (xs : List D) (last : Int), last ≤ 16 → chk last xs = ((xs.all pairOk && desc xs) && (match xs with | [] => true | x :: _ => decide (fstI x < last)))
  | [], _, _ => rfl
  | x :: xs, last, hl => by
    show (stepOk last x && chk (fstI x) xs) = _
    rcases step_pair (last := last) (d := x) with e | e
    · rw [e]
      cases hp : pairOk x with
      | false => simp [hp]
      | true =>
        obtain ⟨a, b, rfl, h1, h2, h3, h4⟩ := pair_two hp
        rw [chk_is xs (fstI (.tup [.int a, .int b])) (by show a ≤ 16; omega), desc_cons]
        simp only [List.all_cons, hp, Bool.true_and]
        cases xs with
        | nil => simp [desc, zipD]
        | cons y r =>
          simp only
          generalize (y :: r).all pairOk = A
          generalize desc (y :: r) = B
          generalize decide (fstI y < fstI (D.tup [D.int a, D.int b])) = C
          generalize decide (fstI (D.tup [D.int a, D.int b]) < last) = E
          cases A <;> cases B <;> cases C <;> cases E <;> rfl
    · omega
theorem pair_isT {d : D} (h : pairOk d = true) : isT 2 d = true := by
  obtain ⟨a, b, rfl, _⟩ := pair_two h
  rfl
theorem chk_len {xs : List D} : chk 16 xs = lenV (.tup xs) := by
  rw [chk_is xs 16 (by decide)]
  show _ = (xs.all (isT 2) && (xs.all pairOk && desc xs))
  cases hp : xs.all pairOk with
  | false => rw [Bool.false_and, Bool.false_and, Bool.and_false]
  | true =>
    have hp' : ∀ d ∈ xs, pairOk d = true := List.all_eq_true.mp hp
    have h2 : xs.all (isT 2) = true := List.all_eq_true.mpr fun d hd => pair_isT (hp' d hd)
    rw [h2]
    cases xs with
    | nil => simp [desc, zipD]
    | cons x r =>
      obtain ⟨a, b, rfl, h1, h3, _⟩ := pair_two (hp' x List.mem_cons_self)
      have e : decide (fstI (.tup [.int a, .int b]) < 16) = true := decide_eq_true (by show a < 16; omega)
      simp only [e, Bool.true_and, Bool.and_true]
theorem big_gt {n : Nat} (h : n ≤ 1000000) : n < big := Nat.lt_of_le_of_lt h (by decide)
theorem f_law_is_length {M : Mem} {v : D} (h : Fine M v) : ∃ X, m_law_is_length [v] M = .ok (.bl (lenV v)) (M ++ X) := by
  rcases kd_tup h.kd with ⟨h1, h2⟩ | ⟨xs, rfl⟩
  · have e : lenV v = false := by
      cases v <;> first | rfl | cases h1
    exact ⟨[], by simp! [m_law_is_length, b_law_is_length, h1, e, List.append_nil]⟩
  · have hl := h.len xs rfl
    simp! [m_law_is_length, b_law_is_length]
    generalize hF : forG _ _ _ _ _ _ _ = F
    have key : (∃ ρ' M', F = .ok (.nx ρ') M' ∧ ∃ last a b X, ρ' = [some (.tup xs), some (.int last), a, b] ∧ M' = M ++ X ∧ chk 16 xs = chk last (xs.drop xs.length)) ∨ ∃ d M', F = .ok (.rt d) M' ∧ (d = .bl false ∧ chk 16 xs = false ∧ ∃ X, M' = M ++ X) := by
      rw [← hF]
      refine for_inv2 (its := xs) (fun i ρ M1 => ∃ last a b X, ρ = [some (.tup xs), some (.int last), a, b] ∧ M1 = M ++ X ∧ chk 16 xs = chk last (xs.drop i))
        (fun d M1 => d = .bl false ∧ chk 16 xs = false ∧ ∃ X, M1 = M ++ X) (big_gt hl) ⟨16, none, none, [], rfl, by rw [List.append_nil], rfl⟩ (fun _ _ _ _ _ => rfl) (fun i ρ M1 d hd hP => ?_)
      obtain ⟨last, a, b, X, rfl, rfl, hc⟩ := hP
      have hm : d ∈ xs := List.mem_of_getElem? hd
      have kd := kd_app (X := X) (h.it xs d rfl hm)
      have hdrop : xs.drop i = d :: xs.drop (i + 1) := by
        have hi := (List.getElem?_eq_some_iff.mp hd)
        rw [List.drop_eq_getElem_cons hi.1, hi.2]
      rw [hdrop] at hc
      have hc' : chk 16 xs = (stepOk last d && chk (fstI d) (xs.drop (i + 1))) := hc
      refine ⟨_, _, rfl, ?_⟩
      rcases kd_tup kd with ⟨g1, g2⟩ | ⟨ys, rfl⟩
      · right
        have e : stepOk last d = false := by
          cases d <;> first | rfl | cases g1
        rw [e, Bool.false_and] at hc'
        exact ⟨.bl false, M ++ X, by simp! [g1], rfl, hc', X, rfl⟩
      · by_cases h2 : ys.length = 2
        · match ys, h2 with
          | [p, m], _ =>
            have kp : Kd (M ++ X) p := kd_app (h.part xs [p, m] p rfl hm (by simp))
            have km : Kd (M ++ X) m := kd_app (h.part xs [p, m] m rfl hm (by simp))
            have hall : ∀ d ∈ [p, m], Kd (M ++ X) d := by
              intro d hd
              rcases List.mem_cons.mp hd with e | e
              · rw [e]; exact kp
              · rw [List.mem_singleton.mp e]; exact km
            have hstep : ∀ (ρ : Rho) (d : D), slot ρ 3 = some d → Kd (M ++ X) d → gAnd (gCB isiN (gCons (gV 3) (gCons (gC (.ty .int)) gNil))) (gNot (gCB isiN (gCons (gV 3) (gCons (gC (.ty .bool)) gNil)))) ρ (M ++ X) = .ok (.bl (isI d)) (M ++ X) := by
              intro ρ d hs kd'
              have hv : gV 3 ρ (M ++ X) = .ok d (M ++ X) := by
                unfold gV
                rw [hs]
              rcases kd_int kd' with ⟨z1, z2⟩ | ⟨z1, z2, z3⟩ | ⟨i, rfl⟩
              · simp! [hv, z1, z2]
              · simp! [hv, z1, z2, z3]
              · simp! [hv, isI]
            have hno : (isI p && isI m) = false → stepOk last (.tup [p, m]) = false := by
              intro z
              unfold stepOk
              split
              · rename_i e
                cases e
                cases z
              · rfl
            cases hI : (isI p && isI m) with
            | false =>
              right
              rw [hno hI, Bool.false_and] at hc'
              refine ⟨.bl false, M ++ X ++ [.lst ([p, m].map fun d => .bl (isI d))], ?_, rfl, hc', _, List.append_assoc _ _ _⟩
              simp! []
              rw [all_lc (its := [p, m]) isI (by simp) (fun _ => rfl) (fun d hd => ⟨_, rfl, rfl, hstep _ d rfl (hall d hd)⟩)]
              have hz : [p, m].all isI = false := by simpa using hI
              simp! [hz]
            | true =>
              obtain ⟨i1, rfl⟩ : ∃ i, p = .int i := by
                cases p <;> first | exact ⟨_, rfl⟩ | cases hI
              obtain ⟨i2, rfl⟩ : ∃ i, m = .int i := by
                cases m <;> first | exact ⟨_, rfl⟩ | cases hI
              have hrun : ∀ (C : R Fl → Prop), (stepOk last (.tup [.int i1, .int i2]) = true → C (.ok (.nx [some (.tup xs), some (.int i1), some (.tup [.int i1, .int i2]), b]) (M ++ X ++ [.lst [.bl true, .bl true]]))) →
                  (stepOk last (.tup [.int i1, .int i2]) = false → C (.ok (.rt (.bl false)) (M ++ X ++ [.lst [.bl true, .bl true]]))) → True := fun _ _ _ => trivial
              cases hS : stepOk last (.tup [.int i1, .int i2]) with
              | true =>
                left
                rw [hS, Bool.true_and] at hc'
                refine ⟨[some (.tup xs), some (.int i1), some (.tup [.int i1, .int i2]), b], M ++ X ++ [.lst ([.int i1, .int i2].map fun d => .bl (isI d))], .inl ?_, i1, _, b, X ++ [.lst ([.int i1, .int i2].map fun d => .bl (isI d))], rfl, List.append_assoc _ _ _, hc'⟩
                obtain ⟨a', b', e', q1, q2, q3, q4⟩ := step_two hS
                cases e'
                simp! []
                rw [all_lc (its := [.int i1, .int i2]) isI (by simp) (fun _ => rfl) (fun d hd => ⟨_, rfl, rfl, hstep _ d rfl (hall d hd)⟩)]
                have hz : [D.int i1, D.int i2].all isI = true := rfl
                simp! [hz, oIxT at0, oIxT at1, decide_eq_true q1, decide_eq_true q2, decide_eq_true q3, decide_eq_true q4]
              | false =>
                right
                rw [hS, Bool.false_and] at hc'
                refine ⟨.bl false, M ++ X ++ [.lst ([.int i1, .int i2].map fun d => .bl (isI d))], ?_, rfl, hc', _, List.append_assoc _ _ _⟩
                simp! []
                rw [all_lc (its := [.int i1, .int i2]) isI (by simp) (fun _ => rfl) (fun d hd => ⟨_, rfl, rfl, hstep _ d rfl (hall d hd)⟩)]
                have hz : [D.int i1, D.int i2].all isI = true := rfl
                simp! [hz, oIxT at0, oIxT at1]
                simp only [stepOk] at hS
                cases z1 : decide (0 ≤ i1) with
                | false => simp! [z1]
                | true =>
                  cases z2 : decide (i1 < last) with
                  | false => simp! [z2]
                  | true =>
                    cases z3 : decide (1 ≤ i2) with
                    | false => simp! [z2, z3, oIxT at1]
                    | true =>
                      cases z4 : decide (i2 ≤ 1000000000000000000000000000000) with
                      | false => simp! [z2, z3, z4, oIxT at1]
                      | true =>
                        rw [z1, z2, z3, z4] at hS
                        cases hS
        · right
          have e : stepOk last (.tup ys) = false := by
            unfold stepOk
            split
            · rename_i e; cases e; simp at h2
            · rfl
          rw [e, Bool.false_and] at hc'
          have h3 : decide ((ys.length : Int) = 2) = false := decide_eq_false (by omega)
          exact ⟨.bl false, M ++ X, by simp! [h3], rfl, hc', X, rfl⟩
    rcases key with ⟨ρ', M', e1, last, a, b, X, e2, e3, e4⟩ | ⟨d, M', e1, e2, e3, X, e4⟩
    · rw [e1]
      refine ⟨X, ?_⟩
      rw [List.drop_length] at e4
      simp! [← chk_len, e4, e3, chk]
    · rw [e1]
      refine ⟨X, ?_⟩
      simp! [e2, ← chk_len, e3, e4]
end K56
set_option maxRecDepth 100000
set_option maxHeartbeats 4000000
namespace K56
open PySem G
local macro_rules
  | `(tactic| simp! [$xs,*]) => `(tactic| simp only [v0, vS, aC, aOp, aOp1, aOp2, aOf, aUn, aUn1, aNil, aCons, aCons1, aCons2, aCB, aCB1, aTup, aTup1, aLst, aLst1, aTru, aTru1, aTru2, aTst, aTst1, aAndT, aAndT1, aAndT2, aOrT, aOrT1, aOrT2, aNotT, aNotT1, aAnd, aAnd1, aAnd2, aAnd3, aOr, aOr1, aOr2, aOr3, aNot, aNot1, aNot2, aIf, aIf1, aIf2, aCh, aCh0, aCh1, aCh2, aCh3, aCh4, aCall, aCall1, aCallK, aCallK1, aCallK2, aNP, aPart, aPart1, aSl, aSl1, aSl2, aSl3, aMt, aMt1, aMt2, aMt3, aPr0, aPr, aPr1, aPr2, aPr3, aDisp, aDisp1, aEmp, aSeqI, aSeqI1, aSeqI2, aRng1, aEn, aZip, aRng2, aRngD, afI, aLc, aLc1, aLc2, aW0, aW1, aSkip, aSeq, aSeq1, aSeq2, aSeq3, aSeq4, aExpr, aExpr1, aRet, aRet1, aRetN, aBrk, aCnt, aIfS, aIfS1, aIfS2, aSet, aSet1, aPar, aPar1, aPar3, aPar31, aAsg, aAsg1, aAsg2, aFor, aFor1, aRun, aRun1, aRun2, tName, tUnp, tsNil, tsCons, tsCons1, tr_bl, tr_non, tr_int, tr_tup, tr_str,
      List.map_cons, List.map_nil, List.length_cons, List.length_nil, Nat.reduceAdd, Nat.reduceSub, Nat.zero_add, List.replicate, List.cons_append, List.nil_append, List.set_cons_zero, List.set_cons_succ, Nat.reduceLeDiff, Bool.not_true, Bool.not_false, if_true, if_false, ↓reduceIte, G.oAddI, G.oSubI, G.oLeI, G.oGtI, G.oGeI, G.oIsB, G.oIsntB, G.oIsN, G.oIsntN, G.oLenT, G.oLenR, G.oLenS, oIsi, oIsi1, iNon, iBl, iInt, iStr, iTup, iRol, G.tSub, G.tSub1, G.tSub2, G.tSub3, G.oInt, G.oAbs, G.oMax2, G.oPow30, G.oPow18, G.oPow9, G.oEqI, G.oNeI, G.oLtI, isNon, Bool.true_and, Bool.and_true, Bool.false_and, Bool.and_false, Bool.true_or, Bool.false_or, Bool.or_true, Bool.or_false, Bool.not_not, Bool.false_eq_true, G.sT, G.sR, G.sS, Int.cast_ofNat_Int, decide_true, decide_false, Int.reduceEq, Int.reduceLT, Int.reduceLE, Int.reduceAdd, Int.reduceSub, Int.reduceMul, Int.reducePow, Int.reduceNeg, Int.reduceNe, $xs,*])
  | `(tactic| simp! [$xs,*] at $h:ident) => `(tactic| simp only [v0, vS, aC, aOp, aOp1, aOp2, aOf, aUn, aUn1, aNil, aCons, aCons1, aCons2, aCB, aCB1, aTup, aTup1, aLst, aLst1, aTru, aTru1, aTru2, aTst, aTst1, aAndT, aAndT1, aAndT2, aOrT, aOrT1, aOrT2, aNotT, aNotT1, aAnd, aAnd1, aAnd2, aAnd3, aOr, aOr1, aOr2, aOr3, aNot, aNot1, aNot2, aIf, aIf1, aIf2, aCh, aCh0, aCh1, aCh2, aCh3, aCh4, aCall, aCall1, aCallK, aCallK1, aCallK2, aNP, aPart, aPart1, aSl, aSl1, aSl2, aSl3, aMt, aMt1, aMt2, aMt3, aPr0, aPr, aPr1, aPr2, aPr3, aDisp, aDisp1, aEmp, aSeqI, aSeqI1, aSeqI2, aRng1, aEn, aZip, aRng2, aRngD, afI, aLc, aLc1, aLc2, aW0, aW1, aSkip, aSeq, aSeq1, aSeq2, aSeq3, aSeq4, aExpr, aExpr1, aRet, aRet1, aRetN, aBrk, aCnt, aIfS, aIfS1, aIfS2, aSet, aSet1, aPar, aPar1, aPar3, aPar31, aAsg, aAsg1, aAsg2, aFor, aFor1, aRun, aRun1, aRun2, tName, tUnp, tsNil, tsCons, tsCons1, tr_bl, tr_non, tr_int, tr_tup, tr_str,
      List.map_cons, List.map_nil, List.length_cons, List.length_nil, Nat.reduceAdd, Nat.reduceSub, Nat.zero_add, List.replicate, List.cons_append, List.nil_append, List.set_cons_zero, List.set_cons_succ, Nat.reduceLeDiff, Bool.not_true, Bool.not_false, if_true, if_false, ↓reduceIte, G.oAddI, G.oSubI, G.oLeI, G.oGtI, G.oGeI, G.oIsB, G.oIsntB, G.oIsN, G.oIsntN, G.oLenT, G.oLenR, G.oLenS, oIsi, oIsi1, iNon, iBl, iInt, iStr, iTup, iRol, G.tSub, G.tSub1, G.tSub2, G.tSub3, G.oInt, G.oAbs, G.oMax2, G.oPow30, G.oPow18, G.oPow9, G.oEqI, G.oNeI, G.oLtI, isNon, Bool.true_and, Bool.and_true, Bool.false_and, Bool.and_false, Bool.true_or, Bool.false_or, Bool.or_true, Bool.or_false, Bool.not_not, Bool.false_eq_true, G.sT, G.sR, G.sS, Int.cast_ofNat_Int, decide_true, decide_false, Int.reduceEq, Int.reduceLT, Int.reduceLE, Int.reduceAdd, Int.reduceSub, Int.reduceMul, Int.reducePow, Int.reduceNeg, Int.reduceNe, $xs,*] at $h:ident)
/-! draws -/
/-- a pot: what is left of the cell's digits, the number that mixes -/
def Pot (M : Mem) (p : Nat) : Prop := ∃ a b : Int, M[p]? = some (.lst [.int a, .int b]) ∧ 0 ≤ a ∧ 0 ≤ b ∧ b < 4294967296
theorem f_law_draw {M : Mem} {p : Nat} {m : Int} (h : Pot M p) (h0 : 0 < m) (h1 : m.natAbs < 18446744073709551616) :
    ∃ v o, m_law_draw [.ref p, .int m] M = .ok (.int v) (M.set p o) ∧ 0 ≤ v ∧ v < m ∧ Pot (M.set p o) p := by
  obtain ⟨a, b, hM, ha, hb, hb2⟩ := h
  have i0 : ∀ {M : Mem} {x y : D}, M[p]? = some (.lst [x, y]) → ixM (.ref p) (.int 0) M = some (x, M) := fun h => oIxL h at0
  have i1 : ∀ {M : Mem} {x y : D}, M[p]? = some (.lst [x, y]) → ixM (.ref p) (.int 1) M = some (y, M) := fun h => oIxL h at1
  have s0 : ∀ {M : Mem} {x y d : D}, M[p]? = some (.lst [x, y]) → setM (.ref p) (.int 0) d M = some (M.set p (.lst [d, y])) := fun h => oSetL (j := 0) h rfl
  have s1 : ∀ {M : Mem} {x y d : D}, M[p]? = some (.lst [x, y]) → setM (.ref p) (.int 1) d M = some (M.set p (.lst [x, d])) := fun h => oSetL (j := 1) h rfl
  cases hz : decide (0 < a) with
  | true =>
    refine ⟨a % m, .lst [.int (a / m), .int b], ?_, Int.emod_nonneg _ (by omega), Int.emod_lt_of_pos _ h0, a / m, b, mem_set hM, Int.ediv_nonneg ha (by omega), hb, hb2⟩
    simp! [m_law_draw, b_law_draw, i0 hM, hz, oDmod h0 h1, seqM, s0 hM]
  | false =>
    generalize hc : (b * 46174 + 3291) % 2147483587 = c
    have c0 : 0 ≤ c := by omega
    have c1 : c < 4294967296 := by omega
    have hM2 : (M.set p (.lst [.int a, .int c]))[p]? = some (.lst [.int a, .int c]) := mem_set hM
    refine ⟨c * c % 2147483579 / 19 % m, .lst [.int a, .int c], ?_, Int.emod_nonneg _ (by omega), Int.emod_lt_of_pos _ h0, a, c, hM2, ha, c0, c1⟩
    simp! [m_law_draw, b_law_draw, i0 hM, hz, i1 hM, s1 hM, oMul (mulOk_of (i := b) (j := 46174) (by omega) (by omega)), oMod (show (0 : Int) < 2147483587 by decide), hc, i1 hM2,
      oMul (mulOk_of (i := c) (j := c) (by omega) (by omega)), oMod (show (0 : Int) < 2147483579 by decide), oFdiv (show (0 : Int) < 19 by decide) (by decide), oMod h0]
/-- what a draw leaves: all but the pot stands, new things behind -/
structure Dr (p : Nat) (M M' : Mem) : Prop where
  pot : Pot M' p
  old : ∀ n o, n ≠ p → M[n]? = some o → M'[n]? = some o
  len : M.length ≤ M'.length
theorem Dr.refl {p : Nat} {M : Mem} (h : Pot M p) : Dr p M M := ⟨h, fun _ _ _ e => e, Nat.le_refl _⟩
theorem Dr.trans {p : Nat} {M M' M'' : Mem} (a : Dr p M M') (b : Dr p M' M'') : Dr p M M'' := ⟨b.pot, fun n o h e => b.old n o h (a.old n o h e), Nat.le_trans a.len b.len⟩
theorem Pot.app {p : Nat} {M X : Mem} (h : Pot M p) : Pot (M ++ X) p := let ⟨a, b, e, q⟩ := h; ⟨a, b, mem_old e, q⟩
theorem Dr.app {p : Nat} {M X : Mem} (h : Pot M p) : Dr p M (M ++ X) := ⟨h.app, fun n o _ e => mem_old e, by rw [List.length_append]; omega⟩
theorem c_law_draw {M : Mem} {p : Nat} {m : Int} (h : Pot M p) (h0 : 0 < m) (h1 : m.natAbs < 18446744073709551616) :
    ∃ v M', callF m_law_draw [.ref p, .int m] M = .ok (.int v) M' ∧ 0 ≤ v ∧ v < m ∧ Dr p M M' := by
  obtain ⟨v, o, e, a, b, c⟩ := f_law_draw h h0 h1
  refine ⟨v, _, by rw [call_ref rfl]; exact e, a, b, c, fun n o hn en => ?_, by rw [List.length_set]; exact Nat.le_refl _⟩
  rw [mem_set_ne (Ne.symm hn)]
  exact en
/-- one of a list, a tuple, a text -/
def itemsOf (M : Mem) : D → Option (List D)
  | .tup xs => some xs
  | .rol xs => some xs
  | .str s => some (s.map fun c => .str [c])
  | .ref n => match M[n]? with
    | some (.lst xs) => some xs
    | _ => none
  | _ => none
theorem Dr.items {p : Nat} {M M' : Mem} (h : Dr p M M') {d : D} {xs : List D} (hd : ∀ n, d = .ref n → n ≠ p) (e : itemsOf M d = some xs) : itemsOf M' d = some xs := by
  cases d with
  | ref n =>
    have hn := hd n rfl
    simp only [itemsOf] at e ⊢
    split at e
    · rename_i ys eM
      rw [h.old n _ hn eM]
      exact e
    · cases e
  | _ => exact e
theorem c_law_pick {M : Mem} {p : Nat} {d : D} {xs : List D} (h : Pot M p) (hd : ∀ n, d = .ref n → n ≠ p) (e : itemsOf M d = some xs) (h0 : xs ≠ []) (hl : xs.length ≤ 1000000) :
    ∃ x M', callF m_law_pick [.ref p, d] M = .ok x M' ∧ x ∈ xs ∧ Dr p M M' := by
  have hp : 0 < xs.length := List.length_pos_iff.mpr h0
  obtain ⟨v, M', e1, v0, v1, dr⟩ := c_law_draw (m := xs.length) h (by omega) (by omega)
  have hv : v.toNat < xs.length := by omega
  refine ⟨xs[v.toNat], M', ?_, List.getElem_mem _, dr⟩
  rw [call_ref rfl]
  have e' := dr.items hd e
  have hlen : lenN [d] M = some (.int xs.length, M) := by
    cases d with
    | tup ys => cases e; rfl
    | rol ys => cases e; rfl
    | str s => cases e; simp only [lenN, List.length_map]
    | ref n =>
      simp only [itemsOf] at e
      split at e
      · rename_i ys eM
        cases e
        exact oLenL eM
      · cases e
    | _ => cases e
  have hix : ixM d (.int v) M' = some (xs[v.toNat], M') := by
    have hg : xs[v.toNat]? = some xs[v.toNat] := List.getElem?_eq_getElem hv
    cases d with
    | tup ys => cases e'; exact oIxT (at_pos v0 hg)
    | rol ys => cases e'; exact oIxR (at_pos v0 hg)
    | str s =>
      cases e'
      have hs : v.toNat < s.length := by rw [List.length_map] at hv; exact hv
      have ha : atN s v = some s[v.toNat] := by
        unfold atN
        rw [if_pos v0]
        exact List.getElem?_eq_getElem hs
      show (match atN s v with | some c => some (D.str [c], M') | none => none) = _
      rw [ha]
      simp
    | ref n =>
      simp only [itemsOf] at e'
      split at e'
      · rename_i ys eM
        cases e'
        exact oIxL eM (at_pos v0 hg)
      · cases e'
    | _ => cases e'
  simp! [m_law_pick, b_law_pick, hlen, e1, hix]
theorem c_law_pot {M : Mem} {ns : List Int} {k : Nat} (hk : k < 1000) :
    ∃ a b : Int, callF m_law_pot [dScript ns, .int k] M = .ok (.ref M.length) (M ++ [.lst [.int a, .int b]]) ∧ 0 ≤ a ∧ 0 ≤ b ∧ b < 4294967296 := by
  have n1 : noRefs (ns.map D.int) = true := by
    induction ns with
    | nil => rfl
    | cons n ns ih => exact ih
  have n2 : noRefs [dScript ns, .int k] = true := by
    show (noRefs (ns.map D.int) && _) = true
    rw [n1]
    rfl
  have key : ∀ (cell : Int), ∃ a b : Int, 0 ≤ a ∧ 0 ≤ b ∧ b < 4294967296 ∧ ((if cell - 1000000000000000000 > 0 then cell - 1000000000000000000 else 0) = a) ∧ ((cell % 2147483549 * 46174 + 4072 * (k : Int) + 3291) % 2147483579 + 1 = b) := by
    intro cell
    refine ⟨_, _, ?_, ?_, ?_, rfl, rfl⟩
    · split <;> omega
    · omega
    · omega
  have hmul : ∀ cell : Int, mulOk (cell % 2147483549) 46174 = true := fun cell => mulOk_of (by omega) (by omega)
  have hmk : mulOk 4072 (k : Int) = true := mulOk_of (by omega) (by omega)
  have fin : ∀ {a b : Int}, m_law_pot [dScript ns, .int k] [] = .ok (.ref 0) [.lst [.int a, .int b]] → callF m_law_pot [dScript ns, .int k] M = .ok (.ref M.length) (M ++ [.lst [.int a, .int b]]) := fun h => call_new n2 rfl h
  by_cases hlt : k < ns.length
  · have hx : (ns.map D.int)[k]? = some (.int ns[k]) := by
      rw [List.getElem?_map, List.getElem?_eq_getElem hlt]
      rfl
    obtain ⟨a, b, h1, h2, h3, h4, h5⟩ := key (if ns[k] < 0 then -ns[k] else ns[k])
    refine ⟨a, b, fin ?_, h1, h2, h3⟩
    have hd : decide ((k : Int) < ((ns.map D.int).length : Nat)) = true := decide_eq_true (by rw [List.length_map]; omega)
    simp! [m_law_pot, b_law_pot, hd, oIxR (atN_nat hx), oMod (show (0 : Int) < 2147483549 by decide), oMul (hmul _), oMul hmk, oMod (show (0 : Int) < 2147483579 by decide), h4, h5]
  · obtain ⟨a, b, h1, h2, h3, h4, h5⟩ := key (4072 * k + 5969)
    refine ⟨a, b, fin ?_, h1, h2, h3⟩
    have hd : decide ((k : Int) < ((ns.map D.int).length : Nat)) = false := decide_eq_false (by rw [List.length_map]; omega)
    simp! [m_law_pot, b_law_pot, hd, oMod (show (0 : Int) < 2147483549 by decide), oMul (hmul _), oMul hmk, oMod (show (0 : Int) < 2147483579 by decide), h4, h5]
end K56
set_option maxRecDepth 100000
set_option maxHeartbeats 4000000
namespace K56
open PySem G
local macro_rules
  | `(tactic| simp! [$xs,*]) => `(tactic| simp only [v0, vS, aC, aOp, aOp1, aOp2, aOf, aUn, aUn1, aNil, aCons, aCons1, aCons2, aCB, aCB1, aTup, aTup1, aLst, aLst1, aTru, aTru1, aTru2, aTst, aTst1, aAndT, aAndT1, aAndT2, aOrT, aOrT1, aOrT2, aNotT, aNotT1, aAnd, aAnd1, aAnd2, aAnd3, aOr, aOr1, aOr2, aOr3, aNot, aNot1, aNot2, aIf, aIf1, aIf2, aCh, aCh0, aCh1, aCh2, aCh3, aCh4, aCall, aCall1, aCallK, aCallK1, aCallK2, aNP, aPart, aPart1, aSl, aSl1, aSl2, aSl3, aMt, aMt1, aMt2, aMt3, aPr0, aPr, aPr1, aPr2, aPr3, aDisp, aDisp1, aEmp, aSeqI, aSeqI1, aSeqI2, aRng1, aEn, aZip, aRng2, aRngD, afI, aLc, aLc1, aLc2, aW0, aW1, aSkip, aSeq, aSeq1, aSeq2, aSeq3, aSeq4, aExpr, aExpr1, aRet, aRet1, aRetN, aBrk, aCnt, aIfS, aIfS1, aIfS2, aSet, aSet1, aPar, aPar1, aPar3, aPar31, aAsg, aAsg1, aAsg2, aFor, aFor1, aRun, aRun1, aRun2, tName, tUnp, tsNil, tsCons, tsCons1, tr_bl, tr_non, tr_int, tr_tup, tr_str,
      List.map_cons, List.map_nil, List.length_cons, List.length_nil, Nat.reduceAdd, Nat.reduceSub, Nat.zero_add, List.replicate, List.cons_append, List.nil_append, List.set_cons_zero, List.set_cons_succ, Nat.reduceLeDiff, Bool.not_true, Bool.not_false, if_true, if_false, ↓reduceIte, G.oAddI, G.oSubI, G.oLeI, G.oGtI, G.oGeI, G.oIsB, G.oIsntB, G.oIsN, G.oIsntN, G.oLenT, G.oLenR, G.oLenS, oIsi, oIsi1, iNon, iBl, iInt, iStr, iTup, iRol, G.tSub, G.tSub1, G.tSub2, G.tSub3, G.oInt, G.oAbs, G.oMax2, G.oPow30, G.oPow18, G.oPow9, G.oEqI, G.oNeI, G.oLtI, isNon, Bool.true_and, Bool.and_true, Bool.false_and, Bool.and_false, Bool.true_or, Bool.false_or, Bool.or_true, Bool.or_false, Bool.not_not, Bool.false_eq_true, G.sT, G.sR, G.sS, Int.cast_ofNat_Int, decide_true, decide_false, Int.reduceEq, Int.reduceLT, Int.reduceLE, Int.reduceAdd, Int.reduceSub, Int.reduceMul, Int.reducePow, Int.reduceNeg, Int.reduceNe, $xs,*])
  | `(tactic| simp! [$xs,*] at $h:ident) => `(tactic| simp only [v0, vS, aC, aOp, aOp1, aOp2, aOf, aUn, aUn1, aNil, aCons, aCons1, aCons2, aCB, aCB1, aTup, aTup1, aLst, aLst1, aTru, aTru1, aTru2, aTst, aTst1, aAndT, aAndT1, aAndT2, aOrT, aOrT1, aOrT2, aNotT, aNotT1, aAnd, aAnd1, aAnd2, aAnd3, aOr, aOr1, aOr2, aOr3, aNot, aNot1, aNot2, aIf, aIf1, aIf2, aCh, aCh0, aCh1, aCh2, aCh3, aCh4, aCall, aCall1, aCallK, aCallK1, aCallK2, aNP, aPart, aPart1, aSl, aSl1, aSl2, aSl3, aMt, aMt1, aMt2, aMt3, aPr0, aPr, aPr1, aPr2, aPr3, aDisp, aDisp1, aEmp, aSeqI, aSeqI1, aSeqI2, aRng1, aEn, aZip, aRng2, aRngD, afI, aLc, aLc1, aLc2, aW0, aW1, aSkip, aSeq, aSeq1, aSeq2, aSeq3, aSeq4, aExpr, aExpr1, aRet, aRet1, aRetN, aBrk, aCnt, aIfS, aIfS1, aIfS2, aSet, aSet1, aPar, aPar1, aPar3, aPar31, aAsg, aAsg1, aAsg2, aFor, aFor1, aRun, aRun1, aRun2, tName, tUnp, tsNil, tsCons, tsCons1, tr_bl, tr_non, tr_int, tr_tup, tr_str,
      List.map_cons, List.map_nil, List.length_cons, List.length_nil, Nat.reduceAdd, Nat.reduceSub, Nat.zero_add, List.replicate, List.cons_append, List.nil_append, List.set_cons_zero, List.set_cons_succ, Nat.reduceLeDiff, Bool.not_true, Bool.not_false, if_true, if_false, ↓reduceIte, G.oAddI, G.oSubI, G.oLeI, G.oGtI, G.oGeI, G.oIsB, G.oIsntB, G.oIsN, G.oIsntN, G.oLenT, G.oLenR, G.oLenS, oIsi, oIsi1, iNon, iBl, iInt, iStr, iTup, iRol, G.tSub, G.tSub1, G.tSub2, G.tSub3, G.oInt, G.oAbs, G.oMax2, G.oPow30, G.oPow18, G.oPow9, G.oEqI, G.oNeI, G.oLtI, isNon, Bool.true_and, Bool.and_true, Bool.false_and, Bool.and_false, Bool.true_or, Bool.false_or, Bool.or_true, Bool.or_false, Bool.not_not, Bool.false_eq_true, G.sT, G.sR, G.sS, Int.cast_ofNat_Int, decide_true, decide_false, Int.reduceEq, Int.reduceLT, Int.reduceLE, Int.reduceAdd, Int.reduceSub, Int.reduceMul, Int.reducePow, Int.reduceNeg, Int.reduceNe, $xs,*] at $h:ident)
/-! the program's steps on lengths -/
theorem kd_tupv {M : Mem} {xs : List D} : Kd M (.tup xs) := rfl
theorem fine_encL {M : Mem} {l : PQ} (h : l.length ≤ 1000000) : Fine M (encL l) := by
  refine ⟨rfl, fun xs e => ?_, fun xs d e hd => ?_, fun xs ys d e hy hd => ?_, fun xs ys e hy => ?_⟩
  · cases e
    rw [List.length_map]
    exact h
  · cases e
    obtain ⟨p, _, rfl⟩ := List.mem_map.mp hd
    exact rfl
  · cases e
    obtain ⟨p, _, e2⟩ := List.mem_map.mp hy
    cases e2
    rcases List.mem_cons.mp hd with e | e
    · rw [e]; exact rfl
    · rw [List.mem_singleton.mp e]; exact rfl
  · cases e
    obtain ⟨p, _, e2⟩ := List.mem_map.mp hy
    cases e2
    exact (by simp : [D.int p.1, D.int p.2].length ≤ 1000000)
theorem nr1 {l : PQ} : noRefs [encL l] = true := by
  show (noRef (encL l) && true) = true
  rw [noRef_encL]
  rfl
theorem nr2 {l m : PQ} : noRefs [encL l, encL m] = true := by
  show (noRef (encL l) && (noRef (encL m) && true)) = true
  rw [noRef_encL, noRef_encL]
  rfl
theorem nr2i {l : PQ} {i : Int} : noRefs [encL l, .int i] = true := by
  show (noRef (encL l) && (noRef (.int i) && true)) = true
  rw [noRef_encL]
  rfl
theorem c_is_length_value {M : Mem} {l : PQ} (h : l.length ≤ 1000000) : callF m_is_length_value [encL l] M = .ok (.bl (lenV (encL l))) M := by
  obtain ⟨X, e⟩ := f_is_length_value (M := []) (fine_encL h)
  exact call_pure nr1 rfl e
theorem c_is_length {M : Mem} {v : D} (h : Fine M v) : ∃ X, callF m_is_length [v] M = .ok (.bl (lenV v)) (M ++ X) := by
  cases e : noRefs [v] with
  | true =>
    have h0 : Fine [] v := by
      have kall : ∀ d, noRef d = true → Kd M d → Kd [] d := by
        intro d hd hk
        cases d <;> first | exact hk | rfl | cases hd
      have e1 : noRef v = true := by
        simpa [noRefs] using e
      have sub : ∀ (xs : List D), noRefs xs = true → ∀ d ∈ xs, noRef d = true := by
        intro xs
        induction xs with
        | nil => intro _ d hd; cases hd
        | cons x xs ih =>
          intro hx d hd
          rw [noRefs, Bool.and_eq_true] at hx
          rcases List.mem_cons.mp hd with z | z
          · rw [z]; exact hx.1
          · exact ih hx.2 d z
      refine ⟨kall v e1 h.kd, h.len, fun xs d ev hd => ?_, fun xs ys d ev hy hd => ?_, h.few⟩
      · subst ev
        exact kall d (sub xs e1 d hd) (h.it xs d rfl hd)
      · subst ev
        exact kall d (sub ys (sub xs e1 _ hy) d hd) (h.part xs ys d rfl hy hd)
    obtain ⟨X, e2⟩ := f_is_length_value h0
    refine ⟨[], ?_⟩
    rw [List.append_nil]
    refine call_pure (M' := []) e rfl ?_
    simp! [m_is_length, b_is_length, call_pure (M := []) e rfl e2]
  | false =>
    obtain ⟨X, e2⟩ := f_is_length_value h
    refine ⟨X, ?_⟩
    rw [call_ref e]
    simp! [m_is_length, b_is_length, (call_ref (F := m_is_length_value) (M := M) e).trans e2]
theorem c_want_length {M : Mem} {l : PQ} (h : l.length ≤ 1000000) (hv : lenV (encL l) = true) : callF m_want_length [encL l] M = .ok .non M := by
  refine call_pure (M' := []) nr1 rfl ?_
  simp! [m_want_length, b_want_length, c_is_length_value h, hv]
def sumBy (a b : PQ) : PQ := match b with
  | [] => a
  | (p, m) :: r => (a.filter fun q => decide (p < q.1)) ++ (p, ((a.filter fun q => decide (q.1 = p)).map (·.2)).sum + m) :: r
theorem filter_encP (f : Int × Int → Bool) (g : D → Bool) (h : ∀ p, g (encP p) = f p) : ∀ a : PQ, (a.map encP).filter g = (a.filter f).map encP
  | [] => rfl
  | p :: a => by
    rw [List.map_cons, List.filter_cons, List.filter_cons, h, filter_encP f g h a]
    cases f p <;> rfl
theorem mem_encP {a : PQ} {d : D} (h : d ∈ a.map encP) : ∃ p m : Int, d = .tup [.int p, .int m] := by
  obtain ⟨q, _, rfl⟩ := List.mem_map.mp h
  exact ⟨_, _, rfl⟩
def sndI : D → Int
  | .tup (_ :: .int i :: _) => i
  | _ => 0
theorem tup_one_le : [D.non].length ≤ 16777216 := by decide
theorem c_sum_by {M : Mem} {a b : PQ} (ha : a.length ≤ 1000000) (hb : b.length ≤ 1000000) : callF m_sum_by [encL a, encL b] M = .ok (encL (sumBy a b)) M := by
  cases b with
  | nil =>
    refine call_pure (M' := []) nr2 (noRef_encL _) ?_
    simp! [m_sum_by, b_sum_by, eq_encL0, sumBy]
  | cons q r =>
    obtain ⟨p, m⟩ := q
    have hla : (a.map encP).length ≤ 16777216 := by rw [List.length_map]; omega
    have hlb : (a.map encP).length < big := Nat.lt_of_le_of_lt hla (by decide)
    refine call_pure (M' := [.lst ((a.filter fun q => decide (p < q.1)).map encP), .lst ((a.filter fun q => decide (q.1 = p)).map fun q => .int q.2)]) nr2 (noRef_encL _) ?_
    have hne : ¬ ((p, m) :: r = []) := by simp
    have hix : ixM (encL ((p, m) :: r)) (.int 0) [] = some (.tup [.int p, .int m], []) := oIxT at0
    have hsrc : ∀ M, srcOf M (encL a) = some (srcS (a.map encP)) := fun _ => rfl
    have hsl : ∀ M, slM (encL ((p, m) :: r)) (some 1) none M = some (.tup (r.map encP), M) := fun M => by
      show some (D.tup (cutD (((p, m) :: r).map encP) (some ((1 : Nat) : Int)) none), M) = _
      rw [cut_from]
      rfl
    have l1 : ((a.filter fun q => decide (p < q.1)).map encP).length ≤ 1000000 := by
      rw [List.length_map]
      exact Nat.le_trans (List.length_filter_le _ _) ha
    have l2 : ((a.filter fun q => decide (q.1 = p)).map fun q => D.int q.2).length ≤ 16777216 := by
      rw [List.length_map]
      exact Nat.le_trans (List.length_filter_le _ _) (by omega)
    have lr : r.length ≤ 1000000 := by
      rw [List.length_cons] at hb
      omega
    simp! [m_sum_by, b_sum_by, eq_encL0, hne, hix, hsrc]
    rw [lc_pure (its := a.map encP) (fun d => decide (p < fstI d)) (fun d => d) hlb (fun _ => rfl) (fun d hd => by
      obtain ⟨x, y, rfl⟩ := mem_encP hd
      refine ⟨_, rfl, ?_, fun _ => ?_⟩
      · simp! [oIxT at0, fstI]
        rfl
      · simp! [])]
    rw [List.map_id', filter_encP (fun q => decide (p < q.1)) _ (fun _ => rfl)]
    simp! [aLc2 (Nat.le_trans l1 (by decide)), oTup (M := [Ob.lst ((a.filter fun q => decide (p < q.1)).map encP)]) (n := 0) rfl, hsrc]
    rw [lc_pure (its := a.map encP) (fun d => decide (fstI d = p)) (fun d => .int (sndI d)) hlb (fun _ => rfl) (fun d hd => by
      obtain ⟨x, y, rfl⟩ := mem_encP hd
      refine ⟨_, rfl, ?_, fun _ => ?_⟩
      · simp! [oIxT at0, fstI]
        rfl
      · simp! [oIxT at1, sndI])]
    rw [filter_encP (fun q => decide (q.1 = p)) _ (fun _ => rfl), List.map_map, show ((fun d => D.int (sndI d)) ∘ encP) = fun q => D.int q.2 from rfl]
    have hs : sumN [.ref 1] [Ob.lst ((a.filter fun q => decide (p < q.1)).map encP), Ob.lst ((a.filter fun q => decide (q.1 = p)).map fun q => .int q.2)] =
        some (.int ((a.filter fun q => decide (q.1 = p)).map (·.2)).sum, [Ob.lst ((a.filter fun q => decide (p < q.1)).map encP), Ob.lst ((a.filter fun q => decide (q.1 = p)).map fun q => .int q.2)]) := oSum (n := 1) rfl (ints_map _ _)
    have k1 : ((a.filter fun q => decide (p < q.1)).map encP).length + ([D.tup [D.int p, D.int (((a.filter fun q => decide (q.1 = p)).map (·.2)).sum + m)]] : List D).length ≤ 16777216 := by
      simp only [List.length_cons, List.length_nil]
      omega
    have k2 : (((a.filter fun q => decide (p < q.1)).map encP) ++ ([D.tup [D.int p, D.int (((a.filter fun q => decide (q.1 = p)).map (·.2)).sum + m)]] : List D)).length + (r.map encP).length ≤ 16777216 := by
      rw [List.length_append, List.length_map (f := encP) (as := r)]
      simp only [List.length_cons, List.length_nil]
      omega
    simp! [aLc2 l2, hs, hsl, oAddT k1, oAddT k2]
    show R.ok (D.tup _) _ = R.ok (D.tup _) _
    simp only [sumBy, List.map_append, List.map_cons, List.append_assoc, List.cons_append, List.nil_append]
    rfl
def timesBy (a : PQ) (m : Int) : PQ := match a with
  | [] => []
  | (p, k) :: r => if m = 0 then [] else (p, k * m) :: r
def foreverBy (a : PQ) : PQ := match a with
  | [] => []
  | (p, _) :: _ => [(p + 1, 1)]
theorem c_times_by {M : Mem} {a : PQ} {m : Int} (ha : a.length ≤ 1000000) (h2 : ∀ q ∈ a, q.2.natAbs < 18446744073709551616 * 18446744073709551616) (hm : m.natAbs < 18446744073709551616) : callF m_times_by [encL a, .int m] M = .ok (encL (timesBy a m)) M := by
  refine call_pure (M' := []) nr2i (noRef_encL _) ?_
  cases a with
  | nil =>
    cases hz : decide (m = 0) with
    | true =>
      simp! [m_times_by, b_times_by, eq_encL0, hz, timesBy]
      rfl
    | false =>
      simp! [m_times_by, b_times_by, eq_encL0, hz, timesBy]
      rfl
  | cons q r =>
    obtain ⟨p, k⟩ := q
    have hne : ¬ ((p, k) :: r = []) := by simp
    have hix : ixM (encL ((p, k) :: r)) (.int 0) [] = some (.tup [.int p, .int k], []) := oIxT at0
    have hsl : slM (encL ((p, k) :: r)) (some 1) none [] = some (.tup (r.map encP), []) := by
      show some (D.tup (cutD (((p, k) :: r).map encP) (some ((1 : Nat) : Int)) none), []) = _
      rw [cut_from]
      rfl
    cases hz : decide (m = 0) with
    | true =>
      simp! [m_times_by, b_times_by, eq_encL0, hz, hne, timesBy, of_decide_eq_true hz]
      rfl
    | false =>
      have hk : mulOk k m = true := by
        have q1 := h2 (p, k) List.mem_cons_self
        have a1 : k.natAbs.log2 < 128 := by
          by_cases h0 : k.natAbs = 0
          · rw [h0]; decide
          · exact (Nat.log2_lt h0).mpr q1
        have a2 := log2_lt64 hm
        exact decide_eq_true (by omega)
      have lr : ([D.tup [D.int p, D.int (k * m)]] : List D).length + (r.map encP).length ≤ 16777216 := by
        rw [List.length_map]
        simp only [List.length_cons, List.length_nil] at *
        omega
      simp! [m_times_by, b_times_by, eq_encL0, hz, hne, hix, hsl, oIxT at0, oIxT at1, oMul hk, oAddT lr, timesBy, of_decide_eq_false hz]
      rfl
theorem c_forever_by {M : Mem} {a : PQ} : callF m_forever_by [encL a] M = .ok (encL (foreverBy a)) M := by
  refine call_pure (M' := []) nr1 (noRef_encL _) ?_
  cases a with
  | nil =>
    simp! [m_forever_by, b_forever_by, eq_encL0, foreverBy]
    rfl
  | cons q r =>
    obtain ⟨p, k⟩ := q
    have hne : ¬ ((p, k) :: r = []) := by simp
    have hix : ixM (encL ((p, k) :: r)) (.int 0) [] = some (.tup [.int p, .int k], []) := oIxT at0
    simp! [m_forever_by, b_forever_by, eq_encL0, hne, hix, oIxT at0, foreverBy]
    rfl
theorem c_bounded_length {M : Mem} {a : PQ} (ha : a.length ≤ 1000000) (h2 : ∀ q ∈ a, q.2 ≤ 1000000000000000000000000000000) : callF m_bounded_length [encL a] M = .ok (encL a) M := by
  have hl : (a.map encP).length ≤ 16777216 := by rw [List.length_map]; omega
  have hsrc : ∀ M, srcOf M (encL a) = some (srcS (a.map encP)) := fun _ => rfl
  refine call_pure (M' := [.lst ((a.map encP).map fun _ => .bl false)]) nr1 (noRef_encL _) ?_
  simp! [m_bounded_length, b_bounded_length, hsrc]
  rw [lc_map (its := a.map encP) (fun _ => .bl false) (Nat.lt_of_le_of_lt hl (by decide)) (fun _ => rfl) (fun d hd => by
    obtain ⟨q, hq, rfl⟩ := List.mem_map.mp hd
    refine ⟨_, rfl, rfl, ?_⟩
    have z : decide ((1000000000000000000000000000000 : Int) < q.2) = false := decide_eq_false (by have := h2 q hq; omega)
    simp! [c_MOST_MANY, z])]
  have hany : (((a.map encP).map fun _ => false).any id) = false := by simp
  simp! [aLc2 (show ((a.map encP).map fun _ => D.bl false).length ≤ 16777216 by rw [List.length_map]; exact hl), oAny (n := 0) (M := [Ob.lst ((a.map encP).map fun _ => D.bl false)]) rfl (bols_map (fun _ => false) _), hany]
theorem sumBy_len {a b : PQ} : (sumBy a b).length ≤ a.length + b.length := by
  cases b with
  | nil => simp [sumBy]
  | cons q r =>
    obtain ⟨p, m⟩ := q
    have := List.length_filter_le (fun q : Int × Int => decide (p < q.1)) a
    show (_ ++ _ :: _).length ≤ _
    rw [List.length_append, List.length_cons, List.length_cons]
    omega
theorem c_sum_of {M : Mem} {a b : PQ} (ha : a.length ≤ 1000) (hb : b.length ≤ 1000) (va : lenV (encL a) = true) (vb : lenV (encL b) = true) (h2 : ∀ q ∈ sumBy a b, q.2 ≤ 1000000000000000000000000000000) :
    callF m_sum_of [encL a, encL b] M = .ok (encL (sumBy a b)) M := by
  refine call_pure (M' := []) nr2 (noRef_encL _) ?_
  have := sumBy_len (a := a) (b := b)
  simp! [m_sum_of, b_sum_of, c_want_length (Nat.le_trans ha (by decide)) va, c_is_length_value (Nat.le_trans hb (by decide)), vb, c_sum_by (Nat.le_trans ha (by decide)) (Nat.le_trans hb (by decide)), c_bounded_length (show (sumBy a b).length ≤ 1000000 by omega) h2]
theorem c_is_less {M : Mem} {a b : PQ} (ha : a.length ≤ 1000) (hb : b.length ≤ 1000) (va : lenV (encL a) = true) (vb : lenV (encL b) = true) : callF m_is_less [encL a, encL b] M = .ok (.bl (lexL a b)) M := by
  refine call_pure (M' := []) nr2 rfl ?_
  simp! [m_is_less, b_is_less, c_want_length (Nat.le_trans ha (by decide)) va, c_is_length_value (Nat.le_trans hb (by decide)), vb, lt_encL]
theorem timesBy_len {a : PQ} {m : Int} : (timesBy a m).length ≤ a.length := by
  unfold timesBy
  split
  · simp
  · split <;> simp
theorem c_times {M : Mem} {a : PQ} {m : Int} (ha : a.length ≤ 1000) (va : lenV (encL a) = true) (h0 : 0 ≤ m) (h1 : m < 1000) (hq : ∀ q ∈ a, q.2.natAbs < 18446744073709551616 * 18446744073709551616) (h2 : ∀ q ∈ timesBy a m, q.2 ≤ 1000000000000000000000000000000) :
    callF m_times [encL a, .int m] M = .ok (encL (timesBy a m)) M := by
  refine call_pure (M' := []) nr2i (noRef_encL _) ?_
  have hl := timesBy_len (a := a) (m := m)
  have hw : inI 0 1000000000000000000000000000000 (.int m) = true := by
    simp only [inI, Bool.and_eq_true, decide_eq_true_eq]
    omega
  simp! [m_times, b_times, c_want_length (Nat.le_trans ha (by decide)) va, c_MOST_MANY, c_is_within (show Kd [] (.int m) from rfl), hw, c_times_by (Nat.le_trans ha (by decide)) hq (show m.natAbs < 18446744073709551616 by omega), c_bounded_length (show (timesBy a m).length ≤ 1000000 by omega) h2]
theorem c_forever {M : Mem} {a : PQ} (ha : a.length ≤ 1000) (va : lenV (encL a) = true) (h2 : ∀ q ∈ a, q.1 < 15) : callF m_forever [encL a] M = .ok (encL (foreverBy a)) M := by
  refine call_pure (M' := []) nr1 (noRef_encL _) ?_
  cases a with
  | nil => simp! [m_forever, b_forever, c_want_length (Nat.le_trans ha (by decide)) va, eq_encL0, c_forever_by]
  | cons q r =>
    obtain ⟨p, k⟩ := q
    have hne : ¬ ((p, k) :: r = []) := by simp
    have hix : ixM (encL ((p, k) :: r)) (.int 0) [] = some (.tup [.int p, .int k], []) := oIxT at0
    have hp : decide (p = 15) = false := decide_eq_false (by have := h2 (p, k) List.mem_cons_self; simp only at this; omega)
    simp! [m_forever, b_forever, c_want_length (Nat.le_trans ha (by decide)) va, eq_encL0, hne, hix, oIxT at0, c_MOST_POWER, hp, c_forever_by]
end K56
set_option maxRecDepth 100000
set_option maxHeartbeats 4000000
namespace K56
open PySem G
local macro_rules
  | `(tactic| simp! [$xs,*]) => `(tactic| simp only [v0, vS, aC, aOp, aOp1, aOp2, aOf, aUn, aUn1, aNil, aCons, aCons1, aCons2, aCB, aCB1, aTup, aTup1, aLst, aLst1, aTru, aTru1, aTru2, aTst, aTst1, aAndT, aAndT1, aAndT2, aOrT, aOrT1, aOrT2, aNotT, aNotT1, aAnd, aAnd1, aAnd2, aAnd3, aOr, aOr1, aOr2, aOr3, aNot, aNot1, aNot2, aIf, aIf1, aIf2, aCh, aCh0, aCh1, aCh2, aCh3, aCh4, aCall, aCall1, aCallK, aCallK1, aCallK2, aNP, aPart, aPart1, aSl, aSl1, aSl2, aSl3, aMt, aMt1, aMt2, aMt3, aPr0, aPr, aPr1, aPr2, aPr3, aDisp, aDisp1, aEmp, aSeqI, aSeqI1, aSeqI2, aRng1, aEn, aZip, aRng2, aRngD, afI, aLc, aLc1, aLc2, aW0, aW1, aSkip, aSeq, aSeq1, aSeq2, aSeq3, aSeq4, aExpr, aExpr1, aRet, aRet1, aRetN, aBrk, aCnt, aIfS, aIfS1, aIfS2, aSet, aSet1, aPar, aPar1, aPar3, aPar31, aAsg, aAsg1, aAsg2, aFor, aFor1, aRun, aRun1, aRun2, tName, tUnp, tsNil, tsCons, tsCons1, tr_bl, tr_non, tr_int, tr_tup, tr_str,
      List.map_cons, List.map_nil, List.length_cons, List.length_nil, Nat.reduceAdd, Nat.reduceSub, Nat.zero_add, List.replicate, List.cons_append, List.nil_append, List.set_cons_zero, List.set_cons_succ, Nat.reduceLeDiff, Bool.not_true, Bool.not_false, if_true, if_false, ↓reduceIte, G.oAddI, G.oSubI, G.oLeI, G.oGtI, G.oGeI, G.oIsB, G.oIsntB, G.oIsN, G.oIsntN, G.oLenT, G.oLenR, G.oLenS, oIsi, oIsi1, iNon, iBl, iInt, iStr, iTup, iRol, G.tSub, G.tSub1, G.tSub2, G.tSub3, G.oInt, G.oAbs, G.oMax2, G.oPow30, G.oPow18, G.oPow9, G.oEqI, G.oNeI, G.oLtI, isNon, Bool.true_and, Bool.and_true, Bool.false_and, Bool.and_false, Bool.true_or, Bool.false_or, Bool.or_true, Bool.or_false, Bool.not_not, Bool.false_eq_true, G.sT, G.sR, G.sS, Int.cast_ofNat_Int, List.append_assoc, List.length_append, memAt0, memAt, List.getElem?_cons_zero, List.getElem?_cons_succ, xLen, xLen1, xLen2, xLis1, xLst, xSeq, xSeqT, xSeqR, xTup, xTup1, xLis, xLis2, xAll, xAny, xAll0, xAll1, xSum, xSum0, xSum1, xEn, xEn1, xEnR, xSrc, xSrc1, xIx, xIxA, xIxS, xIxI, xIx1, xIxT, xIxR, at0, at1, at2, xAdd, xMul, xRev, xRev1, xCut, xCut1, xCutT, xCutS, xIsi, xIsi1, xIsi2, xTyL, xTyL1, xApp, xExt, G.oRevT, setAt0, setAt, eW_on_on, eW_on_fr, eW_on_ro, eW_on_mi, eW_on_le, eW_fr_on, eW_fr_fr, eW_fr_ro, eW_fr_mi, eW_fr_le, eW_ro_on, eW_ro_fr, eW_ro_ro, eW_ro_mi, eW_ro_le, eW_mi_on, eW_mi_fr, eW_mi_ro, eW_mi_mi, eW_mi_le, eW_le_on, eW_le_fr, eW_le_ro, eW_le_mi, eW_le_le, iW_on_on, iW_on_onn, iW_on_ro, iW_on_ron, iW_fr_on, iW_fr_onn, iW_fr_ro, iW_fr_ron, iW_ro_on, iW_ro_onn, iW_ro_ro, iW_ro_ron, iW_mi_on, iW_mi_onn, iW_mi_ro, iW_mi_ron, iW_le_on, iW_le_onn, iW_le_ro, iW_le_ron, decide_true, decide_false, Int.reduceEq, Int.reduceLT, Int.reduceLE, Int.reduceAdd, Int.reduceSub, Int.reduceMul, Int.reducePow, Int.reduceNeg, Int.reduceNe, $xs,*])
  | `(tactic| simp! [$xs,*] at $h:ident) => `(tactic| simp only [v0, vS, aC, aOp, aOp1, aOp2, aOf, aUn, aUn1, aNil, aCons, aCons1, aCons2, aCB, aCB1, aTup, aTup1, aLst, aLst1, aTru, aTru1, aTru2, aTst, aTst1, aAndT, aAndT1, aAndT2, aOrT, aOrT1, aOrT2, aNotT, aNotT1, aAnd, aAnd1, aAnd2, aAnd3, aOr, aOr1, aOr2, aOr3, aNot, aNot1, aNot2, aIf, aIf1, aIf2, aCh, aCh0, aCh1, aCh2, aCh3, aCh4, aCall, aCall1, aCallK, aCallK1, aCallK2, aNP, aPart, aPart1, aSl, aSl1, aSl2, aSl3, aMt, aMt1, aMt2, aMt3, aPr0, aPr, aPr1, aPr2, aPr3, aDisp, aDisp1, aEmp, aSeqI, aSeqI1, aSeqI2, aRng1, aEn, aZip, aRng2, aRngD, afI, aLc, aLc1, aLc2, aW0, aW1, aSkip, aSeq, aSeq1, aSeq2, aSeq3, aSeq4, aExpr, aExpr1, aRet, aRet1, aRetN, aBrk, aCnt, aIfS, aIfS1, aIfS2, aSet, aSet1, aPar, aPar1, aPar3, aPar31, aAsg, aAsg1, aAsg2, aFor, aFor1, aRun, aRun1, aRun2, tName, tUnp, tsNil, tsCons, tsCons1, tr_bl, tr_non, tr_int, tr_tup, tr_str,
      List.map_cons, List.map_nil, List.length_cons, List.length_nil, Nat.reduceAdd, Nat.reduceSub, Nat.zero_add, List.replicate, List.cons_append, List.nil_append, List.set_cons_zero, List.set_cons_succ, Nat.reduceLeDiff, Bool.not_true, Bool.not_false, if_true, if_false, ↓reduceIte, G.oAddI, G.oSubI, G.oLeI, G.oGtI, G.oGeI, G.oIsB, G.oIsntB, G.oIsN, G.oIsntN, G.oLenT, G.oLenR, G.oLenS, oIsi, oIsi1, iNon, iBl, iInt, iStr, iTup, iRol, G.tSub, G.tSub1, G.tSub2, G.tSub3, G.oInt, G.oAbs, G.oMax2, G.oPow30, G.oPow18, G.oPow9, G.oEqI, G.oNeI, G.oLtI, isNon, Bool.true_and, Bool.and_true, Bool.false_and, Bool.and_false, Bool.true_or, Bool.false_or, Bool.or_true, Bool.or_false, Bool.not_not, Bool.false_eq_true, G.sT, G.sR, G.sS, Int.cast_ofNat_Int, List.append_assoc, List.length_append, memAt0, memAt, List.getElem?_cons_zero, List.getElem?_cons_succ, xLen, xLen1, xLen2, xLis1, xLst, xSeq, xSeqT, xSeqR, xTup, xTup1, xLis, xLis2, xAll, xAny, xAll0, xAll1, xSum, xSum0, xSum1, xEn, xEn1, xEnR, xSrc, xSrc1, xIx, xIxA, xIxS, xIxI, xIx1, xIxT, xIxR, at0, at1, at2, xAdd, xMul, xRev, xRev1, xCut, xCut1, xCutT, xCutS, xIsi, xIsi1, xIsi2, xTyL, xTyL1, xApp, xExt, G.oRevT, setAt0, setAt, eW_on_on, eW_on_fr, eW_on_ro, eW_on_mi, eW_on_le, eW_fr_on, eW_fr_fr, eW_fr_ro, eW_fr_mi, eW_fr_le, eW_ro_on, eW_ro_fr, eW_ro_ro, eW_ro_mi, eW_ro_le, eW_mi_on, eW_mi_fr, eW_mi_ro, eW_mi_mi, eW_mi_le, eW_le_on, eW_le_fr, eW_le_ro, eW_le_mi, eW_le_le, iW_on_on, iW_on_onn, iW_on_ro, iW_on_ron, iW_fr_on, iW_fr_onn, iW_fr_ro, iW_fr_ron, iW_ro_on, iW_ro_onn, iW_ro_ro, iW_ro_ron, iW_mi_on, iW_mi_onn, iW_mi_ro, iW_mi_ron, iW_le_on, iW_le_onn, iW_le_ro, iW_le_ron, decide_true, decide_false, Int.reduceEq, Int.reduceLT, Int.reduceLE, Int.reduceAdd, Int.reduceSub, Int.reduceMul, Int.reducePow, Int.reduceNeg, Int.reduceNe, $xs,*] at $h:ident)
/-! the law's own rows -/
theorem f_law_told_length {M : Mem} {n : Nat} {r : List Int} (h : M[n]? = row r) (hl : r.length ≤ 1000) : ∃ X, m_law_told_length [.ref n] M = .ok (encL (told r)) (M ++ X) := by
  have he : (enumD (r.map D.int)).length = r.length := by rw [enumD_len, List.length_map]
  refine ⟨[.lst ((enumD (r.map D.int)).filter posP), .lst ((enumD (r.map D.int)).filter posP).reverse], ?_⟩
  simp! [m_law_told_length, b_law_told_length, h]
  rw [lc_pure (its := enumD (r.map D.int)) posP (fun d => d) (by rw [he]; exact Nat.lt_of_le_of_lt hl (by decide)) (srcE_is (srcM_is h)) (fun d hd => by
    obtain ⟨k, hk, rfl⟩ := mem_enum hd
    refine ⟨_, rfl, ?_, fun _ => ?_⟩
    · simp! [posP]
    · simp! [])]
  rw [List.map_id']
  have l1 : ((enumD (r.map D.int)).filter posP).length ≤ 16777216 := Nat.le_trans (List.length_filter_le _ _) (by omega)
  simp! [aLc2 l1]
  rw [told_enum]
  rfl
/-! _law_plus -/
def keptR (a b : List Int) : List Int := (List.range a.length).map (fun (k : Nat) => if ((b.length : Int) - 1) ≤ (k : Int) then a.getD k 0 else 0) ++ List.replicate (b.length - a.length) 0
def plusR (a b : List Int) : List Int := if b = [] then a else (List.range (keptR a b).length).map fun (k : Nat) => if ((b.length : Int) - 1) ≤ (k : Int) then (keptR a b).getD k 0 + (if (k : Int) ≤ (b.length : Int) - 1 then b.getD k 0 else 0) else b.getD k 0
theorem keptR_len {a b : List Int} : (keptR a b).length = max a.length b.length := by
  unfold keptR
  rw [List.length_append, List.length_map, List.length_range, List.length_replicate]
  omega
theorem f_law_plus {M : Mem} {i j : Nat} {a b : List Int} (h1 : M[i]? = row a) (h2 : M[j]? = row b) (la : a.length ≤ 1000) (lb : b.length ≤ 1000) :
    ∃ n X, m_law_plus [.ref i, .ref j] M = .ok (.ref n) (M ++ X) ∧ (M ++ X)[n]? = row (plusR a b) ∧ (n = i ∨ M.length ≤ n) := by
  have hnew : (M ++ [Ob.lst []])[M.length]? = row [] := mem_new
  have he := eq_rows false (M := M ++ [Ob.lst []]) (mem_old h2) hnew
  have g1 : ∀ X : Mem, (M ++ X)[i]? = row a := fun X => mem_old h1
  have g2 : ∀ X : Mem, (M ++ X)[j]? = row b := fun X => mem_old h2
  by_cases hb : b = []
  · subst hb
    refine ⟨i, [.lst []], ?_, ?_, .inl rfl⟩
    · simp! [m_law_plus, b_law_plus, he]
    · rw [mem_old h1]
      rfl
  · have hlen : 0 < b.length := List.length_pos_iff.mpr hb
    have heE : (enumD (a.map D.int)).length = a.length := by rw [enumD_len, List.length_map]
    have hklen := keptR_len (a := a) (b := b)
    have hmax : maxN [.int 0, .int ((b.length : Int) - (a.length : Int))] = maxN [.int 0, .int ((b.length : Int) - (a.length : Int))] := rfl
    have hmx : (if (b.length : Int) - (a.length : Int) > 0 then (b.length : Int) - (a.length : Int) else 0) = ((b.length - a.length : Nat) : Int) := by
      split <;> omega
    have hsum : (List.map D.int (List.map (fun (k : Nat) => if ((b.length : Int) - 1) ≤ (k : Int) then a.getD k 0 else 0) (List.range a.length))) ++ List.replicate (b.length - a.length) (D.int 0) = (keptR a b).map D.int := by
      unfold keptR
      rw [List.map_append, List.map_replicate]
    refine ⟨M.length + 5, [.lst [], .lst (((List.range a.length).map fun (k : Nat) => if ((b.length : Int) - 1) ≤ (k : Int) then a.getD k 0 else 0).map D.int), .lst [.int 0], .lst (List.replicate (b.length - a.length) (.int 0)), .lst ((keptR a b).map D.int), .lst ((plusR a b).map D.int)], ?_, ?_, .inr (by omega)⟩
    · simp! [m_law_plus, b_law_plus, he, hb, g1, g2, List.length_map]
      rw [lc_map (its := enumD (a.map D.int)) (fun d => match d with | .tup [.int k, .int m] => .int (if ((b.length : Int) - 1) ≤ k then m else 0) | _ => .non) (by rw [heE]; exact Nat.lt_of_le_of_lt la (by decide)) (srcE_is (srcM_is (g1 _))) (fun d hd => by
        obtain ⟨k, hk, rfl⟩ := mem_enum hd
        refine ⟨_, rfl, rfl, ?_⟩
        by_cases hz : ((b.length : Int) - 1) ≤ (k : Int)
        · simp! [hz]
        · simp! [hz])]
      rw [enum_map (fun k m => if ((b.length : Int) - 1) ≤ (k : Int) then m else 0) _ (fun _ _ => rfl)]
      have l1 : (List.map D.int (List.map (fun (k : Nat) => if ((b.length : Int) - 1) ≤ (k : Int) then a.getD k 0 else 0) (List.range a.length))).length ≤ 16777216 := by
        rw [List.length_map, List.length_map, List.length_range]
        omega
      have l2 : (List.map D.int (List.map (fun (k : Nat) => if ((b.length : Int) - 1) ≤ (k : Int) then a.getD k 0 else 0) (List.range a.length))).length + (List.replicate (b.length - a.length) (D.int 0)).length ≤ 16777216 := by
        rw [List.length_map, List.length_map, List.length_range, List.length_replicate]
        omega
      simp! [aLc2 l1, g1, g2, List.length_map, hmx, xMul1 (show b.length - a.length ≤ 1000000 by omega), xAdd1 l2, hsum, aRng1n (show (keptR a b).length ≤ 1000000 by omega)]
      have n5 : ∀ Y : Mem, (M ++ ([.lst [], .lst (((List.range a.length).map fun (k : Nat) => if ((b.length : Int) - 1) ≤ (k : Int) then a.getD k 0 else 0).map D.int), .lst [.int 0], .lst (List.replicate (b.length - a.length) (.int 0)), .lst ((keptR a b).map D.int)] : Mem))[M.length + 4]? = row (keptR a b) := fun _ => memAt
      rw [lc_map (its := rngD 0 (keptR a b).length 1) (fun d => match d with | .int k => .int (if ((b.length : Int) - 1) ≤ k then (keptR a b).getD k.toNat 0 + (if k ≤ (b.length : Int) - 1 then b.getD k.toNat 0 else 0) else b.getD k.toNat 0) | _ => .non) (by rw [rngD_len]; exact big_gt (by omega)) srcR_is (fun d hd => by
        obtain ⟨k, hk, rfl⟩ := mem_rng hd
        refine ⟨_, rfl, rfl, ?_⟩
        have hkx := row_at (n5 []) hk
        by_cases hz : ((b.length : Int) - 1) ≤ (k : Int)
        · by_cases hy : (k : Int) ≤ (b.length : Int) - 1
          · have hkb := row_at (g2 ([.lst [], .lst (((List.range a.length).map fun (k : Nat) => if ((b.length : Int) - 1) ≤ (k : Int) then a.getD k 0 else 0).map D.int), .lst [.int 0], .lst (List.replicate (b.length - a.length) (.int 0)), .lst ((keptR a b).map D.int)])) (show k < b.length by omega)
            simp! [hz, hy, ↓ hkx, ↓ hkb]
            rfl
          · simp! [hz, hy, ↓ hkx]
            rfl
        · have hkb := row_at (g2 ([.lst [], .lst (((List.range a.length).map fun (k : Nat) => if ((b.length : Int) - 1) ≤ (k : Int) then a.getD k 0 else 0).map D.int), .lst [.int 0], .lst (List.replicate (b.length - a.length) (.int 0)), .lst ((keptR a b).map D.int)])) (show k < b.length by omega)
          simp! [hz, ↓ hkb]
          rfl)]
      rw [rng_map (fun (k : Nat) => if ((b.length : Int) - 1) ≤ (k : Int) then (keptR a b).getD k 0 + (if (k : Int) ≤ (b.length : Int) - 1 then b.getD k 0 else 0) else b.getD k 0) _ (fun k => by simp only [Int.toNat_natCast])]
      have e6 : (List.range (keptR a b).length).map (fun (k : Nat) => if ((b.length : Int) - 1) ≤ (k : Int) then (keptR a b).getD k 0 + (if (k : Int) ≤ (b.length : Int) - 1 then b.getD k 0 else 0) else b.getD k 0) = plusR a b := by
        unfold plusR
        rw [if_neg hb]
      have l6 : (List.map D.int (plusR a b)).length ≤ 16777216 := by
        rw [← e6, List.length_map, List.length_map, List.length_range]
        omega
      rw [e6]
      simp! [aLc2 l6]
    · rw [memAt]
      rfl
theorem plusR_len {a b : List Int} : (plusR a b).length ≤ max a.length b.length := by
  unfold plusR
  split
  · omega
  · rw [List.length_map, List.length_range, keptR_len]
    exact Nat.le_refl _
/-! _law_led: the zeros behind fall -/
def led : List Int → List Int
  | [] => []
  | x :: r => if led r = [] ∧ x = 0 then [] else x :: led r
theorem led_snoc (r : List Int) (x : Int) : led (r ++ [x]) = if x = 0 then led r else r ++ [x] := by
  induction r with
  | nil =>
    show (if led [] = [] ∧ x = 0 then [] else [x]) = _
    by_cases h : x = 0
    · rw [if_pos ⟨rfl, h⟩, if_pos h]
      rfl
    · rw [if_neg (fun z => h z.2), if_neg h]
      rfl
  | cons y r ih =>
    show (if led (r ++ [x]) = [] ∧ y = 0 then [] else y :: led (r ++ [x])) = _
    rw [ih]
    by_cases h : x = 0
    · rw [if_pos h, if_pos h]
      rfl
    · rw [if_neg h, if_neg h, if_neg (fun z => by simp at z)]
      rfl
theorem f_law_led {M : Mem} {n : Nat} {r : List Int} (h : M[n]? = row r) (hl : r.length ≤ 1000) : ∃ n' X, m_law_led [.ref n] M = .ok (.ref n') (M ++ X) ∧ (M ++ X)[n']? = row (led r) ∧ (n' = n ∨ M.length ≤ n') := by
  simp! [m_law_led, b_law_led]
  generalize hF : whileG _ _ _ _ _ = F
  have key : ∃ m ρ' M1 M', F = .ok (.nx ρ') M' ∧ (∃ n' X s, ρ' = [some (.ref n')] ∧ M1 = M ++ X ∧ M1[n']? = row s ∧ (n' = n ∨ M.length ≤ n') ∧ led r = led s ∧ s.length = m ∧ m ≤ 1000) ∧
      gAndT (gTst (gOp (eqM true) (gV 0) (gLst gNil))) (gTst (gOp (eqM false) (gOp ixM (gV 0) (gUn negM (gC (.int 1)))) (gC (.int 0)))) ρ' M1 = .ok false M' := by
    rw [← hF]
    refine while_inv (fun m ρ M1 => ∃ n' X s, ρ = [some (.ref n')] ∧ M1 = M ++ X ∧ M1[n']? = row s ∧ (n' = n ∨ M.length ≤ n') ∧ led r = led s ∧ s.length = m ∧ m ≤ 1000) ⟨r.length, Nat.lt_of_le_of_lt hl (by decide), n, [], r, rfl, (List.append_nil _).symm, h, .inl rfl, rfl, rfl, hl⟩ (fun m ρ M1 hP => ?_)
    obtain ⟨n', X, s, rfl, rfl, hs, hn, e1, e2, e3⟩ := hP
    have hs' : ∀ Y : Mem, (M ++ (X ++ Y))[n']? = row s := fun Y => by rw [← List.append_assoc]; exact mem_old hs
    have he := eq_rows true (hs' [.lst []]) (show (M ++ (X ++ [Ob.lst []]))[M.length + X.length]? = row [] by rw [← List.append_assoc, ← List.length_append]; exact mem_new)
    have hlenE : (M ++ X).length = M.length + X.length := List.length_append
    by_cases hz : s = []
    · subst hz
      refine ⟨false, M ++ (X ++ [.lst []]), ?_, fun z => by cases z⟩
      simp! [he]
    · obtain ⟨y, hy⟩ : ∃ y, s.getLast? = some y := by
        cases e : s.getLast? with
        | none => exact absurd (List.getLast?_eq_none_iff.mp e) hz
        | some y => exact ⟨y, rfl⟩
      have hsn : s = s.dropLast ++ [y] := by
        have := List.dropLast_concat_getLast hz
        rw [List.getLast?_eq_getLast hz] at hy
        cases hy
        exact this.symm
      have hat : atD (s.map D.int) (-1) = some (.int y) := at_last (by rw [List.getLast?_map, hy]; rfl)
      refine ⟨decide (y = 0), M ++ (X ++ [.lst []]), ?_, fun z => ?_⟩
      · simp! [he, hz, negM, hs', hat]
      · have y0 : y = 0 := of_decide_eq_true z
        have hnew : (M ++ (X ++ [.lst [], .lst (s.dropLast.map D.int)]))[M.length + X.length + 1]? = row s.dropLast := by
          rw [Nat.add_assoc, memAt, memAt]
          rfl
        refine ⟨[some (.ref (M.length + X.length + 1))], M ++ (X ++ [.lst [], .lst (s.dropLast.map D.int)]), s.length - 1, .inl ?_, by have := List.length_pos_iff.mpr hz; omega, _, _, s.dropLast, rfl, rfl, hnew, .inr (by omega), ?_, by rw [List.length_dropLast], by omega⟩
        · have hdl : cutD (s.map D.int) none (some (-1)) = s.dropLast.map D.int := by rw [cut_neg1, List.map_dropLast]
          simp! [negM, hs', hdl, Nat.add_assoc]
        · rw [e1, hsn, led_snoc, if_pos y0, List.dropLast_concat]
  obtain ⟨m, ρ', M1, M', e1, ⟨n', X, s, rfl, rfl, hs, hn, e2, e3, e4⟩, hc⟩ := key
  have hs' : ∀ Y : Mem, (M ++ (X ++ Y))[n']? = row s := fun Y => by rw [← List.append_assoc]; exact mem_old hs
  have he := eq_rows true (hs' [.lst []]) (show (M ++ (X ++ [Ob.lst []]))[M.length + X.length]? = row [] by rw [← List.append_assoc, ← List.length_append]; exact mem_new)
  have fin : led s = s ∧ M' = M ++ (X ++ [.lst []]) := by
    by_cases hz : s = []
    · subst hz
      refine ⟨rfl, ?_⟩
      simp! [he] at hc
      cases hc
      rfl
    · obtain ⟨y, hy⟩ : ∃ y, s.getLast? = some y := by
        cases e : s.getLast? with
        | none => exact absurd (List.getLast?_eq_none_iff.mp e) hz
        | some y => exact ⟨y, rfl⟩
      have hsn : s = s.dropLast ++ [y] := by
        have := List.dropLast_concat_getLast hz
        rw [List.getLast?_eq_getLast hz] at hy
        cases hy
        exact this.symm
      have hat : atD (s.map D.int) (-1) = some (.int y) := at_last (by rw [List.getLast?_map, hy]; rfl)
      simp! [he, hz, negM, hs', hat] at hc
      cases hd : decide (y = 0) with
      | true => rw [hd] at hc; cases hc
      | false =>
        rw [hd] at hc
        cases hc
        refine ⟨?_, rfl⟩
        rw [hsn, led_snoc, if_neg (of_decide_eq_false hd)]
  refine ⟨n', X ++ [.lst []], ?_, ?_, hn⟩
  · rw [e1]
    simp! [fin.2]
  · rw [e2, fin.1]
    exact hs' _
end K56
set_option maxRecDepth 100000
set_option maxHeartbeats 4000000
namespace K56
open PySem G
local macro_rules
  | `(tactic| simp! [$xs,*]) => `(tactic| simp only [v0, vS, aC, aOp, aOp1, aOp2, aOf, aUn, aUn1, aNil, aCons, aCons1, aCons2, aCB, aCB1, aTup, aTup1, aLst, aLst1, aTru, aTru1, aTru2, aTst, aTst1, aAndT, aAndT1, aAndT2, aOrT, aOrT1, aOrT2, aNotT, aNotT1, aAnd, aAnd1, aAnd2, aAnd3, aOr, aOr1, aOr2, aOr3, aNot, aNot1, aNot2, aIf, aIf1, aIf2, aCh, aCh0, aCh1, aCh2, aCh3, aCh4, aCall, aCall1, aCallK, aCallK1, aCallK2, aNP, aPart, aPart1, aSl, aSl1, aSl2, aSl3, aMt, aMt1, aMt2, aMt3, aPr0, aPr, aPr1, aPr2, aPr3, aDisp, aDisp1, aEmp, aSeqI, aSeqI1, aSeqI2, aRng1, aEn, aZip, aRng2, aRngD, afI, aLc, aLc1, aLc2, aW0, aW1, aSkip, aSeq, aSeq1, aSeq2, aSeq3, aSeq4, aExpr, aExpr1, aRet, aRet1, aRetN, aBrk, aCnt, aIfS, aIfS1, aIfS2, aSet, aSet1, aPar, aPar1, aPar3, aPar31, aAsg, aAsg1, aAsg2, aFor, aFor1, aRun, aRun1, aRun2, tName, tUnp, tsNil, tsCons, tsCons1, tr_bl, tr_non, tr_int, tr_tup, tr_str,
      List.map_cons, List.map_nil, List.length_cons, List.length_nil, Nat.reduceAdd, Nat.reduceSub, Nat.zero_add, List.replicate, List.cons_append, List.nil_append, List.set_cons_zero, List.set_cons_succ, Nat.reduceLeDiff, Bool.not_true, Bool.not_false, if_true, if_false, ↓reduceIte, G.oAddI, G.oSubI, G.oLeI, G.oGtI, G.oGeI, G.oIsB, G.oIsntB, G.oIsN, G.oIsntN, G.oLenT, G.oLenR, G.oLenS, oIsi, oIsi1, iNon, iBl, iInt, iStr, iTup, iRol, G.tSub, G.tSub1, G.tSub2, G.tSub3, G.oInt, G.oAbs, G.oMax2, G.oPow30, G.oPow18, G.oPow9, G.oEqI, G.oNeI, G.oLtI, isNon, Bool.true_and, Bool.and_true, Bool.false_and, Bool.and_false, Bool.true_or, Bool.false_or, Bool.or_true, Bool.or_false, Bool.not_not, Bool.false_eq_true, G.sT, G.sR, G.sS, Int.cast_ofNat_Int, List.append_assoc, List.length_append, memAt0, memAt, List.getElem?_cons_zero, List.getElem?_cons_succ, xLen, xLen1, xLen2, xLis1, xLst, xSeq, xSeqT, xSeqR, xTup, xTup1, xLis, xLis2, xAll, xAny, xAll0, xAll1, xSum, xSum0, xSum1, xEn, xEn1, xEnR, xSrc, xSrc1, xIx, xIxA, xIxS, xIxI, xIx1, xIxT, xIxR, at0, at1, at2, xAdd, xMul, xRev, xRev1, xCut, xCut1, xCutT, xCutS, xIsi, xIsi1, xIsi2, xTyL, xTyL1, xApp, xExt, G.oRevT, setAt0, setAt, eW_on_on, eW_on_fr, eW_on_ro, eW_on_mi, eW_on_le, eW_fr_on, eW_fr_fr, eW_fr_ro, eW_fr_mi, eW_fr_le, eW_ro_on, eW_ro_fr, eW_ro_ro, eW_ro_mi, eW_ro_le, eW_mi_on, eW_mi_fr, eW_mi_ro, eW_mi_mi, eW_mi_le, eW_le_on, eW_le_fr, eW_le_ro, eW_le_mi, eW_le_le, iW_on_on, iW_on_onn, iW_on_ro, iW_on_ron, iW_fr_on, iW_fr_onn, iW_fr_ro, iW_fr_ron, iW_ro_on, iW_ro_onn, iW_ro_ro, iW_ro_ron, iW_mi_on, iW_mi_onn, iW_mi_ro, iW_mi_ron, iW_le_on, iW_le_onn, iW_le_ro, iW_le_ron, decide_true, decide_false, Int.reduceEq, Int.reduceLT, Int.reduceLE, Int.reduceAdd, Int.reduceSub, Int.reduceMul, Int.reducePow, Int.reduceNeg, Int.reduceNe, $xs,*])
  | `(tactic| simp! [$xs,*] at $h:ident) => `(tactic| simp only [v0, vS, aC, aOp, aOp1, aOp2, aOf, aUn, aUn1, aNil, aCons, aCons1, aCons2, aCB, aCB1, aTup, aTup1, aLst, aLst1, aTru, aTru1, aTru2, aTst, aTst1, aAndT, aAndT1, aAndT2, aOrT, aOrT1, aOrT2, aNotT, aNotT1, aAnd, aAnd1, aAnd2, aAnd3, aOr, aOr1, aOr2, aOr3, aNot, aNot1, aNot2, aIf, aIf1, aIf2, aCh, aCh0, aCh1, aCh2, aCh3, aCh4, aCall, aCall1, aCallK, aCallK1, aCallK2, aNP, aPart, aPart1, aSl, aSl1, aSl2, aSl3, aMt, aMt1, aMt2, aMt3, aPr0, aPr, aPr1, aPr2, aPr3, aDisp, aDisp1, aEmp, aSeqI, aSeqI1, aSeqI2, aRng1, aEn, aZip, aRng2, aRngD, afI, aLc, aLc1, aLc2, aW0, aW1, aSkip, aSeq, aSeq1, aSeq2, aSeq3, aSeq4, aExpr, aExpr1, aRet, aRet1, aRetN, aBrk, aCnt, aIfS, aIfS1, aIfS2, aSet, aSet1, aPar, aPar1, aPar3, aPar31, aAsg, aAsg1, aAsg2, aFor, aFor1, aRun, aRun1, aRun2, tName, tUnp, tsNil, tsCons, tsCons1, tr_bl, tr_non, tr_int, tr_tup, tr_str,
      List.map_cons, List.map_nil, List.length_cons, List.length_nil, Nat.reduceAdd, Nat.reduceSub, Nat.zero_add, List.replicate, List.cons_append, List.nil_append, List.set_cons_zero, List.set_cons_succ, Nat.reduceLeDiff, Bool.not_true, Bool.not_false, if_true, if_false, ↓reduceIte, G.oAddI, G.oSubI, G.oLeI, G.oGtI, G.oGeI, G.oIsB, G.oIsntB, G.oIsN, G.oIsntN, G.oLenT, G.oLenR, G.oLenS, oIsi, oIsi1, iNon, iBl, iInt, iStr, iTup, iRol, G.tSub, G.tSub1, G.tSub2, G.tSub3, G.oInt, G.oAbs, G.oMax2, G.oPow30, G.oPow18, G.oPow9, G.oEqI, G.oNeI, G.oLtI, isNon, Bool.true_and, Bool.and_true, Bool.false_and, Bool.and_false, Bool.true_or, Bool.false_or, Bool.or_true, Bool.or_false, Bool.not_not, Bool.false_eq_true, G.sT, G.sR, G.sS, Int.cast_ofNat_Int, List.append_assoc, List.length_append, memAt0, memAt, List.getElem?_cons_zero, List.getElem?_cons_succ, xLen, xLen1, xLen2, xLis1, xLst, xSeq, xSeqT, xSeqR, xTup, xTup1, xLis, xLis2, xAll, xAny, xAll0, xAll1, xSum, xSum0, xSum1, xEn, xEn1, xEnR, xSrc, xSrc1, xIx, xIxA, xIxS, xIxI, xIx1, xIxT, xIxR, at0, at1, at2, xAdd, xMul, xRev, xRev1, xCut, xCut1, xCutT, xCutS, xIsi, xIsi1, xIsi2, xTyL, xTyL1, xApp, xExt, G.oRevT, setAt0, setAt, eW_on_on, eW_on_fr, eW_on_ro, eW_on_mi, eW_on_le, eW_fr_on, eW_fr_fr, eW_fr_ro, eW_fr_mi, eW_fr_le, eW_ro_on, eW_ro_fr, eW_ro_ro, eW_ro_mi, eW_ro_le, eW_mi_on, eW_mi_fr, eW_mi_ro, eW_mi_mi, eW_mi_le, eW_le_on, eW_le_fr, eW_le_ro, eW_le_mi, eW_le_le, iW_on_on, iW_on_onn, iW_on_ro, iW_on_ron, iW_fr_on, iW_fr_onn, iW_fr_ro, iW_fr_ron, iW_ro_on, iW_ro_onn, iW_ro_ro, iW_ro_ron, iW_mi_on, iW_mi_onn, iW_mi_ro, iW_mi_ron, iW_le_on, iW_le_onn, iW_le_ro, iW_le_ron, decide_true, decide_false, Int.reduceEq, Int.reduceLT, Int.reduceLE, Int.reduceAdd, Int.reduceSub, Int.reduceMul, Int.reducePow, Int.reduceNeg, Int.reduceNe, $xs,*] at $h:ident)
theorem Pot.lt {M : Mem} {p : Nat} (h : Pot M p) : p < M.length := by
  obtain ⟨a, b, e, _⟩ := h
  exact (List.getElem?_eq_some_iff.mp e).1
/-- a row of small numbers, no zero behind -/
structure Small (k : Nat) (r : List Int) : Prop where
  led : led r = r
  pos : ∀ x ∈ r, 0 ≤ x ∧ x < 1000000000
  len : r.length < k
theorem led_mem : ∀ (r : List Int), ∀ x ∈ led r, x ∈ r
  | [], x, h => h
  | y :: r, x, h => by
    have h' : x ∈ (if led r = [] ∧ y = 0 then [] else y :: led r) := h
    split at h'
    · cases h'
    · rcases List.mem_cons.mp h' with e | e
      · rw [e]; exact List.mem_cons_self
      · exact List.mem_cons_of_mem _ (led_mem r x e)
theorem led_len : ∀ (r : List Int), (led r).length ≤ r.length
  | [] => Nat.le_refl _
  | y :: r => by
    show (if led r = [] ∧ y = 0 then [] else y :: led r).length ≤ r.length + 1
    split
    · exact Nat.zero_le _
    · rw [List.length_cons]
      have := led_len r
      omega
theorem led_led : ∀ (r : List Int), led (led r) = led r
  | [] => rfl
  | y :: r => by
    show led (if led r = [] ∧ y = 0 then [] else y :: led r) = (if led r = [] ∧ y = 0 then [] else y :: led r)
    split
    · rfl
    · rename_i h
      show (if led (led r) = [] ∧ y = 0 then [] else y :: led (led r)) = _
      rw [led_led r, if_neg h]
theorem f_law_length {M : Mem} {p : Nat} {m : Nat} (h : Pot M p) (h0 : 0 < m) (hm : m ≤ 1000) :
    ∃ n r M', callF m_law_length [.ref p, .int m] M = .ok (.ref n) M' ∧ M'[n]? = row r ∧ Small m r ∧ Dr p M M' ∧ M.length ≤ n := by
  have hp := h.lt
  rw [call_ref rfl]
  have d1 : Dr p M (M ++ [.lst [.int 1, .int 2, .int 5, .int 1000000000]]) := Dr.app h
  obtain ⟨x, M2, e2, hx, d2⟩ := c_law_pick (d := .ref M.length) (xs := [.int 1, .int 2, .int 5, .int 1000000000]) d1.pot (fun n e => by cases e; omega) (by simp only [itemsOf, memAt0]; rfl) (by simp) (by simp)
  have hq : ∃ q : Int, x = .int q ∧ 0 < q ∧ q ≤ 1000000000 := by
    simp only [List.mem_cons, List.mem_singleton, List.not_mem_nil, or_false] at hx
    rcases hx with rfl | rfl | rfl | rfl <;> exact ⟨_, rfl, by decide, by decide⟩
  obtain ⟨q, rfl, q0, q1⟩ := hq
  obtain ⟨v, M3, e3, v0, v1, d3⟩ := c_law_draw (m := m) d2.pot (by omega) (by omega)
  have hv : v = ((v.toNat : Nat) : Int) := by omega
  have hvl : v.toNat < m := by omega
  have D3 := (d1.trans d2).trans d3
  have key : ∃ ys M4, lcG (srcR 0 v.toNat 1) (gName' 4) gYes (gOp mulM (gCall m_law_draw (gCons (gV 0) (gCons (gC (.int 2)) gNil))) (gCall m_law_draw (gCons (gV 0) (gCons (gV 2) gNil)))) [some (.ref p), some (.int m), some (.int q), none, none] big 0 M3 = .ok ys M4 ∧
      (Dr p M3 M4 ∧ ∃ r : List Int, ys = r.map D.int ∧ (∀ x ∈ r, 0 ≤ x ∧ x < 1000000000) ∧ r.length = (rngD 0 v.toNat 1).length) := by
    refine lc_inv (its := rngD 0 v.toNat 1) (fun i ys M4 => Dr p M3 M4 ∧ ∃ r : List Int, ys = r.map D.int ∧ (∀ x ∈ r, 0 ≤ x ∧ x < 1000000000) ∧ r.length = i) (by rw [rngD_len]; exact big_gt (by omega)) ⟨Dr.refl d3.pot, [], rfl, by simp, rfl⟩ (fun i ys M4 _ _ => srcR_is i) (fun i ys M4 d hd hP => ?_)
    obtain ⟨dr, r, rfl, hr, hl⟩ := hP
    obtain ⟨a, M5, e5, a0, a1, d5⟩ := c_law_draw (m := 2) dr.pot (by decide) (by decide)
    obtain ⟨b, M6, e6, b0, b1, d6⟩ := c_law_draw (m := q) d5.pot q0 (by omega)
    refine ⟨_, _, M4, rfl, .inr ⟨rfl, .int (a * b), M6, ?_, (dr.trans d5).trans d6, r ++ [a * b], by rw [List.map_append]; rfl, fun x hx => ?_, by rw [List.length_append, hl]; rfl⟩⟩
    · simp! [e5, e6, oMul (mulOk_of (i := a) (j := b) (by omega) (by omega))]
    · rcases List.mem_append.mp hx with hx | hx
      · exact hr x hx
      · rw [List.mem_singleton.mp hx]
        have ha : a = 0 ∨ a = 1 := by omega
        rcases ha with rfl | rfl <;> omega
  obtain ⟨ys, M4, e4, d4, r, rfl, hr, hrl⟩ := key
  rw [rngD_len] at hrl
  have hnew : (M4 ++ [Ob.lst (r.map D.int)])[M4.length]? = row r := mem_new
  obtain ⟨n', X, e7, hrow, hn'⟩ := f_law_led hnew (by omega)
  have e7' : callF m_law_led [.ref M4.length] (M4 ++ [Ob.lst (r.map D.int)]) = .ok (.ref n') (M4 ++ [Ob.lst (r.map D.int)] ++ X) := by
    rw [call_ref rfl]
    exact e7
  rw [List.append_assoc] at e7' hrow
  refine ⟨n', led r, _, ?_, hrow, ⟨led_led r, fun x hx => hr x (led_mem r x hx), ?_⟩, (D3.trans d4).trans (Dr.app d4.pot), ?_⟩
  · simp! [m_law_length, b_law_length, e2, e3]
    rw [hv, aRng1n (by omega)]
    simp! [Int.toNat_natCast, e4, aLc2 (show (r.map D.int).length ≤ 16777216 by rw [List.length_map]; omega), e7']
  · have := led_len r
    omega
  · have h1 := D3.len
    have h2 := d4.len
    rcases hn' with z | z
    · omega
    · rw [List.length_append] at z
      omega
end K56
set_option maxRecDepth 100000
set_option maxHeartbeats 4000000
namespace K56
open PySem G
local macro_rules
  | `(tactic| simp! [$xs,*]) => `(tactic| simp only [v0, vS, aC, aOp, aOp1, aOp2, aOf, aUn, aUn1, aNil, aCons, aCons1, aCons2, aCB, aCB1, aTup, aTup1, aLst, aLst1, aTru, aTru1, aTru2, aTst, aTst1, aAndT, aAndT1, aAndT2, aOrT, aOrT1, aOrT2, aNotT, aNotT1, aAnd, aAnd1, aAnd2, aAnd3, aOr, aOr1, aOr2, aOr3, aNot, aNot1, aNot2, aIf, aIf1, aIf2, aCh, aCh0, aCh1, aCh2, aCh3, aCh4, aCall, aCall1, aCallK, aCallK1, aCallK2, aNP, aPart, aPart1, aSl, aSl1, aSl2, aSl3, aMt, aMt1, aMt2, aMt3, aPr0, aPr, aPr1, aPr2, aPr3, aDisp, aDisp1, aEmp, aSeqI, aSeqI1, aSeqI2, aRng1, aEn, aZip, aRng2, aRngD, afI, aLc, aLc1, aLc2, aW0, aW1, aSkip, aSeq, aSeq1, aSeq2, aSeq3, aSeq4, aExpr, aExpr1, aRet, aRet1, aRetN, aBrk, aCnt, aIfS, aIfS1, aIfS2, aSet, aSet1, aPar, aPar1, aPar3, aPar31, aAsg, aAsg1, aAsg2, aFor, aFor1, aRun, aRun1, aRun2, tName, tUnp, tsNil, tsCons, tsCons1, tr_bl, tr_non, tr_int, tr_tup, tr_str,
      List.map_cons, List.map_nil, List.length_cons, List.length_nil, Nat.reduceAdd, Nat.reduceSub, Nat.zero_add, List.replicate, List.cons_append, List.nil_append, List.set_cons_zero, List.set_cons_succ, Nat.reduceLeDiff, Bool.not_true, Bool.not_false, if_true, if_false, ↓reduceIte, G.oAddI, G.oSubI, G.oLeI, G.oGtI, G.oGeI, G.oIsB, G.oIsntB, G.oIsN, G.oIsntN, G.oLenT, G.oLenR, G.oLenS, oIsi, oIsi1, iNon, iBl, iInt, iStr, iTup, iRol, G.tSub, G.tSub1, G.tSub2, G.tSub3, G.oInt, G.oAbs, G.oMax2, G.oPow30, G.oPow18, G.oPow9, G.oEqI, G.oNeI, G.oLtI, isNon, Bool.true_and, Bool.and_true, Bool.false_and, Bool.and_false, Bool.true_or, Bool.false_or, Bool.or_true, Bool.or_false, Bool.not_not, Bool.false_eq_true, G.sT, G.sR, G.sS, Int.cast_ofNat_Int, List.append_assoc, List.length_append, memAt0, memAt, List.getElem?_cons_zero, List.getElem?_cons_succ, xLen, xLen1, xLen2, xLis1, xLst, xSeq, xSeqT, xSeqR, xTup, xTup1, xLis, xLis2, xAll, xAny, xAll0, xAll1, xSum, xSum0, xSum1, xEn, xEn1, xEnR, xSrc, xSrc1, xIx, xIxA, xIxS, xIxI, xIx1, xIxT, xIxR, at0, at1, at2, xAdd, xMul, xRev, xRev1, xCut, xCut1, xCutT, xCutS, xIsi, xIsi1, xIsi2, xTyL, xTyL1, xApp, xExt, G.oRevT, setAt0, setAt, eW_on_on, eW_on_fr, eW_on_ro, eW_on_mi, eW_on_le, eW_fr_on, eW_fr_fr, eW_fr_ro, eW_fr_mi, eW_fr_le, eW_ro_on, eW_ro_fr, eW_ro_ro, eW_ro_mi, eW_ro_le, eW_mi_on, eW_mi_fr, eW_mi_ro, eW_mi_mi, eW_mi_le, eW_le_on, eW_le_fr, eW_le_ro, eW_le_mi, eW_le_le, iW_on_on, iW_on_onn, iW_on_ro, iW_on_ron, iW_fr_on, iW_fr_onn, iW_fr_ro, iW_fr_ron, iW_ro_on, iW_ro_onn, iW_ro_ro, iW_ro_ron, iW_mi_on, iW_mi_onn, iW_mi_ro, iW_mi_ron, iW_le_on, iW_le_onn, iW_le_ro, iW_le_ron, decide_true, decide_false, Int.reduceEq, Int.reduceLT, Int.reduceLE, Int.reduceAdd, Int.reduceSub, Int.reduceMul, Int.reducePow, Int.reduceNeg, Int.reduceNe, $xs,*])
  | `(tactic| simp! [$xs,*] at $h:ident) => `(tactic| simp only [v0, vS, aC, aOp, aOp1, aOp2, aOf, aUn, aUn1, aNil, aCons, aCons1, aCons2, aCB, aCB1, aTup, aTup1, aLst, aLst1, aTru, aTru1, aTru2, aTst, aTst1, aAndT, aAndT1, aAndT2, aOrT, aOrT1, aOrT2, aNotT, aNotT1, aAnd, aAnd1, aAnd2, aAnd3, aOr, aOr1, aOr2, aOr3, aNot, aNot1, aNot2, aIf, aIf1, aIf2, aCh, aCh0, aCh1, aCh2, aCh3, aCh4, aCall, aCall1, aCallK, aCallK1, aCallK2, aNP, aPart, aPart1, aSl, aSl1, aSl2, aSl3, aMt, aMt1, aMt2, aMt3, aPr0, aPr, aPr1, aPr2, aPr3, aDisp, aDisp1, aEmp, aSeqI, aSeqI1, aSeqI2, aRng1, aEn, aZip, aRng2, aRngD, afI, aLc, aLc1, aLc2, aW0, aW1, aSkip, aSeq, aSeq1, aSeq2, aSeq3, aSeq4, aExpr, aExpr1, aRet, aRet1, aRetN, aBrk, aCnt, aIfS, aIfS1, aIfS2, aSet, aSet1, aPar, aPar1, aPar3, aPar31, aAsg, aAsg1, aAsg2, aFor, aFor1, aRun, aRun1, aRun2, tName, tUnp, tsNil, tsCons, tsCons1, tr_bl, tr_non, tr_int, tr_tup, tr_str,
      List.map_cons, List.map_nil, List.length_cons, List.length_nil, Nat.reduceAdd, Nat.reduceSub, Nat.zero_add, List.replicate, List.cons_append, List.nil_append, List.set_cons_zero, List.set_cons_succ, Nat.reduceLeDiff, Bool.not_true, Bool.not_false, if_true, if_false, ↓reduceIte, G.oAddI, G.oSubI, G.oLeI, G.oGtI, G.oGeI, G.oIsB, G.oIsntB, G.oIsN, G.oIsntN, G.oLenT, G.oLenR, G.oLenS, oIsi, oIsi1, iNon, iBl, iInt, iStr, iTup, iRol, G.tSub, G.tSub1, G.tSub2, G.tSub3, G.oInt, G.oAbs, G.oMax2, G.oPow30, G.oPow18, G.oPow9, G.oEqI, G.oNeI, G.oLtI, isNon, Bool.true_and, Bool.and_true, Bool.false_and, Bool.and_false, Bool.true_or, Bool.false_or, Bool.or_true, Bool.or_false, Bool.not_not, Bool.false_eq_true, G.sT, G.sR, G.sS, Int.cast_ofNat_Int, List.append_assoc, List.length_append, memAt0, memAt, List.getElem?_cons_zero, List.getElem?_cons_succ, xLen, xLen1, xLen2, xLis1, xLst, xSeq, xSeqT, xSeqR, xTup, xTup1, xLis, xLis2, xAll, xAny, xAll0, xAll1, xSum, xSum0, xSum1, xEn, xEn1, xEnR, xSrc, xSrc1, xIx, xIxA, xIxS, xIxI, xIx1, xIxT, xIxR, at0, at1, at2, xAdd, xMul, xRev, xRev1, xCut, xCut1, xCutT, xCutS, xIsi, xIsi1, xIsi2, xTyL, xTyL1, xApp, xExt, G.oRevT, setAt0, setAt, eW_on_on, eW_on_fr, eW_on_ro, eW_on_mi, eW_on_le, eW_fr_on, eW_fr_fr, eW_fr_ro, eW_fr_mi, eW_fr_le, eW_ro_on, eW_ro_fr, eW_ro_ro, eW_ro_mi, eW_ro_le, eW_mi_on, eW_mi_fr, eW_mi_ro, eW_mi_mi, eW_mi_le, eW_le_on, eW_le_fr, eW_le_ro, eW_le_mi, eW_le_le, iW_on_on, iW_on_onn, iW_on_ro, iW_on_ron, iW_fr_on, iW_fr_onn, iW_fr_ro, iW_fr_ron, iW_ro_on, iW_ro_onn, iW_ro_ro, iW_ro_ron, iW_mi_on, iW_mi_onn, iW_mi_ro, iW_mi_ron, iW_le_on, iW_le_onn, iW_le_ro, iW_le_ron, decide_true, decide_false, Int.reduceEq, Int.reduceLT, Int.reduceLE, Int.reduceAdd, Int.reduceSub, Int.reduceMul, Int.reducePow, Int.reduceNeg, Int.reduceNe, $xs,*] at $h:ident)
/-! drawn timelines -/
mutual
def okT : Tl → Bool
  | .ltr c => decide (c = 97) || decide (c = 98)
  | .one w t => w && okT t
  | .many w ts => (w && okTs ts) && (decide (2 ≤ ts.length) && ts.all (fun t => !isRow t))
def okTs : List Tl → Bool
  | [] => true
  | t :: ts => okT t && okTs ts
end
theorem okTs_mem : ∀ {ts : List Tl}, okTs ts = true → ∀ t ∈ ts, okT t = true
  | t :: ts, h, u, hu => by
    rw [okTs, Bool.and_eq_true] at h
    rcases List.mem_cons.mp hu with e | e
    · rw [e]; exact h.1
    · exact okTs_mem h.2 u e
theorem okTs_of : ∀ {ts : List Tl}, (∀ t ∈ ts, okT t = true) → okTs ts = true
  | [], _ => rfl
  | t :: ts, h => by
    rw [okTs, h t List.mem_cons_self, okTs_of fun u hu => h u (List.mem_cons_of_mem _ hu)]
    rfl
def spread : Tl → List Tl
  | .many true us => us
  | t => [t]
def flatT (ts : List Tl) : Tl := match ts.flatMap spread with
  | [x] => x
  | l => .many true l
theorem f_law_flat {M : Mem} {n : Nat} {ts : List Tl} (h : M[n]? = some (.lst (ts.map Tl.enc))) (h1 : ts.length ≤ 1000) (h0 : ts ≠ []) (hok : ∀ t ∈ ts, okT t = true) (hs : (ts.flatMap spread).length ≤ 1000) :
    ∃ X, m_law_flat [.ref n] M = .ok (flatT ts).enc (M ++ X) := by
  have g1 : ∀ X : Mem, (M ++ X)[n]? = some (.lst (ts.map Tl.enc)) := fun X => mem_old h
  simp! [m_law_flat, b_law_flat, g1]
  generalize hF : forG _ _ _ _ _ _ _ = F
  have key : ∃ ρ' M', F = .ok (.nx ρ') M' ∧ ∃ X o, ρ' = [some (.ref n), some (.ref M.length), o] ∧ M' = M ++ (.lst ((ts.flatMap spread).map Tl.enc) :: X) := by
    rw [← hF]
    have q := for_inv (src := srcM n) (its := ts.map Tl.enc) (tg := gName' 2) (M := M ++ [Ob.lst []]) (ρ := [some (.ref n), some (.ref M.length), none])
      (b := gExpr (gMt .lst extM (gV 1) (gCons (gIf (gAndT (gNotT (gTru (gCB isiN (gCons (gV 2) (gCons (gC (.ty .str)) (gNil)))))) (gTst (gOp (eqM false) (gOp ixM (gV 2) (gC (.int 0))) (gC (.str [114, 111, 119]))))) (gCB lisN (gCons (gOp ixM (gV 2) (gC (.int 1))) (gNil))) (gLst (gCons (gV 2) (gNil)))) (gNil))))
      (fun i ρ M1 => ∃ X o, ρ = [some (.ref n), some (.ref M.length), o] ∧ M1 = M ++ (.lst (((ts.take i).flatMap spread).map Tl.enc) :: X))
      (by rw [List.length_map]; exact big_gt (by omega)) ⟨[], none, rfl, rfl⟩ (fun i ρ M1 _ hP => by
        obtain ⟨X, o, rfl, rfl⟩ := hP
        exact srcM_is (g1 _) i) (fun i ρ M1 d hd hP => by
        obtain ⟨X, o, rfl, rfl⟩ := hP
        have hi : i < ts.length := by
          have := (List.getElem?_eq_some_iff.mp hd).1
          rw [List.length_map] at this
          exact this
        rw [List.getElem?_map, List.getElem?_eq_getElem hi] at hd
        cases hd
        have et : ts.take (i + 1) = ts.take i ++ [ts[i]] := by
          rw [List.take_add_one, List.getElem?_eq_getElem hi]
          rfl
        have hle : (((ts.take i).flatMap spread).map Tl.enc).length + ((spread ts[i]).map Tl.enc).length ≤ 16777216 := by
          have h2 : ((ts.take (i + 1)).flatMap spread).length ≤ (ts.flatMap spread).length := by
            have e : ts = ts.take (i + 1) ++ ts.drop (i + 1) := (List.take_append_drop _ _).symm
            rw [show (ts.flatMap spread).length = ((ts.take (i + 1)).flatMap spread ++ (ts.drop (i + 1)).flatMap spread).length by rw [← List.flatMap_append, ← e]]
            rw [List.length_append]
            omega
          rw [et, List.flatMap_append] at h2
          rw [List.length_map, List.length_map]
          have e3 : ([ts[i]].flatMap spread) = spread ts[i] := by simp
          rw [e3, List.length_append] at h2
          omega
        have ef : ((ts.take (i + 1)).flatMap spread).map Tl.enc = ((ts.take i).flatMap spread).map Tl.enc ++ (spread ts[i]).map Tl.enc := by
          rw [et, List.flatMap_append, List.map_append]
          simp
        rw [ef]
        refine ⟨_, _, [some (.ref n), some (.ref M.length), some ts[i].enc], M ++ (.lst (((ts.take i).flatMap spread).map Tl.enc ++ (spread ts[i]).map Tl.enc) :: (X ++ [.lst ((spread ts[i]).map Tl.enc)])), rfl, .inl ?_, _, _, rfl, rfl⟩
        have hoki := hok ts[i] (List.getElem_mem hi)
        generalize ts[i] = t at hle hoki
        cases t with
        | ltr c => simp! [Tl.enc, spread, xExt1 (show _ + [D.str [c]].length ≤ 16777216 from hle)]
        | one w t =>
          have hw : w = true := by
            rw [okT, Bool.and_eq_true] at hoki
            exact hoki.1
          subst hw
          simp! [Tl.enc, wordO, spread, xExt1 (show _ + [D.tup [D.str [111, 110], t.enc]].length ≤ 16777216 from hle)]
        | many w us =>
          have hw : w = true := by
            rw [okT, Bool.and_eq_true, Bool.and_eq_true] at hoki
            exact hoki.1.1
          subst hw
          simp! [Tl.enc, wordM, spread, encs_map, xExt1 (show _ + (us.map Tl.enc).length ≤ 16777216 from hle)])
    obtain ⟨ρ', M', e1, X, o, e2, e3⟩ := q
    rw [List.length_map, List.take_length] at e3
    exact ⟨ρ', M', e1, X, o, e2, e3⟩
  obtain ⟨ρ', M', e1, X, o, rfl, rfl⟩ := key
  refine ⟨.lst ((ts.flatMap spread).map Tl.enc) :: X, ?_⟩
  have hne : ts.flatMap spread ≠ [] := by
    cases ts with
    | nil => exact absurd rfl h0
    | cons t r =>
      have hk := hok t List.mem_cons_self
      have : spread t ≠ [] := by
        cases t with
        | ltr c => simp [spread]
        | one w t => simp [spread]
        | many w us =>
          rw [okT, Bool.and_eq_true, Bool.and_eq_true, Bool.and_eq_true] at hk
          have h2 : 2 ≤ us.length := of_decide_eq_true hk.2.1
          have hw := hk.1.1
          subst hw
          show us ≠ []
          intro z
          rw [z] at h2
          simp at h2
      rw [List.flatMap_cons]
      intro z
      exact this (List.append_eq_nil_iff.mp z).1
  rw [e1]
  unfold flatT
  match hfl : ts.flatMap spread, hne with
  | [x], _ =>
    simp! [List.map_cons]
  | x :: y :: r, _ =>
    have hgt : decide ((1 : Int) < (((r.map Tl.enc).length + 1 + 1 : Nat) : Int)) = true := decide_eq_true (by omega)
    simp! [List.map_cons, hgt, Tl.enc, wordM, encs_map]
end K56
set_option maxRecDepth 100000
set_option maxHeartbeats 4000000
namespace K56
open PySem G
local macro_rules
  | `(tactic| simp! [$xs,*]) => `(tactic| simp only [v0, vS, aC, aOp, aOp1, aOp2, aOf, aUn, aUn1, aNil, aCons, aCons1, aCons2, aCB, aCB1, aTup, aTup1, aLst, aLst1, aTru, aTru1, aTru2, aTst, aTst1, aAndT, aAndT1, aAndT2, aOrT, aOrT1, aOrT2, aNotT, aNotT1, aAnd, aAnd1, aAnd2, aAnd3, aOr, aOr1, aOr2, aOr3, aNot, aNot1, aNot2, aIf, aIf1, aIf2, aCh, aCh0, aCh1, aCh2, aCh3, aCh4, aCall, aCall1, aCallK, aCallK1, aCallK2, aNP, aPart, aPart1, aSl, aSl1, aSl2, aSl3, aMt, aMt1, aMt2, aMt3, aPr0, aPr, aPr1, aPr2, aPr3, aDisp, aDisp1, aEmp, aSeqI, aSeqI1, aSeqI2, aRng1, aEn, aZip, aRng2, aRngD, afI, aLc, aLc1, aLc2, aW0, aW1, aSkip, aSeq, aSeq1, aSeq2, aSeq3, aSeq4, aExpr, aExpr1, aRet, aRet1, aRetN, aBrk, aCnt, aIfS, aIfS1, aIfS2, aSet, aSet1, aPar, aPar1, aPar3, aPar31, aAsg, aAsg1, aAsg2, aFor, aFor1, aRun, aRun1, aRun2, tName, tUnp, tsNil, tsCons, tsCons1, tr_bl, tr_non, tr_int, tr_tup, tr_str,
      List.map_cons, List.map_nil, List.length_cons, List.length_nil, Nat.reduceAdd, Nat.reduceSub, Nat.zero_add, List.replicate, List.cons_append, List.nil_append, List.set_cons_zero, List.set_cons_succ, Nat.reduceLeDiff, Bool.not_true, Bool.not_false, if_true, if_false, ↓reduceIte, G.oAddI, G.oSubI, G.oLeI, G.oGtI, G.oGeI, G.oIsB, G.oIsntB, G.oIsN, G.oIsntN, G.oLenT, G.oLenR, G.oLenS, oIsi, oIsi1, iNon, iBl, iInt, iStr, iTup, iRol, G.tSub, G.tSub1, G.tSub2, G.tSub3, G.oInt, G.oAbs, G.oMax2, G.oPow30, G.oPow18, G.oPow9, G.oEqI, G.oNeI, G.oLtI, isNon, Bool.true_and, Bool.and_true, Bool.false_and, Bool.and_false, Bool.true_or, Bool.false_or, Bool.or_true, Bool.or_false, Bool.not_not, Bool.false_eq_true, G.sT, G.sR, G.sS, Int.cast_ofNat_Int, List.append_assoc, List.length_append, memAt0, memAt, List.getElem?_cons_zero, List.getElem?_cons_succ, xLen, xLen1, xLen2, xLis1, xLst, xSeq, xSeqT, xSeqR, xTup, xTup1, xLis, xLis2, xAll, xAny, xAll0, xAll1, xSum, xSum0, xSum1, xEn, xEn1, xEnR, xSrc, xSrc1, xIx, xIxA, xIxS, xIxI, xIx1, xIxT, xIxR, at0, at1, at2, xAdd, xMul, xRev, xRev1, xCut, xCut1, xCutT, xCutS, xIsi, xIsi1, xIsi2, xTyL, xTyL1, xApp, xExt, G.oRevT, setAt0, setAt, eW_on_on, eW_on_fr, eW_on_ro, eW_on_mi, eW_on_le, eW_fr_on, eW_fr_fr, eW_fr_ro, eW_fr_mi, eW_fr_le, eW_ro_on, eW_ro_fr, eW_ro_ro, eW_ro_mi, eW_ro_le, eW_mi_on, eW_mi_fr, eW_mi_ro, eW_mi_mi, eW_mi_le, eW_le_on, eW_le_fr, eW_le_ro, eW_le_mi, eW_le_le, iW_on_on, iW_on_onn, iW_on_ro, iW_on_ron, iW_fr_on, iW_fr_onn, iW_fr_ro, iW_fr_ron, iW_ro_on, iW_ro_onn, iW_ro_ro, iW_ro_ron, iW_mi_on, iW_mi_onn, iW_mi_ro, iW_mi_ron, iW_le_on, iW_le_onn, iW_le_ro, iW_le_ron, decide_true, decide_false, Int.reduceEq, Int.reduceLT, Int.reduceLE, Int.reduceAdd, Int.reduceSub, Int.reduceMul, Int.reducePow, Int.reduceNeg, Int.reduceNe, $xs,*])
  | `(tactic| simp! [$xs,*] at $h:ident) => `(tactic| simp only [v0, vS, aC, aOp, aOp1, aOp2, aOf, aUn, aUn1, aNil, aCons, aCons1, aCons2, aCB, aCB1, aTup, aTup1, aLst, aLst1, aTru, aTru1, aTru2, aTst, aTst1, aAndT, aAndT1, aAndT2, aOrT, aOrT1, aOrT2, aNotT, aNotT1, aAnd, aAnd1, aAnd2, aAnd3, aOr, aOr1, aOr2, aOr3, aNot, aNot1, aNot2, aIf, aIf1, aIf2, aCh, aCh0, aCh1, aCh2, aCh3, aCh4, aCall, aCall1, aCallK, aCallK1, aCallK2, aNP, aPart, aPart1, aSl, aSl1, aSl2, aSl3, aMt, aMt1, aMt2, aMt3, aPr0, aPr, aPr1, aPr2, aPr3, aDisp, aDisp1, aEmp, aSeqI, aSeqI1, aSeqI2, aRng1, aEn, aZip, aRng2, aRngD, afI, aLc, aLc1, aLc2, aW0, aW1, aSkip, aSeq, aSeq1, aSeq2, aSeq3, aSeq4, aExpr, aExpr1, aRet, aRet1, aRetN, aBrk, aCnt, aIfS, aIfS1, aIfS2, aSet, aSet1, aPar, aPar1, aPar3, aPar31, aAsg, aAsg1, aAsg2, aFor, aFor1, aRun, aRun1, aRun2, tName, tUnp, tsNil, tsCons, tsCons1, tr_bl, tr_non, tr_int, tr_tup, tr_str,
      List.map_cons, List.map_nil, List.length_cons, List.length_nil, Nat.reduceAdd, Nat.reduceSub, Nat.zero_add, List.replicate, List.cons_append, List.nil_append, List.set_cons_zero, List.set_cons_succ, Nat.reduceLeDiff, Bool.not_true, Bool.not_false, if_true, if_false, ↓reduceIte, G.oAddI, G.oSubI, G.oLeI, G.oGtI, G.oGeI, G.oIsB, G.oIsntB, G.oIsN, G.oIsntN, G.oLenT, G.oLenR, G.oLenS, oIsi, oIsi1, iNon, iBl, iInt, iStr, iTup, iRol, G.tSub, G.tSub1, G.tSub2, G.tSub3, G.oInt, G.oAbs, G.oMax2, G.oPow30, G.oPow18, G.oPow9, G.oEqI, G.oNeI, G.oLtI, isNon, Bool.true_and, Bool.and_true, Bool.false_and, Bool.and_false, Bool.true_or, Bool.false_or, Bool.or_true, Bool.or_false, Bool.not_not, Bool.false_eq_true, G.sT, G.sR, G.sS, Int.cast_ofNat_Int, List.append_assoc, List.length_append, memAt0, memAt, List.getElem?_cons_zero, List.getElem?_cons_succ, xLen, xLen1, xLen2, xLis1, xLst, xSeq, xSeqT, xSeqR, xTup, xTup1, xLis, xLis2, xAll, xAny, xAll0, xAll1, xSum, xSum0, xSum1, xEn, xEn1, xEnR, xSrc, xSrc1, xIx, xIxA, xIxS, xIxI, xIx1, xIxT, xIxR, at0, at1, at2, xAdd, xMul, xRev, xRev1, xCut, xCut1, xCutT, xCutS, xIsi, xIsi1, xIsi2, xTyL, xTyL1, xApp, xExt, G.oRevT, setAt0, setAt, eW_on_on, eW_on_fr, eW_on_ro, eW_on_mi, eW_on_le, eW_fr_on, eW_fr_fr, eW_fr_ro, eW_fr_mi, eW_fr_le, eW_ro_on, eW_ro_fr, eW_ro_ro, eW_ro_mi, eW_ro_le, eW_mi_on, eW_mi_fr, eW_mi_ro, eW_mi_mi, eW_mi_le, eW_le_on, eW_le_fr, eW_le_ro, eW_le_mi, eW_le_le, iW_on_on, iW_on_onn, iW_on_ro, iW_on_ron, iW_fr_on, iW_fr_onn, iW_fr_ro, iW_fr_ron, iW_ro_on, iW_ro_onn, iW_ro_ro, iW_ro_ron, iW_mi_on, iW_mi_onn, iW_mi_ro, iW_mi_ron, iW_le_on, iW_le_onn, iW_le_ro, iW_le_ron, decide_true, decide_false, Int.reduceEq, Int.reduceLT, Int.reduceLE, Int.reduceAdd, Int.reduceSub, Int.reduceMul, Int.reducePow, Int.reduceNeg, Int.reduceNe, $xs,*] at $h:ident)
theorem size_pos : ∀ t : Tl, 1 ≤ t.size ∨ okT t = false
  | .ltr _ => .inl (Nat.le_refl _)
  | .one _ t => .inl (by rw [Tl.size]; omega)
  | .many w ts => by
    cases h : okT (.many w ts) with
    | false => exact .inr rfl
    | true =>
      left
      rw [okT, Bool.and_eq_true, Bool.and_eq_true, Bool.and_eq_true] at h
      obtain ⟨⟨h1, h2⟩, h3, h4⟩ := h
      have h3' : 2 ≤ ts.length := of_decide_eq_true h3
      cases ts with
      | nil => simp at h3'
      | cons t r =>
        rw [Tl.size, sizes]
        rcases size_pos t with z | z
        · omega
        · rw [okTs, Bool.and_eq_true] at h2
          rw [h2.1] at z
          cases z
theorem sizes_app : ∀ a b : List Tl, sizes (a ++ b) = sizes a + sizes b
  | [], b => by rw [List.nil_append, sizes, Nat.zero_add]
  | t :: a, b => by rw [List.cons_append, sizes, sizes, sizes_app a b, Nat.add_assoc]
theorem sizes_ge : ∀ ts : List Tl, (∀ t ∈ ts, okT t = true) → ts.length ≤ sizes ts
  | [], _ => Nat.zero_le _
  | t :: ts, h => by
    have h1 := sizes_ge ts fun u hu => h u (List.mem_cons_of_mem _ hu)
    rw [List.length_cons, sizes]
    rcases size_pos t with z | z
    · omega
    · rw [h t List.mem_cons_self] at z
      cases z
theorem size_in : ∀ {ts : List Tl} {t : Tl}, t ∈ ts → t.size ≤ sizes ts
  | u :: ts, t, h => by
    rw [sizes]
    rcases List.mem_cons.mp h with e | e
    · rw [e]; omega
    · have := size_in e
      omega
theorem deps_le {k : Nat} : ∀ {ts : List Tl}, (∀ t ∈ ts, t.dep ≤ k) → deps ts ≤ k
  | [], _ => Nat.zero_le _
  | t :: ts, h => by
    rw [deps]
    have h1 := deps_le fun u hu => h u (List.mem_cons_of_mem _ hu)
    have h2 := h t List.mem_cons_self
    omega
theorem dep_in : ∀ {ts : List Tl} {t : Tl}, t ∈ ts → t.dep ≤ deps ts
  | u :: ts, t, h => by
    rw [deps]
    rcases List.mem_cons.mp h with e | e
    · rw [e]; omega
    · have := dep_in e
      omega
theorem spread_ok {t : Tl} (h : okT t = true) : ∀ u ∈ spread t, okT u = true ∧ isRow u = false := by
  intro u hu
  cases t with
  | ltr c => rw [List.mem_singleton.mp hu]; exact ⟨h, rfl⟩
  | one w t => rw [List.mem_singleton.mp hu]; exact ⟨h, rfl⟩
  | many w us =>
    rw [okT, Bool.and_eq_true, Bool.and_eq_true, Bool.and_eq_true] at h
    obtain ⟨⟨h1, h2⟩, h3, h4⟩ := h
    subst h1
    have hu' : u ∈ us := hu
    exact ⟨okTs_mem h2 u hu', by have := List.all_eq_true.mp h4 u hu'; simpa using this⟩
theorem spread_size (t : Tl) : sizes (spread t) = t.size := by
  cases t with
  | ltr c => rfl
  | one w t => rfl
  | many w us =>
    cases w with
    | true =>
      rw [Tl.size]
      show sizes us = 0 + sizes us
      omega
    | false => rfl
theorem spread_dep {t u : Tl} (h : u ∈ spread t) : u.dep ≤ t.dep := by
  cases t with
  | ltr c => rw [List.mem_singleton.mp h]; exact Nat.le_refl _
  | one w t => rw [List.mem_singleton.mp h]; exact Nat.le_refl _
  | many w us =>
    cases w with
    | true =>
      have := dep_in (show u ∈ us from h)
      rw [Tl.dep]
      omega
    | false => rw [List.mem_singleton.mp h]; exact Nat.le_refl _
theorem flat_sizes : ∀ ts : List Tl, sizes (ts.flatMap spread) = sizes ts
  | [] => rfl
  | t :: ts => by rw [List.flatMap_cons, sizes_app, flat_sizes ts, spread_size, sizes]
theorem flat_mem {ts : List Tl} {u : Tl} (h : u ∈ ts.flatMap spread) : ∃ t ∈ ts, u ∈ spread t := List.mem_flatMap.mp h
theorem flatT_ok {ts : List Tl} (h0 : ts ≠ []) (hok : ∀ t ∈ ts, okT t = true) : okT (flatT ts) = true ∧ (flatT ts).size = sizes ts ∧ (flatT ts).dep ≤ deps ts + 1 := by
  have h1 : ∀ u ∈ ts.flatMap spread, okT u = true ∧ isRow u = false := fun u hu => by
    obtain ⟨t, ht, hu'⟩ := flat_mem hu
    exact spread_ok (hok t ht) u hu'
  have h2 : ∀ u ∈ ts.flatMap spread, u.dep ≤ deps ts := fun u hu => by
    obtain ⟨t, ht, hu'⟩ := flat_mem hu
    exact Nat.le_trans (spread_dep hu') (dep_in ht)
  have h3 := flat_sizes ts
  have hne : ts.flatMap spread ≠ [] := by
    intro z
    rw [z] at h3
    have := sizes_ge ts hok
    have hl := List.length_pos_iff.mpr h0
    have e0 : sizes ([] : List Tl) = 0 := rfl
    omega
  unfold flatT
  match hfl : ts.flatMap spread, hne with
  | [x], _ =>
    rw [hfl] at h1 h2 h3
    refine ⟨(h1 x (by simp)).1, ?_, ?_⟩
    · rw [← h3, sizes, sizes]
      rfl
    · have := h2 x (by simp)
      show x.dep ≤ _
      omega
  | x :: y :: r, _ =>
    rw [hfl] at h1 h2 h3
    refine ⟨?_, ?_, ?_⟩
    · rw [okT, Bool.and_eq_true, Bool.and_eq_true, Bool.and_eq_true]
      exact ⟨⟨rfl, okTs_of fun u hu => (h1 u hu).1⟩, decide_eq_true (by simp), List.all_eq_true.mpr fun u hu => by rw [(h1 u hu).2]; rfl⟩
    · rw [Tl.size, h3]
      simp
    · rw [Tl.dep]
      have := deps_le h2
      omega
def ONS : Option Ob := some (.lst [.str [111, 110], .str [111, 110]])
theorem pow3 {d : Nat} (h : 2 ≤ d) : 3 * 3 ^ (d - 1 - 1) = 3 ^ (d - 1) := by
  obtain ⟨k, rfl⟩ : ∃ k, d = k + 2 := ⟨d - 2, by omega⟩
  show 3 * 3 ^ k = 3 ^ (k + 1)
  rw [Nat.pow_succ, Nat.mul_comm]
theorem f_law_time {p w : Nat} (hw : w ≠ p) : ∀ (f d : Nat), 1 ≤ d → d ≤ 5 → d ≤ f → ∀ M : Mem, Pot M p → M[w]? = ONS →
    ∃ t M', callF (r_law_time f) [.ref p, .str [97, 98], .ref w, .int d] M = .ok t.enc M' ∧ Dr p M M' ∧ okT t = true ∧ t.size ≤ 3 ^ (d - 1) ∧ t.dep ≤ d
  | 0, d, h1, _, h2, _, _, _ => by omega
  | f + 1, d, h1, h5, hf, M, hp, hM => by
    rw [call_ref rfl]
    have letter : ∀ M1 : Mem, Dr p M M1 → ∃ c M', (c = 97 ∨ c = 98) ∧ callF m_law_pick [.ref p, .str [97, 98]] M1 = .ok (.str [c]) M' ∧ Dr p M M' := by
      intro M1 dr
      obtain ⟨x, M', e, hx, d'⟩ := c_law_pick (d := .str [97, 98]) (xs := [.str [97], .str [98]]) dr.pot (fun n e => by cases e) rfl (by simp) (by simp)
      simp only [List.mem_cons, List.not_mem_nil, or_false] at hx
      rcases hx with rfl | rfl
      · exact ⟨97, M', .inl rfl, e, dr.trans d'⟩
      · exact ⟨98, M', .inr rfl, e, dr.trans d'⟩
    have hpow : 1 ≤ 3 ^ (d - 1) := Nat.one_le_pow _ _ (by decide)
    have okl : ∀ c : Nat, (c = 97 ∨ c = 98) → okT (.ltr c) = true := by
      intro c hc
      rcases hc with rfl | rfl <;> rfl
    show ∃ (t : Tl) (M' : Mem), runDef 8 (b_law_time (r_law_time f)) [.ref p, .str [97, 98], .ref w, .int d] M = .ok t.enc M' ∧ _
    by_cases hd : d = 1
    · subst hd
      obtain ⟨c, M', hc, e, dr⟩ := letter M (Dr.refl hp)
      refine ⟨.ltr c, M', ?_, dr, okl c hc, Nat.le_refl _, Nat.le_refl _⟩
      simp! [b_law_time, e, Tl.enc]
    · have hgt : decide ((1 : Int) < (d : Int)) = true := decide_eq_true (by omega)
      have d1 : Dr p M (M ++ [.lst [.str [108, 101, 116, 116, 101, 114], .str [108, 101, 116, 116, 101, 114], .str [114, 111, 119], .str [114, 111, 119]], .lst [.str [108, 101, 116, 116, 101, 114], .str [108, 101, 116, 116, 101, 114], .str [114, 111, 119], .str [114, 111, 119], .str [111, 110], .str [111, 110]]]) := Dr.app hp
      have hpl := hp.lt
      obtain ⟨x, M2, e2, hx, d2⟩ := c_law_pick (d := .ref (M.length + 1)) (xs := [.str [108, 101, 116, 116, 101, 114], .str [108, 101, 116, 116, 101, 114], .str [114, 111, 119], .str [114, 111, 119], .str [111, 110], .str [111, 110]]) d1.pot (fun n e => by cases e; omega) (by simp only [itemsOf, memAt]; rfl) (by simp) (by simp)
      have D2 := d1.trans d2
      have gw : ∀ X : Mem, (M ++ X)[w]? = some (.lst [.str [111, 110], .str [111, 110]]) := fun X => mem_old hM
      have hadd : ∀ M' : Mem, addK M' (some [.str [108, 101, 116, 116, 101, 114], .str [108, 101, 116, 116, 101, 114], .str [114, 111, 119], .str [114, 111, 119]]) (some [.str [111, 110], .str [111, 110]]) = some (.ref M'.length, M' ++ [.lst [.str [108, 101, 116, 116, 101, 114], .str [108, 101, 116, 116, 101, 114], .str [114, 111, 119], .str [114, 111, 119], .str [111, 110], .str [111, 110]]]) := fun M' => xAdd1 (by simp)
      have hcase : x = .str [108, 101, 116, 116, 101, 114] ∨ x = .str [114, 111, 119] ∨ x = .str [111, 110] := by
        simp only [List.mem_cons, List.not_mem_nil, or_false] at hx
        rcases hx with rfl | rfl | rfl | rfl | rfl | rfl <;> simp
      have hsub : ((d : Int) - 1) = ((d - 1 : Nat) : Int) := by omega
      rcases hcase with rfl | rfl | rfl
      · obtain ⟨c, M', hc, e, dr⟩ := letter M2 D2
        refine ⟨.ltr c, M', ?_, dr, okl c hc, hpow, by rw [Tl.dep]; omega⟩
        simp! [b_law_time, hgt, gw, hadd, e2, e, Tl.enc]
      · -- a row
        have hm : ∃ m : Int, (m = 1 ∨ m = 2) ∧ ∀ (ρ : Rho) (M' : Mem), ifK (gC (.int 2)) (gC (.int 1)) ρ (.ok (decide ((d : Int) < 5)) M') = .ok (.int m) M' := by
          cases hz : decide ((d : Int) < 5) with
          | true => exact ⟨2, .inr rfl, fun ρ M' => rfl⟩
          | false => exact ⟨1, .inl rfl, fun ρ M' => rfl⟩
        obtain ⟨m, hm1, hm2⟩ := hm
        obtain ⟨v, M3, e3, v0, v1, d3⟩ := c_law_draw (m := m) D2.pot (by omega) (by omega)
        have D3 := D2.trans d3
        have hv : (2 + v) = (((2 + v).toNat : Nat) : Int) := by omega
        have hv3 : (2 + v).toNat ≤ 3 := by omega
        have hv2 : 2 ≤ (2 + v).toNat := by omega
        generalize hk : (2 + v).toNat = k at hv hv3 hv2
        have key : ∃ ys M4, lcG (srcR 0 k 1) (gName' 7) gYes (gCall (r_law_time f) (gCons (gV 0) (gCons (gV 1) (gCons (gV 2) (gCons (gOp subM (gV 3) (gC (.int 1))) gNil))))) [some (.ref p), some (.str [97, 98]), some (.ref w), some (.int d), some (.str [114, 111, 119]), some (.int (k : Int)), none, none] big 0 M3 = .ok ys M4 ∧
            (Dr p M3 M4 ∧ ∃ ts : List Tl, ys = ts.map Tl.enc ∧ (∀ t ∈ ts, okT t = true ∧ t.size ≤ 3 ^ (d - 1 - 1) ∧ t.dep ≤ d - 1) ∧ ts.length = (rngD 0 k 1).length) := by
          refine lc_inv (its := rngD 0 k 1) (fun i ys M4 => Dr p M3 M4 ∧ ∃ ts : List Tl, ys = ts.map Tl.enc ∧ (∀ t ∈ ts, okT t = true ∧ t.size ≤ 3 ^ (d - 1 - 1) ∧ t.dep ≤ d - 1) ∧ ts.length = i) (by rw [rngD_len]; exact big_gt (by omega)) ⟨Dr.refl d3.pot, [], rfl, by simp, rfl⟩ (fun i ys M4 _ _ => srcR_is i) (fun i ys M4 x hx hP => ?_)
          obtain ⟨dr, ts, rfl, hts, hl⟩ := hP
          obtain ⟨t, M5, e5, d5, o5, s5, q5⟩ := f_law_time hw f (d - 1) (by omega) (by omega) (by omega) M4 dr.pot ((D3.trans dr).old w _ hw hM)
          refine ⟨_, _, M4, rfl, .inr ⟨rfl, t.enc, M5, ?_, dr.trans d5, ts ++ [t], by rw [List.map_append]; rfl, fun u hu => ?_, by rw [List.length_append, hl]; rfl⟩⟩
          · simp! [hsub, e5]
          · rcases List.mem_append.mp hu with hu | hu
            · exact hts u hu
            · rw [List.mem_singleton.mp hu]
              exact ⟨o5, s5, q5⟩
        obtain ⟨ys, M4, e4, d4, ts, rfl, hts, hl⟩ := key
        rw [rngD_len] at hl
        have hne : ts ≠ [] := by
          intro z
          rw [z] at hl
          simp at hl
          omega
        have hok : ∀ t ∈ ts, okT t = true := fun t ht => (hts t ht).1
        have hsz : sizes ts ≤ ts.length * 3 ^ (d - 1 - 1) := by
          clear hl hne e4 hok
          induction ts with
          | nil => exact Nat.zero_le _
          | cons t r ih =>
            rw [sizes, List.length_cons, Nat.succ_mul]
            have a := ih fun u hu => hts u (List.mem_cons_of_mem _ hu)
            have b := (hts t List.mem_cons_self).2.1
            omega
        have hsz2 : sizes ts ≤ 3 ^ (d - 1) := by
          rw [← pow3 (show 2 ≤ d by omega)]
          exact Nat.le_trans hsz (Nat.mul_le_mul_right _ (by omega))
        have hsz3 : 3 ^ (d - 1) ≤ 3 ^ 4 := Nat.pow_le_pow_right (by decide) (by omega)
        have hfl : (ts.flatMap spread).length ≤ 1000 := by
          have a := sizes_ge (ts.flatMap spread) fun u hu => by
            obtain ⟨t, ht, hu'⟩ := flat_mem hu
            exact (spread_ok (hok t ht) u hu').1
          rw [flat_sizes] at a
          have : (3 : Nat) ^ 4 = 81 := by decide
          omega
        have hnew : (M4 ++ [Ob.lst (ts.map Tl.enc)])[M4.length]? = some (.lst (ts.map Tl.enc)) := mem_new
        obtain ⟨X, e6⟩ := f_law_flat hnew (by omega) hne hok hfl
        have e6' : callF m_law_flat [.ref M4.length] (M4 ++ [Ob.lst (ts.map Tl.enc)]) = .ok (flatT ts).enc (M4 ++ ([Ob.lst (ts.map Tl.enc)] ++ X)) := by
          rw [call_ref rfl, e6, List.append_assoc]
        obtain ⟨o7, s7, q7⟩ := flatT_ok hne hok
        refine ⟨flatT ts, M4 ++ ([Ob.lst (ts.map Tl.enc)] ++ X), ?_, (D3.trans d4).trans (Dr.app d4.pot), o7, by rw [s7]; exact hsz2, ?_⟩
        · simp! [b_law_time, hgt, gw, hadd, e2, hm2, e3]
          rw [hv]
          simp! [aRng1n (show k ≤ 1000000 by omega), e4, aLc2 (show (ts.map Tl.enc).length ≤ 16777216 by rw [List.length_map]; omega), e6']
        · have := deps_le fun t ht => (hts t ht).2.2
          omega
      · -- on
        obtain ⟨t, M5, e5, d5, o5, s5, q5⟩ := f_law_time hw f (d - 1) (by omega) (by omega) (by omega) M2 D2.pot (D2.old w _ hw hM)
        refine ⟨.one true t, M5, ?_, D2.trans d5, by rw [okT, o5]; rfl, ?_, by rw [Tl.dep]; omega⟩
        · simp! [b_law_time, hgt, gw, hadd, e2, hsub, e5, Tl.enc, wordO]
        · rw [Tl.size, ← pow3 (show 2 ≤ d by omega)]
          have : 1 ≤ 3 ^ (d - 1 - 1) := Nat.one_le_pow _ _ (by decide)
          omega
end K56
set_option maxRecDepth 100000
set_option maxHeartbeats 4000000
namespace K56
open PySem G
local macro_rules
  | `(tactic| simp! [$xs,*]) => `(tactic| simp only [v0, vS, aC, aOp, aOp1, aOp2, aOf, aUn, aUn1, aNil, aCons, aCons1, aCons2, aCB, aCB1, aTup, aTup1, aLst, aLst1, aTru, aTru1, aTru2, aTst, aTst1, aAndT, aAndT1, aAndT2, aOrT, aOrT1, aOrT2, aNotT, aNotT1, aAnd, aAnd1, aAnd2, aAnd3, aOr, aOr1, aOr2, aOr3, aNot, aNot1, aNot2, aIf, aIf1, aIf2, aCh, aCh0, aCh1, aCh2, aCh3, aCh4, aCall, aCall1, aCallK, aCallK1, aCallK2, aNP, aPart, aPart1, aSl, aSl1, aSl2, aSl3, aMt, aMt1, aMt2, aMt3, aPr0, aPr, aPr1, aPr2, aPr3, aDisp, aDisp1, aEmp, aSeqI, aSeqI1, aSeqI2, aRng1, aEn, aZip, aRng2, aRngD, afI, aLc, aLc1, aLc2, aW0, aW1, aSkip, aSeq, aSeq1, aSeq2, aSeq3, aSeq4, aExpr, aExpr1, aRet, aRet1, aRetN, aBrk, aCnt, aIfS, aIfS1, aIfS2, aSet, aSet1, aPar, aPar1, aPar3, aPar31, aAsg, aAsg1, aAsg2, aFor, aFor1, aRun, aRun1, aRun2, tName, tUnp, tsNil, tsCons, tsCons1, tr_bl, tr_non, tr_int, tr_tup, tr_str,
      List.map_cons, List.map_nil, List.length_cons, List.length_nil, Nat.reduceAdd, Nat.reduceSub, Nat.zero_add, List.replicate, List.cons_append, List.nil_append, List.set_cons_zero, List.set_cons_succ, Nat.reduceLeDiff, Bool.not_true, Bool.not_false, if_true, if_false, ↓reduceIte, G.oAddI, G.oSubI, G.oLeI, G.oGtI, G.oGeI, G.oIsB, G.oIsntB, G.oIsN, G.oIsntN, G.oLenT, G.oLenR, G.oLenS, oIsi, oIsi1, iNon, iBl, iInt, iStr, iTup, iRol, G.tSub, G.tSub1, G.tSub2, G.tSub3, G.oInt, G.oAbs, G.oMax2, G.oPow30, G.oPow18, G.oPow9, G.oEqI, G.oNeI, G.oLtI, isNon, Bool.true_and, Bool.and_true, Bool.false_and, Bool.and_false, Bool.true_or, Bool.false_or, Bool.or_true, Bool.or_false, Bool.not_not, Bool.false_eq_true, G.sT, G.sR, G.sS, Int.cast_ofNat_Int, List.append_assoc, List.length_append, memAt0, memAt, List.getElem?_cons_zero, List.getElem?_cons_succ, xLen, xLen1, xLen2, xLis1, xLst, xSeq, xSeqT, xSeqR, xTup, xTup1, xLis, xLis2, xAll, xAny, xAll0, xAll1, xSum, xSum0, xSum1, xEn, xEn1, xEnR, xSrc, xSrc1, xIx, xIxA, xIxS, xIxI, xIx1, xIxT, xIxR, at0, at1, at2, xAdd, xMul, xRev, xRev1, xCut, xCut1, xCutT, xCutS, xIsi, xIsi1, xIsi2, xTyL, xTyL1, xApp, xExt, G.oRevT, setAt0, setAt, eW_on_on, eW_on_fr, eW_on_ro, eW_on_mi, eW_on_le, eW_fr_on, eW_fr_fr, eW_fr_ro, eW_fr_mi, eW_fr_le, eW_ro_on, eW_ro_fr, eW_ro_ro, eW_ro_mi, eW_ro_le, eW_mi_on, eW_mi_fr, eW_mi_ro, eW_mi_mi, eW_mi_le, eW_le_on, eW_le_fr, eW_le_ro, eW_le_mi, eW_le_le, iW_on_on, iW_on_onn, iW_on_ro, iW_on_ron, iW_fr_on, iW_fr_onn, iW_fr_ro, iW_fr_ron, iW_ro_on, iW_ro_onn, iW_ro_ro, iW_ro_ron, iW_mi_on, iW_mi_onn, iW_mi_ro, iW_mi_ron, iW_le_on, iW_le_onn, iW_le_ro, iW_le_ron, decide_true, decide_false, Int.reduceEq, Int.reduceLT, Int.reduceLE, Int.reduceAdd, Int.reduceSub, Int.reduceMul, Int.reducePow, Int.reduceNeg, Int.reduceNe, $xs,*])
  | `(tactic| simp! [$xs,*] at $h:ident) => `(tactic| simp only [v0, vS, aC, aOp, aOp1, aOp2, aOf, aUn, aUn1, aNil, aCons, aCons1, aCons2, aCB, aCB1, aTup, aTup1, aLst, aLst1, aTru, aTru1, aTru2, aTst, aTst1, aAndT, aAndT1, aAndT2, aOrT, aOrT1, aOrT2, aNotT, aNotT1, aAnd, aAnd1, aAnd2, aAnd3, aOr, aOr1, aOr2, aOr3, aNot, aNot1, aNot2, aIf, aIf1, aIf2, aCh, aCh0, aCh1, aCh2, aCh3, aCh4, aCall, aCall1, aCallK, aCallK1, aCallK2, aNP, aPart, aPart1, aSl, aSl1, aSl2, aSl3, aMt, aMt1, aMt2, aMt3, aPr0, aPr, aPr1, aPr2, aPr3, aDisp, aDisp1, aEmp, aSeqI, aSeqI1, aSeqI2, aRng1, aEn, aZip, aRng2, aRngD, afI, aLc, aLc1, aLc2, aW0, aW1, aSkip, aSeq, aSeq1, aSeq2, aSeq3, aSeq4, aExpr, aExpr1, aRet, aRet1, aRetN, aBrk, aCnt, aIfS, aIfS1, aIfS2, aSet, aSet1, aPar, aPar1, aPar3, aPar31, aAsg, aAsg1, aAsg2, aFor, aFor1, aRun, aRun1, aRun2, tName, tUnp, tsNil, tsCons, tsCons1, tr_bl, tr_non, tr_int, tr_tup, tr_str,
      List.map_cons, List.map_nil, List.length_cons, List.length_nil, Nat.reduceAdd, Nat.reduceSub, Nat.zero_add, List.replicate, List.cons_append, List.nil_append, List.set_cons_zero, List.set_cons_succ, Nat.reduceLeDiff, Bool.not_true, Bool.not_false, if_true, if_false, ↓reduceIte, G.oAddI, G.oSubI, G.oLeI, G.oGtI, G.oGeI, G.oIsB, G.oIsntB, G.oIsN, G.oIsntN, G.oLenT, G.oLenR, G.oLenS, oIsi, oIsi1, iNon, iBl, iInt, iStr, iTup, iRol, G.tSub, G.tSub1, G.tSub2, G.tSub3, G.oInt, G.oAbs, G.oMax2, G.oPow30, G.oPow18, G.oPow9, G.oEqI, G.oNeI, G.oLtI, isNon, Bool.true_and, Bool.and_true, Bool.false_and, Bool.and_false, Bool.true_or, Bool.false_or, Bool.or_true, Bool.or_false, Bool.not_not, Bool.false_eq_true, G.sT, G.sR, G.sS, Int.cast_ofNat_Int, List.append_assoc, List.length_append, memAt0, memAt, List.getElem?_cons_zero, List.getElem?_cons_succ, xLen, xLen1, xLen2, xLis1, xLst, xSeq, xSeqT, xSeqR, xTup, xTup1, xLis, xLis2, xAll, xAny, xAll0, xAll1, xSum, xSum0, xSum1, xEn, xEn1, xEnR, xSrc, xSrc1, xIx, xIxA, xIxS, xIxI, xIx1, xIxT, xIxR, at0, at1, at2, xAdd, xMul, xRev, xRev1, xCut, xCut1, xCutT, xCutS, xIsi, xIsi1, xIsi2, xTyL, xTyL1, xApp, xExt, G.oRevT, setAt0, setAt, eW_on_on, eW_on_fr, eW_on_ro, eW_on_mi, eW_on_le, eW_fr_on, eW_fr_fr, eW_fr_ro, eW_fr_mi, eW_fr_le, eW_ro_on, eW_ro_fr, eW_ro_ro, eW_ro_mi, eW_ro_le, eW_mi_on, eW_mi_fr, eW_mi_ro, eW_mi_mi, eW_mi_le, eW_le_on, eW_le_fr, eW_le_ro, eW_le_mi, eW_le_le, iW_on_on, iW_on_onn, iW_on_ro, iW_on_ron, iW_fr_on, iW_fr_onn, iW_fr_ro, iW_fr_ron, iW_ro_on, iW_ro_onn, iW_ro_ro, iW_ro_ron, iW_mi_on, iW_mi_onn, iW_mi_ro, iW_mi_ron, iW_le_on, iW_le_onn, iW_le_ro, iW_le_ron, decide_true, decide_false, Int.reduceEq, Int.reduceLT, Int.reduceLE, Int.reduceAdd, Int.reduceSub, Int.reduceMul, Int.reducePow, Int.reduceNeg, Int.reduceNe, $xs,*] at $h:ident)
/-! the program's look at timelines -/
theorem oInS {M : Mem} {c : Nat} {t : List Nat} : inM false (.str [c]) (.str t) M = some (.bl (decide (c ∈ t)), M) := rfl
theorem alpha_mem {c : Nat} (h1 : 97 ≤ c) (h2 : c ≤ 122) : c ∈ [97, 98, 99, 100, 101, 102, 103, 104, 105, 106, 107, 108, 109, 110, 111, 112, 113, 114, 115, 116, 117, 118, 119, 120, 121, 122] := by
  simp only [List.mem_cons, List.not_mem_nil, or_false]
  omega
theorem c_small_letter {M : Mem} {c : Nat} (h1 : 97 ≤ c) (h2 : c ≤ 122) : callF m_is_small [.str [c], .int 1, .int 1] M = .ok (.bl true) M := by
  refine call_pure (M' := [.lst [.bl true]]) rfl rfl ?_
  simp! [m_is_small, b_is_small]
  have hc : decide (c ∈ [97, 98, 99, 100, 101, 102, 103, 104, 105, 106, 107, 108, 109, 110, 111, 112, 113, 114, 115, 116, 117, 118, 119, 120, 121, 122]) = true := decide_eq_true (alpha_mem h1 h2)
  rw [lc_map (its := [.str [c]]) (fun _ => .bl true) (big_gt (by simp)) (fun i => srcC_is (s := [c]) i) (fun d hd => by
    rw [List.mem_singleton.mp hd]
    refine ⟨_, rfl, rfl, ?_⟩
    simp! [c_ALPHABET, oInS, hc])]
  simp! [bolsM, allB, List.all_cons, List.all_nil, id]
theorem c_small_tup {M : Mem} {xs : List D} (h : noRefs xs = true) : callF m_is_small [.tup xs, .int 1, .int 1] M = .ok (.bl false) M := by
  refine call_pure (M' := []) ?_ rfl ?_
  · show (noRefs xs && _) = true
    rw [h]
    rfl
  · simp! [m_is_small, b_is_small]
theorem c_letter {M : Mem} {c : Nat} (h1 : 97 ≤ c) (h2 : c ≤ 122) : callF m_is_letter_value [.str [c]] M = .ok (.bl true) M := by
  refine call_pure (M' := []) rfl rfl ?_
  simp! [m_is_letter_value, b_is_letter_value, c_small_letter h1 h2]
theorem c_letter_tup {M : Mem} {xs : List D} (h : noRefs xs = true) : callF m_is_letter_value [.tup xs] M = .ok (.bl false) M := by
  refine call_pure (M' := []) ?_ rfl ?_
  · show (noRefs xs && _) = true
    rw [h]
    rfl
  · simp! [m_is_letter_value, b_is_letter_value, c_small_tup h]
theorem c_are_parts {M : Mem} {xs : List D} {k : Nat} (h : noRefs xs = true) (h1 : k ≤ xs.length) (h2 : xs.length ≤ 100) : callF m_are_parts [.tup xs, .int k] M = .ok (.bl true) M := by
  refine call_pure (M' := []) ?_ rfl ?_
  · show (noRefs xs && _) = true
    rw [h]
    rfl
  · have z1 : decide ((k : Int) ≤ (xs.length : Int)) = true := decide_eq_true (by omega)
    have z2 : decide ((xs.length : Int) ≤ 100) = true := decide_eq_true (by omega)
    simp! [m_are_parts, b_are_parts, z1, c_MOST_SIZE, z2]
/-! dicts of letters -/
def pr (c : List Nat) : D × D := (.str c, .bl true)
def mergeN (a b : List (List Nat)) : List (List Nat) := b.foldl (fun acc c => if c ∈ acc then acc else acc ++ [c]) a
theorem dHas_pr (c : List Nat) : ∀ a : List (List Nat), dHas (a.map pr) (.str c) = decide (c ∈ a)
  | [] => by simp [dHas]
  | x :: a => by
    rw [List.map_cons]
    show (if kEq (.str x) (.str c) = true then true else dHas (a.map pr) (.str c)) = _
    rw [dHas_pr c a]
    by_cases h : x = c
    · subst h
      simp [kEq]
    · have : kEq (.str x) (.str c) = false := by simp [kEq, h]
      rw [this]
      simp [show ¬ c = x from fun z => h z.symm]
theorem dSet_pr (c : List Nat) : ∀ a : List (List Nat), dSet (a.map pr) (.str c) (.bl true) = a.map pr
  | [] => rfl
  | x :: a => by
    rw [List.map_cons]
    show (D.str x, if kEq (.str x) (.str c) = true then D.bl true else D.bl true) :: dSet (a.map pr) (.str c) (.bl true) = _
    rw [dSet_pr c a, ite_self]
    rfl
theorem dMerge_pr : ∀ (b a : List (List Nat)), dMerge (a.map pr) (b.map pr) = (mergeN a b).map pr
  | [], a => rfl
  | c :: b, a => by
    rw [List.map_cons]
    show dMerge (dPut (a.map pr) (.str c) (.bl true)) (b.map pr) = (mergeN (if c ∈ a then a else a ++ [c]) b).map pr
    rw [← dMerge_pr b]
    congr 1
    unfold dPut
    rw [dHas_pr, dSet_pr]
    by_cases h : c ∈ a
    · rw [if_pos (decide_eq_true h), if_pos h]
    · rw [if_neg (by rw [decide_eq_false h]; exact Bool.false_ne_true), if_neg h, List.map_append]
      rfl
theorem mergeN_nodup : ∀ (b a : List (List Nat)), a.Nodup → (mergeN a b).Nodup
  | [], a, h => h
  | c :: b, a, h => by
    show (mergeN (if c ∈ a then a else a ++ [c]) b).Nodup
    refine mergeN_nodup b _ ?_
    split
    · exact h
    · rename_i hc
      rw [List.nodup_append]
      refine ⟨h, by simp, fun x hx y hy => ?_⟩
      rw [List.mem_singleton.mp hy]
      intro z
      rw [z] at hx
      exact hc hx
theorem mergeN_sub {A : List (List Nat)} : ∀ (b a : List (List Nat)), (∀ c ∈ a, c ∈ A) → (∀ c ∈ b, c ∈ A) → ∀ c ∈ mergeN a b, c ∈ A
  | [], a, h, _, c, hc => h c hc
  | x :: b, a, h, hb, c, hc => by
    refine mergeN_sub b (if x ∈ a then a else a ++ [x]) (fun y hy => ?_) (fun y hy => hb y (List.mem_cons_of_mem _ hy)) c hc
    split at hy
    · exact h y hy
    · rcases List.mem_append.mp hy with z | z
      · exact h y z
      · rw [List.mem_singleton.mp z]
        exact hb x List.mem_cons_self
theorem nodup_le {A : List (List Nat)} : ∀ {cs : List (List Nat)}, cs.Nodup → (∀ c ∈ cs, c ∈ A) → cs.length ≤ A.length := by
  induction A with
  | nil =>
    intro cs _ h
    cases cs with
    | nil => exact Nat.le_refl _
    | cons c r => exact absurd (h c List.mem_cons_self) (by simp)
  | cons a A ih =>
    intro cs hn h
    have h1 := ih (cs := cs.filter (fun c => !decide (c = a))) (hn.filter _) (fun c hc => by
      have hm := List.mem_filter.mp hc
      rcases List.mem_cons.mp (h c hm.1) with z | z
      · rw [z] at hm
        simp at hm
      · exact z)
    have h2 : cs.length ≤ (cs.filter (fun c => !decide (c = a))).length + 1 := by
      clear ih h h1
      induction cs with
      | nil => simp
      | cons c r ih =>
        have hc := List.nodup_cons.mp hn
        by_cases e : c = a
        · have hr : r.filter (fun c => !decide (c = a)) = r := List.filter_eq_self.mpr fun x hx => by
            have : x ≠ a := fun z => by
              rw [← e] at z
              rw [z] at hx
              exact hc.1 hx
            simp [this]
          rw [List.filter_cons]
          simp [e, hr]
        · have := ih hc.2
          rw [List.filter_cons]
          simp only [e, decide_false, Bool.not_false, if_true, List.length_cons]
          omega
    rw [List.length_cons]
    omega
theorem shP_pr {k : Nat} : ∀ cs : List (List Nat), shP k (cs.map pr) = cs.map pr
  | [] => rfl
  | c :: cs => by
    rw [List.map_cons]
    show (D.str c, D.bl true) :: shP k (cs.map pr) = _
    rw [shP_pr cs]
    rfl
mutual
def ltrIn (A : List (List Nat)) : Tl → Bool
  | .ltr c => decide ([c] ∈ A)
  | .one _ t => ltrIn A t
  | .many _ ts => ltrsIn A ts
def ltrsIn (A : List (List Nat)) : List Tl → Bool
  | [] => true
  | t :: ts => ltrIn A t && ltrsIn A ts
end
theorem ltrsIn_mem {A : List (List Nat)} : ∀ {ts : List Tl}, ltrsIn A ts = true → ∀ t ∈ ts, ltrIn A t = true
  | t :: ts, h, u, hu => by
    rw [ltrsIn, Bool.and_eq_true] at h
    rcases List.mem_cons.mp hu with e | e
    · rw [e]; exact h.1
    · exact ltrsIn_mem h.2 u e
/-- what measures tells of a timeline -/
def Told (A : List (List Nat)) (t : Tl) (r : R D) (M : Mem) : Prop := ∃ (n : Nat) (M' : Mem) (cs : List (List Nat)), r = .ok (.tup [.int t.size, .int t.dep, .ref n]) M' ∧ M'[n]? = some (.dic false (cs.map pr)) ∧ cs.Nodup ∧ (∀ c ∈ cs, c ∈ A) ∧ M.length ≤ n ∧ ∀ (i : Nat) (o : Ob), M[i]? = some o → M'[i]? = some o
theorem told_call {A : List (List Nat)} {t : Tl} {F : Fn} {d : Nat} (h : Told A t (F [t.enc, .int d] []) []) (M : Mem) : Told A t (callF F [t.enc, .int d] M) M := by
  obtain ⟨n, M', cs, e, hn, h1, h2, _, _⟩ := h
  have hr : noRefs [t.enc, .int d] = true := by
    show (noRef t.enc && _) = true
    rw [noRef_enc]
    rfl
  refine ⟨M.length + n, M ++ M'.map (shO M.length), cs, call_new hr rfl e, ?_, h1, h2, by omega, fun i o e => mem_old e⟩
  rw [memAt, List.getElem?_map, hn]
  show some (shO M.length (.dic false (cs.map pr))) = _
  rw [show shO M.length (.dic false (cs.map pr)) = .dic false (shP M.length (cs.map pr)) from rfl, shP_pr]
theorem updPr {M : Mem} {i j : Nat} {a b : List (List Nat)} (hi : M[i]? = some (.dic false (a.map pr))) (hj : M[j]? = some (.dic false (b.map pr))) (hne : i ≠ j) (hl : a.length + b.length ≤ 16777216) : updM (.ref i) [.ref j] M = some (.non, M.set i (.dic false ((mergeN a b).map pr))) := by
  show (if i = j then none else match M[i]? with | some (.dic false xs) => (match M[j]? with | some (.dic false ys) => (if xs.length + ys.length ≤ 16777216 then some (D.non, M.set i (.dic false (dMerge xs ys))) else none) | _ => none) | _ => none) = _
  rw [if_neg hne, hi]
  dsimp only
  rw [hj]
  dsimp only
  rw [if_pos (by rw [List.length_map, List.length_map]; exact hl), dMerge_pr]
theorem dep_pos : ∀ t : Tl, 1 ≤ t.dep
  | .ltr _ => Nat.le_refl _
  | .one _ t => by rw [Tl.dep]; omega
  | .many _ ts => by rw [Tl.dep]; omega
theorem wf_size : ∀ t : Tl, t.wf = true → 1 ≤ t.size
  | .ltr _, _ => Nat.le_refl _
  | .one _ t, _ => by rw [Tl.size]; omega
  | .many w ts, h => by
    rw [Tl.wf, Bool.and_eq_true] at h
    have hne : 1 ≤ ts.length := by
      have h2 := h.2
      cases w with
      | true =>
        simp only [if_true, Bool.and_eq_true] at h2
        have := of_decide_eq_true h2.1
        omega
      | false => exact of_decide_eq_true h2
    cases ts with
    | nil => simp at hne
    | cons t r =>
      have h1 := h.1
      rw [wfs, Bool.and_eq_true] at h1
      have := wf_size t h1.1
      rw [Tl.size, sizes]
      omega
theorem wf_sizes : ∀ ts : List Tl, wfs ts = true → ts.length ≤ sizes ts
  | [], _ => Nat.zero_le _
  | t :: ts, h => by
    rw [wfs, Bool.and_eq_true] at h
    have h1 := wf_sizes ts h.2
    have h2 := wf_size t h.1
    rw [List.length_cons, sizes]
    omega
end K56
set_option maxRecDepth 100000
set_option maxHeartbeats 4000000
namespace K56
open PySem G
local macro_rules
  | `(tactic| simp! [$xs,*]) => `(tactic| simp only [v0, vS, aC, aOp, aOp1, aOp2, aOf, aUn, aUn1, aNil, aCons, aCons1, aCons2, aCB, aCB1, aTup, aTup1, aLst, aLst1, aTru, aTru1, aTru2, aTst, aTst1, aAndT, aAndT1, aAndT2, aOrT, aOrT1, aOrT2, aNotT, aNotT1, aAnd, aAnd1, aAnd2, aAnd3, aOr, aOr1, aOr2, aOr3, aNot, aNot1, aNot2, aIf, aIf1, aIf2, aCh, aCh0, aCh1, aCh2, aCh3, aCh4, aCall, aCall1, aCallK, aCallK1, aCallK2, aNP, aPart, aPart1, aSl, aSl1, aSl2, aSl3, aMt, aMt1, aMt2, aMt3, aPr0, aPr, aPr1, aPr2, aPr3, aDisp, aDisp1, aEmp, aSeqI, aSeqI1, aSeqI2, aRng1, aEn, aZip, aRng2, aRngD, afI, aLc, aLc1, aLc2, aW0, aW1, aSkip, aSeq, aSeq1, aSeq2, aSeq3, aSeq4, aExpr, aExpr1, aRet, aRet1, aRetN, aBrk, aCnt, aIfS, aIfS1, aIfS2, aSet, aSet1, aPar, aPar1, aPar3, aPar31, aAsg, aAsg1, aAsg2, aFor, aFor1, aRun, aRun1, aRun2, tName, tUnp, tsNil, tsCons, tsCons1, tr_bl, tr_non, tr_int, tr_tup, tr_str,
      List.map_cons, List.map_nil, List.length_cons, List.length_nil, Nat.reduceAdd, Nat.reduceSub, Nat.zero_add, List.replicate, List.cons_append, List.nil_append, List.set_cons_zero, List.set_cons_succ, Nat.reduceLeDiff, Bool.not_true, Bool.not_false, if_true, if_false, ↓reduceIte, G.oAddI, G.oSubI, G.oLeI, G.oGtI, G.oGeI, G.oIsB, G.oIsntB, G.oIsN, G.oIsntN, G.oLenT, G.oLenR, G.oLenS, oIsi, oIsi1, iNon, iBl, iInt, iStr, iTup, iRol, G.tSub, G.tSub1, G.tSub2, G.tSub3, G.oInt, G.oAbs, G.oMax2, G.oPow30, G.oPow18, G.oPow9, G.oEqI, G.oNeI, G.oLtI, isNon, Bool.true_and, Bool.and_true, Bool.false_and, Bool.and_false, Bool.true_or, Bool.false_or, Bool.or_true, Bool.or_false, Bool.not_not, Bool.false_eq_true, G.sT, G.sR, G.sS, Int.cast_ofNat_Int, List.append_assoc, List.length_append, memAt0, memAt, List.getElem?_cons_zero, List.getElem?_cons_succ, xLen, xLen1, xLen2, xLis1, xLst, xSeq, xSeqT, xSeqR, xTup, xTup1, xLis, xLis2, xAll, xAny, xAll0, xAll1, xSum, xSum0, xSum1, xEn, xEn1, xEnR, xSrc, xSrc1, xIx, xIxA, xIxS, xIxI, xIx1, xIxT, xIxR, at0, at1, at2, xAdd, xMul, xRev, xRev1, xCut, xCut1, xCutT, xCutS, xIsi, xIsi1, xIsi2, xTyL, xTyL1, xApp, xExt, G.oRevT, setAt0, setAt, eW_on_on, eW_on_fr, eW_on_ro, eW_on_mi, eW_on_le, eW_fr_on, eW_fr_fr, eW_fr_ro, eW_fr_mi, eW_fr_le, eW_ro_on, eW_ro_fr, eW_ro_ro, eW_ro_mi, eW_ro_le, eW_mi_on, eW_mi_fr, eW_mi_ro, eW_mi_mi, eW_mi_le, eW_le_on, eW_le_fr, eW_le_ro, eW_le_mi, eW_le_le, iW_on_on, iW_on_onn, iW_on_ro, iW_on_ron, iW_fr_on, iW_fr_onn, iW_fr_ro, iW_fr_ron, iW_ro_on, iW_ro_onn, iW_ro_ro, iW_ro_ron, iW_mi_on, iW_mi_onn, iW_mi_ro, iW_mi_ron, iW_le_on, iW_le_onn, iW_le_ro, iW_le_ron, decide_true, decide_false, Int.reduceEq, Int.reduceLT, Int.reduceLE, Int.reduceAdd, Int.reduceSub, Int.reduceMul, Int.reducePow, Int.reduceNeg, Int.reduceNe, $xs,*])
  | `(tactic| simp! [$xs,*] at $h:ident) => `(tactic| simp only [v0, vS, aC, aOp, aOp1, aOp2, aOf, aUn, aUn1, aNil, aCons, aCons1, aCons2, aCB, aCB1, aTup, aTup1, aLst, aLst1, aTru, aTru1, aTru2, aTst, aTst1, aAndT, aAndT1, aAndT2, aOrT, aOrT1, aOrT2, aNotT, aNotT1, aAnd, aAnd1, aAnd2, aAnd3, aOr, aOr1, aOr2, aOr3, aNot, aNot1, aNot2, aIf, aIf1, aIf2, aCh, aCh0, aCh1, aCh2, aCh3, aCh4, aCall, aCall1, aCallK, aCallK1, aCallK2, aNP, aPart, aPart1, aSl, aSl1, aSl2, aSl3, aMt, aMt1, aMt2, aMt3, aPr0, aPr, aPr1, aPr2, aPr3, aDisp, aDisp1, aEmp, aSeqI, aSeqI1, aSeqI2, aRng1, aEn, aZip, aRng2, aRngD, afI, aLc, aLc1, aLc2, aW0, aW1, aSkip, aSeq, aSeq1, aSeq2, aSeq3, aSeq4, aExpr, aExpr1, aRet, aRet1, aRetN, aBrk, aCnt, aIfS, aIfS1, aIfS2, aSet, aSet1, aPar, aPar1, aPar3, aPar31, aAsg, aAsg1, aAsg2, aFor, aFor1, aRun, aRun1, aRun2, tName, tUnp, tsNil, tsCons, tsCons1, tr_bl, tr_non, tr_int, tr_tup, tr_str,
      List.map_cons, List.map_nil, List.length_cons, List.length_nil, Nat.reduceAdd, Nat.reduceSub, Nat.zero_add, List.replicate, List.cons_append, List.nil_append, List.set_cons_zero, List.set_cons_succ, Nat.reduceLeDiff, Bool.not_true, Bool.not_false, if_true, if_false, ↓reduceIte, G.oAddI, G.oSubI, G.oLeI, G.oGtI, G.oGeI, G.oIsB, G.oIsntB, G.oIsN, G.oIsntN, G.oLenT, G.oLenR, G.oLenS, oIsi, oIsi1, iNon, iBl, iInt, iStr, iTup, iRol, G.tSub, G.tSub1, G.tSub2, G.tSub3, G.oInt, G.oAbs, G.oMax2, G.oPow30, G.oPow18, G.oPow9, G.oEqI, G.oNeI, G.oLtI, isNon, Bool.true_and, Bool.and_true, Bool.false_and, Bool.and_false, Bool.true_or, Bool.false_or, Bool.or_true, Bool.or_false, Bool.not_not, Bool.false_eq_true, G.sT, G.sR, G.sS, Int.cast_ofNat_Int, List.append_assoc, List.length_append, memAt0, memAt, List.getElem?_cons_zero, List.getElem?_cons_succ, xLen, xLen1, xLen2, xLis1, xLst, xSeq, xSeqT, xSeqR, xTup, xTup1, xLis, xLis2, xAll, xAny, xAll0, xAll1, xSum, xSum0, xSum1, xEn, xEn1, xEnR, xSrc, xSrc1, xIx, xIxA, xIxS, xIxI, xIx1, xIxT, xIxR, at0, at1, at2, xAdd, xMul, xRev, xRev1, xCut, xCut1, xCutT, xCutS, xIsi, xIsi1, xIsi2, xTyL, xTyL1, xApp, xExt, G.oRevT, setAt0, setAt, eW_on_on, eW_on_fr, eW_on_ro, eW_on_mi, eW_on_le, eW_fr_on, eW_fr_fr, eW_fr_ro, eW_fr_mi, eW_fr_le, eW_ro_on, eW_ro_fr, eW_ro_ro, eW_ro_mi, eW_ro_le, eW_mi_on, eW_mi_fr, eW_mi_ro, eW_mi_mi, eW_mi_le, eW_le_on, eW_le_fr, eW_le_ro, eW_le_mi, eW_le_le, iW_on_on, iW_on_onn, iW_on_ro, iW_on_ron, iW_fr_on, iW_fr_onn, iW_fr_ro, iW_fr_ron, iW_ro_on, iW_ro_onn, iW_ro_ro, iW_ro_ron, iW_mi_on, iW_mi_onn, iW_mi_ro, iW_mi_ron, iW_le_on, iW_le_onn, iW_le_ro, iW_le_ron, decide_true, decide_false, Int.reduceEq, Int.reduceLT, Int.reduceLE, Int.reduceAdd, Int.reduceSub, Int.reduceMul, Int.reducePow, Int.reduceNeg, Int.reduceNe, $xs,*] at $h:ident)
theorem deps_app : ∀ a b : List Tl, deps (a ++ b) = max (deps a) (deps b)
  | [], b => by rw [List.nil_append, deps]; omega
  | t :: a, b => by rw [List.cons_append, deps, deps, deps_app a b]; omega
theorem sizes_take {ts : List Tl} {i : Nat} (h : i < ts.length) : sizes (ts.take (i + 1)) = sizes (ts.take i) + ts[i].size := by
  rw [List.take_add_one, List.getElem?_eq_getElem h, sizes_app]
  show _ = _
  rw [show (some ts[i]).toList = [ts[i]] from rfl, sizes, sizes]
  omega
theorem deps_take {ts : List Tl} {i : Nat} (h : i < ts.length) : deps (ts.take (i + 1)) = max (deps (ts.take i)) ts[i].dep := by
  rw [List.take_add_one, List.getElem?_eq_getElem h, deps_app]
  rw [show (some ts[i]).toList = [ts[i]] from rfl, deps, deps]
  omega
theorem sizes_take_le (ts : List Tl) (i : Nat) : sizes (ts.take i) ≤ sizes ts := by
  have e : sizes ts = sizes (ts.take i ++ ts.drop i) := by rw [List.take_append_drop]
  rw [e, sizes_app]
  omega
theorem loop_measures {A : List (List Nat)} {me : Fn} {d : Nat} {ts : List Tl} {sz0 : Nat} {v word told : D} {o4 o8 : Option D} {L : Nat} {M : Mem} (hd : 1 ≤ d) (hA : A.length ≤ 26) (IH : ∀ t ∈ ts, ∀ M, Told A t (callF me [t.enc, .int ((d - 1 : Nat) : Int)] M) M)
    (hs : sz0 + sizes ts ≤ 100) (hl : ts.length ≤ 100) (hL : M[L]? = some (.dic false (([] : List (List Nat)).map pr))) :
    ∃ ρ' M', forG (srcS (ts.map Tl.enc)) (gName' 8) (gSeq (gSet 4 (gCall me (gCons (gV 8) (gCons (gOp subM (gV 1) (gC (.int 1))) (gNil)))))
          (gSeq (gIfS (gTst (gOp (isM false) (gV 4) (gC .non))) (gRet (gC .non)) (gsSkip))
          (gSeq (gPar 5 6 (gCons (gOp addM (gV 5) (gOp ixM (gV 4) (gC (.int 0)))) (gCons (gCB maxN (gCons (gV 6) (gCons (gOp ixM (gV 4) (gC (.int 1))) (gNil)))) (gNil))))
          (gSeq (gExpr (gMt .dic updM (gV 7) (gCons (gOp ixM (gV 4) (gC (.int 2))) (gNil))))
          (gIfS (gTst (gOp (gtM) (gV 5) (gC c_MOST_SIZE))) (gRet (gC .non)) (gsSkip)))))) big 0 [some v, some (.int d), some word, some told, o4, some (.int sz0), some (.int 0), some (.ref L), o8] M = .ok (.nx ρ') M' ∧
      ∃ (o4 o8 : Option D) (cs : List (List Nat)), ρ' = [some v, some (.int d), some word, some told, o4, some (.int ((sz0 + sizes ts : Nat) : Int)), some (.int (deps ts)), some (.ref L), o8] ∧ M'[L]? = some (.dic false (cs.map pr)) ∧ cs.Nodup ∧ ∀ c ∈ cs, c ∈ A := by
  have q := for_inv (src := srcS (ts.map Tl.enc)) (its := ts.map Tl.enc) (tg := gName' 8) (M := M) (ρ := [some v, some (.int d), some word, some told, o4, some (.int sz0), some (.int 0), some (.ref L), o8])
    (b := gSeq (gSet 4 (gCall me (gCons (gV 8) (gCons (gOp subM (gV 1) (gC (.int 1))) (gNil)))))
          (gSeq (gIfS (gTst (gOp (isM false) (gV 4) (gC .non))) (gRet (gC .non)) (gsSkip))
          (gSeq (gPar 5 6 (gCons (gOp addM (gV 5) (gOp ixM (gV 4) (gC (.int 0)))) (gCons (gCB maxN (gCons (gV 6) (gCons (gOp ixM (gV 4) (gC (.int 1))) (gNil)))) (gNil))))
          (gSeq (gExpr (gMt .dic updM (gV 7) (gCons (gOp ixM (gV 4) (gC (.int 2))) (gNil))))
          (gIfS (gTst (gOp (gtM) (gV 5) (gC c_MOST_SIZE))) (gRet (gC .non)) (gsSkip))))))
    (fun i ρ M1 => ∃ (o4 o8 : Option D) (cs : List (List Nat)), ρ = [some v, some (.int d), some word, some told, o4, some (.int ((sz0 + sizes (ts.take i) : Nat) : Int)), some (.int (deps (ts.take i))), some (.ref L), o8] ∧ M1[L]? = some (.dic false (cs.map pr)) ∧ cs.Nodup ∧ ∀ c ∈ cs, c ∈ A)
    (by rw [List.length_map]; exact big_gt (by omega)) ⟨o4, o8, [], by simp [sizes, deps], hL, List.nodup_nil, by simp⟩ (fun _ _ _ _ _ => rfl) (fun i ρ M1 x hx hP => by
      obtain ⟨o4, o8, cs, rfl, h1, h2, h3⟩ := hP
      have hi : i < ts.length := by
        have := (List.getElem?_eq_some_iff.mp hx).1
        rw [List.length_map] at this
        exact this
      rw [List.getElem?_map, List.getElem?_eq_getElem hi] at hx
      cases hx
      obtain ⟨n, M2, ds, e, g1, g2, g3, g4, g5⟩ := IH ts[i] (List.getElem_mem hi) M1
      have hLlt : L < M1.length := (List.getElem?_eq_some_iff.mp h1).1
      have hLn : L ≠ n := by omega
      have hL2 := g5 L _ h1
      have hlen1 := nodup_le h2 h3
      have hlen2 := nodup_le g2 g3
      have hup := updPr hL2 g1 hLn (by omega)
      have hty : tyB .dic (.ref L) M2 = true := by simp only [tyB, hL2]
      have hsub : ((d : Int) - 1) = ((d - 1 : Nat) : Int) := by omega
      have hst := sizes_take hi
      have hdt := deps_take hi
      have hle := sizes_take_le ts (i + 1)
      have hsz : ((sz0 + sizes (ts.take i) : Nat) : Int) + (ts[i].size : Int) = ((sz0 + sizes (ts.take (i + 1)) : Nat) : Int) := by omega
      have hmx : (if (ts[i].dep : Int) > (deps (ts.take i) : Int) then (ts[i].dep : Int) else (deps (ts.take i) : Int)) = (deps (ts.take (i + 1)) : Int) := by
        rw [hdt]
        split <;> omega
      have hgt : decide ((100 : Int) < ((sz0 + sizes (ts.take (i + 1)) : Nat) : Int)) = false := decide_eq_false (by omega)
      have hnot : isNon (.tup [.int (ts[i].size : Int), .int (ts[i].dep : Int), .ref n]) = false := rfl
      refine ⟨_, _, [some v, some (.int d), some word, some told, some (.tup [.int ts[i].size, .int ts[i].dep, .ref n]), some (.int ((sz0 + sizes (ts.take (i + 1)) : Nat) : Int)), some (.int (deps (ts.take (i + 1)))), some (.ref L), some ts[i].enc], M2.set L (.dic false ((mergeN cs ds).map pr)), rfl, .inl ?_, _, _, mergeN cs ds, rfl, mem_set hL2, mergeN_nodup _ _ h2, mergeN_sub _ _ h3 g3⟩
      simp! [hsub, e, hnot, hsz, hmx, hty, hup, c_MOST_SIZE, hgt])
  obtain ⟨ρ', M', e1, o4, o8, cs, e2, e3, e4, e5⟩ := q
  rw [List.length_map, List.take_length] at e2
  exact ⟨ρ', M', e1, o4, o8, cs, e2, e3, e4, e5⟩
theorem f_measures {A : List (List Nat)} (hA : A.length ≤ 26) : ∀ (f d : Nat) (t : Tl), t.wf = true → ltrIn A t = true → t.dep ≤ d → d ≤ f → t.size ≤ 100 → Told A t (r_measures f [t.enc, .int d] []) []
  | 0, d, t, _, _, h1, h2, _ => by
    have := dep_pos t
    omega
  | f + 1, d, .ltr c, hw, hl, h1, h2, h3 => by
    rw [Tl.wf, Bool.and_eq_true] at hw
    have hc1 := of_decide_eq_true hw.1
    have hc2 := of_decide_eq_true hw.2
    refine ⟨0, [.dic false ([[c]].map pr)], [[c]], ?_, rfl, by simp, fun x hx => ?_, Nat.le_refl _, fun i o e => by cases e⟩
    · show runDef 9 (b_measures (r_measures f)) [(Tl.ltr c).enc, .int d] [] = _
      have hdisp : dispK (.ok [(.str [c], .bl true)] []) = .ok (.ref 0) [.dic false ([[c]].map pr)] := rfl
      simp! [b_measures, Tl.enc, c_letter hc1 hc2, hdisp, Tl.size, Tl.dep]
    · rw [List.mem_singleton.mp hx]
      exact of_decide_eq_true hl
  | f + 1, d, .one w t, hw, hl, h1, h2, h3 => by
    rw [Tl.dep] at h1
    rw [Tl.size] at h3
    have hp := dep_pos t
    obtain ⟨n, M', cs, e, g1, g2, g3, g4, g5⟩ := told_call (f_measures hA f (d - 1) t hw hl (by omega) (by omega) (by omega)) []
    refine ⟨n, M', cs, ?_, g1, g2, g3, g4, g5⟩
    show runDef 9 (b_measures (r_measures f)) [(Tl.one w t).enc, .int d] [] = _
    have hsub : ((d : Int) - 1) = ((d - 1 : Nat) : Int) := by omega
    have hlt : decide ((d : Int) < 2) = false := decide_eq_false (by omega)
    have hnr : noRefs [D.str (wordO w), t.enc] = true := by
      show (noRef t.enc && true) = true
      rw [noRef_enc]
      rfl
    have h2 : ∀ x y : D, callF m_is_tuple [.tup [x, y], .int 2] [] = .ok (.bl true) [] := fun x y => c_is_tuple (n := 2) rfl
    have hnot : isNon (.tup [.int (t.size : Int), .int (t.dep : Int), .ref n]) = false := rfl
    have hs1 : (t.size : Int) + 1 = ((t.size + 1 : Nat) : Int) := rfl
    have hd1 : (t.dep : Int) + 1 = ((t.dep + 1 : Nat) : Int) := rfl
    cases w with
    | true =>
      have hlet : callF m_is_letter_value [.tup [.str [111, 110], t.enc]] [] = .ok (.bl false) [] := c_letter_tup hnr
      simp! [b_measures, Tl.enc, hlet, hlt, h2, wordO, c_ON, c_FROM, hsub, e, hnot, Tl.size, Tl.dep, hs1, hd1]
    | false =>
      have hlet : callF m_is_letter_value [.tup [.str [102, 114, 111, 109], t.enc]] [] = .ok (.bl false) [] := c_letter_tup hnr
      simp! [b_measures, Tl.enc, hlet, hlt, h2, wordO, c_ON, c_FROM, hsub, e, hnot, Tl.size, Tl.dep, hs1, hd1]
  | f + 1, d, .many w ts, hw, hl, h1, h2, h3 => by
    rw [Tl.dep] at h1
    rw [Tl.size] at h3
    rw [Tl.wf, Bool.and_eq_true] at hw
    have hsz : (if w = true then 0 else 1) + sizes ts ≤ 100 := h3
    have hlen := wf_sizes ts hw.1
    have hl100 : ts.length ≤ 100 := by omega
    have hpos : 1 ≤ d := by omega
    have hd2 : 2 ≤ d := by
      cases ts with
      | nil =>
        cases w with
        | true =>
          have := hw.2
          simp at this
        | false =>
          have := hw.2
          simp at this
      | cons t r =>
        rw [deps] at h1
        have := dep_pos t
        omega
    have hlt : decide ((d : Int) < 2) = false := decide_eq_false (by omega)
    have hnr0 : noRefs (ts.map Tl.enc) = true := by
      rw [← encs_map]
      exact noRefs_encs ts
    have hnr : noRefs [D.str (wordM w), .tup (ts.map Tl.enc)] = true := by
      show (noRefs (ts.map Tl.enc) && true) = true
      rw [hnr0]
      rfl
    have h2t : ∀ (M : Mem) (x y : D), callF m_is_tuple [.tup [x, y], .int 2] M = .ok (.bl true) M := fun M x y => c_is_tuple (n := 2) rfl
    have hlm : (ts.map Tl.enc).length = ts.length := List.length_map _
    have IH : ∀ t ∈ ts, ∀ M, Told A t (callF (r_measures f) [t.enc, .int ((d - 1 : Nat) : Int)] M) M := fun t ht M => by
      have hdt := dep_in ht
      have hst := size_in ht
      exact told_call (f_measures hA f (d - 1) t (wfs_mem hw.1 t ht) (ltrsIn_mem hl t ht) (by omega) (by omega) (by omega)) M
    have hsub : ((d : Int) - 1) = ((d - 1 : Nat) : Int) := by omega
    have fin : ∀ (M : Mem) (o4 o8 : Option D), ∃ ρ' M', forG (srcS (ts.map Tl.enc)) (gName' 8) (gSeq (gSet 4 (gCall (r_measures f) (gCons (gV 8) (gCons (gOp subM (gV 1) (gC (.int 1))) (gNil)))))
          (gSeq (gIfS (gTst (gOp (isM false) (gV 4) (gC .non))) (gRet (gC .non)) (gsSkip))
          (gSeq (gPar 5 6 (gCons (gOp addM (gV 5) (gOp ixM (gV 4) (gC (.int 0)))) (gCons (gCB maxN (gCons (gV 6) (gCons (gOp ixM (gV 4) (gC (.int 1))) (gNil)))) (gNil))))
          (gSeq (gExpr (gMt .dic updM (gV 7) (gCons (gOp ixM (gV 4) (gC (.int 2))) (gNil))))
          (gIfS (gTst (gOp (gtM) (gV 5) (gC c_MOST_SIZE))) (gRet (gC .non)) (gsSkip)))))) big 0 [some (.tup [.str (wordM w), .tup (ts.map Tl.enc)]), some (.int d), some (.str (wordM w)), some (.tup (ts.map Tl.enc)), o4, some (.int ((if w = true then 0 else 1 : Nat) : Int)), some (.int 0), some (.ref M.length), o8] (M ++ [.dic false []]) = .ok (.nx ρ') M' ∧
        ∃ (o4 o8 : Option D) (cs : List (List Nat)), ρ' = [some (.tup [.str (wordM w), .tup (ts.map Tl.enc)]), some (.int d), some (.str (wordM w)), some (.tup (ts.map Tl.enc)), o4, some (.int ((Tl.many w ts).size : Int)), some (.int (deps ts)), some (.ref M.length), o8] ∧ M'[M.length]? = some (.dic false (cs.map pr)) ∧ cs.Nodup ∧ ∀ c ∈ cs, c ∈ A := fun M o4 o8 =>
      loop_measures hpos hA IH hsz hl100 mem_new
    have hd1 : (deps ts : Int) + 1 = ((deps ts + 1 : Nat) : Int) := rfl
    cases w with
    | true =>
      have hw2 := hw.2
      simp only [if_true, Bool.and_eq_true] at hw2
      have h2l : 2 ≤ ts.length := of_decide_eq_true hw2.1
      have hnorow : ∀ t ∈ ts, isRow t = false := fun t ht => by
        have := List.all_eq_true.mp hw2.2 t ht
        simpa using this
      have hparts : callF m_are_parts [.tup (ts.map Tl.enc), .int 2] [] = .ok (.bl true) [] := c_are_parts (k := 2) hnr0 (by omega) (by omega)
      obtain ⟨ρ', M', e, o4, o8, cs, rfl, g1, g2, g3⟩ := fin [.lst ((ts.map Tl.enc).map fun _ => .bl false)] none none
      refine ⟨1, M', cs, ?_, g1, g2, g3, Nat.zero_le _, fun i o e => by cases e⟩
      show runDef 9 (b_measures (r_measures f)) [(Tl.many true ts).enc, .int d] [] = _
      have hlet : callF m_is_letter_value [.tup [.str [114, 111, 119], .tup (ts.map Tl.enc)]] [] = .ok (.bl false) [] := c_letter_tup hnr
      have hany : anyB ((ts.map Tl.enc).map fun _ => false) = false := by simp [anyB]
      simp! [b_measures, Tl.enc, encs_map, hlet, hlt, h2t, wordM, c_ON, c_FROM, c_ROW, c_MIX, hparts]
      rw [lc_map (its := ts.map Tl.enc) (fun _ => .bl false) (by rw [hlm]; exact big_gt (by omega)) (fun _ => rfl) (fun x hx => by
        obtain ⟨t, ht, rfl⟩ := List.mem_map.mp hx
        refine ⟨_, rfl, rfl, ?_⟩
        have hr := hnorow t ht
        cases t with
        | ltr c =>
          have hz : callF m_is_tuple [.str [c], .int 2] [] = .ok (.bl false) [] := c_is_tuple (n := 2) rfl
          simp! [Tl.enc, hz]
        | one w u => cases w <;> simp! [Tl.enc, h2t, wordO]
        | many w us =>
          cases w with
          | true => cases hr
          | false => simp! [Tl.enc, h2t, wordM])]
      have hb := bols_map (fun _ => false) (ts.map Tl.enc)
      simp! [aLc2 (show ((ts.map Tl.enc).map fun _ => D.bl false).length ≤ 16777216 by rw [List.length_map, hlm]; omega), hb, hany]
      refine (congrArg (fun r => runK (seqK (gRet (gTup (gCons (gV 5) (gCons (gOp addM (gV 6) (gC (.int 1))) (gCons (gV 7) gNil))))) r)) e).trans ?_
      simp! [hd1, Tl.dep]
    | false =>
      have hw2 : 1 ≤ ts.length := of_decide_eq_true hw.2
      have hparts : callF m_are_parts [.tup (ts.map Tl.enc), .int 1] [] = .ok (.bl true) [] := c_are_parts (k := 1) hnr0 (by omega) (by omega)
      obtain ⟨ρ', M', e, o4, o8, cs, rfl, g1, g2, g3⟩ := fin [] none none
      refine ⟨0, M', cs, ?_, g1, g2, g3, Nat.zero_le _, fun i o e => by cases e⟩
      show runDef 9 (b_measures (r_measures f)) [(Tl.many false ts).enc, .int d] [] = _
      have hlet : callF m_is_letter_value [.tup [.str [109, 105, 120], .tup (ts.map Tl.enc)]] [] = .ok (.bl false) [] := c_letter_tup hnr
      simp! [b_measures, Tl.enc, encs_map, hlet, hlt, h2t, wordM, c_ON, c_FROM, c_ROW, c_MIX, hparts]
      refine (congrArg (fun r => runK (seqK (gRet (gTup (gCons (gV 5) (gCons (gOp addM (gV 6) (gC (.int 1))) (gCons (gV 7) gNil))))) r)) e).trans ?_
      simp! [hd1, Tl.dep]
theorem c_is_timeline_value {A : List (List Nat)} {t : Tl} (hA : A.length ≤ 8) (hw : t.wf = true) (hl : ltrIn A t = true) (hd : t.dep ≤ 16) (hs : t.size ≤ 100) (M : Mem) : callF m_is_timeline_value [t.enc] M = .ok (.bl true) M := by
  have hnr : noRefs [t.enc] = true := by
    show (noRef t.enc && true) = true
    rw [noRef_enc]
    rfl
  obtain ⟨n, M', cs, e, g1, g2, g3, _, _⟩ := told_call (f_measures (by omega) 20 16 t hw hl hd (by decide) hs) []
  have hcs := nodup_le g2 g3
  have e' : callF m_measures [t.enc, .int 16] [] = .ok (.tup [.int t.size, .int t.dep, .ref n]) M' := e
  refine call_pure (M' := M') hnr rfl ?_
  have z1 : decide ((t.size : Int) ≤ 100) = true := decide_eq_true (by omega)
  have z2 : decide (((cs.map pr).length : Int) ≤ 8) = true := decide_eq_true (by rw [List.length_map]; omega)
  have hnot : isNon (.tup [.int (t.size : Int), .int (t.dep : Int), .ref n]) = false := rfl
  simp! [m_is_timeline_value, b_is_timeline_value, c_MOST_DEPTH, e', hnot, c_MOST_SIZE, z1, g1, c_MOST_LETTERS, z2]
theorem c_want_timeline {A : List (List Nat)} {t : Tl} (hA : A.length ≤ 8) (hw : t.wf = true) (hl : ltrIn A t = true) (hd : t.dep ≤ 16) (hs : t.size ≤ 100) (M : Mem) : callF m_want_timeline [t.enc] M = .ok .non M := by
  have hnr : noRefs [t.enc] = true := by
    show (noRef t.enc && true) = true
    rw [noRef_enc]
    rfl
  refine call_pure (M' := []) hnr rfl ?_
  simp! [m_want_timeline, b_want_timeline, c_is_timeline_value hA hw hl hd hs]
end K56
set_option maxRecDepth 100000
set_option maxHeartbeats 4000000
namespace K56
open PySem G
local macro_rules
  | `(tactic| simp! [$xs,*]) => `(tactic| simp only [v0, vS, aC, aOp, aOp1, aOp2, aOf, aUn, aUn1, aNil, aCons, aCons1, aCons2, aCB, aCB1, aTup, aTup1, aLst, aLst1, aTru, aTru1, aTru2, aTst, aTst1, aAndT, aAndT1, aAndT2, aOrT, aOrT1, aOrT2, aNotT, aNotT1, aAnd, aAnd1, aAnd2, aAnd3, aOr, aOr1, aOr2, aOr3, aNot, aNot1, aNot2, aIf, aIf1, aIf2, aCh, aCh0, aCh1, aCh2, aCh3, aCh4, aCall, aCall1, aCallK, aCallK1, aCallK2, aNP, aPart, aPart1, aSl, aSl1, aSl2, aSl3, aMt, aMt1, aMt2, aMt3, aPr0, aPr, aPr1, aPr2, aPr3, aDisp, aDisp1, aEmp, aSeqI, aSeqI1, aSeqI2, aRng1, aEn, aZip, aRng2, aRngD, afI, aLc, aLc1, aLc2, aW0, aW1, aSkip, aSeq, aSeq1, aSeq2, aSeq3, aSeq4, aExpr, aExpr1, aRet, aRet1, aRetN, aBrk, aCnt, aIfS, aIfS1, aIfS2, aSet, aSet1, aPar, aPar1, aPar3, aPar31, aAsg, aAsg1, aAsg2, aFor, aFor1, aRun, aRun1, aRun2, tName, tUnp, tsNil, tsCons, tsCons1, tr_bl, tr_non, tr_int, tr_tup, tr_str,
      List.map_cons, List.map_nil, List.length_cons, List.length_nil, Nat.reduceAdd, Nat.reduceSub, Nat.zero_add, List.replicate, List.cons_append, List.nil_append, List.set_cons_zero, List.set_cons_succ, Nat.reduceLeDiff, Bool.not_true, Bool.not_false, if_true, if_false, ↓reduceIte, G.oAddI, G.oSubI, G.oLeI, G.oGtI, G.oGeI, G.oIsB, G.oIsntB, G.oIsN, G.oIsntN, G.oLenT, G.oLenR, G.oLenS, oIsi, oIsi1, iNon, iBl, iInt, iStr, iTup, iRol, G.tSub, G.tSub1, G.tSub2, G.tSub3, G.oInt, G.oAbs, G.oMax2, G.oPow30, G.oPow18, G.oPow9, G.oEqI, G.oNeI, G.oLtI, isNon, Bool.true_and, Bool.and_true, Bool.false_and, Bool.and_false, Bool.true_or, Bool.false_or, Bool.or_true, Bool.or_false, Bool.not_not, Bool.false_eq_true, G.sT, G.sR, G.sS, Int.cast_ofNat_Int, List.append_assoc, List.length_append, memAt0, memAt, List.getElem?_cons_zero, List.getElem?_cons_succ, xLen, xLen1, xLen2, xLis1, xLst, xSeq, xSeqT, xSeqR, xTup, xTup1, xLis, xLis2, xAll, xAny, xAll0, xAll1, xSum, xSum0, xSum1, xEn, xEn1, xEnR, xSrc, xSrc1, xIx, xIxA, xIxS, xIxI, xIx1, xIxT, xIxR, at0, at1, at2, xAdd, xMul, xRev, xRev1, xCut, xCut1, xCutT, xCutS, xIsi, xIsi1, xIsi2, xTyL, xTyL1, xApp, xExt, G.oRevT, setAt0, setAt, eW_on_on, eW_on_fr, eW_on_ro, eW_on_mi, eW_on_le, eW_fr_on, eW_fr_fr, eW_fr_ro, eW_fr_mi, eW_fr_le, eW_ro_on, eW_ro_fr, eW_ro_ro, eW_ro_mi, eW_ro_le, eW_mi_on, eW_mi_fr, eW_mi_ro, eW_mi_mi, eW_mi_le, eW_le_on, eW_le_fr, eW_le_ro, eW_le_mi, eW_le_le, iW_on_on, iW_on_onn, iW_on_ro, iW_on_ron, iW_fr_on, iW_fr_onn, iW_fr_ro, iW_fr_ron, iW_ro_on, iW_ro_onn, iW_ro_ro, iW_ro_ron, iW_mi_on, iW_mi_onn, iW_mi_ro, iW_mi_ron, iW_le_on, iW_le_onn, iW_le_ro, iW_le_ron, decide_true, decide_false, Int.reduceEq, Int.reduceLT, Int.reduceLE, Int.reduceAdd, Int.reduceSub, Int.reduceMul, Int.reducePow, Int.reduceNeg, Int.reduceNe, $xs,*])
  | `(tactic| simp! [$xs,*] at $h:ident) => `(tactic| simp only [v0, vS, aC, aOp, aOp1, aOp2, aOf, aUn, aUn1, aNil, aCons, aCons1, aCons2, aCB, aCB1, aTup, aTup1, aLst, aLst1, aTru, aTru1, aTru2, aTst, aTst1, aAndT, aAndT1, aAndT2, aOrT, aOrT1, aOrT2, aNotT, aNotT1, aAnd, aAnd1, aAnd2, aAnd3, aOr, aOr1, aOr2, aOr3, aNot, aNot1, aNot2, aIf, aIf1, aIf2, aCh, aCh0, aCh1, aCh2, aCh3, aCh4, aCall, aCall1, aCallK, aCallK1, aCallK2, aNP, aPart, aPart1, aSl, aSl1, aSl2, aSl3, aMt, aMt1, aMt2, aMt3, aPr0, aPr, aPr1, aPr2, aPr3, aDisp, aDisp1, aEmp, aSeqI, aSeqI1, aSeqI2, aRng1, aEn, aZip, aRng2, aRngD, afI, aLc, aLc1, aLc2, aW0, aW1, aSkip, aSeq, aSeq1, aSeq2, aSeq3, aSeq4, aExpr, aExpr1, aRet, aRet1, aRetN, aBrk, aCnt, aIfS, aIfS1, aIfS2, aSet, aSet1, aPar, aPar1, aPar3, aPar31, aAsg, aAsg1, aAsg2, aFor, aFor1, aRun, aRun1, aRun2, tName, tUnp, tsNil, tsCons, tsCons1, tr_bl, tr_non, tr_int, tr_tup, tr_str,
      List.map_cons, List.map_nil, List.length_cons, List.length_nil, Nat.reduceAdd, Nat.reduceSub, Nat.zero_add, List.replicate, List.cons_append, List.nil_append, List.set_cons_zero, List.set_cons_succ, Nat.reduceLeDiff, Bool.not_true, Bool.not_false, if_true, if_false, ↓reduceIte, G.oAddI, G.oSubI, G.oLeI, G.oGtI, G.oGeI, G.oIsB, G.oIsntB, G.oIsN, G.oIsntN, G.oLenT, G.oLenR, G.oLenS, oIsi, oIsi1, iNon, iBl, iInt, iStr, iTup, iRol, G.tSub, G.tSub1, G.tSub2, G.tSub3, G.oInt, G.oAbs, G.oMax2, G.oPow30, G.oPow18, G.oPow9, G.oEqI, G.oNeI, G.oLtI, isNon, Bool.true_and, Bool.and_true, Bool.false_and, Bool.and_false, Bool.true_or, Bool.false_or, Bool.or_true, Bool.or_false, Bool.not_not, Bool.false_eq_true, G.sT, G.sR, G.sS, Int.cast_ofNat_Int, List.append_assoc, List.length_append, memAt0, memAt, List.getElem?_cons_zero, List.getElem?_cons_succ, xLen, xLen1, xLen2, xLis1, xLst, xSeq, xSeqT, xSeqR, xTup, xTup1, xLis, xLis2, xAll, xAny, xAll0, xAll1, xSum, xSum0, xSum1, xEn, xEn1, xEnR, xSrc, xSrc1, xIx, xIxA, xIxS, xIxI, xIx1, xIxT, xIxR, at0, at1, at2, xAdd, xMul, xRev, xRev1, xCut, xCut1, xCutT, xCutS, xIsi, xIsi1, xIsi2, xTyL, xTyL1, xApp, xExt, G.oRevT, setAt0, setAt, eW_on_on, eW_on_fr, eW_on_ro, eW_on_mi, eW_on_le, eW_fr_on, eW_fr_fr, eW_fr_ro, eW_fr_mi, eW_fr_le, eW_ro_on, eW_ro_fr, eW_ro_ro, eW_ro_mi, eW_ro_le, eW_mi_on, eW_mi_fr, eW_mi_ro, eW_mi_mi, eW_mi_le, eW_le_on, eW_le_fr, eW_le_ro, eW_le_mi, eW_le_le, iW_on_on, iW_on_onn, iW_on_ro, iW_on_ron, iW_fr_on, iW_fr_onn, iW_fr_ro, iW_fr_ron, iW_ro_on, iW_ro_onn, iW_ro_ro, iW_ro_ron, iW_mi_on, iW_mi_onn, iW_mi_ro, iW_mi_ron, iW_le_on, iW_le_onn, iW_le_ro, iW_le_ron, decide_true, decide_false, Int.reduceEq, Int.reduceLT, Int.reduceLE, Int.reduceAdd, Int.reduceSub, Int.reduceMul, Int.reducePow, Int.reduceNeg, Int.reduceNe, $xs,*] at $h:ident)
/-! words, lengths of drawn timelines -/
def ONROW : List (List Nat) := [[111, 110], [114, 111, 119]]
def Wds (r : R D) (M : Mem) : Prop := ∃ (n : Nat) (M' : Mem) (ws : List (List Nat)), r = .ok (.ref n) M' ∧ M'[n]? = some (.dic false (ws.map pr)) ∧ ws.Nodup ∧ (∀ s ∈ ws, s ∈ ONROW) ∧ M.length ≤ n ∧ ∀ (i : Nat) (o : Ob), M[i]? = some o → M'[i]? = some o
theorem wds_call {F : Fn} {t : Tl} (h : Wds (F [t.enc] []) []) (M : Mem) : Wds (callF F [t.enc] M) M := by
  obtain ⟨n, M', ws, e, hn, h1, h2, _, _⟩ := h
  have hr : noRefs [t.enc] = true := by
    show (noRef t.enc && true) = true
    rw [noRef_enc]
    rfl
  refine ⟨M.length + n, M ++ M'.map (shO M.length), ws, call_new hr rfl e, ?_, h1, h2, by omega, fun i o e => mem_old e⟩
  rw [memAt, List.getElem?_map, hn]
  show some (shO M.length (.dic false (ws.map pr))) = _
  rw [show shO M.length (.dic false (ws.map pr)) = .dic false (shP M.length (ws.map pr)) from rfl, shP_pr]
def kids : Tl → List Tl
  | .ltr _ => []
  | .one _ t => [t]
  | .many _ ts => ts
theorem c_parts_of {t : Tl} (M : Mem) : callF m_parts_of [t.enc] M = .ok (.tup ((kids t).map Tl.enc)) M := by
  have hr : noRefs [t.enc] = true := by
    show (noRef t.enc && true) = true
    rw [noRef_enc]
    rfl
  have hr2 : noRef (.tup ((kids t).map Tl.enc)) = true := by
    show noRefs ((kids t).map Tl.enc) = true
    rw [← encs_map]
    exact noRefs_encs _
  refine call_pure (M' := []) hr hr2 ?_
  cases t with
  | ltr c => simp! [m_parts_of, b_parts_of, Tl.enc, kids]
  | one w t => cases w <;> simp! [m_parts_of, b_parts_of, Tl.enc, kids, wordO, c_ON, c_FROM]
  | many w ts => cases w <;> simp! [m_parts_of, b_parts_of, Tl.enc, kids, wordM, c_ON, c_FROM, encs_map]
theorem okT_kids {t : Tl} (h : okT t = true) : ∀ u ∈ kids t, okT u = true := by
  intro u hu
  cases t with
  | ltr c => cases hu
  | one w t =>
    rw [okT, Bool.and_eq_true] at h
    rw [List.mem_singleton.mp hu]
    exact h.2
  | many w ts =>
    rw [okT, Bool.and_eq_true, Bool.and_eq_true] at h
    exact okTs_mem h.1.2 u hu
theorem dep_kids {t u : Tl} (h : u ∈ kids t) : u.dep + 1 ≤ t.dep := by
  cases t with
  | ltr c => cases h
  | one w t =>
    rw [List.mem_singleton.mp h, Tl.dep]
    exact Nat.le_refl _
  | many w ts =>
    have := dep_in (show u ∈ ts from h)
    rw [Tl.dep]
    omega
theorem size_kids {t : Tl} (h : okT t = true) : (kids t).length ≤ t.size := by
  cases t with
  | ltr c => exact Nat.zero_le _
  | one w t =>
    show 1 ≤ _
    rw [Tl.size]
    omega
  | many w ts =>
    rw [okT, Bool.and_eq_true, Bool.and_eq_true] at h
    have := sizes_ge ts fun u hu => okTs_mem h.1.2 u hu
    show ts.length ≤ _
    rw [Tl.size]
    omega
theorem size_kid {t u : Tl} (h : u ∈ kids t) : u.size ≤ t.size := by
  cases t with
  | ltr c => cases h
  | one w t =>
    rw [List.mem_singleton.mp h, Tl.size]
    omega
  | many w ts =>
    have := size_in (show u ∈ ts from h)
    rw [Tl.size]
    omega
theorem words_loop {me : Fn} {ts : List Tl} {M : Mem} {v : D} {o2 : Option D} {L : Nat} {w0 : List (List Nat)} (IH : ∀ t ∈ ts, ∀ M, Wds (callF me [t.enc] M) M) (hl : ts.length ≤ 100) (hL : M[L]? = some (.dic false (w0.map pr))) (hn0 : w0.Nodup) (hs0 : ∀ s ∈ w0, s ∈ ONROW) :
    ∃ ρ' M', forG (srcS (ts.map Tl.enc)) (gName' 2) (gExpr (gMt .dic updM (gV 1) (gCons (gCall me (gCons (gV 2) (gNil))) (gNil)))) big 0 [some v, some (.ref L), o2] M = .ok (.nx ρ') M' ∧
      ∃ (o2 : Option D) (ws : List (List Nat)), ρ' = [some v, some (.ref L), o2] ∧ M'[L]? = some (.dic false (ws.map pr)) ∧ ws.Nodup ∧ ∀ s ∈ ws, s ∈ ONROW := by
  refine for_inv (its := ts.map Tl.enc) (fun i ρ M1 => ∃ (o2 : Option D) (ws : List (List Nat)), ρ = [some v, some (.ref L), o2] ∧ M1[L]? = some (.dic false (ws.map pr)) ∧ ws.Nodup ∧ ∀ s ∈ ws, s ∈ ONROW)
    (by rw [List.length_map]; exact big_gt (by omega)) ⟨o2, w0, rfl, hL, hn0, hs0⟩ (fun _ _ _ _ _ => rfl) (fun i ρ M1 x hx hP => ?_)
  obtain ⟨o2, ws, rfl, h1, h2, h3⟩ := hP
  obtain ⟨t, ht, rfl⟩ := List.mem_map.mp (List.mem_of_getElem? hx)
  obtain ⟨n, M2, ds, e, g1, g2, g3, g4, g5⟩ := IH t ht M1
  have hLlt : L < M1.length := (List.getElem?_eq_some_iff.mp h1).1
  have hL2 := g5 L _ h1
  have hlen1 := nodup_le h2 h3
  have hlen2 := nodup_le g2 g3
  have hc : ONROW.length = 2 := rfl
  have hup := updPr hL2 g1 (show L ≠ n by omega) (by omega)
  have hty1 : tyB .dic (.ref L) M1 = true := by simp only [tyB, h1]
  refine ⟨_, _, [some v, some (.ref L), some t.enc], M2.set L (.dic false ((mergeN ws ds).map pr)), rfl, .inl ?_, _, mergeN ws ds, rfl, mem_set hL2, mergeN_nodup _ _ h2, mergeN_sub _ _ h3 g3⟩
  simp! [hty1, e, hup]
theorem f_words_in : ∀ (f : Nat) (t : Tl), okT t = true → t.dep ≤ f → t.size ≤ 100 → Wds (r_words_in f [t.enc] []) []
  | 0, t, _, h, _ => by
    have := dep_pos t
    omega
  | f + 1, t, ho, h, hs => by
    have hk := size_kids ho
    have IH : ∀ u ∈ kids t, ∀ M, Wds (callF (r_words_in f) [u.enc] M) M := fun u hu M => by
      have a := dep_kids hu
      have b := size_kid hu
      exact wds_call (f_words_in f u (okT_kids ho u hu) (by omega) (by omega)) M
    have fin : ∀ w0 : List (List Nat), w0.Nodup → (∀ s ∈ w0, s ∈ ONROW) → ∃ ρ' M', forG (srcS ((kids t).map Tl.enc)) (gName' 2) (gExpr (gMt .dic updM (gV 1) (gCons (gCall (r_words_in f) (gCons (gV 2) (gNil))) (gNil)))) big 0 [some t.enc, some (.ref 0), none] [.dic false (w0.map pr)] = .ok (.nx ρ') M' ∧
      ∃ (o2 : Option D) (ws : List (List Nat)), ρ' = [some t.enc, some (.ref 0), o2] ∧ M'[0]? = some (.dic false (ws.map pr)) ∧ ws.Nodup ∧ ∀ s ∈ ws, s ∈ ONROW := fun w0 a b => words_loop IH (by omega) rfl a b
    have go : ∀ w0 : List (List Nat), w0.Nodup → (∀ s ∈ w0, s ∈ ONROW) → (∀ ρ' M', forG (srcS ((kids t).map Tl.enc)) (gName' 2) (gExpr (gMt .dic updM (gV 1) (gCons (gCall (r_words_in f) (gCons (gV 2) (gNil))) (gNil)))) big 0 [some t.enc, some (.ref 0), none] [.dic false (w0.map pr)] = .ok (.nx ρ') M' →
        r_words_in (f + 1) [t.enc] [] = runK (seqK (gRet (gV 1)) (.ok (.nx ρ') M'))) → Wds (r_words_in (f + 1) [t.enc] []) [] := by
      intro w0 a b hrun
      obtain ⟨ρ', M', e, o2, ws, rfl, g1, g2, g3⟩ := fin w0 a b
      refine ⟨0, M', ws, ?_, g1, g2, g3, Nat.le_refl _, fun i o e => by cases e⟩
      rw [hrun _ _ e]
      simp! []
    cases t with
    | ltr c =>
      refine go [] List.nodup_nil (by simp) (fun ρ' M' e => ?_)
      have hp : ∀ M : Mem, callF m_parts_of [(Tl.ltr c).enc] M = .ok (.tup ((kids (Tl.ltr c)).map Tl.enc)) M := fun M => c_parts_of M
      show runDef 3 (b_words_in (r_words_in f)) [(Tl.ltr c).enc] [] = _
      simp only [Tl.enc] at hp e ⊢
      simp! [b_words_in, hp]
      refine (congrArg (fun r => runK (seqK (gRet (gV 1)) r)) e).trans ?_
      simp! []
    | one w u =>
      have hw : w = true := by
        rw [okT, Bool.and_eq_true] at ho
        exact ho.1
      subst hw
      refine go [[111, 110]] (by simp) (by simp [ONROW]) (fun ρ' M' e => ?_)
      have hp : ∀ M : Mem, callF m_parts_of [(Tl.one true u).enc] M = .ok (.tup ((kids (Tl.one true u)).map Tl.enc)) M := fun M => c_parts_of M
      have hdisp : dispK (.ok [(.str [111, 110], .bl true)] []) = .ok (.ref 0) [.dic false ([[111, 110]].map pr)] := rfl
      show runDef 3 (b_words_in (r_words_in f)) [(Tl.one true u).enc] [] = _
      simp only [Tl.enc, wordO] at hp e ⊢
      simp! [b_words_in, hdisp, hp]
      refine (congrArg (fun r => runK (seqK (gRet (gV 1)) r)) e).trans ?_
      simp! []
    | many w us =>
      have hw : w = true := by
        rw [okT, Bool.and_eq_true, Bool.and_eq_true] at ho
        exact ho.1.1
      subst hw
      refine go [[114, 111, 119]] (by simp) (by simp [ONROW]) (fun ρ' M' e => ?_)
      have hp : ∀ M : Mem, callF m_parts_of [(Tl.many true us).enc] M = .ok (.tup ((kids (Tl.many true us)).map Tl.enc)) M := fun M => c_parts_of M
      have hdisp : dispK (.ok [(.str [114, 111, 119], .bl true)] []) = .ok (.ref 0) [.dic false ([[114, 111, 119]].map pr)] := rfl
      show runDef 3 (b_words_in (r_words_in f)) [(Tl.many true us).enc] [] = _
      simp only [Tl.enc, wordM] at hp e ⊢
      simp! [b_words_in, hdisp, hp]
      refine (congrArg (fun r => runK (seqK (gRet (gV 1)) r)) e).trans ?_
      simp! []
theorem c_want_rising {t : Tl} (ho : okT t = true) (hd : t.dep ≤ 12) (hs : t.size ≤ 100) (M : Mem) : callF m_want_rising [t.enc] M = .ok .non M := by
  have hr : noRefs [t.enc] = true := by
    show (noRef t.enc && true) = true
    rw [noRef_enc]
    rfl
  obtain ⟨n, M', ws, e, g1, g2, g3, _, _⟩ := wds_call (f_words_in 12 t ho hd hs) []
  have e' : callF m_words_in [t.enc] [] = .ok (.ref n) M' := e
  have hh : ∀ (M1 : Mem) (s : List Nat), M1[n]? = some (.dic false (ws.map pr)) → s ∉ ONROW → inM false (.str s) (.ref n) M1 = some (.bl false, M1) := by
    intro M1 s h1 h2
    have h3 : dHas (ws.map pr) (.str s) = false := by
      rw [dHas_pr]
      exact decide_eq_false fun z => h2 (g3 s z)
    show (match M1[n]? with | some (.dic false kvs) => (match isKey (.str s) with | some _ => some (D.bl (dHas kvs (.str s)), M1) | none => none) | some (.lst _) => _ | _ => none) = _
    rw [h1]
    show some (D.bl (dHas (ws.map pr) (.str s)), M1) = _
    rw [h3]
  have hlt : n < M'.length := (List.getElem?_eq_some_iff.mp g1).1
  have hso : ∃ M2, m_is_so_many [.ref n, .str [114, 105, 115, 105, 110, 103]] M' = .ok (.bl true) M2 := by
    have hdisp : ∀ (a b c d e f : D), dispK (.ok [(.str [102, 105, 110, 105, 116, 101], a), (.str [114, 105, 115, 105, 110, 103], b), (.str [102, 97, 108, 108, 105, 110, 103], c), (.str [115, 99, 97, 116, 116, 101, 114, 101, 100], d), (.str [97, 108, 108], e)] M') =
        .ok (.ref M'.length) (M' ++ [.dic false [(.str [102, 105, 110, 105, 116, 101], a), (.str [114, 105, 115, 105, 110, 103], b), (.str [102, 97, 108, 108, 105, 110, 103], c), (.str [115, 99, 97, 116, 116, 101, 114, 101, 100], d), (.str [97, 108, 108], e)]]) := fun a b c d e f => rfl
    have hlook : ∀ (a b c d e : D), dLook [(.str [102, 105, 110, 105, 116, 101], a), (.str [114, 105, 115, 105, 110, 103], b), (.str [102, 97, 108, 108, 105, 110, 103], c), (.str [115, 99, 97, 116, 116, 101, 114, 101, 100], d), (.str [97, 108, 108], e)] (.str [114, 105, 115, 105, 110, 103]) = some b := fun a b c d e => rfl
    refine ⟨M' ++ [.dic false [(.str [102, 105, 110, 105, 116, 101], .tup [.str [111, 110], .str [102, 114, 111, 109], .str [109, 105, 120]]), (.str [114, 105, 115, 105, 110, 103], .tup [.str [102, 114, 111, 109], .str [109, 105, 120]]), (.str [102, 97, 108, 108, 105, 110, 103], .tup [.str [111, 110], .str [109, 105, 120]]), (.str [115, 99, 97, 116, 116, 101, 114, 101, 100], .tup [.str [109, 105, 120]]), (.str [97, 108, 108], .tup [])], .lst [.bl false, .bl false]], ?_⟩
    simp! [m_is_so_many, b_is_so_many, c_ON, c_FROM, c_MIX, hdisp _ _ _ _ _ .non, hlook]
    rw [lc_map (its := [.str [102, 114, 111, 109], .str [109, 105, 120]]) (fun _ => .bl false) (by decide) (fun _ => rfl) (fun x hx => by
      have hx' : x = .str [102, 114, 111, 109] ∨ x = .str [109, 105, 120] := by simpa using hx
      rcases hx' with rfl | rfl
      · refine ⟨_, rfl, rfl, ?_⟩
        simp! [hh (M' ++ _) [102, 114, 111, 109] (mem_old g1) (by decide)]
      · refine ⟨_, rfl, rfl, ?_⟩
        simp! [hh (M' ++ _) [109, 105, 120] (mem_old g1) (by decide)])]
    have hb : bolsM [D.bl false, D.bl false] = some [false, false] := rfl
    have hany : anyB [false, false] = false := rfl
    simp! [hb, hany]
  obtain ⟨M2, e2⟩ := hso
  have e2' : callF m_is_so_many [.ref n, .str [114, 105, 115, 105, 110, 103]] M' = .ok (.bl true) M2 := by
    rw [call_ref rfl]
    exact e2
  refine call_pure (M' := M2) hr rfl ?_
  simp! [m_want_rising, b_want_rising, e', e2']
end K56
set_option maxRecDepth 100000
set_option maxHeartbeats 4000000
namespace K56
open PySem G
local macro_rules
  | `(tactic| simp! [$xs,*]) => `(tactic| simp only [v0, vS, aC, aOp, aOp1, aOp2, aOf, aUn, aUn1, aNil, aCons, aCons1, aCons2, aCB, aCB1, aTup, aTup1, aLst, aLst1, aTru, aTru1, aTru2, aTst, aTst1, aAndT, aAndT1, aAndT2, aOrT, aOrT1, aOrT2, aNotT, aNotT1, aAnd, aAnd1, aAnd2, aAnd3, aOr, aOr1, aOr2, aOr3, aNot, aNot1, aNot2, aIf, aIf1, aIf2, aCh, aCh0, aCh1, aCh2, aCh3, aCh4, aCall, aCall1, aCallK, aCallK1, aCallK2, aNP, aPart, aPart1, aSl, aSl1, aSl2, aSl3, aMt, aMt1, aMt2, aMt3, aPr0, aPr, aPr1, aPr2, aPr3, aDisp, aDisp1, aEmp, aSeqI, aSeqI1, aSeqI2, aRng1, aEn, aZip, aRng2, aRngD, afI, aLc, aLc1, aLc2, aW0, aW1, aSkip, aSeq, aSeq1, aSeq2, aSeq3, aSeq4, aExpr, aExpr1, aRet, aRet1, aRetN, aBrk, aCnt, aIfS, aIfS1, aIfS2, aSet, aSet1, aPar, aPar1, aPar3, aPar31, aAsg, aAsg1, aAsg2, aFor, aFor1, aRun, aRun1, aRun2, tName, tUnp, tsNil, tsCons, tsCons1, tr_bl, tr_non, tr_int, tr_tup, tr_str,
      List.map_cons, List.map_nil, List.length_cons, List.length_nil, Nat.reduceAdd, Nat.reduceSub, Nat.zero_add, List.replicate, List.cons_append, List.nil_append, List.set_cons_zero, List.set_cons_succ, Nat.reduceLeDiff, Bool.not_true, Bool.not_false, if_true, if_false, ↓reduceIte, G.oAddI, G.oSubI, G.oLeI, G.oGtI, G.oGeI, G.oIsB, G.oIsntB, G.oIsN, G.oIsntN, G.oLenT, G.oLenR, G.oLenS, oIsi, oIsi1, iNon, iBl, iInt, iStr, iTup, iRol, G.tSub, G.tSub1, G.tSub2, G.tSub3, G.oInt, G.oAbs, G.oMax2, G.oPow30, G.oPow18, G.oPow9, G.oEqI, G.oNeI, G.oLtI, isNon, Bool.true_and, Bool.and_true, Bool.false_and, Bool.and_false, Bool.true_or, Bool.false_or, Bool.or_true, Bool.or_false, Bool.not_not, Bool.false_eq_true, G.sT, G.sR, G.sS, Int.cast_ofNat_Int, List.append_assoc, List.length_append, memAt0, memAt, List.getElem?_cons_zero, List.getElem?_cons_succ, xLen, xLen1, xLen2, xLis1, xLst, xSeq, xSeqT, xSeqR, xTup, xTup1, xLis, xLis2, xAll, xAny, xAll0, xAll1, xSum, xSum0, xSum1, xEn, xEn1, xEnR, xSrc, xSrc1, xIx, xIxA, xIxS, xIxI, xIx1, xIxT, xIxR, at0, at1, at2, xAdd, xMul, xRev, xRev1, xCut, xCut1, xCutT, xCutS, xIsi, xIsi1, xIsi2, xTyL, xTyL1, xApp, xExt, G.oRevT, setAt0, setAt, eW_on_on, eW_on_fr, eW_on_ro, eW_on_mi, eW_on_le, eW_fr_on, eW_fr_fr, eW_fr_ro, eW_fr_mi, eW_fr_le, eW_ro_on, eW_ro_fr, eW_ro_ro, eW_ro_mi, eW_ro_le, eW_mi_on, eW_mi_fr, eW_mi_ro, eW_mi_mi, eW_mi_le, eW_le_on, eW_le_fr, eW_le_ro, eW_le_mi, eW_le_le, iW_on_on, iW_on_onn, iW_on_ro, iW_on_ron, iW_fr_on, iW_fr_onn, iW_fr_ro, iW_fr_ron, iW_ro_on, iW_ro_onn, iW_ro_ro, iW_ro_ron, iW_mi_on, iW_mi_onn, iW_mi_ro, iW_mi_ron, iW_le_on, iW_le_onn, iW_le_ro, iW_le_ron, decide_true, decide_false, Int.reduceEq, Int.reduceLT, Int.reduceLE, Int.reduceAdd, Int.reduceSub, Int.reduceMul, Int.reducePow, Int.reduceNeg, Int.reduceNe, $xs,*])
  | `(tactic| simp! [$xs,*] at $h:ident) => `(tactic| simp only [v0, vS, aC, aOp, aOp1, aOp2, aOf, aUn, aUn1, aNil, aCons, aCons1, aCons2, aCB, aCB1, aTup, aTup1, aLst, aLst1, aTru, aTru1, aTru2, aTst, aTst1, aAndT, aAndT1, aAndT2, aOrT, aOrT1, aOrT2, aNotT, aNotT1, aAnd, aAnd1, aAnd2, aAnd3, aOr, aOr1, aOr2, aOr3, aNot, aNot1, aNot2, aIf, aIf1, aIf2, aCh, aCh0, aCh1, aCh2, aCh3, aCh4, aCall, aCall1, aCallK, aCallK1, aCallK2, aNP, aPart, aPart1, aSl, aSl1, aSl2, aSl3, aMt, aMt1, aMt2, aMt3, aPr0, aPr, aPr1, aPr2, aPr3, aDisp, aDisp1, aEmp, aSeqI, aSeqI1, aSeqI2, aRng1, aEn, aZip, aRng2, aRngD, afI, aLc, aLc1, aLc2, aW0, aW1, aSkip, aSeq, aSeq1, aSeq2, aSeq3, aSeq4, aExpr, aExpr1, aRet, aRet1, aRetN, aBrk, aCnt, aIfS, aIfS1, aIfS2, aSet, aSet1, aPar, aPar1, aPar3, aPar31, aAsg, aAsg1, aAsg2, aFor, aFor1, aRun, aRun1, aRun2, tName, tUnp, tsNil, tsCons, tsCons1, tr_bl, tr_non, tr_int, tr_tup, tr_str,
      List.map_cons, List.map_nil, List.length_cons, List.length_nil, Nat.reduceAdd, Nat.reduceSub, Nat.zero_add, List.replicate, List.cons_append, List.nil_append, List.set_cons_zero, List.set_cons_succ, Nat.reduceLeDiff, Bool.not_true, Bool.not_false, if_true, if_false, ↓reduceIte, G.oAddI, G.oSubI, G.oLeI, G.oGtI, G.oGeI, G.oIsB, G.oIsntB, G.oIsN, G.oIsntN, G.oLenT, G.oLenR, G.oLenS, oIsi, oIsi1, iNon, iBl, iInt, iStr, iTup, iRol, G.tSub, G.tSub1, G.tSub2, G.tSub3, G.oInt, G.oAbs, G.oMax2, G.oPow30, G.oPow18, G.oPow9, G.oEqI, G.oNeI, G.oLtI, isNon, Bool.true_and, Bool.and_true, Bool.false_and, Bool.and_false, Bool.true_or, Bool.false_or, Bool.or_true, Bool.or_false, Bool.not_not, Bool.false_eq_true, G.sT, G.sR, G.sS, Int.cast_ofNat_Int, List.append_assoc, List.length_append, memAt0, memAt, List.getElem?_cons_zero, List.getElem?_cons_succ, xLen, xLen1, xLen2, xLis1, xLst, xSeq, xSeqT, xSeqR, xTup, xTup1, xLis, xLis2, xAll, xAny, xAll0, xAll1, xSum, xSum0, xSum1, xEn, xEn1, xEnR, xSrc, xSrc1, xIx, xIxA, xIxS, xIxI, xIx1, xIxT, xIxR, at0, at1, at2, xAdd, xMul, xRev, xRev1, xCut, xCut1, xCutT, xCutS, xIsi, xIsi1, xIsi2, xTyL, xTyL1, xApp, xExt, G.oRevT, setAt0, setAt, eW_on_on, eW_on_fr, eW_on_ro, eW_on_mi, eW_on_le, eW_fr_on, eW_fr_fr, eW_fr_ro, eW_fr_mi, eW_fr_le, eW_ro_on, eW_ro_fr, eW_ro_ro, eW_ro_mi, eW_ro_le, eW_mi_on, eW_mi_fr, eW_mi_ro, eW_mi_mi, eW_mi_le, eW_le_on, eW_le_fr, eW_le_ro, eW_le_mi, eW_le_le, iW_on_on, iW_on_onn, iW_on_ro, iW_on_ron, iW_fr_on, iW_fr_onn, iW_fr_ro, iW_fr_ron, iW_ro_on, iW_ro_onn, iW_ro_ro, iW_ro_ron, iW_mi_on, iW_mi_onn, iW_mi_ro, iW_mi_ron, iW_le_on, iW_le_onn, iW_le_ro, iW_le_ron, decide_true, decide_false, Int.reduceEq, Int.reduceLT, Int.reduceLE, Int.reduceAdd, Int.reduceSub, Int.reduceMul, Int.reducePow, Int.reduceNeg, Int.reduceNe, $xs,*] at $h:ident)
/-! the mathematics of lengths -/
structure Nn (a : List Int) : Prop where
  pos : ∀ k, 0 ≤ a.getD k 0
  top : a ≠ [] → 0 < a.getD (a.length - 1) 0
theorem getD_far {a : List Int} {k : Nat} (h : a.length ≤ k) : a.getD k 0 = 0 := by
  rw [List.getD_eq_getElem?_getD, List.getElem?_eq_none h]
  rfl
theorem getD_range {f : Nat → Int} {n k : Nat} (h : k < n) : ((List.range n).map f).getD k 0 = f k := by
  rw [List.getD_eq_getElem?_getD, List.getElem?_map, List.getElem?_range h]
  rfl
theorem kept_get {a b : List Int} {k : Nat} (hk : k < max a.length b.length) : (keptR a b).getD k 0 = if ((b.length : Int) - 1) ≤ (k : Int) then a.getD k 0 else 0 := by
  unfold keptR
  by_cases h : k < a.length
  · rw [List.getD_eq_getElem?_getD, List.getElem?_append_left (by rw [List.length_map, List.length_range]; exact h), ← List.getD_eq_getElem?_getD, getD_range h]
  · rw [List.getD_eq_getElem?_getD, List.getElem?_append_right (by rw [List.length_map, List.length_range]; omega), List.length_map, List.length_range, List.getElem?_replicate]
    rw [getD_far (a := a) (by omega), ite_self]
    split <;> rfl
theorem plus_nil {a : List Int} : plusR a [] = a := rfl
theorem plus_len {a b : List Int} (hb : b ≠ []) : (plusR a b).length = max a.length b.length := by
  unfold plusR
  rw [if_neg hb, List.length_map, List.length_range, keptR_len]
/-- the places of a sum -/
theorem plus_get {a b : List Int} (hb : b ≠ []) (k : Nat) : (plusR a b).getD k 0 = if k + 1 < b.length then b.getD k 0 else if k + 1 = b.length then a.getD k 0 + b.getD k 0 else a.getD k 0 := by
  have hlb : 0 < b.length := List.length_pos_iff.mpr hb
  by_cases hk : k < max a.length b.length
  · unfold plusR
    rw [if_neg hb, getD_range (by rw [keptR_len]; exact hk), kept_get hk]
    by_cases h1 : k + 1 < b.length
    · rw [if_neg (by omega), if_pos h1]
    · rw [if_pos (by omega), if_neg h1]
      by_cases h2 : k + 1 = b.length
      · have z : (k : Int) ≤ (b.length : Int) - 1 := by omega
        rw [if_pos z, if_pos h2, if_pos (by omega)]
      · have z : ¬ (k : Int) ≤ (b.length : Int) - 1 := by omega
        rw [if_neg z, if_neg h2]
        omega
  · rw [getD_far (by rw [plus_len hb]; omega), if_neg (by omega), if_neg (by omega), getD_far (by omega)]
theorem nn_nil : Nn [] := ⟨fun k => by simp, fun h => absurd rfl h⟩
theorem nn_plus {a b : List Int} (ha : Nn a) (hb : Nn b) : Nn (plusR a b) := by
  by_cases hz : b = []
  · subst hz
    exact ha
  have hlb : 0 < b.length := List.length_pos_iff.mpr hz
  have ht := hb.top hz
  refine ⟨fun k => ?_, fun _ => ?_⟩
  · have h1 := ha.pos k
    have h2 := hb.pos k
    rw [plus_get hz]
    split
    · exact h2
    · split
      · omega
      · exact h1
  · rw [plus_len hz, plus_get hz]
    by_cases h : a.length ≤ b.length
    · rw [show max a.length b.length - 1 = b.length - 1 by omega, if_neg (by omega), if_pos (by omega)]
      have := ha.pos (b.length - 1)
      omega
    · rw [show max a.length b.length - 1 = a.length - 1 by omega, if_neg (by omega), if_neg (by omega)]
      exact ha.top (fun z => by rw [z] at h; simp at h)
theorem ext_getD {a b : List Int} (hl : a.length = b.length) (h : ∀ k, a.getD k 0 = b.getD k 0) : a = b := by
  apply List.ext_getElem hl
  intro k h1 h2
  have := h k
  rw [List.getD_eq_getElem?_getD, List.getElem?_eq_getElem h1, List.getD_eq_getElem?_getD, List.getElem?_eq_getElem h2] at this
  exact this
theorem nil_plus {c : List Int} : plusR [] c = c := by
  by_cases hc : c = []
  · subst hc
    rfl
  · refine ext_getD (by rw [plus_len hc, List.length_nil]; omega) fun k => ?_
    rw [plus_get hc]
    simp only [List.getD_nil]
    split
    · rfl
    · split
      · omega
      · rw [getD_far (by omega)]
theorem plus_ne {a b : List Int} (hb : b ≠ []) : plusR a b ≠ [] := by
  intro z
  have := plus_len (a := a) hb
  rw [z] at this
  have hlb : 0 < b.length := List.length_pos_iff.mpr hb
  simp at this
  omega
theorem plus_assoc (a b c : List Int) : plusR (plusR a b) c = plusR a (plusR b c) := by
  by_cases hc : c = []
  · subst hc
    rfl
  by_cases hb : b = []
  · subst hb
    rw [plus_nil, nil_plus]
  have hlb : 0 < b.length := List.length_pos_iff.mpr hb
  have hlc : 0 < c.length := List.length_pos_iff.mpr hc
  have hbc := plus_ne (a := b) hc
  refine ext_getD (by rw [plus_len hc, plus_len hb, plus_len hbc, plus_len hc]; omega) fun k => ?_
  have fb : b.length ≤ k → b.getD k 0 = 0 := getD_far
  have fa : a.length ≤ k → a.getD k 0 = 0 := getD_far
  rw [plus_get hc, plus_get hbc, plus_get hb, plus_get hc, plus_len hc]
  generalize a.getD k 0 = x at *
  generalize b.getD k 0 = y at *
  generalize c.getD k 0 = z at *
  repeat' split
  all_goals first | rfl | omega | (have := fb (by omega); omega)
/-! told -/
theorem toldN_congr {a b : List Int} : ∀ n, (∀ k, k < n → a.getD k 0 = b.getD k 0) → toldN a n = toldN b n
  | 0, _ => rfl
  | n + 1, h => by
    rw [toldN, toldN, h n (by omega), toldN_congr n fun k hk => h k (by omega)]
theorem toldN_far {a : List Int} : ∀ d, toldN a (a.length + d) = told a
  | 0 => rfl
  | d + 1 => by
    rw [← Nat.add_assoc, toldN, getD_far (by omega), if_neg (by omega), toldN_far d]
theorem toldN_ge {a : List Int} {n : Nat} (h : a.length ≤ n) : toldN a n = told a := by
  obtain ⟨d, rfl⟩ : ∃ d, n = a.length + d := ⟨n - a.length, by omega⟩
  exact toldN_far d
theorem toldN_mem {a : List Int} : ∀ {n : Nat} {q : Int × Int}, q ∈ toldN a n → ∃ k : Nat, k < n ∧ q = ((k : Int), a.getD k 0) ∧ 0 < a.getD k 0
  | 0, q, h => by cases h
  | n + 1, q, h => by
    rw [toldN] at h
    split at h
    · rename_i hp
      rcases List.mem_cons.mp h with e | e
      · exact ⟨n, by omega, e, hp⟩
      · obtain ⟨k, h1, h2⟩ := toldN_mem e
        exact ⟨k, by omega, h2⟩
    · obtain ⟨k, h1, h2⟩ := toldN_mem h
      exact ⟨k, by omega, h2⟩
theorem filter_lo {a : List Int} {t n : Nat} (h : n ≤ t + 1) : (toldN a n).filter (fun q => decide ((t : Int) < q.1)) = [] := by
  rw [List.filter_eq_nil_iff]
  intro q hq
  obtain ⟨k, h1, rfl, _⟩ := toldN_mem hq
  simp only [decide_eq_true_eq]
  omega
theorem sum_at {a : List Int} (ha : ∀ k, 0 ≤ a.getD k 0) {t : Nat} : ∀ n, (((toldN a n).filter (fun q => decide (q.1 = (t : Int)))).map (·.2)).sum = if t < n then a.getD t 0 else 0
  | 0 => by simp [toldN]
  | n + 1 => by
    rw [toldN]
    have ih := sum_at ha (t := t) n
    have hn := ha n
    by_cases hp : 0 < a.getD n 0
    · rw [if_pos hp, List.filter_cons]
      by_cases e : n = t
      · subst e
        rw [if_pos (by simp), List.map_cons, List.sum_cons, ih, if_neg (by omega), if_pos (by omega)]
        omega
      · rw [if_neg (by simp only [decide_eq_true_eq]; omega), ih]
        by_cases h : t < n
        · rw [if_pos h, if_pos (by omega)]
        · rw [if_neg h, if_neg (by omega)]
    · rw [if_neg hp, ih]
      by_cases e : n = t
      · subst e
        rw [if_neg (by omega), if_pos (by omega)]
        omega
      · by_cases h : t < n
        · rw [if_pos h, if_pos (by omega)]
        · rw [if_neg h, if_neg (by omega)]
theorem told_top {b : List Int} (hb : Nn b) (hz : b ≠ []) : told b = (((b.length - 1 : Nat) : Int), b.getD (b.length - 1) 0) :: toldN b (b.length - 1) := by
  have hlb : 0 < b.length := List.length_pos_iff.mpr hz
  unfold told
  obtain ⟨m, hm⟩ : ∃ m, b.length = m + 1 := ⟨b.length - 1, by omega⟩
  have ht := hb.top hz
  rw [hm] at ht ⊢
  rw [toldN]
  rw [Nat.add_sub_cancel] at ht ⊢
  rw [if_pos ht]
theorem told_plus {a b : List Int} (ha : Nn a) (hb : Nn b) : told (plusR a b) = sumBy (told a) (told b) := by
  by_cases hz : b = []
  · subst hz
    rfl
  have hlb : 0 < b.length := List.length_pos_iff.mpr hz
  generalize ht : b.length - 1 = t
  have hbl : b.length = t + 1 := by omega
  have hget : ∀ k, (plusR a b).getD k 0 = if k < t then b.getD k 0 else if k = t then a.getD k 0 + b.getD k 0 else a.getD k 0 := fun k => by
    rw [plus_get hz, hbl]
    by_cases h1 : k < t
    · rw [if_pos (by omega), if_pos h1]
    · rw [if_neg (by omega), if_neg h1]
      by_cases h2 : k = t
      · rw [if_pos (by omega), if_pos h2]
      · rw [if_neg (by omega), if_neg h2]
  have hbt : 0 < b.getD t 0 := by
    have := hb.top hz
    rw [ht] at this
    exact this
  have key : ∀ d, toldN (plusR a b) (t + 1 + d) = (toldN a (t + 1 + d)).filter (fun q => decide ((t : Int) < q.1)) ++ ((t : Int), a.getD t 0 + b.getD t 0) :: toldN b t := by
    intro d
    induction d with
    | zero =>
      have c1 : (plusR a b).getD t 0 = a.getD t 0 + b.getD t 0 := by rw [hget, if_neg (by omega), if_pos rfl]
      have c2 : 0 < a.getD t 0 + b.getD t 0 := by
        have := ha.pos t
        omega
      rw [Nat.add_zero, filter_lo (Nat.le_refl _), toldN, c1, if_pos c2]
      rw [toldN_congr (a := plusR a b) (b := b) t fun k hk => by rw [hget, if_pos hk]]
      rfl
    | succ d ih =>
      have c1 : (plusR a b).getD (t + 1 + d) 0 = a.getD (t + 1 + d) 0 := by rw [hget, if_neg (by omega), if_neg (by omega)]
      rw [← Nat.add_assoc, toldN, toldN, ih, c1]
      by_cases hp : 0 < a.getD (t + 1 + d) 0
      · rw [if_pos hp, if_pos hp, List.filter_cons, if_pos (by simp only [decide_eq_true_eq]; omega)]
        rfl
      · rw [if_neg hp, if_neg hp]
  have hn : t + 1 ≤ max a.length b.length := by omega
  have e := key (max a.length b.length - (t + 1))
  rw [show t + 1 + (max a.length b.length - (t + 1)) = max a.length b.length by omega] at e
  rw [toldN_ge (a := a) (by omega), ← plus_len hz] at e
  have e' : told (plusR a b) = (told a).filter (fun q => decide ((t : Int) < q.1)) ++ ((t : Int), a.getD t 0 + b.getD t 0) :: toldN b t := e
  rw [e', told_top hb hz, ht]
  show _ = (told a).filter (fun q => decide ((t : Int) < q.1)) ++ ((t : Int), (((told a).filter fun q => decide (q.1 = (t : Int))).map (·.2)).sum + b.getD t 0) :: toldN b t
  have hs := sum_at ha.pos (t := t) (max a.length (t + 1))
  rw [toldN_ge (a := a) (by omega), if_pos (by omega)] at hs
  rw [hs]
end K56
set_option maxRecDepth 100000
set_option maxHeartbeats 4000000
namespace K56
open PySem G
local macro_rules
  | `(tactic| simp! [$xs,*]) => `(tactic| simp only [v0, vS, aC, aOp, aOp1, aOp2, aOf, aUn, aUn1, aNil, aCons, aCons1, aCons2, aCB, aCB1, aTup, aTup1, aLst, aLst1, aTru, aTru1, aTru2, aTst, aTst1, aAndT, aAndT1, aAndT2, aOrT, aOrT1, aOrT2, aNotT, aNotT1, aAnd, aAnd1, aAnd2, aAnd3, aOr, aOr1, aOr2, aOr3, aNot, aNot1, aNot2, aIf, aIf1, aIf2, aCh, aCh0, aCh1, aCh2, aCh3, aCh4, aCall, aCall1, aCallK, aCallK1, aCallK2, aNP, aPart, aPart1, aSl, aSl1, aSl2, aSl3, aMt, aMt1, aMt2, aMt3, aPr0, aPr, aPr1, aPr2, aPr3, aDisp, aDisp1, aEmp, aSeqI, aSeqI1, aSeqI2, aRng1, aEn, aZip, aRng2, aRngD, afI, aLc, aLc1, aLc2, aW0, aW1, aSkip, aSeq, aSeq1, aSeq2, aSeq3, aSeq4, aExpr, aExpr1, aRet, aRet1, aRetN, aBrk, aCnt, aIfS, aIfS1, aIfS2, aSet, aSet1, aPar, aPar1, aPar3, aPar31, aAsg, aAsg1, aAsg2, aFor, aFor1, aRun, aRun1, aRun2, tName, tUnp, tsNil, tsCons, tsCons1, tr_bl, tr_non, tr_int, tr_tup, tr_str,
      List.map_cons, List.map_nil, List.length_cons, List.length_nil, Nat.reduceAdd, Nat.reduceSub, Nat.zero_add, List.replicate, List.cons_append, List.nil_append, List.set_cons_zero, List.set_cons_succ, Nat.reduceLeDiff, Bool.not_true, Bool.not_false, if_true, if_false, ↓reduceIte, G.oAddI, G.oSubI, G.oLeI, G.oGtI, G.oGeI, G.oIsB, G.oIsntB, G.oIsN, G.oIsntN, G.oLenT, G.oLenR, G.oLenS, oIsi, oIsi1, iNon, iBl, iInt, iStr, iTup, iRol, G.tSub, G.tSub1, G.tSub2, G.tSub3, G.oInt, G.oAbs, G.oMax2, G.oPow30, G.oPow18, G.oPow9, G.oEqI, G.oNeI, G.oLtI, isNon, Bool.true_and, Bool.and_true, Bool.false_and, Bool.and_false, Bool.true_or, Bool.false_or, Bool.or_true, Bool.or_false, Bool.not_not, Bool.false_eq_true, G.sT, G.sR, G.sS, Int.cast_ofNat_Int, List.append_assoc, List.length_append, memAt0, memAt, List.getElem?_cons_zero, List.getElem?_cons_succ, xLen, xLen1, xLen2, xLis1, xLst, xSeq, xSeqT, xSeqR, xTup, xTup1, xLis, xLis2, xAll, xAny, xAll0, xAll1, xSum, xSum0, xSum1, xEn, xEn1, xEnR, xSrc, xSrc1, xIx, xIxA, xIxS, xIxI, xIx1, xIxT, xIxR, at0, at1, at2, xAdd, xMul, xRev, xRev1, xCut, xCut1, xCutT, xCutS, xIsi, xIsi1, xIsi2, xTyL, xTyL1, xApp, xExt, G.oRevT, setAt0, setAt, eW_on_on, eW_on_fr, eW_on_ro, eW_on_mi, eW_on_le, eW_fr_on, eW_fr_fr, eW_fr_ro, eW_fr_mi, eW_fr_le, eW_ro_on, eW_ro_fr, eW_ro_ro, eW_ro_mi, eW_ro_le, eW_mi_on, eW_mi_fr, eW_mi_ro, eW_mi_mi, eW_mi_le, eW_le_on, eW_le_fr, eW_le_ro, eW_le_mi, eW_le_le, iW_on_on, iW_on_onn, iW_on_ro, iW_on_ron, iW_fr_on, iW_fr_onn, iW_fr_ro, iW_fr_ron, iW_ro_on, iW_ro_onn, iW_ro_ro, iW_ro_ron, iW_mi_on, iW_mi_onn, iW_mi_ro, iW_mi_ron, iW_le_on, iW_le_onn, iW_le_ro, iW_le_ron, decide_true, decide_false, Int.reduceEq, Int.reduceLT, Int.reduceLE, Int.reduceAdd, Int.reduceSub, Int.reduceMul, Int.reducePow, Int.reduceNeg, Int.reduceNe, $xs,*])
  | `(tactic| simp! [$xs,*] at $h:ident) => `(tactic| simp only [v0, vS, aC, aOp, aOp1, aOp2, aOf, aUn, aUn1, aNil, aCons, aCons1, aCons2, aCB, aCB1, aTup, aTup1, aLst, aLst1, aTru, aTru1, aTru2, aTst, aTst1, aAndT, aAndT1, aAndT2, aOrT, aOrT1, aOrT2, aNotT, aNotT1, aAnd, aAnd1, aAnd2, aAnd3, aOr, aOr1, aOr2, aOr3, aNot, aNot1, aNot2, aIf, aIf1, aIf2, aCh, aCh0, aCh1, aCh2, aCh3, aCh4, aCall, aCall1, aCallK, aCallK1, aCallK2, aNP, aPart, aPart1, aSl, aSl1, aSl2, aSl3, aMt, aMt1, aMt2, aMt3, aPr0, aPr, aPr1, aPr2, aPr3, aDisp, aDisp1, aEmp, aSeqI, aSeqI1, aSeqI2, aRng1, aEn, aZip, aRng2, aRngD, afI, aLc, aLc1, aLc2, aW0, aW1, aSkip, aSeq, aSeq1, aSeq2, aSeq3, aSeq4, aExpr, aExpr1, aRet, aRet1, aRetN, aBrk, aCnt, aIfS, aIfS1, aIfS2, aSet, aSet1, aPar, aPar1, aPar3, aPar31, aAsg, aAsg1, aAsg2, aFor, aFor1, aRun, aRun1, aRun2, tName, tUnp, tsNil, tsCons, tsCons1, tr_bl, tr_non, tr_int, tr_tup, tr_str,
      List.map_cons, List.map_nil, List.length_cons, List.length_nil, Nat.reduceAdd, Nat.reduceSub, Nat.zero_add, List.replicate, List.cons_append, List.nil_append, List.set_cons_zero, List.set_cons_succ, Nat.reduceLeDiff, Bool.not_true, Bool.not_false, if_true, if_false, ↓reduceIte, G.oAddI, G.oSubI, G.oLeI, G.oGtI, G.oGeI, G.oIsB, G.oIsntB, G.oIsN, G.oIsntN, G.oLenT, G.oLenR, G.oLenS, oIsi, oIsi1, iNon, iBl, iInt, iStr, iTup, iRol, G.tSub, G.tSub1, G.tSub2, G.tSub3, G.oInt, G.oAbs, G.oMax2, G.oPow30, G.oPow18, G.oPow9, G.oEqI, G.oNeI, G.oLtI, isNon, Bool.true_and, Bool.and_true, Bool.false_and, Bool.and_false, Bool.true_or, Bool.false_or, Bool.or_true, Bool.or_false, Bool.not_not, Bool.false_eq_true, G.sT, G.sR, G.sS, Int.cast_ofNat_Int, List.append_assoc, List.length_append, memAt0, memAt, List.getElem?_cons_zero, List.getElem?_cons_succ, xLen, xLen1, xLen2, xLis1, xLst, xSeq, xSeqT, xSeqR, xTup, xTup1, xLis, xLis2, xAll, xAny, xAll0, xAll1, xSum, xSum0, xSum1, xEn, xEn1, xEnR, xSrc, xSrc1, xIx, xIxA, xIxS, xIxI, xIx1, xIxT, xIxR, at0, at1, at2, xAdd, xMul, xRev, xRev1, xCut, xCut1, xCutT, xCutS, xIsi, xIsi1, xIsi2, xTyL, xTyL1, xApp, xExt, G.oRevT, setAt0, setAt, eW_on_on, eW_on_fr, eW_on_ro, eW_on_mi, eW_on_le, eW_fr_on, eW_fr_fr, eW_fr_ro, eW_fr_mi, eW_fr_le, eW_ro_on, eW_ro_fr, eW_ro_ro, eW_ro_mi, eW_ro_le, eW_mi_on, eW_mi_fr, eW_mi_ro, eW_mi_mi, eW_mi_le, eW_le_on, eW_le_fr, eW_le_ro, eW_le_mi, eW_le_le, iW_on_on, iW_on_onn, iW_on_ro, iW_on_ron, iW_fr_on, iW_fr_onn, iW_fr_ro, iW_fr_ron, iW_ro_on, iW_ro_onn, iW_ro_ro, iW_ro_ron, iW_mi_on, iW_mi_onn, iW_mi_ro, iW_mi_ron, iW_le_on, iW_le_onn, iW_le_ro, iW_le_ron, decide_true, decide_false, Int.reduceEq, Int.reduceLT, Int.reduceLE, Int.reduceAdd, Int.reduceSub, Int.reduceMul, Int.reducePow, Int.reduceNeg, Int.reduceNe, $xs,*] at $h:ident)
/-! less -/
def revN (a : List Int) : Nat → List Int
  | 0 => []
  | n + 1 => a.getD n 0 :: revN a n
theorem revN_rev (a : List Int) : a.reverse = revN a a.length := by
  have key : ∀ n, n ≤ a.length → (a.take n).reverse = revN a n := by
    intro n
    induction n with
    | zero => intro _; rfl
    | succ n ih =>
      intro h
      rw [List.take_add_one, List.getElem?_eq_getElem (by omega), List.reverse_append, ih (by omega), revN, List.getD_eq_getElem?_getD, List.getElem?_eq_getElem (by omega)]
      rfl
  have := key a.length (Nat.le_refl _)
  rwa [List.take_length] at this
theorem lexL_lo {a : List Int} {n m : Nat} {x : Int} (hm : m ≤ n) (r : PQ) : lexL (toldN a m) (((n : Int), x) :: r) = true ∧ lexL (((n : Int), x) :: r) (toldN a m) = false := by
  cases h : toldN a m with
  | nil => exact ⟨rfl, rfl⟩
  | cons q s =>
    obtain ⟨k, h1, rfl, _⟩ := toldN_mem (a := a) (n := m) (q := q) (by rw [h]; exact List.mem_cons_self)
    have hne : ¬ ((k : Int) = (n : Int)) := by omega
    constructor
    · show (if ((k : Int), a.getD k 0) = ((n : Int), x) then _ else if (k : Int) = (n : Int) then _ else decide ((k : Int) < (n : Int))) = true
      rw [if_neg (fun z => hne (Prod.ext_iff.mp z).1), if_neg hne]
      exact decide_eq_true (by omega)
    · show (if ((n : Int), x) = ((k : Int), a.getD k 0) then _ else if (n : Int) = (k : Int) then _ else decide ((n : Int) < (k : Int))) = false
      rw [if_neg (fun z => hne (Prod.ext_iff.mp z).1.symm), if_neg (fun z => hne z.symm)]
      exact decide_eq_false (by omega)
theorem lex_same {a b : List Int} (ha : ∀ k, 0 ≤ a.getD k 0) (hb : ∀ k, 0 ≤ b.getD k 0) : ∀ n, lexL (toldN a n) (toldN b n) = ltI (revN a n) (revN b n)
  | 0 => rfl
  | n + 1 => by
    have ih := lex_same ha hb n
    have h1 := ha n
    have h2 := hb n
    rw [toldN, toldN, revN, revN]
    show _ = if a.getD n 0 = b.getD n 0 then ltI (revN a n) (revN b n) else decide (a.getD n 0 < b.getD n 0)
    by_cases pa : 0 < a.getD n 0
    · rw [if_pos pa]
      by_cases pb : 0 < b.getD n 0
      · rw [if_pos pb]
        show (if ((n : Int), a.getD n 0) = ((n : Int), b.getD n 0) then lexL (toldN a n) (toldN b n) else if (n : Int) = (n : Int) then decide (a.getD n 0 < b.getD n 0) else _) = _
        by_cases e : a.getD n 0 = b.getD n 0
        · rw [if_pos (by rw [e]), if_pos e, ih]
        · rw [if_neg (fun z => e (Prod.ext_iff.mp z).2), if_pos rfl, if_neg e]
      · rw [if_neg pb, if_neg (by omega), (lexL_lo (Nat.le_refl n) _).2]
        exact (decide_eq_false (by omega)).symm
    · rw [if_neg pa]
      by_cases pb : 0 < b.getD n 0
      · rw [if_pos pb, if_neg (by omega), (lexL_lo (Nat.le_refl n) _).1]
        exact (decide_eq_true (by omega)).symm
      · rw [if_neg pb, if_pos (by omega), ih]
/-- the law's own less -/
def ownLess (a b : List Int) : Bool := if a.length = b.length then ltI a.reverse b.reverse else decide (a.length < b.length)
theorem lex_told {a b : List Int} (ha : Nn a) (hb : Nn b) : lexL (told a) (told b) = ownLess a b := by
  unfold ownLess
  by_cases e : a.length = b.length
  · rw [if_pos e, revN_rev, revN_rev]
    unfold told
    rw [e]
    exact lex_same ha.pos hb.pos _
  · rw [if_neg e]
    by_cases l : a.length < b.length
    · have hz : b ≠ [] := fun z => by rw [z] at l; simp at l
      rw [told_top hb hz, decide_eq_true l]
      exact (lexL_lo (by omega) _).1
    · have hz : a ≠ [] := fun z => by
        subst z
        simp only [List.length_nil] at l e
        omega
      rw [told_top ha hz, decide_eq_false l]
      exact (lexL_lo (by omega) _).2
theorem ltI_self : ∀ a : List Int, ltI a a = false
  | [] => rfl
  | x :: a => by
    show (if x = x then ltI a a else decide (x < x)) = false
    rw [if_pos rfl, ltI_self a]
theorem less_ne {a b : List Int} : (if a = b then false else ownLess a b) = ownLess a b := by
  by_cases e : a = b
  · subst e
    rw [if_pos rfl]
    unfold ownLess
    rw [if_pos rfl, ltI_self]
  · rw [if_neg e]
theorem sum_not_less {a b : List Int} (ha : Nn a) (hb : Nn b) : lexL (told (plusR a b)) (told a) = false := by
  rw [lex_told (nn_plus ha hb) ha]
  by_cases hz : b = []
  · subst hz
    unfold ownLess
    rw [plus_nil, if_pos rfl, ltI_self]
  · have hlb : 0 < b.length := List.length_pos_iff.mpr hz
    have hl := plus_len (a := a) hz
    unfold ownLess
    by_cases e : (plusR a b).length = a.length
    · rw [if_pos e, revN_rev, revN_rev, e]
      obtain ⟨t, ht⟩ : ∃ t, b.length = t + 1 := ⟨b.length - 1, by omega⟩
      have hbt : 0 < b.getD t 0 := by
        have := hb.top hz
        rw [ht, Nat.add_sub_cancel] at this
        exact this
      have key : ∀ d, ltI (revN (plusR a b) (t + 1 + d)) (revN a (t + 1 + d)) = false := by
        intro d
        induction d with
        | zero =>
          have c1 : (plusR a b).getD t 0 = a.getD t 0 + b.getD t 0 := by rw [plus_get hz, if_neg (by omega), if_pos (by omega)]
          show (if (plusR a b).getD t 0 = a.getD t 0 then _ else decide ((plusR a b).getD t 0 < a.getD t 0)) = false
          rw [c1, if_neg (by omega)]
          exact decide_eq_false (by omega)
        | succ d ih =>
          have c1 : (plusR a b).getD (t + 1 + d) 0 = a.getD (t + 1 + d) 0 := by rw [plus_get hz, if_neg (by omega), if_neg (by omega)]
          show (if (plusR a b).getD (t + 1 + d) 0 = a.getD (t + 1 + d) 0 then _ else _) = false
          rw [if_pos c1]
          exact ih
      have := key (a.length - (t + 1))
      rw [show t + 1 + (a.length - (t + 1)) = a.length by omega] at this
      exact this
    · rw [if_neg e]
      exact decide_eq_false (by omega)
/-! times -/
def timesR (c : List Int) : Nat → List Int
  | 0 => []
  | m + 1 => plusR (timesR c m) c
theorem timesR_get {c : List Int} (hc : c ≠ []) : ∀ m : Nat, (timesR c (m + 1)).length = c.length ∧ ∀ k, (timesR c (m + 1)).getD k 0 = if k + 1 = c.length then ((m : Int) + 1) * c.getD k 0 else c.getD k 0
  | 0 => by
    show (plusR [] c).length = _ ∧ _
    have e : timesR c (0 + 1) = c := nil_plus
    rw [e, nil_plus]
    refine ⟨rfl, fun k => ?_⟩
    split
    · rw [show (((0 : Nat) : Int) + 1) * c.getD k 0 = c.getD k 0 by rw [Int.natCast_zero, Int.zero_add, Int.one_mul]]
    · rfl
  | m + 1 => by
    obtain ⟨h1, h2⟩ := timesR_get hc m
    have e : timesR c (m + 1 + 1) = plusR (timesR c (m + 1)) c := rfl
    rw [e]
    refine ⟨by rw [plus_len hc, h1, Nat.max_self], fun k => ?_⟩
    rw [plus_get hc, h2]
    by_cases a : k + 1 = c.length
    · rw [if_neg (by omega), if_pos a, if_pos a, if_pos a]
      rw [show (((m + 1 : Nat) : Int) + 1) * c.getD k 0 = ((m : Int) + 1) * c.getD k 0 + c.getD k 0 by
        rw [Int.natCast_add, Int.natCast_one, Int.add_mul ((m : Int) + 1) 1, Int.one_mul]]
    · rw [if_neg a, if_neg a, if_neg a]
      split
      · rfl
      · rw [getD_far (by omega)]
theorem nn_times {c : List Int} (hc : Nn c) : ∀ m, Nn (timesR c m)
  | 0 => nn_nil
  | m + 1 => nn_plus (nn_times hc m) hc
theorem told_times {c : List Int} (hc : Nn c) (m : Nat) : told (timesR c m) = timesBy (told c) m := by
  by_cases hz : c = []
  · subst hz
    cases m with
    | zero => rfl
    | succ m =>
      have e : ∀ k, timesR [] k = [] := by
        intro k
        induction k with
        | zero => rfl
        | succ k ih =>
          show plusR (timesR [] k) [] = []
          rw [plus_nil, ih]
      rw [e]
      rfl
  · cases m with
    | zero =>
      rw [told_top hc hz]
      show ([] : PQ) = if ((0 : Nat) : Int) = 0 then [] else (((c.length - 1 : Nat) : Int), c.getD (c.length - 1) 0 * ((0 : Nat) : Int)) :: toldN c (c.length - 1)
      simp
    | succ m =>
      obtain ⟨h1, h2⟩ := timesR_get hz m
      have hlc : 0 < c.length := List.length_pos_iff.mpr hz
      have hz' : timesR c (m + 1) ≠ [] := fun z => by rw [z] at h1; simp at h1; omega
      rw [told_top (nn_times hc _) hz', told_top hc hz, h1, h2, if_pos (by omega)]
      rw [toldN_congr (a := timesR c (m + 1)) (b := c) _ fun k hk => by rw [h2, if_neg (by omega)]]
      show _ = if ((m + 1 : Nat) : Int) = 0 then [] else (((c.length - 1 : Nat) : Int), c.getD (c.length - 1) 0 * ((m + 1 : Nat) : Int)) :: toldN c (c.length - 1)
      rw [if_neg (by omega), Int.mul_comm, Int.natCast_add, Int.natCast_one]
/-! forever -/
def everR (n : Nat) : List Int := List.replicate n 0 ++ [1]
theorem ever_get {n k : Nat} : (everR n).getD k 0 = if k = n then 1 else 0 := by
  unfold everR
  rw [List.getD_eq_getElem?_getD]
  by_cases h : k < n
  · rw [List.getElem?_append_left (by rw [List.length_replicate]; exact h), List.getElem?_replicate, if_pos h, if_neg (by omega)]
    rfl
  · rw [List.getElem?_append_right (by rw [List.length_replicate]; omega), List.length_replicate]
    by_cases e : k = n
    · subst e
      rw [Nat.sub_self, if_pos rfl]
      rfl
    · rw [List.getElem?_eq_none (by simp only [List.length_cons, List.length_nil]; omega), if_neg e]
      rfl
theorem ever_len {n : Nat} : (everR n).length = n + 1 := by
  unfold everR
  rw [List.length_append, List.length_replicate]
  rfl
theorem nn_ever (n : Nat) : Nn (everR n) := ⟨fun k => by rw [ever_get]; split <;> omega, fun _ => by rw [ever_len, Nat.add_sub_cancel, ever_get, if_pos rfl]; decide⟩
theorem told_ever (n : Nat) : told (everR n) = [((n : Int), 1)] := by
  have hz : everR n ≠ [] := fun z => by
    have := ever_len (n := n)
    rw [z] at this
    simp at this
  rw [told_top (nn_ever n) hz, ever_len, Nat.add_sub_cancel, ever_get, if_pos rfl]
  have : ∀ m, m ≤ n → toldN (everR n) m = [] := by
    intro m
    induction m with
    | zero => intro _; rfl
    | succ m ih =>
      intro h
      rw [toldN, ever_get, if_neg (show ¬ m = n by omega), if_neg (by decide), ih (by omega)]
  rw [this n (Nat.le_refl _)]
theorem forever_told {c : List Int} (hc : Nn c) : foreverBy (told c) = if c = [] then [] else told (everR c.length) := by
  by_cases hz : c = []
  · subst hz
    rfl
  · have hlc : 0 < c.length := List.length_pos_iff.mpr hz
    rw [if_neg hz, told_top hc hz, told_ever]
    show [(((c.length - 1 : Nat) : Int) + 1, (1 : Int))] = _
    rw [show ((c.length - 1 : Nat) : Int) + 1 = (c.length : Int) by omega]
theorem sum_ever {c : List Int} : sumBy (told c) [((c.length : Int), 1)] = [((c.length : Int), 1)] := by
  show (told c).filter (fun q => decide ((c.length : Int) < q.1)) ++ ((c.length : Int), (((told c).filter fun q => decide (q.1 = (c.length : Int))).map (·.2)).sum + 1) :: [] = _
  have e1 : (told c).filter (fun q => decide ((c.length : Int) < q.1)) = [] := filter_lo (by omega)
  have e2 : (told c).filter (fun q => decide (q.1 = (c.length : Int))) = [] := by
    rw [List.filter_eq_nil_iff]
    intro q hq
    obtain ⟨k, h1, rfl, _⟩ := toldN_mem (a := c) (n := c.length) hq
    simp only [decide_eq_true_eq]
    omega
  rw [e1, e2]
  rfl
/-! what is told is a length -/
theorem told_len (a : List Int) : (told a).length ≤ a.length := by
  have : ∀ n, (toldN a n).length ≤ n := by
    intro n
    induction n with
    | zero => exact Nat.le_refl _
    | succ n ih =>
      rw [toldN]
      split
      · rw [List.length_cons]; omega
      · omega
  exact this _
theorem chk_told {a : List Int} (hb : ∀ k, a.getD k 0 ≤ 1000000000000000000000000000000) : ∀ (n : Nat) (last : Int), (n : Int) ≤ last → last ≤ 16 → chk last ((toldN a n).map encP) = true
  | 0, _, _, _ => rfl
  | n + 1, last, h1, h2 => by
    rw [toldN]
    split
    · rename_i hp
      rw [List.map_cons]
      show (stepOk last (encP ((n : Int), a.getD n 0)) && chk (n : Int) ((toldN a n).map encP)) = true
      rw [chk_told hb n n (Int.le_refl _) (by omega), Bool.and_true]
      show ((decide (0 ≤ (n : Int)) && decide ((n : Int) < last)) && (decide (1 ≤ a.getD n 0) && decide (a.getD n 0 ≤ 1000000000000000000000000000000))) = true
      rw [decide_eq_true (by omega), decide_eq_true (by omega), decide_eq_true (by omega), decide_eq_true (hb n)]
      rfl
    · exact chk_told hb n last (by omega) h2
theorem lenV_told {a : List Int} (hl : a.length ≤ 16) (hb : ∀ k, a.getD k 0 ≤ 1000000000000000000000000000000) : lenV (encL (told a)) = true := by
  unfold encL
  rw [← chk_len]
  exact chk_told hb _ _ (by omega) (Int.le_refl _)
theorem told_mem {a : List Int} {q : Int × Int} (h : q ∈ told a) : ∃ k : Nat, k < a.length ∧ q = ((k : Int), a.getD k 0) ∧ 0 < a.getD k 0 := toldN_mem h
end K56
set_option maxRecDepth 100000
set_option maxHeartbeats 4000000
namespace K56
open PySem G
local macro_rules
  | `(tactic| simp! [$xs,*]) => `(tactic| simp only [v0, vS, aC, aOp, aOp1, aOp2, aOf, aUn, aUn1, aNil, aCons, aCons1, aCons2, aCB, aCB1, aTup, aTup1, aLst, aLst1, aTru, aTru1, aTru2, aTst, aTst1, aAndT, aAndT1, aAndT2, aOrT, aOrT1, aOrT2, aNotT, aNotT1, aAnd, aAnd1, aAnd2, aAnd3, aOr, aOr1, aOr2, aOr3, aNot, aNot1, aNot2, aIf, aIf1, aIf2, aCh, aCh0, aCh1, aCh2, aCh3, aCh4, aCall, aCall1, aCallK, aCallK1, aCallK2, aNP, aPart, aPart1, aSl, aSl1, aSl2, aSl3, aMt, aMt1, aMt2, aMt3, aPr0, aPr, aPr1, aPr2, aPr3, aDisp, aDisp1, aEmp, aSeqI, aSeqI1, aSeqI2, aRng1, aEn, aZip, aRng2, aRngD, afI, aLc, aLc1, aLc2, aW0, aW1, aSkip, aSeq, aSeq1, aSeq2, aSeq3, aSeq4, aExpr, aExpr1, aRet, aRet1, aRetN, aBrk, aCnt, aIfS, aIfS1, aIfS2, aSet, aSet1, aPar, aPar1, aPar3, aPar31, aAsg, aAsg1, aAsg2, aFor, aFor1, aRun, aRun1, aRun2, tName, tUnp, tsNil, tsCons, tsCons1, tr_bl, tr_non, tr_int, tr_tup, tr_str,
      List.map_cons, List.map_nil, List.length_cons, List.length_nil, Nat.reduceAdd, Nat.reduceSub, Nat.zero_add, List.replicate, List.cons_append, List.nil_append, List.set_cons_zero, List.set_cons_succ, Nat.reduceLeDiff, Bool.not_true, Bool.not_false, if_true, if_false, ↓reduceIte, G.oAddI, G.oSubI, G.oLeI, G.oGtI, G.oGeI, G.oIsB, G.oIsntB, G.oIsN, G.oIsntN, G.oLenT, G.oLenR, G.oLenS, oIsi, oIsi1, iNon, iBl, iInt, iStr, iTup, iRol, G.tSub, G.tSub1, G.tSub2, G.tSub3, G.oInt, G.oAbs, G.oMax2, G.oPow30, G.oPow18, G.oPow9, G.oEqI, G.oNeI, G.oLtI, isNon, Bool.true_and, Bool.and_true, Bool.false_and, Bool.and_false, Bool.true_or, Bool.false_or, Bool.or_true, Bool.or_false, Bool.not_not, Bool.false_eq_true, G.sT, G.sR, G.sS, Int.cast_ofNat_Int, List.append_assoc, List.length_append, memAt0, memAt, List.getElem?_cons_zero, List.getElem?_cons_succ, xLen, xLen1, xLen2, xLis1, xLst, xSeq, xSeqT, xSeqR, xTup, xTup1, xLis, xLis2, xAll, xAny, xAll0, xAll1, xSum, xSum0, xSum1, xEn, xEn1, xEnR, xSrc, xSrc1, xIx, xIxA, xIxS, xIxI, xIx1, xIxT, xIxR, at0, at1, at2, xAdd, xMul, xRev, xRev1, xCut, xCut1, xCutT, xCutS, xIsi, xIsi1, xIsi2, xTyL, xTyL1, xApp, xExt, G.oRevT, setAt0, setAt, eW_on_on, eW_on_fr, eW_on_ro, eW_on_mi, eW_on_le, eW_fr_on, eW_fr_fr, eW_fr_ro, eW_fr_mi, eW_fr_le, eW_ro_on, eW_ro_fr, eW_ro_ro, eW_ro_mi, eW_ro_le, eW_mi_on, eW_mi_fr, eW_mi_ro, eW_mi_mi, eW_mi_le, eW_le_on, eW_le_fr, eW_le_ro, eW_le_mi, eW_le_le, iW_on_on, iW_on_onn, iW_on_ro, iW_on_ron, iW_fr_on, iW_fr_onn, iW_fr_ro, iW_fr_ron, iW_ro_on, iW_ro_onn, iW_ro_ro, iW_ro_ron, iW_mi_on, iW_mi_onn, iW_mi_ro, iW_mi_ron, iW_le_on, iW_le_onn, iW_le_ro, iW_le_ron, decide_true, decide_false, Int.reduceEq, Int.reduceLT, Int.reduceLE, Int.reduceAdd, Int.reduceSub, Int.reduceMul, Int.reducePow, Int.reduceNeg, Int.reduceNe, $xs,*])
  | `(tactic| simp! [$xs,*] at $h:ident) => `(tactic| simp only [v0, vS, aC, aOp, aOp1, aOp2, aOf, aUn, aUn1, aNil, aCons, aCons1, aCons2, aCB, aCB1, aTup, aTup1, aLst, aLst1, aTru, aTru1, aTru2, aTst, aTst1, aAndT, aAndT1, aAndT2, aOrT, aOrT1, aOrT2, aNotT, aNotT1, aAnd, aAnd1, aAnd2, aAnd3, aOr, aOr1, aOr2, aOr3, aNot, aNot1, aNot2, aIf, aIf1, aIf2, aCh, aCh0, aCh1, aCh2, aCh3, aCh4, aCall, aCall1, aCallK, aCallK1, aCallK2, aNP, aPart, aPart1, aSl, aSl1, aSl2, aSl3, aMt, aMt1, aMt2, aMt3, aPr0, aPr, aPr1, aPr2, aPr3, aDisp, aDisp1, aEmp, aSeqI, aSeqI1, aSeqI2, aRng1, aEn, aZip, aRng2, aRngD, afI, aLc, aLc1, aLc2, aW0, aW1, aSkip, aSeq, aSeq1, aSeq2, aSeq3, aSeq4, aExpr, aExpr1, aRet, aRet1, aRetN, aBrk, aCnt, aIfS, aIfS1, aIfS2, aSet, aSet1, aPar, aPar1, aPar3, aPar31, aAsg, aAsg1, aAsg2, aFor, aFor1, aRun, aRun1, aRun2, tName, tUnp, tsNil, tsCons, tsCons1, tr_bl, tr_non, tr_int, tr_tup, tr_str,
      List.map_cons, List.map_nil, List.length_cons, List.length_nil, Nat.reduceAdd, Nat.reduceSub, Nat.zero_add, List.replicate, List.cons_append, List.nil_append, List.set_cons_zero, List.set_cons_succ, Nat.reduceLeDiff, Bool.not_true, Bool.not_false, if_true, if_false, ↓reduceIte, G.oAddI, G.oSubI, G.oLeI, G.oGtI, G.oGeI, G.oIsB, G.oIsntB, G.oIsN, G.oIsntN, G.oLenT, G.oLenR, G.oLenS, oIsi, oIsi1, iNon, iBl, iInt, iStr, iTup, iRol, G.tSub, G.tSub1, G.tSub2, G.tSub3, G.oInt, G.oAbs, G.oMax2, G.oPow30, G.oPow18, G.oPow9, G.oEqI, G.oNeI, G.oLtI, isNon, Bool.true_and, Bool.and_true, Bool.false_and, Bool.and_false, Bool.true_or, Bool.false_or, Bool.or_true, Bool.or_false, Bool.not_not, Bool.false_eq_true, G.sT, G.sR, G.sS, Int.cast_ofNat_Int, List.append_assoc, List.length_append, memAt0, memAt, List.getElem?_cons_zero, List.getElem?_cons_succ, xLen, xLen1, xLen2, xLis1, xLst, xSeq, xSeqT, xSeqR, xTup, xTup1, xLis, xLis2, xAll, xAny, xAll0, xAll1, xSum, xSum0, xSum1, xEn, xEn1, xEnR, xSrc, xSrc1, xIx, xIxA, xIxS, xIxI, xIx1, xIxT, xIxR, at0, at1, at2, xAdd, xMul, xRev, xRev1, xCut, xCut1, xCutT, xCutS, xIsi, xIsi1, xIsi2, xTyL, xTyL1, xApp, xExt, G.oRevT, setAt0, setAt, eW_on_on, eW_on_fr, eW_on_ro, eW_on_mi, eW_on_le, eW_fr_on, eW_fr_fr, eW_fr_ro, eW_fr_mi, eW_fr_le, eW_ro_on, eW_ro_fr, eW_ro_ro, eW_ro_mi, eW_ro_le, eW_mi_on, eW_mi_fr, eW_mi_ro, eW_mi_mi, eW_mi_le, eW_le_on, eW_le_fr, eW_le_ro, eW_le_mi, eW_le_le, iW_on_on, iW_on_onn, iW_on_ro, iW_on_ron, iW_fr_on, iW_fr_onn, iW_fr_ro, iW_fr_ron, iW_ro_on, iW_ro_onn, iW_ro_ro, iW_ro_ron, iW_mi_on, iW_mi_onn, iW_mi_ro, iW_mi_ron, iW_le_on, iW_le_onn, iW_le_ro, iW_le_ron, decide_true, decide_false, Int.reduceEq, Int.reduceLT, Int.reduceLE, Int.reduceAdd, Int.reduceSub, Int.reduceMul, Int.reducePow, Int.reduceNeg, Int.reduceNe, $xs,*] at $h:ident)
/-! lengths of drawn timelines -/
mutual
def ownL : Tl → List Int
  | .ltr _ => [1]
  | .one _ t => everR (ownL t).length
  | .many _ ts => ownLs [] ts
def ownLs (a : List Int) : List Tl → List Int
  | [] => a
  | t :: ts => ownLs (plusR a (ownL t)) ts
end
mutual
theorem nn_own : ∀ t : Tl, Nn (ownL t)
  | .ltr _ => ⟨fun k => by
      rw [ownL]
      match k with
      | 0 => decide
      | k + 1 => exact Int.le_refl _, fun _ => by rw [ownL]; decide⟩
  | .one _ t => by rw [ownL]; exact nn_ever _
  | .many _ ts => by rw [ownL]; exact nn_owns ts nn_nil
theorem nn_owns : ∀ (ts : List Tl) {a : List Int}, Nn a → Nn (ownLs a ts)
  | [], a, h => h
  | t :: ts, a, h => by
    rw [ownLs]
    exact nn_owns ts (nn_plus h (nn_own t))
end
mutual
theorem own_len : ∀ t : Tl, (ownL t).length ≤ t.dep
  | .ltr _ => by rw [ownL, Tl.dep]; exact Nat.le_refl _
  | .one _ t => by
    rw [ownL, Tl.dep, ever_len]
    have := own_len t
    omega
  | .many _ ts => by
    rw [ownL, Tl.dep]
    have := owns_len ts []
    simp at this
    omega
theorem owns_len : ∀ (ts : List Tl) (a : List Int), (ownLs a ts).length ≤ max a.length (deps ts)
  | [], a => by rw [ownLs, deps]; omega
  | t :: ts, a => by
    rw [ownLs, deps]
    have h1 := owns_len ts (plusR a (ownL t))
    have h2 := plusR_len (a := a) (b := ownL t)
    have h3 := own_len t
    omega
end
theorem plus_le {a b : List Int} {x y : Int} (ha : ∀ k, a.getD k 0 ≤ x) (hb : ∀ k, b.getD k 0 ≤ y) (hx : 0 ≤ x) (hy : 0 ≤ y) (k : Nat) : (plusR a b).getD k 0 ≤ x + y := by
  by_cases hz : b = []
  · subst hz
    have := ha k
    rw [plus_nil]
    omega
  · have h1 := ha k
    have h2 := hb k
    rw [plus_get hz]
    split
    · omega
    · split <;> omega
mutual
theorem own_le : ∀ (t : Tl) (k : Nat), (ownL t).getD k 0 ≤ t.size
  | .ltr _, k => by
    rw [ownL, Tl.size]
    match k with
    | 0 => exact Int.le_refl _
    | k + 1 => simp
  | .one _ t, k => by
    rw [ownL, ever_get, Tl.size]
    split <;> omega
  | .many w ts, k => by
    rw [ownL, Tl.size]
    have := owns_le ts (a := []) (x := 0) (by simp) (Int.le_refl _) k
    split <;> omega
theorem owns_le : ∀ (ts : List Tl) {a : List Int} {x : Int}, (∀ k, a.getD k 0 ≤ x) → 0 ≤ x → ∀ k, (ownLs a ts).getD k 0 ≤ x + sizes ts
  | [], a, x, h, _, k => by
    rw [ownLs, sizes]
    have := h k
    omega
  | t :: ts, a, x, h, hx, k => by
    rw [ownLs, sizes]
    have h1 := plus_le (b := ownL t) h (fun k => own_le t k) hx (by omega)
    have h2 := owns_le ts h1 (by omega) k
    omega
end
theorem shDs_int {k : Nat} : ∀ r : List Int, shDs k (r.map D.int) = r.map D.int
  | [] => rfl
  | x :: r => by
    rw [List.map_cons]
    show D.int x :: shDs k (r.map D.int) = _
    rw [shDs_int r]
/-- a new row -/
def Rw (r : List Int) (x : R D) (M : Mem) : Prop := ∃ (n : Nat) (X : Mem), x = .ok (.ref n) (M ++ X) ∧ (M ++ X)[n]? = row r ∧ M.length ≤ n
theorem rw_call {F : Fn} {t : Tl} {r : List Int} (h : Rw r (F [t.enc] []) []) (M : Mem) : Rw r (callF F [t.enc] M) M := by
  obtain ⟨n, M', e, hn, _⟩ := h
  have hr : noRefs [t.enc] = true := by
    show (noRef t.enc && true) = true
    rw [noRef_enc]
    rfl
  refine ⟨M.length + n, M'.map (shO M.length), call_new hr rfl e, ?_, by omega⟩
  rw [List.nil_append] at hn
  rw [memAt, List.getElem?_map, hn]
  show some (Ob.lst (shDs M.length (r.map D.int))) = _
  rw [shDs_int]
theorem own_loop {me : Fn} {ts : List Tl} {M : Mem} {v : D} {o2 : Option D} {i : Nat} {a : List Int} (IH : ∀ t ∈ ts, ∀ M, Rw (ownL t) (callF me [t.enc] M) M) (hl : ts.length ≤ 100) (hd : ∀ t ∈ ts, t.dep ≤ 100) (ha : a.length ≤ 100) (hi : M[i]? = row a) :
    ∃ ρ' M', forG (srcS (ts.map Tl.enc)) (gName' 2) (gSet 1 (gCall m_law_plus (gCons (gV 1) (gCons (gCall me (gCons (gV 2) (gNil))) (gNil))))) big 0 [some v, some (.ref i), o2] M = .ok (.nx ρ') M' ∧
      ∃ (n : Nat) (o2 : Option D) (X : Mem), ρ' = [some v, some (.ref n), o2] ∧ M' = M ++ X ∧ M'[n]? = row (ownLs a ts) ∧ (n = i ∨ M.length ≤ n) := by
  have key : ∀ (us : List Tl) (x : List Int) (t : Tl), ownLs x (us ++ [t]) = plusR (ownLs x us) (ownL t) := by
    intro us
    induction us with
    | nil => intro x t; rw [List.nil_append, ownLs, ownLs, ownLs]
    | cons u us ih => intro x t; rw [List.cons_append, ownLs, ownLs, ih]
  have q := for_inv (src := srcS (ts.map Tl.enc)) (its := ts.map Tl.enc) (tg := gName' 2) (M := M) (ρ := [some v, some (.ref i), o2])
    (b := gSet 1 (gCall m_law_plus (gCons (gV 1) (gCons (gCall me (gCons (gV 2) (gNil))) (gNil)))))
    (fun j ρ M1 => ∃ (n : Nat) (o2 : Option D) (X : Mem), ρ = [some v, some (.ref n), o2] ∧ M1 = M ++ X ∧ M1[n]? = row (ownLs a (ts.take j)) ∧ (n = i ∨ M.length ≤ n))
    (by rw [List.length_map]; exact big_gt (by omega)) ⟨i, o2, [], rfl, (List.append_nil _).symm, by rw [List.take_zero, ownLs]; exact hi, .inl rfl⟩ (fun _ _ _ _ _ => rfl) (fun j ρ M1 x hx hP => by
      obtain ⟨n, o2, X, rfl, rfl, h1, h2⟩ := hP
      have hj : j < ts.length := by
        have := (List.getElem?_eq_some_iff.mp hx).1
        rw [List.length_map] at this
        exact this
      rw [List.getElem?_map, List.getElem?_eq_getElem hj] at hx
      cases hx
      have hm := List.getElem_mem hj
      obtain ⟨m, Y, e, g1, g2⟩ := IH ts[j] hm (M ++ X)
      have hb : (ownLs a (ts.take j)).length ≤ 1000 := by
        have := owns_len (ts.take j) a
        have h3 : deps (ts.take j) ≤ 100 := deps_le fun t ht => hd t (List.mem_of_mem_take ht)
        omega
      have hb2 : (ownL ts[j]).length ≤ 1000 := by
        have := own_len ts[j]
        have := hd _ hm
        omega
      obtain ⟨n3, Z, e3, g3, g4⟩ := f_law_plus (M := M ++ X ++ Y) (mem_old h1) g1 hb hb2
      have e3' : callF m_law_plus [.ref n, .ref m] (M ++ X ++ Y) = .ok (.ref n3) (M ++ X ++ Y ++ Z) := by
        rw [call_ref rfl]
        exact e3
      simp only [List.append_assoc] at e e3' g3
      refine ⟨_, _, [some v, some (.ref n3), some ts[j].enc], M ++ (X ++ (Y ++ Z)), rfl, .inl ?_, n3, _, _, rfl, rfl, ?_, ?_⟩
      · simp! [e, e3']
      · rw [g3, List.take_add_one, List.getElem?_eq_getElem hj, show (some ts[j]).toList = [ts[j]] from rfl, key]
      · rw [List.length_append, List.length_append] at g4
        rcases g4 with z | z
        · rw [z]; exact h2
        · exact .inr (by omega))
  obtain ⟨ρ', M', e1, n, o2, X, e2, e3, e4, e5⟩ := q
  rw [List.length_map, List.take_length] at e4
  exact ⟨ρ', M', e1, n, o2, X, e2, e3, e4, e5⟩
theorem f_own_length : ∀ (f : Nat) (t : Tl), okT t = true → t.dep ≤ f → t.dep ≤ 100 → t.size ≤ 100 → Rw (ownL t) (r_law_own_length f [t.enc] []) []
  | 0, t, _, h, _, _ => by
    have := dep_pos t
    omega
  | f + 1, .ltr c, _, _, _, _ => by
    refine ⟨0, [.lst [.int 1]], ?_, rfl, Nat.le_refl _⟩
    show runDef 3 (b_law_own_length (r_law_own_length f)) [(Tl.ltr c).enc] [] = _
    simp! [b_law_own_length, Tl.enc]
  | f + 1, .one w t, ho, h, hd, hs => by
    rw [okT, Bool.and_eq_true] at ho
    have hw := ho.1
    subst hw
    rw [Tl.dep] at h hd
    rw [Tl.size] at hs
    obtain ⟨n, X, e, g1, g2⟩ := rw_call (f_own_length f t ho.2 (by omega) (by omega) (by omega)) [.lst [.int 0]]
    have hlen := own_len t
    have g1' : (Ob.lst [D.int 0] :: X)[n]? = row (ownL t) := g1
    have e' : callF (r_law_own_length f) [t.enc] [.lst [.int 0]] = .ok (.ref n) (Ob.lst [D.int 0] :: X) := e
    have hadd : (List.replicate (ownL t).length (D.int 0)).length + [D.int 1].length ≤ 16777216 := by
      rw [List.length_replicate, List.length_cons, List.length_nil]
      omega
    have hev : List.replicate (ownL t).length (D.int 0) ++ [D.int 1] = (everR (ownL t).length).map D.int := by
      unfold everR
      rw [List.map_append, List.map_replicate]
      rfl
    refine ⟨X.length + 3, .lst [.int 0] :: (X ++ [.lst (List.replicate (ownL t).length (.int 0)), .lst [.int 1], .lst ((everR (ownL t).length).map D.int)]), ?_, ?_, Nat.zero_le _⟩
    · show runDef 3 (b_law_own_length (r_law_own_length f)) [(Tl.one true t).enc] [] = _
      simp! [b_law_own_length, Tl.enc, wordO, e', g1', List.length_map, xMul1 (show (ownL t).length ≤ 1000000 by omega), xAdd1 hadd, hev]
    · rw [ownL, List.nil_append, List.getElem?_cons_succ, memAt]
      rfl
  | f + 1, .many w ts, ho, h, hd, hs => by
    rw [okT, Bool.and_eq_true, Bool.and_eq_true] at ho
    have hw := ho.1.1
    subst hw
    rw [Tl.dep] at h hd
    have hs' : 0 + sizes ts ≤ 100 := hs
    have hlen := sizes_ge ts fun u hu => okTs_mem ho.1.2 u hu
    obtain ⟨ρ', M', e, n, o2, X, rfl, rfl, g1, g2⟩ := own_loop (me := r_law_own_length f) (ts := ts) (M := [.lst []]) (v := (Tl.many true ts).enc) (o2 := none) (i := 0) (a := []) (fun t ht M => by
      have h1 := dep_in ht
      have h2 := size_in ht
      exact rw_call (f_own_length f t (okTs_mem ho.1.2 t ht) (by omega) (by omega) (by omega)) M) (by omega) (fun t ht => by
      have h1 := dep_in ht
      omega) (by simp) rfl
    refine ⟨n, [.lst []] ++ X, ?_, by rw [ownL, List.nil_append]; exact g1, Nat.zero_le _⟩
    show runDef 3 (b_law_own_length (r_law_own_length f)) [(Tl.many true ts).enc] [] = _
    simp only [Tl.enc, wordM, encs_map] at e ⊢
    simp! [b_law_own_length]
    refine (congrArg (fun r => runK (seqK (gRet (gV 1)) r)) e).trans ?_
    simp! []
/-! the program's length -/
mutual
def lenT : Tl → PQ
  | .ltr _ => [(0, 1)]
  | .one _ t => foreverBy (lenT t)
  | .many _ ts => lenTs [] ts
def lenTs (a : PQ) : List Tl → PQ
  | [] => a
  | t :: ts => lenTs (sumBy a (lenT t)) ts
end
theorem own_ne : ∀ (t : Tl), okT t = true → ownL t ≠ []
  | .ltr _, _ => by rw [ownL]; simp
  | .one _ t, _ => by
    rw [ownL]
    intro z
    have := ever_len (n := (ownL t).length)
    rw [z] at this
    simp at this
  | .many w ts, h => by
    rw [okT, Bool.and_eq_true, Bool.and_eq_true, Bool.and_eq_true] at h
    have h2 : 2 ≤ ts.length := of_decide_eq_true h.2.1
    cases ts with
    | nil => simp at h2
    | cons t r =>
      have h1 := h.1.2
      rw [okTs, Bool.and_eq_true] at h1
      rw [ownL, ownLs, nil_plus]
      have key : ∀ (us : List Tl) (a : List Int), a ≠ [] → (∀ u ∈ us, okT u = true) → ownLs a us ≠ [] := by
        intro us
        induction us with
        | nil => intro a ha _; rw [ownLs]; exact ha
        | cons u us ih =>
          intro a ha hu
          rw [ownLs]
          refine ih _ ?_ fun x hx => hu x (List.mem_cons_of_mem _ hx)
          intro z
          have e : (plusR a (ownL u)).length = 0 := by rw [z]; rfl
          have ha' := List.length_pos_iff.mpr ha
          by_cases hz : ownL u = []
          · rw [hz, plus_nil] at e
            omega
          · rw [plus_len hz] at e
            omega
      exact key r _ (own_ne t h1.1) fun u hu => okTs_mem h1.2 u hu
mutual
theorem len_told : ∀ t : Tl, okT t = true → lenT t = told (ownL t)
  | .ltr _, _ => by rw [lenT, ownL]; rfl
  | .one w t, h => by
    rw [okT, Bool.and_eq_true] at h
    rw [lenT, ownL, len_told t h.2, forever_told (nn_own t), if_neg (own_ne t h.2)]
  | .many w ts, h => by
    rw [okT, Bool.and_eq_true, Bool.and_eq_true] at h
    rw [lenT, ownL]
    exact lens_told ts h.1.2 nn_nil
theorem lens_told : ∀ (ts : List Tl), okTs ts = true → ∀ {a : List Int}, Nn a → lenTs (told a) ts = told (ownLs a ts)
  | [], _, a, _ => by rw [lenTs, ownLs]
  | t :: ts, h, a, ha => by
    rw [okTs, Bool.and_eq_true] at h
    rw [lenTs, ownLs, len_told t h.1, ← told_plus ha (nn_own t)]
    exact lens_told ts h.2 (nn_plus ha (nn_own t))
end
theorem len_len (t : Tl) (h : okT t = true) : (lenT t).length ≤ t.dep := by
  rw [len_told t h]
  exact Nat.le_trans (told_len _) (own_len t)
theorem lens_len (ts : List Tl) (h : okTs ts = true) : (lenTs [] ts).length ≤ deps ts := by
  have e := lens_told ts h nn_nil
  have e' : lenTs [] ts = told (ownLs [] ts) := e
  rw [e']
  have := owns_len ts []
  have := told_len (ownLs [] ts)
  simp at *
  omega
theorem nrT (t : Tl) : noRefs [t.enc] = true := by
  show (noRef t.enc && true) = true
  rw [noRef_enc]
  rfl
theorem c_length_in : ∀ (f : Nat) (t : Tl), okT t = true → t.dep ≤ f → t.dep ≤ 100 → t.size ≤ 100 → ∀ M, callF (r_length_in f) [t.enc] M = .ok (encL (lenT t)) M
  | 0, t, _, h, _, _, _ => by
    have := dep_pos t
    omega
  | f + 1, .ltr c, _, _, _, _, M => by
    refine call_pure (M' := []) (nrT _) (noRef_encL _) ?_
    show runDef 3 (b_length_in (r_length_in f)) [(Tl.ltr c).enc] [] = _
    simp! [b_length_in, Tl.enc, lenT]
    rfl
  | f + 1, .one w t, ho, h, hd, hs, M => by
    rw [okT, Bool.and_eq_true] at ho
    have hw := ho.1
    subst hw
    rw [Tl.dep] at h hd
    rw [Tl.size] at hs
    have ih := c_length_in f t ho.2 (by omega) (by omega) (by omega) []
    refine call_pure (M' := []) (nrT _) (noRef_encL _) ?_
    show runDef 3 (b_length_in (r_length_in f)) [(Tl.one true t).enc] [] = _
    simp! [b_length_in, Tl.enc, wordO, c_ON, ih, c_forever_by, lenT]
  | f + 1, .many w ts, ho, h, hd, hs, M => by
    rw [okT, Bool.and_eq_true, Bool.and_eq_true] at ho
    have hw := ho.1.1
    subst hw
    rw [Tl.dep] at h hd
    have hs' : 0 + sizes ts ≤ 100 := hs
    have hlen := sizes_ge ts fun u hu => okTs_mem ho.1.2 u hu
    have key : ∀ (us : List Tl) (x : PQ) (t : Tl), lenTs x (us ++ [t]) = sumBy (lenTs x us) (lenT t) := by
      intro us
      induction us with
      | nil => intro x t; rw [List.nil_append, lenTs, lenTs, lenTs]
      | cons u us ih => intro x t; rw [List.cons_append, lenTs, lenTs, ih]
    have okt : ∀ j, okTs (ts.take j) = true := fun j => okTs_of fun u hu => okTs_mem ho.1.2 u (List.mem_of_mem_take hu)
    have q := for_inv (src := srcS (ts.map Tl.enc)) (its := ts.map Tl.enc) (tg := gName' 2) (M := []) (ρ := [some (Tl.many true ts).enc, some (.tup []), none])
      (b := gSet 1 (gCall m_sum_by (gCons (gV 1) (gCons (gCall (r_length_in f) (gCons (gV 2) (gNil))) (gNil)))))
      (fun j ρ M1 => ∃ (o2 : Option D), ρ = [some (Tl.many true ts).enc, some (encL (lenTs [] (ts.take j))), o2] ∧ M1 = [])
      (by rw [List.length_map]; exact big_gt (by omega)) ⟨none, by rw [List.take_zero, lenTs]; rfl, rfl⟩ (fun _ _ _ _ _ => rfl) (fun j ρ M1 x hx hP => by
        obtain ⟨o2, rfl, rfl⟩ := hP
        have hj : j < ts.length := by
          have := (List.getElem?_eq_some_iff.mp hx).1
          rw [List.length_map] at this
          exact this
        rw [List.getElem?_map, List.getElem?_eq_getElem hj] at hx
        cases hx
        have hm := List.getElem_mem hj
        have h1 := dep_in hm
        have h2 := size_in hm
        have hk := okTs_mem ho.1.2 _ hm
        have ih := c_length_in f ts[j] hk (by omega) (by omega) (by omega) []
        have l1 := lens_len _ (okt j)
        have l2 : deps (ts.take j) ≤ deps ts := deps_le fun t ht => dep_in (List.mem_of_mem_take ht)
        have l3 := len_len _ hk
        refine ⟨_, _, [some (Tl.many true ts).enc, some (encL (lenTs [] (ts.take (j + 1)))), some ts[j].enc], [], rfl, .inl ?_, _, rfl, rfl⟩
        rw [List.take_add_one, List.getElem?_eq_getElem hj, show (some ts[j]).toList = [ts[j]] from rfl, key]
        simp! [ih, c_sum_by (M := []) (a := lenTs [] (ts.take j)) (b := lenT ts[j]) (by omega) (by omega)])
    obtain ⟨ρ', M', e, o2, rfl, rfl⟩ := q
    rw [List.length_map, List.take_length] at e
    refine call_pure (M' := []) (nrT _) (noRef_encL _) ?_
    show runDef 3 (b_length_in (r_length_in f)) [(Tl.many true ts).enc] [] = _
    simp only [Tl.enc, wordM, encs_map] at e ⊢
    simp! [b_length_in, c_ON]
    refine (congrArg (fun r => runK (seqK (gRet (gV 1)) r)) e).trans ?_
    simp! [lenT]
mutual
theorem okT_wf : ∀ t : Tl, okT t = true → t.wf = true ∧ ltrIn [[97], [98]] t = true
  | .ltr c, h => by
    rw [okT, Bool.or_eq_true, decide_eq_true_eq, decide_eq_true_eq] at h
    rw [Tl.wf, Bool.and_eq_true, decide_eq_true_eq, decide_eq_true_eq, ltrIn, decide_eq_true_eq]
    rcases h with rfl | rfl
    · simp
    · simp
  | .one w t, h => by
    rw [okT, Bool.and_eq_true] at h
    rw [Tl.wf, ltrIn]
    exact okT_wf t h.2
  | .many w ts, h => by
    rw [okT, Bool.and_eq_true, Bool.and_eq_true] at h
    have hw := h.1.1
    subst hw
    have q := okTs_wf ts h.1.2
    rw [Tl.wf, Bool.and_eq_true, ltrIn]
    exact ⟨⟨q.1, h.2⟩, q.2⟩
theorem okTs_wf : ∀ ts : List Tl, okTs ts = true → wfs ts = true ∧ ltrsIn [[97], [98]] ts = true
  | [], _ => ⟨rfl, rfl⟩
  | t :: ts, h => by
    rw [okTs, Bool.and_eq_true] at h
    have a := okT_wf t h.1
    have b := okTs_wf ts h.2
    rw [wfs, ltrsIn, a.1, a.2, b.1, b.2]
    exact ⟨rfl, rfl⟩
end
theorem c_length_of {t : Tl} (ho : okT t = true) (hd : t.dep ≤ 5) (hs : t.size ≤ 100) (M : Mem) : callF m_length_of [t.enc] M = .ok (encL (told (ownL t))) M := by
  refine call_pure (M' := []) (nrT _) (noRef_encL _) ?_
  have h1 := okT_wf t ho
  have e1 := c_want_timeline (A := [[97], [98]]) (by decide) h1.1 h1.2 (by omega) hs []
  have e2 := c_want_rising ho (by omega) hs []
  have e3 : callF m_length_in [t.enc] [] = .ok (encL (lenT t)) [] := c_length_in 12 t ho (by omega) (by omega) hs []
  rw [len_told t ho] at e3
  simp! [m_length_of, b_length_of, e1, e2, e3]
theorem c_own_length {t : Tl} (ho : okT t = true) (hd : t.dep ≤ 5) (hs : t.size ≤ 100) (M : Mem) : Rw (ownL t) (callF m_law_own_length [t.enc] M) M := rw_call (f_own_length 12 t ho (by omega) (by omega) hs) M
theorem c_told {M : Mem} {n : Nat} {r : List Int} (h : M[n]? = row r) (hl : r.length ≤ 1000) : ∃ X, callF m_law_told_length [.ref n] M = .ok (encL (told r)) (M ++ X) := by
  obtain ⟨X, e⟩ := f_law_told_length h hl
  exact ⟨X, by rw [call_ref rfl]; exact e⟩
theorem c_plus {M : Mem} {i j : Nat} {a b : List Int} (h1 : M[i]? = row a) (h2 : M[j]? = row b) (la : a.length ≤ 1000) (lb : b.length ≤ 1000) :
    ∃ n X, callF m_law_plus [.ref i, .ref j] M = .ok (.ref n) (M ++ X) ∧ (M ++ X)[n]? = row (plusR a b) ∧ (n = i ∨ M.length ≤ n) := by
  obtain ⟨n, X, e, g1, g2⟩ := f_law_plus h1 h2 la lb
  exact ⟨n, X, by rw [call_ref rfl]; exact e, g1, g2⟩
end K56
set_option maxRecDepth 100000
set_option maxHeartbeats 4000000
namespace K56
open PySem G
local macro_rules
  | `(tactic| simp! [$xs,*]) => `(tactic| simp only [v0, vS, aC, aOp, aOp1, aOp2, aOf, aUn, aUn1, aNil, aCons, aCons1, aCons2, aCB, aCB1, aTup, aTup1, aLst, aLst1, aTru, aTru1, aTru2, aTst, aTst1, aAndT, aAndT1, aAndT2, aOrT, aOrT1, aOrT2, aNotT, aNotT1, aAnd, aAnd1, aAnd2, aAnd3, aOr, aOr1, aOr2, aOr3, aNot, aNot1, aNot2, aIf, aIf1, aIf2, aCh, aCh0, aCh1, aCh2, aCh3, aCh4, aCall, aCall1, aCallK, aCallK1, aCallK2, aNP, aPart, aPart1, aSl, aSl1, aSl2, aSl3, aMt, aMt1, aMt2, aMt3, aPr0, aPr, aPr1, aPr2, aPr3, aDisp, aDisp1, aEmp, aSeqI, aSeqI1, aSeqI2, aRng1, aEn, aZip, aRng2, aRngD, afI, aLc, aLc1, aLc2, aW0, aW1, aSkip, aSeq, aSeq1, aSeq2, aSeq3, aSeq4, aExpr, aExpr1, aRet, aRet1, aRetN, aBrk, aCnt, aIfS, aIfS1, aIfS2, aSet, aSet1, aPar, aPar1, aPar3, aPar31, aAsg, aAsg1, aAsg2, aFor, aFor1, aRun, aRun1, aRun2, tName, tUnp, tsNil, tsCons, tsCons1, tr_bl, tr_non, tr_int, tr_tup, tr_str,
      List.map_cons, List.map_nil, List.length_cons, List.length_nil, Nat.reduceAdd, Nat.reduceSub, Nat.zero_add, List.replicate, List.cons_append, List.nil_append, List.set_cons_zero, List.set_cons_succ, Nat.reduceLeDiff, Bool.not_true, Bool.not_false, if_true, if_false, ↓reduceIte, G.oAddI, G.oSubI, G.oLeI, G.oGtI, G.oGeI, G.oIsB, G.oIsntB, G.oIsN, G.oIsntN, G.oLenT, G.oLenR, G.oLenS, oIsi, oIsi1, iNon, iBl, iInt, iStr, iTup, iRol, G.tSub, G.tSub1, G.tSub2, G.tSub3, G.oInt, G.oAbs, G.oMax2, G.oPow30, G.oPow18, G.oPow9, G.oEqI, G.oNeI, G.oLtI, isNon, Bool.true_and, Bool.and_true, Bool.false_and, Bool.and_false, Bool.true_or, Bool.false_or, Bool.or_true, Bool.or_false, Bool.not_not, Bool.false_eq_true, G.sT, G.sR, G.sS, Int.cast_ofNat_Int, List.append_assoc, List.length_append, memAt0, memAt, List.getElem?_cons_zero, List.getElem?_cons_succ, xLen, xLen1, xLen2, xLis1, xLst, xSeq, xSeqT, xSeqR, xTup, xTup1, xLis, xLis2, xAll, xAny, xAll0, xAll1, xSum, xSum0, xSum1, xEn, xEn1, xEnR, xSrc, xSrc1, xIx, xIxA, xIxS, xIxI, xIx1, xIxT, xIxR, at0, at1, at2, xAdd, xMul, xRev, xRev1, xCut, xCut1, xCutT, xCutS, xIsi, xIsi1, xIsi2, xTyL, xTyL1, xApp, xExt, G.oRevT, setAt0, setAt, eW_on_on, eW_on_fr, eW_on_ro, eW_on_mi, eW_on_le, eW_fr_on, eW_fr_fr, eW_fr_ro, eW_fr_mi, eW_fr_le, eW_ro_on, eW_ro_fr, eW_ro_ro, eW_ro_mi, eW_ro_le, eW_mi_on, eW_mi_fr, eW_mi_ro, eW_mi_mi, eW_mi_le, eW_le_on, eW_le_fr, eW_le_ro, eW_le_mi, eW_le_le, iW_on_on, iW_on_onn, iW_on_ro, iW_on_ron, iW_fr_on, iW_fr_onn, iW_fr_ro, iW_fr_ron, iW_ro_on, iW_ro_onn, iW_ro_ro, iW_ro_ron, iW_mi_on, iW_mi_onn, iW_mi_ro, iW_mi_ron, iW_le_on, iW_le_onn, iW_le_ro, iW_le_ron, decide_true, decide_false, Int.reduceEq, Int.reduceLT, Int.reduceLE, Int.reduceAdd, Int.reduceSub, Int.reduceMul, Int.reducePow, Int.reduceNeg, Int.reduceNe, $xs,*])
  | `(tactic| simp! [$xs,*] at $h:ident) => `(tactic| simp only [v0, vS, aC, aOp, aOp1, aOp2, aOf, aUn, aUn1, aNil, aCons, aCons1, aCons2, aCB, aCB1, aTup, aTup1, aLst, aLst1, aTru, aTru1, aTru2, aTst, aTst1, aAndT, aAndT1, aAndT2, aOrT, aOrT1, aOrT2, aNotT, aNotT1, aAnd, aAnd1, aAnd2, aAnd3, aOr, aOr1, aOr2, aOr3, aNot, aNot1, aNot2, aIf, aIf1, aIf2, aCh, aCh0, aCh1, aCh2, aCh3, aCh4, aCall, aCall1, aCallK, aCallK1, aCallK2, aNP, aPart, aPart1, aSl, aSl1, aSl2, aSl3, aMt, aMt1, aMt2, aMt3, aPr0, aPr, aPr1, aPr2, aPr3, aDisp, aDisp1, aEmp, aSeqI, aSeqI1, aSeqI2, aRng1, aEn, aZip, aRng2, aRngD, afI, aLc, aLc1, aLc2, aW0, aW1, aSkip, aSeq, aSeq1, aSeq2, aSeq3, aSeq4, aExpr, aExpr1, aRet, aRet1, aRetN, aBrk, aCnt, aIfS, aIfS1, aIfS2, aSet, aSet1, aPar, aPar1, aPar3, aPar31, aAsg, aAsg1, aAsg2, aFor, aFor1, aRun, aRun1, aRun2, tName, tUnp, tsNil, tsCons, tsCons1, tr_bl, tr_non, tr_int, tr_tup, tr_str,
      List.map_cons, List.map_nil, List.length_cons, List.length_nil, Nat.reduceAdd, Nat.reduceSub, Nat.zero_add, List.replicate, List.cons_append, List.nil_append, List.set_cons_zero, List.set_cons_succ, Nat.reduceLeDiff, Bool.not_true, Bool.not_false, if_true, if_false, ↓reduceIte, G.oAddI, G.oSubI, G.oLeI, G.oGtI, G.oGeI, G.oIsB, G.oIsntB, G.oIsN, G.oIsntN, G.oLenT, G.oLenR, G.oLenS, oIsi, oIsi1, iNon, iBl, iInt, iStr, iTup, iRol, G.tSub, G.tSub1, G.tSub2, G.tSub3, G.oInt, G.oAbs, G.oMax2, G.oPow30, G.oPow18, G.oPow9, G.oEqI, G.oNeI, G.oLtI, isNon, Bool.true_and, Bool.and_true, Bool.false_and, Bool.and_false, Bool.true_or, Bool.false_or, Bool.or_true, Bool.or_false, Bool.not_not, Bool.false_eq_true, G.sT, G.sR, G.sS, Int.cast_ofNat_Int, List.append_assoc, List.length_append, memAt0, memAt, List.getElem?_cons_zero, List.getElem?_cons_succ, xLen, xLen1, xLen2, xLis1, xLst, xSeq, xSeqT, xSeqR, xTup, xTup1, xLis, xLis2, xAll, xAny, xAll0, xAll1, xSum, xSum0, xSum1, xEn, xEn1, xEnR, xSrc, xSrc1, xIx, xIxA, xIxS, xIxI, xIx1, xIxT, xIxR, at0, at1, at2, xAdd, xMul, xRev, xRev1, xCut, xCut1, xCutT, xCutS, xIsi, xIsi1, xIsi2, xTyL, xTyL1, xApp, xExt, G.oRevT, setAt0, setAt, eW_on_on, eW_on_fr, eW_on_ro, eW_on_mi, eW_on_le, eW_fr_on, eW_fr_fr, eW_fr_ro, eW_fr_mi, eW_fr_le, eW_ro_on, eW_ro_fr, eW_ro_ro, eW_ro_mi, eW_ro_le, eW_mi_on, eW_mi_fr, eW_mi_ro, eW_mi_mi, eW_mi_le, eW_le_on, eW_le_fr, eW_le_ro, eW_le_mi, eW_le_le, iW_on_on, iW_on_onn, iW_on_ro, iW_on_ron, iW_fr_on, iW_fr_onn, iW_fr_ro, iW_fr_ron, iW_ro_on, iW_ro_onn, iW_ro_ro, iW_ro_ron, iW_mi_on, iW_mi_onn, iW_mi_ro, iW_mi_ron, iW_le_on, iW_le_onn, iW_le_ro, iW_le_ron, decide_true, decide_false, Int.reduceEq, Int.reduceLT, Int.reduceLE, Int.reduceAdd, Int.reduceSub, Int.reduceMul, Int.reducePow, Int.reduceNeg, Int.reduceNe, $xs,*] at $h:ident)
/-! bent values -/
theorem Dr.kd {p : Nat} {M M' : Mem} (dr : Dr p M M') {d : D} (h : Kd M d) : Kd M' d := by
  unfold Kd at h ⊢
  cases d with
  | ref n =>
    by_cases e : n = p
    · subst e
      obtain ⟨a, b, e, _⟩ := dr.pot
      simp only [isiT, e]
      rfl
    · cases en : M[n]? with
      | none => simp only [isiT, en] at h; cases h
      | some o =>
        simp only [isiT, en] at h
        simp only [isiT, dr.old n o e en]
        exact h
  | adr a => cases h
  | ty t => cases h
  | _ => rfl
/-- what may be an item of such a value -/
structure Odd (M : Mem) (d : D) : Prop where
  kd : Kd M d
  few : ∀ ys, d = .tup ys → ys.length ≤ 100
  part : ∀ ys y, d = .tup ys → y ∈ ys → Kd M y
theorem Odd.dr {p : Nat} {M M' : Mem} (dr : Dr p M M') {d : D} (h : Odd M d) : Odd M' d := ⟨dr.kd h.kd, h.few, fun ys y e m => dr.kd (h.part ys y e m)⟩
theorem odd_encP {M : Mem} {q : Int × Int} : Odd M (encP q) := by
  refine ⟨rfl, fun ys e => ?_, fun ys y e hy => ?_⟩
  · cases e
    simp
  · cases e
    rcases List.mem_cons.mp hy with z | z
    · rw [z]; exact rfl
    · rw [List.mem_singleton.mp z]; exact rfl
theorem fine_tup {M : Mem} {xs : List D} (hl : xs.length ≤ 1000000) (h : ∀ d ∈ xs, Odd M d) : Fine M (.tup xs) := by
  refine ⟨rfl, fun ys e => ?_, fun ys d e hd => ?_, fun ys zs d e hy hd => ?_, fun ys zs e hy => ?_⟩
  · cases e; exact hl
  · cases e; exact (h d hd).kd
  · cases e; exact (h _ hy).part zs d rfl hd
  · cases e; exact Nat.le_trans ((h _ hy).few zs rfl) (by decide)
theorem fine_other {M : Mem} {v : D} (h : Kd M v) (ht : ∀ xs, v ≠ .tup xs) : Fine M v :=
  ⟨h, fun xs e => absurd e (ht xs), fun xs d e _ => absurd e (ht xs), fun xs ys d e _ _ => absurd e (ht xs), fun xs ys e _ => absurd e (ht xs)⟩
theorem Fine.dr {p : Nat} {M M' : Mem} (dr : Dr p M M') {v : D} (h : Fine M v) : Fine M' v := ⟨dr.kd h.kd, h.len, fun xs d e m => dr.kd (h.it xs d e m), fun xs ys d e m q => dr.kd (h.part xs ys d e m q), h.few⟩
theorem c_law_bent {M : Mem} {p : Nat} {xs : List D} (hp : Pot M p) (hx : ∀ d ∈ xs, Odd M d) (hl : xs.length ≤ 1000) : ∃ v M', callF m_law_bent [.ref p, .tup xs] M = .ok v M' ∧ Dr p M M' ∧ Fine M' v := by
  obtain ⟨a, M1, e1, a0, a1, d1⟩ := c_law_draw (m := (xs.length : Int) + 1) hp (by omega) (by omega)
  obtain ⟨k, rfl⟩ : ∃ k : Nat, a = k := ⟨a.toNat, by omega⟩
  have hk : k ≤ xs.length := by omega
  let L : List D := [.non, .tup [.int 0, .int 1], .tup [.int 1, .int 0], .tup [.int 15, .int 1], .tup [.int 16, .int 1], .tup [.int 0, .int 1000000000000000000000000000000], .tup [.int 0, .int 1000000000000000000000000000001], .tup [.bl true, .int 1], .tup [.int 1, .int 1, .int 1], .ref M1.length, .int 0]
  have d2 : Dr p M1 (M1 ++ [.lst [.int 1, .int 1], .lst L]) := Dr.app d1.pot
  have hp1 := d1.pot.lt
  obtain ⟨x, M2, e2, hm, d3⟩ := c_law_pick (d := .ref (M1.length + 1)) (xs := L) d2.pot (fun n e => by cases e; omega) (by simp only [itemsOf, memAt]; rfl) (by simp [L]) (by simp [L])
  have D2 := (d1.trans d2).trans d3
  have hodd : Odd M2 x := by
    refine Odd.dr d3 ?_
    have small : ∀ ys : List D, ys.length ≤ 100 → (∀ y ∈ ys, ∃ i, y = .int i ∨ y = .bl true) → Odd (M1 ++ [.lst [.int 1, .int 1], .lst L]) (.tup ys) := by
      intro ys h1 h2
      refine ⟨rfl, fun zs e => by cases e; exact h1, fun zs y e hy => ?_⟩
      cases e
      obtain ⟨i, z | z⟩ := h2 y hy
      · rw [z]; exact rfl
      · rw [z]; exact rfl
    have plain : ∀ d : D, Kd (M1 ++ [.lst [.int 1, .int 1], .lst L]) d → (∀ ys, d ≠ .tup ys) → Odd (M1 ++ [.lst [.int 1, .int 1], .lst L]) d := fun d h1 h2 => ⟨h1, fun ys e => absurd e (h2 ys), fun ys y e _ => absurd e (h2 ys)⟩
    simp only [L, List.mem_cons, List.not_mem_nil, or_false] at hm
    rcases hm with rfl | rfl | rfl | rfl | rfl | rfl | rfl | rfl | rfl | rfl | rfl
    · exact plain _ rfl (fun ys e => by cases e)
    · exact small _ (by simp) (by simp)
    · exact small _ (by simp) (by simp)
    · exact small _ (by simp) (by simp)
    · exact small _ (by simp) (by simp)
    · exact small _ (by simp) (by simp)
    · exact small _ (by simp) (by simp)
    · exact small _ (by simp) (by simp)
    · exact small _ (by simp) (by simp)
    · refine plain _ ?_ (fun ys e => by cases e)
      unfold Kd
      rw [xIsi, memAt0]
      rfl
    · exact plain _ rfl (fun ys e => by cases e)
  have hx2 : ∀ d ∈ xs, Odd M2 d := fun d hd => (hx d hd).dr D2
  let c1 : List D := xs.take k ++ [x] ++ xs.drop k
  let c2 : List D := xs.take k ++ [x] ++ xs.drop (k + 1)
  let c5 : List D := xs ++ xs.drop (xs.length - 1)
  have d4 : Dr p M2 (M2 ++ [.lst xs, .lst [.tup c1, .tup c2, .ref M2.length, .tup xs.reverse, .tup c5]]) := Dr.app d3.pot
  have hp2 := d3.pot.lt
  obtain ⟨v, M3, e3, hv, d5⟩ := c_law_pick (d := .ref (M2.length + 1)) (xs := [.tup c1, .tup c2, .ref M2.length, .tup xs.reverse, .tup c5]) d4.pot (fun n e => by cases e; omega) (by simp only [itemsOf, memAt]; rfl) (by simp) (by simp)
  have lt : (xs.take k).length ≤ 1000 := Nat.le_trans (by rw [List.length_take]; omega) hl
  have ld : ∀ j, (xs.drop j).length ≤ 1000 := fun j => Nat.le_trans (by rw [List.length_drop]; omega) hl
  have mt : ∀ d ∈ xs.take k, d ∈ xs := fun d h => List.mem_of_mem_take h
  have md : ∀ j, ∀ d ∈ xs.drop j, d ∈ xs := fun j d h => List.mem_of_mem_drop h
  refine ⟨v, M3, ?_, (D2.trans d4).trans d5, Fine.dr d5 ?_⟩
  · rw [call_ref rfl]
    have h1 : ∀ M, addM (.tup (xs.take k)) (.tup [x]) M = some (.tup (xs.take k ++ [x]), M) := fun M => oAddT (by rw [List.length_cons, List.length_nil]; omega)
    have h2 : ∀ M, addM (.tup (xs.take k ++ [x])) (.tup (xs.drop k)) M = some (.tup c1, M) := fun M => oAddT (by have := ld k; rw [List.length_append, List.length_cons, List.length_nil]; omega)
    have h3 : ∀ M, addM (.tup (xs.take k ++ [x])) (.tup (xs.drop (k + 1))) M = some (.tup c2, M) := fun M => oAddT (by have := ld (k + 1); rw [List.length_append, List.length_cons, List.length_nil]; omega)
    have h5 : ∀ M, addM (.tup xs) (.tup (xs.drop (xs.length - 1))) M = some (.tup c5, M) := fun M => oAddT (by have := ld (xs.length - 1); omega)
    have s1 : cutD xs none (some (k : Int)) = xs.take k := cut_to
    have s2 : cutD xs (some (k : Int)) none = xs.drop k := cut_from
    have s3 : cutD xs (some ((k : Int) + 1)) none = xs.drop (k + 1) := cut_from (k := k + 1)
    have s5 : cutD xs (some (-1)) none = xs.drop (xs.length - 1) := cut_last
    have e2' : callF m_law_pick [.ref p, .ref (M1.length + 1)] (M1 ++ [.lst [.int 1, .int 1], .lst [.non, .tup [.int 0, .int 1], .tup [.int 1, .int 0], .tup [.int 15, .int 1], .tup [.int 16, .int 1], .tup [.int 0, .int 1000000000000000000000000000000], .tup [.int 0, .int 1000000000000000000000000000001], .tup [.bl true, .int 1], .tup [.int 1, .int 1, .int 1], .ref M1.length, .int 0]]) = .ok x M2 := e2
    simp! [m_law_bent, b_law_bent, e1, e2', s1, s2, s3, s5, h1, h2, h3, h5, negM, e3]
  · simp only [List.mem_cons, List.not_mem_nil, or_false] at hv
    have odd' : ∀ d ∈ xs, Odd M2 d := hx2
    have mk : ∀ ys : List D, ys.length ≤ 1000000 → (∀ d ∈ ys, d ∈ xs ∨ d = x) → Fine M2 (.tup ys) := fun ys h1 h2 => fine_tup h1 fun d hd => by
      rcases h2 d hd with z | z
      · exact hx2 d z
      · rw [z]; exact hodd
    rcases hv with rfl | rfl | rfl | rfl | rfl
    · refine Fine.dr d4 (mk _ ?_ fun d hd => ?_)
      · have := ld k
        simp only [c1, List.length_append, List.length_cons, List.length_nil]
        omega
      · simp only [c1, List.mem_append, List.mem_singleton] at hd
        rcases hd with (z | z) | z
        · exact .inl (mt d z)
        · exact .inr z
        · exact .inl (md k d z)
    · refine Fine.dr d4 (mk _ ?_ fun d hd => ?_)
      · have := ld (k + 1)
        simp only [c2, List.length_append, List.length_cons, List.length_nil]
        omega
      · simp only [c2, List.mem_append, List.mem_singleton] at hd
        rcases hd with (z | z) | z
        · exact .inl (mt d z)
        · exact .inr z
        · exact .inl (md (k + 1) d z)
    · refine fine_other ?_ (fun ys e => by cases e)
      unfold Kd
      rw [xIsi, memAt0]
      rfl
    · exact Fine.dr d4 (mk _ (by rw [List.length_reverse]; omega) fun d hd => .inl (List.mem_reverse.mp hd))
    · refine Fine.dr d4 (mk _ ?_ fun d hd => ?_)
      · have := ld (xs.length - 1)
        simp only [c5, List.length_append]
        omega
      · simp only [c5, List.mem_append] at hd
        rcases hd with z | z
        · exact .inl z
        · exact .inl (md _ d z)
end K56
set_option maxRecDepth 100000
set_option maxHeartbeats 4000000
namespace K56
open PySem G
local macro_rules
  | `(tactic| simp! [$xs,*]) => `(tactic| simp only [v0, vS, aC, aOp, aOp1, aOp2, aOf, aUn, aUn1, aNil, aCons, aCons1, aCons2, aCB, aCB1, aTup, aTup1, aLst, aLst1, aTru, aTru1, aTru2, aTst, aTst1, aAndT, aAndT1, aAndT2, aOrT, aOrT1, aOrT2, aNotT, aNotT1, aAnd, aAnd1, aAnd2, aAnd3, aOr, aOr1, aOr2, aOr3, aNot, aNot1, aNot2, aIf, aIf1, aIf2, aCh, aCh0, aCh1, aCh2, aCh3, aCh4, aCall, aCall1, aCallK, aCallK1, aCallK2, aNP, aPart, aPart1, aSl, aSl1, aSl2, aSl3, aMt, aMt1, aMt2, aMt3, aPr0, aPr, aPr1, aPr2, aPr3, aDisp, aDisp1, aEmp, aSeqI, aSeqI1, aSeqI2, aRng1, aEn, aZip, aRng2, aRngD, afI, aLc, aLc1, aLc2, aW0, aW1, aSkip, aSeq, aSeq1, aSeq2, aSeq3, aSeq4, aExpr, aExpr1, aRet, aRet1, aRetN, aBrk, aCnt, aIfS, aIfS1, aIfS2, aSet, aSet1, aPar, aPar1, aPar3, aPar31, aAsg, aAsg1, aAsg2, aFor, aFor1, aRun, aRun1, aRun2, tName, tUnp, tsNil, tsCons, tsCons1, tr_bl, tr_non, tr_int, tr_tup, tr_str,
      List.map_cons, List.map_nil, List.length_cons, List.length_nil, Nat.reduceAdd, Nat.reduceSub, Nat.zero_add, List.replicate, List.cons_append, List.nil_append, List.set_cons_zero, List.set_cons_succ, Nat.reduceLeDiff, Bool.not_true, Bool.not_false, if_true, if_false, ↓reduceIte, G.oAddI, G.oSubI, G.oLeI, G.oGtI, G.oGeI, G.oIsB, G.oIsntB, G.oIsN, G.oIsntN, G.oLenT, G.oLenR, G.oLenS, oIsi, oIsi1, iNon, iBl, iInt, iStr, iTup, iRol, G.tSub, G.tSub1, G.tSub2, G.tSub3, G.oInt, G.oAbs, G.oMax2, G.oPow30, G.oPow18, G.oPow9, G.oEqI, G.oNeI, G.oLtI, isNon, Bool.true_and, Bool.and_true, Bool.false_and, Bool.and_false, Bool.true_or, Bool.false_or, Bool.or_true, Bool.or_false, Bool.not_not, Bool.false_eq_true, G.sT, G.sR, G.sS, Int.cast_ofNat_Int, List.append_assoc, List.length_append, memAt0, memAt, List.getElem?_cons_zero, List.getElem?_cons_succ, xLen, xLen1, xLen2, xLis1, xLst, xSeq, xSeqT, xSeqR, xTup, xTup1, xLis, xLis2, xAll, xAny, xAll0, xAll1, xSum, xSum0, xSum1, xEn, xEn1, xEnR, xSrc, xSrc1, xIx, xIxA, xIxS, xIxI, xIx1, xIxT, xIxR, at0, at1, at2, xAdd, xMul, xRev, xRev1, xCut, xCut1, xCutT, xCutS, xIsi, xIsi1, xIsi2, xTyL, xTyL1, xApp, xExt, G.oRevT, setAt0, setAt, eW_on_on, eW_on_fr, eW_on_ro, eW_on_mi, eW_on_le, eW_fr_on, eW_fr_fr, eW_fr_ro, eW_fr_mi, eW_fr_le, eW_ro_on, eW_ro_fr, eW_ro_ro, eW_ro_mi, eW_ro_le, eW_mi_on, eW_mi_fr, eW_mi_ro, eW_mi_mi, eW_mi_le, eW_le_on, eW_le_fr, eW_le_ro, eW_le_mi, eW_le_le, iW_on_on, iW_on_onn, iW_on_ro, iW_on_ron, iW_fr_on, iW_fr_onn, iW_fr_ro, iW_fr_ron, iW_ro_on, iW_ro_onn, iW_ro_ro, iW_ro_ron, iW_mi_on, iW_mi_onn, iW_mi_ro, iW_mi_ron, iW_le_on, iW_le_onn, iW_le_ro, iW_le_ron, decide_true, decide_false, Int.reduceEq, Int.reduceLT, Int.reduceLE, Int.reduceAdd, Int.reduceSub, Int.reduceMul, Int.reducePow, Int.reduceNeg, Int.reduceNe, $xs,*])
  | `(tactic| simp! [$xs,*] at $h:ident) => `(tactic| simp only [v0, vS, aC, aOp, aOp1, aOp2, aOf, aUn, aUn1, aNil, aCons, aCons1, aCons2, aCB, aCB1, aTup, aTup1, aLst, aLst1, aTru, aTru1, aTru2, aTst, aTst1, aAndT, aAndT1, aAndT2, aOrT, aOrT1, aOrT2, aNotT, aNotT1, aAnd, aAnd1, aAnd2, aAnd3, aOr, aOr1, aOr2, aOr3, aNot, aNot1, aNot2, aIf, aIf1, aIf2, aCh, aCh0, aCh1, aCh2, aCh3, aCh4, aCall, aCall1, aCallK, aCallK1, aCallK2, aNP, aPart, aPart1, aSl, aSl1, aSl2, aSl3, aMt, aMt1, aMt2, aMt3, aPr0, aPr, aPr1, aPr2, aPr3, aDisp, aDisp1, aEmp, aSeqI, aSeqI1, aSeqI2, aRng1, aEn, aZip, aRng2, aRngD, afI, aLc, aLc1, aLc2, aW0, aW1, aSkip, aSeq, aSeq1, aSeq2, aSeq3, aSeq4, aExpr, aExpr1, aRet, aRet1, aRetN, aBrk, aCnt, aIfS, aIfS1, aIfS2, aSet, aSet1, aPar, aPar1, aPar3, aPar31, aAsg, aAsg1, aAsg2, aFor, aFor1, aRun, aRun1, aRun2, tName, tUnp, tsNil, tsCons, tsCons1, tr_bl, tr_non, tr_int, tr_tup, tr_str,
      List.map_cons, List.map_nil, List.length_cons, List.length_nil, Nat.reduceAdd, Nat.reduceSub, Nat.zero_add, List.replicate, List.cons_append, List.nil_append, List.set_cons_zero, List.set_cons_succ, Nat.reduceLeDiff, Bool.not_true, Bool.not_false, if_true, if_false, ↓reduceIte, G.oAddI, G.oSubI, G.oLeI, G.oGtI, G.oGeI, G.oIsB, G.oIsntB, G.oIsN, G.oIsntN, G.oLenT, G.oLenR, G.oLenS, oIsi, oIsi1, iNon, iBl, iInt, iStr, iTup, iRol, G.tSub, G.tSub1, G.tSub2, G.tSub3, G.oInt, G.oAbs, G.oMax2, G.oPow30, G.oPow18, G.oPow9, G.oEqI, G.oNeI, G.oLtI, isNon, Bool.true_and, Bool.and_true, Bool.false_and, Bool.and_false, Bool.true_or, Bool.false_or, Bool.or_true, Bool.or_false, Bool.not_not, Bool.false_eq_true, G.sT, G.sR, G.sS, Int.cast_ofNat_Int, List.append_assoc, List.length_append, memAt0, memAt, List.getElem?_cons_zero, List.getElem?_cons_succ, xLen, xLen1, xLen2, xLis1, xLst, xSeq, xSeqT, xSeqR, xTup, xTup1, xLis, xLis2, xAll, xAny, xAll0, xAll1, xSum, xSum0, xSum1, xEn, xEn1, xEnR, xSrc, xSrc1, xIx, xIxA, xIxS, xIxI, xIx1, xIxT, xIxR, at0, at1, at2, xAdd, xMul, xRev, xRev1, xCut, xCut1, xCutT, xCutS, xIsi, xIsi1, xIsi2, xTyL, xTyL1, xApp, xExt, G.oRevT, setAt0, setAt, eW_on_on, eW_on_fr, eW_on_ro, eW_on_mi, eW_on_le, eW_fr_on, eW_fr_fr, eW_fr_ro, eW_fr_mi, eW_fr_le, eW_ro_on, eW_ro_fr, eW_ro_ro, eW_ro_mi, eW_ro_le, eW_mi_on, eW_mi_fr, eW_mi_ro, eW_mi_mi, eW_mi_le, eW_le_on, eW_le_fr, eW_le_ro, eW_le_mi, eW_le_le, iW_on_on, iW_on_onn, iW_on_ro, iW_on_ron, iW_fr_on, iW_fr_onn, iW_fr_ro, iW_fr_ron, iW_ro_on, iW_ro_onn, iW_ro_ro, iW_ro_ron, iW_mi_on, iW_mi_onn, iW_mi_ro, iW_mi_ron, iW_le_on, iW_le_onn, iW_le_ro, iW_le_ron, decide_true, decide_false, Int.reduceEq, Int.reduceLT, Int.reduceLE, Int.reduceAdd, Int.reduceSub, Int.reduceMul, Int.reducePow, Int.reduceNeg, Int.reduceNe, $xs,*] at $h:ident)
def st1 : Gs := gSet 1 (gLc (giRng1 (gC (.int 3))) (gName' 9) (gYes) (gCall m_law_length (gCons (gV 0) (gCons (gC (.int 8)) (gNil)))) [9])
def st2 : Gs := gAsg (gUnp 3 (gsCons (gName' 2) (gsCons (gName' 3) (gsCons (gName' 4) (gsNil))))) (gLc (giSeq (gV 1)) (gName' 8) (gYes) (gCall m_law_told_length (gCons (gV 8) (gNil))) [8])
def st3 : Gs := gSet 5 (gCall m_law_told_length (gCons (gCall m_law_plus (gCons (gOp ixM (gV 1) (gC (.int 0))) (gCons (gOp ixM (gV 1) (gC (.int 1))) (gNil)))) (gNil)))
def st4 : Gs := gIfS (gTst (gOp (eqM true) (gCB reprN (gCons (gLst (gCons (gCall m_sum_of (gCons (gV 2) (gCons (gV 3) (gNil)))) (gCons (gCallK m_sum_of [1, 0] (gCons (gV 3) (gCons (gV 2) (gNil)))) (gNil)))) (gNil))) (gCB reprN (gCons (gLst (gCons (gV 5) (gCons (gV 5) (gNil)))) (gNil))))) (gRet (gC (.bl false))) (gsSkip)
def st5 : Gs := gIfS (gOrT (gTst (gOp (eqM true) (gCall m_sum_of (gCons (gCall m_sum_of (gCons (gV 2) (gCons (gV 3) (gNil)))) (gCons (gV 4) (gNil)))) (gCall m_sum_of (gCons (gV 2) (gCons (gCall m_sum_of (gCons (gV 3) (gCons (gV 4) (gNil)))) (gNil)))))) (gOrT (gTst (gOp (eqM true) (gCall m_sum_of (gCons (gV 2) (gCons (gTup (gNil)) (gNil)))) (gV 2))) (gTst (gOp (eqM true) (gCall m_sum_of (gCons (gTup (gNil)) (gCons (gV 2) (gNil)))) (gV 2))))) (gRet (gC (.bl false))) (gsSkip)
def st6 : Gs := gSet 6 (gAnd (gOp (eqM true) (gOp ixM (gV 1) (gC (.int 0))) (gOp ixM (gV 1) (gC (.int 1)))) (gOp (ltM) (gTup (gCons (gCB lenN (gCons (gOp ixM (gV 1) (gC (.int 0))) (gNil))) (gCons (gUn rev2M (gOp ixM (gV 1) (gC (.int 0)))) (gNil)))) (gTup (gCons (gCB lenN (gCons (gOp ixM (gV 1) (gC (.int 1))) (gNil))) (gCons (gUn rev2M (gOp ixM (gV 1) (gC (.int 1)))) (gNil))))))
def st7 : Gs := gIfS (gOrT (gTst (gOp (eqM true) (gCB reprN (gCons (gLst (gCons (gCall m_is_less (gCons (gV 2) (gCons (gV 3) (gNil)))) (gCons (gCallK m_is_less [1, 0] (gCons (gV 3) (gCons (gV 2) (gNil)))) (gNil)))) (gNil))) (gCB reprN (gCons (gLst (gCons (gV 6) (gCons (gV 6) (gNil)))) (gNil))))) (gTst (gOp (isM true) (gCall m_is_less (gCons (gV 5) (gCons (gV 2) (gNil)))) (gC (.bl false))))) (gRet (gC (.bl false))) (gsSkip)
def st8 : Gs := gPar 7 8 (gCons (gCall m_law_draw (gCons (gV 0) (gCons (gC (.int 7)) (gNil)))) (gCons (gLst (gNil)) (gNil)))
def st9 : Gs := gFor (giRng1 (gV 7)) (gName' 9) (gSet 8 (gCall m_law_plus (gCons (gV 8) (gCons (gOp ixM (gV 1) (gC (.int 2))) (gNil)))))
def st10 : Gs := gIfS (gTst (gOp (eqM true) (gCB reprN (gCons (gLst (gCons (gCall m_times (gCons (gV 4) (gCons (gV 7) (gNil)))) (gCons (gCallK m_times [1, 0] (gCons (gV 7) (gCons (gV 4) (gNil)))) (gNil)))) (gNil))) (gCB reprN (gCons (gOp mulM (gLst (gCons (gCall m_law_told_length (gCons (gV 8) (gNil))) (gNil))) (gC (.int 2))) (gNil))))) (gRet (gC (.bl false))) (gsSkip)
def st11 : Gs := gSet 10 (gIf (gTst (gOp (eqM true) (gOp ixM (gV 1) (gC (.int 2))) (gLst (gNil)))) (gCall m_law_told_length (gCons (gOp addM (gOp mulM (gLst (gCons (gC (.int 0)) (gNil))) (gCB lenN (gCons (gOp ixM (gV 1) (gC (.int 2))) (gNil)))) (gLst (gCons (gC (.int 1)) (gNil)))) (gNil))) (gTup (gNil)))
def st12 : Gs := gIfS (gOrT (gTst (gOp (eqM true) (gCB reprN (gCons (gLst (gCons (gCall m_forever (gCons (gV 4) (gNil))) (gCons (gCallK m_forever [0] (gCons (gV 4) (gNil))) (gNil)))) (gNil))) (gCB reprN (gCons (gLst (gCons (gV 10) (gCons (gV 10) (gNil)))) (gNil))))) (gAndT (gTst (gOp (eqM true) (gV 10) (gTup (gNil)))) (gTst (gOp (eqM true) (gCall m_sum_of (gCons (gV 4) (gCons (gV 10) (gNil)))) (gV 10))))) (gRet (gC (.bl false))) (gsSkip)
def st13 : Gs := gFor (giSeq (gOp addM (gLst (gCons (gV 2) (gCons (gC .non) (gCons (gTup (gNil)) (gCons (gCB lisN (gCons (gV 2) (gNil))) (gNil)))))) (gLc (giRng1 (gC (.int 8))) (gName' 9) (gYes) (gCall m_law_bent (gCons (gV 0) (gCons (gCall m_law_pick (gCons (gV 0) (gCons (gLst (gCons (gV 2) (gCons (gV 3) (gCons (gV 4) (gNil))))) (gNil)))) (gNil)))) [9]))) (gName' 11) (gSeq (gSet 12 (gCall m_law_is_length (gCons (gV 11) (gNil))))
          (gIfS (gTst (gOp (eqM true) (gCB reprN (gCons (gLst (gCons (gCall m_is_length (gCons (gV 11) (gNil))) (gCons (gCallK m_is_length [0] (gCons (gV 11) (gNil))) (gNil)))) (gNil))) (gCB reprN (gCons (gLst (gCons (gV 12) (gCons (gV 12) (gNil)))) (gNil))))) (gRet (gC (.bl false))) (gsSkip)))
def st14 : Gs := gSet 13 (gCall m_law_time (gCons (gV 0) (gCons (gC (.str [97, 98])) (gCons (gLst (gCons (gC (.str [111, 110])) (gCons (gC (.str [111, 110])) (gNil)))) (gCons (gC (.int 5)) (gNil))))))
def st15 : Gs := gSet 14 (gCall m_law_told_length (gCons (gCall m_law_own_length (gCons (gV 13) (gNil))) (gNil)))
def st16 : Gs := gRet (gOp (eqM false) (gCB reprN (gCons (gLst (gCons (gCall m_length_of (gCons (gV 13) (gNil))) (gCons (gCallK m_length_of [0] (gCons (gV 13) (gNil))) (gNil)))) (gNil))) (gCB reprN (gCons (gLst (gCons (gV 14) (gCons (gV 14) (gNil)))) (gNil))))
theorem right_st : b_law_right = gSeq st1 (gSeq st2 (gSeq st3 (gSeq st4 (gSeq st5 (gSeq st6 (gSeq st7 (gSeq st8 (gSeq st9 (gSeq st10 (gSeq st11 (gSeq st12 (gSeq st13 (gSeq st14 (gSeq st15 (st16))))))))))))))) := rfl
theorem per10 {α : Type} {x y : α} : permO [1, 0] [x, y] = some [y, x] := rfl
theorem per0 {α : Type} {x : α} : permO [0] [x] = some [x] := rfl
/-- three in a row -/
theorem lc_three {tg : Gg} {te : Ge} {ρ ρ1 ρ2 ρ3 : Rho} {src : Src} {a b c x y z : D} {M0 M1 M2 M3 : Mem} (hs : ∀ i M, (M = M0 ∨ M = M1 ∨ M = M2 ∨ M = M3) → src i M = srcS [a, b, c] i M)
    (t1 : tg a ρ M0 = some (ρ1, M0)) (e1 : te ρ1 M0 = .ok x M1) (t2 : tg b ρ M1 = some (ρ2, M1)) (e2 : te ρ2 M1 = .ok y M2) (t3 : tg c ρ M2 = some (ρ3, M2)) (e3 : te ρ3 M2 = .ok z M3) :
    lcG src tg gYes te ρ big 0 M0 = .ok [x, y, z] M3 := by
  have hb : big = 19999996 + 4 := rfl
  rw [hb]
  show lcG src tg gYes te ρ (19999996 + 1 + 1 + 1 + 1) 0 M0 = _
  rw [lcG, hs 0 M0 (by simp)]
  simp only [srcS, List.getElem?_cons_zero, t1, gYes, e1]
  rw [lcG, hs (0 + 1) M1 (by simp)]
  simp only [srcS, List.getElem?_cons_succ, List.getElem?_cons_zero, t2, gYes, e2]
  rw [lcG, hs (0 + 1 + 1) M2 (by simp)]
  simp only [srcS, List.getElem?_cons_succ, List.getElem?_cons_zero, t3, gYes, e3]
  rw [lcG, hs (0 + 1 + 1 + 1) M3 (by simp)]
  simp only [srcS, List.getElem?_cons_succ, List.getElem?_nil]
structure Bd (x : Int) (r : List Int) : Prop where
  nn : Nn r
  len : r.length ≤ 15
  le : ∀ k, r.getD k 0 ≤ x
theorem bd_nil {x : Int} (h : 0 ≤ x) : Bd x [] := ⟨nn_nil, by simp, fun k => by simpa using h⟩
theorem bd_plus {x y : Int} {a b : List Int} (ha : Bd x a) (hb : Bd y b) (hx : 0 ≤ x) (hy : 0 ≤ y) : Bd (x + y) (plusR a b) := ⟨nn_plus ha.nn hb.nn, Nat.le_trans plusR_len (by have := ha.len; have := hb.len; omega), plus_le ha.le hb.le hx hy⟩
theorem bd_le {x y : Int} {a : List Int} (ha : Bd x a) (h : x ≤ y) : Bd y a := ⟨ha.nn, ha.len, fun k => Int.le_trans (ha.le k) h⟩
theorem bd_len {x : Int} {a : List Int} (ha : Bd x a) : (told a).length ≤ 1000 := by
  have := told_len a
  have := ha.len
  omega
theorem bd_V {x : Int} {a : List Int} (ha : Bd x a) (hx : x ≤ 1000000000000000000000000000000) : lenV (encL (told a)) = true := lenV_told (by have := ha.len; omega) fun k => Int.le_trans (ha.le k) hx
theorem bd_q {x : Int} {a : List Int} (ha : Bd x a) (hx : x ≤ 1000000000000000000000000000000) : ∀ q ∈ told a, q.2 ≤ 1000000000000000000000000000000 := fun q hq => by
  obtain ⟨k, _, rfl, _⟩ := told_mem hq
  exact Int.le_trans (ha.le k) hx
theorem bd_abs {x : Int} {a : List Int} (ha : Bd x a) (hx : x ≤ 1000000000000000000000000000000) : ∀ q ∈ told a, q.1.natAbs < 18446744073709551616 * 18446744073709551616 ∧ q.2.natAbs < 18446744073709551616 * 18446744073709551616 := fun q hq => by
  obtain ⟨k, h1, rfl, h2⟩ := told_mem hq
  have h3 := ha.le k
  have h4 := ha.len
  constructor
  · show (k : Int).natAbs < _
    omega
  · show (a.getD k 0).natAbs < _
    omega
theorem c_sum_told {x y : Int} {a b : List Int} (ha : Bd x a) (hb : Bd y b) (hx : 0 ≤ x) (hy : 0 ≤ y) (h : x + y ≤ 1000000000000000000000000000000) (M : Mem) : callF m_sum_of [encL (told a), encL (told b)] M = .ok (encL (told (plusR a b))) M := by
  have e := c_sum_of (M := M) (bd_len ha) (bd_len hb) (bd_V ha (by omega)) (bd_V hb (by omega)) (by rw [← told_plus ha.nn hb.nn]; exact bd_q (bd_plus ha hb hx hy) h)
  rw [← told_plus ha.nn hb.nn] at e
  exact e
theorem rep_pair {l : PQ} (hl : l.length ≤ 1000) (hq : ∀ q ∈ l, q.1.natAbs < 18446744073709551616 * 18446744073709551616 ∧ q.2.natAbs < 18446744073709551616 * 18446744073709551616) :
    ∃ S : List Nat, (∀ (M : Mem) (i : Nat), M[i]? = some (.lst [encL l, encL l]) → reprN [.ref i] M = some (.str S, M)) ∧ ∀ M', eqM true (.str S) (.str S) M' = some (.bl false, M') ∧ eqM false (.str S) (.str S) M' = some (.bl true, M') := by
  obtain ⟨h1, h2⟩ := shos_pyP l hq
  have h3 : sho (.list [.tuple (l.map pyP), .tuple (l.map pyP)]) = true := by simp [sho, shos, h1]
  have h4 : wid (.list [.tuple (l.map pyP), .tuple (l.map pyP)]) ≤ 16777216 := by
    simp only [wid, wids]
    omega
  have hp : ∀ (M : Mem) (i : Nat), M[i]? = some (.lst [encL l, encL l]) → pd M 60 (.ref i) = some (.list [.tuple (l.map pyP), .tuple (l.map pyP)]) := fun M i h => pd_lst h (by rw [mapO, pd_encL (by decide)]; simp only [mapO, pd_encL (k := 59) (by decide)])
  refine ⟨(PyData.list [.tuple (l.map pyP), .tuple (l.map pyP)]).shown.cps.toList, fun M i h => (repr_same (M' := M) (hp M i h) h3 h4).1, fun M' => ?_⟩
  have h0 : ([.lst [encL l, encL l]] : Mem)[0]? = some (.lst [encL l, encL l]) := rfl
  exact (repr_same (M' := M') (hp _ 0 h0) h3 h4).2
theorem rep_bool (b : Bool) :
    ∃ S : List Nat, (∀ (M : Mem) (i : Nat), M[i]? = some (.lst [.bl b, .bl b]) → reprN [.ref i] M = some (.str S, M)) ∧ ∀ M', eqM true (.str S) (.str S) M' = some (.bl false, M') := by
  have h3 : sho (.list [.bool b, .bool b]) = true := by simp [sho, shos]
  have h4 : wid (.list [.bool b, .bool b]) ≤ 16777216 := by simp [wid, wids]
  have hp : ∀ (M : Mem) (i : Nat), M[i]? = some (.lst [.bl b, .bl b]) → pd M 60 (.ref i) = some (.list [.bool b, .bool b]) := fun M i h => pd_lst h rfl
  refine ⟨(PyData.list [.bool b, .bool b]).shown.cps.toList, fun M i h => (repr_same (M' := M) (hp M i h) h3 h4).1, fun M' => ?_⟩
  have h0 : ([.lst [.bl b, .bl b]] : Mem)[0]? = some (.lst [.bl b, .bl b]) := rfl
  exact (repr_same (M' := M') (hp _ 0 h0) h3 h4).2.1
theorem lt_pair {M : Mem} {i j : Nat} {a b : List Int} {x y : Int} (hi : M[i]? = row a) (hj : M[j]? = row b) : ltM (.tup [.int x, .ref i]) (.tup [.int y, .ref j]) M = some (.bl (if x = y then ltI a b else decide (x < y)), M) := by
  have e : ∀ l : List Int, mapO (pd M 58) (l.map D.int) = some (l.map PyData.int) := by
    intro l
    induction l with
    | nil => rfl
    | cons x l ih =>
      rw [List.map_cons, mapO, show pd M 58 (D.int x) = some (PyData.int x) from rfl]
      simp only [ih]
      rfl
  have p1 : ∀ (k : Nat) (r : List Int) (z : Int), M[k]? = row r → pd M 60 (.tup [.int z, .ref k]) = some (.tuple [.int z, .list (r.map PyData.int)]) := fun k r z h => by
    have q : pd M 59 (.ref k) = some (.list (r.map PyData.int)) := by
      show (match M[k]? with | some (.lst xs) => (match mapO (pd M 58) xs with | some ys => some (PyData.list ys) | none => none) | _ => none) = _
      rw [h]
      simp only [e]
    show (match mapO (pd M 59) [.int z, .ref k] with | some ys => some (PyData.tuple ys) | none => none) = _
    rw [mapO, show pd M 59 (D.int z) = some (PyData.int z) from rfl]
    simp only [mapO, q]
  show (match pd M 60 (.tup [.int x, .ref i]) with | none => none | some p => (match pd M 60 (.tup [.int y, .ref j]) with | none => none | some q => if (PySem.W.alike p q && notNone p) = true then some (D.bl (PySem.W.dataLt p q), M) else none)) = _
  rw [p1 i a x hi, p1 j b y hj]
  have ha : PySem.W.alike (.list (a.map PyData.int)) (.list (b.map PyData.int)) = true := by
    rw [PySem.W.alike]
    exact alikeAll_int a b
  have h2 : PySem.W.alike (.tuple [.int x, .list (a.map PyData.int)]) (.tuple [.int y, .list (b.map PyData.int)]) = true := by
    simp [PySem.W.alike, PySem.W.alikeAll, alikeAll_int]
  simp only [h2, notNone, Bool.true_and, if_true]
  rw [PySem.W.dataLt_tuple]
  show some (D.bl (ltA [.int x, .list (a.map PyData.int)] [.int y, .list (b.map PyData.int)]), M) = _
  rw [ltA_int]
  congr 3
  by_cases hz : x = y
  · rw [if_pos hz, if_pos hz]
    by_cases hab : a = b
    · subst hab
      rw [ltA_same ha (by simp [PyData.eqv, eqvAll_ints]), ltA_nn, ltI_self]
    · rw [ltA_diff ha (by simp [PyData.eqv, eqvAll_ints, hab]), PySem.W.dataLt_list]
      exact ltA_ints a b
  · rw [if_neg hz, if_neg hz]
end K56
set_option maxRecDepth 100000
set_option maxHeartbeats 4000000
namespace K56
open PySem G
local macro_rules
  | `(tactic| simp! [$xs,*]) => `(tactic| simp only [v0, vS, aC, aOp, aOp1, aOp2, aOf, aUn, aUn1, aNil, aCons, aCons1, aCons2, aCB, aCB1, aTup, aTup1, aLst, aLst1, aTru, aTru1, aTru2, aTst, aTst1, aAndT, aAndT1, aAndT2, aOrT, aOrT1, aOrT2, aNotT, aNotT1, aAnd, aAnd1, aAnd2, aAnd3, aOr, aOr1, aOr2, aOr3, aNot, aNot1, aNot2, aIf, aIf1, aIf2, aCh, aCh0, aCh1, aCh2, aCh3, aCh4, aCall, aCall1, aCallK, aCallK1, aCallK2, aNP, aPart, aPart1, aSl, aSl1, aSl2, aSl3, aMt, aMt1, aMt2, aMt3, aPr0, aPr, aPr1, aPr2, aPr3, aDisp, aDisp1, aEmp, aSeqI, aSeqI1, aSeqI2, aRng1, aEn, aZip, aRng2, aRngD, afI, aLc, aLc1, aLc2, aW0, aW1, aSkip, aSeq, aSeq1, aSeq2, aSeq3, aSeq4, aExpr, aExpr1, aRet, aRet1, aRetN, aBrk, aCnt, aIfS, aIfS1, aIfS2, aSet, aSet1, aPar, aPar1, aPar3, aPar31, aAsg, aAsg1, aAsg2, aFor, aFor1, aRun, aRun1, aRun2, tName, tUnp, tsNil, tsCons, tsCons1, tr_bl, tr_non, tr_int, tr_tup, tr_str,
      List.map_cons, List.map_nil, List.length_cons, List.length_nil, Nat.reduceAdd, Nat.reduceSub, Nat.zero_add, List.replicate, List.cons_append, List.nil_append, List.set_cons_zero, List.set_cons_succ, Nat.reduceLeDiff, Bool.not_true, Bool.not_false, if_true, if_false, ↓reduceIte, G.oAddI, G.oSubI, G.oLeI, G.oGtI, G.oGeI, G.oIsB, G.oIsntB, G.oIsN, G.oIsntN, G.oLenT, G.oLenR, G.oLenS, oIsi, oIsi1, iNon, iBl, iInt, iStr, iTup, iRol, G.tSub, G.tSub1, G.tSub2, G.tSub3, G.oInt, G.oAbs, G.oMax2, G.oPow30, G.oPow18, G.oPow9, G.oEqI, G.oNeI, G.oLtI, isNon, Bool.true_and, Bool.and_true, Bool.false_and, Bool.and_false, Bool.true_or, Bool.false_or, Bool.or_true, Bool.or_false, Bool.not_not, Bool.false_eq_true, G.sT, G.sR, G.sS, Int.cast_ofNat_Int, List.append_assoc, List.length_append, memAt0, memAt, List.getElem?_cons_zero, List.getElem?_cons_succ, xLen, xLen1, xLen2, xLis1, xLst, xSeq, xSeqT, xSeqR, xTup, xTup1, xLis, xLis2, xAll, xAny, xAll0, xAll1, xSum, xSum0, xSum1, xEn, xEn1, xEnR, xSrc, xSrc1, xIx, xIxA, xIxS, xIxI, xIx1, xIxT, xIxR, at0, at1, at2, xAdd, xMul, xRev, xRev1, xCut, xCut1, xCutT, xCutS, xIsi, xIsi1, xIsi2, xTyL, xTyL1, xApp, xExt, G.oRevT, setAt0, setAt, eW_on_on, eW_on_fr, eW_on_ro, eW_on_mi, eW_on_le, eW_fr_on, eW_fr_fr, eW_fr_ro, eW_fr_mi, eW_fr_le, eW_ro_on, eW_ro_fr, eW_ro_ro, eW_ro_mi, eW_ro_le, eW_mi_on, eW_mi_fr, eW_mi_ro, eW_mi_mi, eW_mi_le, eW_le_on, eW_le_fr, eW_le_ro, eW_le_mi, eW_le_le, iW_on_on, iW_on_onn, iW_on_ro, iW_on_ron, iW_fr_on, iW_fr_onn, iW_fr_ro, iW_fr_ron, iW_ro_on, iW_ro_onn, iW_ro_ro, iW_ro_ron, iW_mi_on, iW_mi_onn, iW_mi_ro, iW_mi_ron, iW_le_on, iW_le_onn, iW_le_ro, iW_le_ron, decide_true, decide_false, Int.reduceEq, Int.reduceLT, Int.reduceLE, Int.reduceAdd, Int.reduceSub, Int.reduceMul, Int.reducePow, Int.reduceNeg, Int.reduceNe, $xs,*])
  | `(tactic| simp! [$xs,*] at $h:ident) => `(tactic| simp only [v0, vS, aC, aOp, aOp1, aOp2, aOf, aUn, aUn1, aNil, aCons, aCons1, aCons2, aCB, aCB1, aTup, aTup1, aLst, aLst1, aTru, aTru1, aTru2, aTst, aTst1, aAndT, aAndT1, aAndT2, aOrT, aOrT1, aOrT2, aNotT, aNotT1, aAnd, aAnd1, aAnd2, aAnd3, aOr, aOr1, aOr2, aOr3, aNot, aNot1, aNot2, aIf, aIf1, aIf2, aCh, aCh0, aCh1, aCh2, aCh3, aCh4, aCall, aCall1, aCallK, aCallK1, aCallK2, aNP, aPart, aPart1, aSl, aSl1, aSl2, aSl3, aMt, aMt1, aMt2, aMt3, aPr0, aPr, aPr1, aPr2, aPr3, aDisp, aDisp1, aEmp, aSeqI, aSeqI1, aSeqI2, aRng1, aEn, aZip, aRng2, aRngD, afI, aLc, aLc1, aLc2, aW0, aW1, aSkip, aSeq, aSeq1, aSeq2, aSeq3, aSeq4, aExpr, aExpr1, aRet, aRet1, aRetN, aBrk, aCnt, aIfS, aIfS1, aIfS2, aSet, aSet1, aPar, aPar1, aPar3, aPar31, aAsg, aAsg1, aAsg2, aFor, aFor1, aRun, aRun1, aRun2, tName, tUnp, tsNil, tsCons, tsCons1, tr_bl, tr_non, tr_int, tr_tup, tr_str,
      List.map_cons, List.map_nil, List.length_cons, List.length_nil, Nat.reduceAdd, Nat.reduceSub, Nat.zero_add, List.replicate, List.cons_append, List.nil_append, List.set_cons_zero, List.set_cons_succ, Nat.reduceLeDiff, Bool.not_true, Bool.not_false, if_true, if_false, ↓reduceIte, G.oAddI, G.oSubI, G.oLeI, G.oGtI, G.oGeI, G.oIsB, G.oIsntB, G.oIsN, G.oIsntN, G.oLenT, G.oLenR, G.oLenS, oIsi, oIsi1, iNon, iBl, iInt, iStr, iTup, iRol, G.tSub, G.tSub1, G.tSub2, G.tSub3, G.oInt, G.oAbs, G.oMax2, G.oPow30, G.oPow18, G.oPow9, G.oEqI, G.oNeI, G.oLtI, isNon, Bool.true_and, Bool.and_true, Bool.false_and, Bool.and_false, Bool.true_or, Bool.false_or, Bool.or_true, Bool.or_false, Bool.not_not, Bool.false_eq_true, G.sT, G.sR, G.sS, Int.cast_ofNat_Int, List.append_assoc, List.length_append, memAt0, memAt, List.getElem?_cons_zero, List.getElem?_cons_succ, xLen, xLen1, xLen2, xLis1, xLst, xSeq, xSeqT, xSeqR, xTup, xTup1, xLis, xLis2, xAll, xAny, xAll0, xAll1, xSum, xSum0, xSum1, xEn, xEn1, xEnR, xSrc, xSrc1, xIx, xIxA, xIxS, xIxI, xIx1, xIxT, xIxR, at0, at1, at2, xAdd, xMul, xRev, xRev1, xCut, xCut1, xCutT, xCutS, xIsi, xIsi1, xIsi2, xTyL, xTyL1, xApp, xExt, G.oRevT, setAt0, setAt, eW_on_on, eW_on_fr, eW_on_ro, eW_on_mi, eW_on_le, eW_fr_on, eW_fr_fr, eW_fr_ro, eW_fr_mi, eW_fr_le, eW_ro_on, eW_ro_fr, eW_ro_ro, eW_ro_mi, eW_ro_le, eW_mi_on, eW_mi_fr, eW_mi_ro, eW_mi_mi, eW_mi_le, eW_le_on, eW_le_fr, eW_le_ro, eW_le_mi, eW_le_le, iW_on_on, iW_on_onn, iW_on_ro, iW_on_ron, iW_fr_on, iW_fr_onn, iW_fr_ro, iW_fr_ron, iW_ro_on, iW_ro_onn, iW_ro_ro, iW_ro_ron, iW_mi_on, iW_mi_onn, iW_mi_ro, iW_mi_ron, iW_le_on, iW_le_onn, iW_le_ro, iW_le_ron, decide_true, decide_false, Int.reduceEq, Int.reduceLT, Int.reduceLE, Int.reduceAdd, Int.reduceSub, Int.reduceMul, Int.reducePow, Int.reduceNeg, Int.reduceNe, $xs,*] at $h:ident)
/-! the law's statements, one by one -/
structure C5 (p q n1 n2 n3 : Nat) (r1 r2 r3 : List Int) (M : Mem) : Prop where
  pot : Pot M p
  hq : M[q]? = some (.lst [.ref n1, .ref n2, .ref n3])
  h1 : M[n1]? = row r1
  h2 : M[n2]? = row r2
  h3 : M[n3]? = row r3
  qp : q ≠ p
  p1 : n1 ≠ p
  p2 : n2 ≠ p
  p3 : n3 ≠ p
section
variable {p q n1 n2 n3 : Nat} {r1 r2 r3 : List Int} {M : Mem}
theorem C5.app (h : C5 p q n1 n2 n3 r1 r2 r3 M) (X : Mem) : C5 p q n1 n2 n3 r1 r2 r3 (M ++ X) := ⟨h.pot.app, mem_old h.hq, mem_old h.h1, mem_old h.h2, mem_old h.h3, h.qp, h.p1, h.p2, h.p3⟩
theorem C5.dr (h : C5 p q n1 n2 n3 r1 r2 r3 M) {M' : Mem} (d : Dr p M M') : C5 p q n1 n2 n3 r1 r2 r3 M' := ⟨d.pot, d.old _ _ h.qp h.hq, d.old _ _ h.p1 h.h1, d.old _ _ h.p2 h.h2, d.old _ _ h.p3 h.h3, h.qp, h.p1, h.p2, h.p3⟩
theorem x_st3 (c : C5 p q n1 n2 n3 r1 r2 r3 M) (b1 : Bd 1000000000 r1) (b2 : Bd 1000000000 r2) {A B C : D} {a5 a6 a7 a8 a9 a10 a11 a12 a13 a14 : Option D} :
    ∃ X, st3 [some (.ref p), some (.ref q), some A, some B, some C, a5, a6, a7, a8, a9, a10, a11, a12, a13, a14] M = .ok (.nx [some (.ref p), some (.ref q), some A, some B, some C, some (encL (told (plusR r1 r2))), a6, a7, a8, a9, a10, a11, a12, a13, a14]) (M ++ X) := by
  have l1 := b1.len
  have l2 := b2.len
  obtain ⟨n, X, e1, g1, _⟩ := c_plus c.h1 c.h2 (by omega) (by omega)
  obtain ⟨Y, e2⟩ := c_told g1 (Nat.le_trans plusR_len (by omega))
  refine ⟨X ++ Y, ?_⟩
  simp! [st3, c.hq, e1, e2]
theorem bd9 : (0 : Int) ≤ 1000000000 := by decide
theorem x_st4 (c : C5 p q n1 n2 n3 r1 r2 r3 M) (b1 : Bd 1000000000 r1) (b2 : Bd 1000000000 r2) {C : D} {a6 a7 a8 a9 a10 a11 a12 a13 a14 : Option D} :
    ∃ X, st4 [some (.ref p), some (.ref q), some (encL (told r1)), some (encL (told r2)), some C, some (encL (told (plusR r1 r2))), a6, a7, a8, a9, a10, a11, a12, a13, a14] M = .ok (.nx [some (.ref p), some (.ref q), some (encL (told r1)), some (encL (told r2)), some C, some (encL (told (plusR r1 r2))), a6, a7, a8, a9, a10, a11, a12, a13, a14]) (M ++ X) := by
  have bs := bd_plus b1 b2 bd9 bd9
  have e := c_sum_told b1 b2 bd9 bd9 (by decide)
  obtain ⟨S, h1, h2⟩ := rep_pair (bd_len bs) (bd_abs bs (by decide))
  have g1 := h1 (M ++ [.lst [encL (told (plusR r1 r2)), encL (told (plusR r1 r2))]]) M.length mem_new
  have g2 := h1 (M ++ [.lst [encL (told (plusR r1 r2)), encL (told (plusR r1 r2))], .lst [encL (told (plusR r1 r2)), encL (told (plusR r1 r2))]]) (M.length + 1) memAt
  refine ⟨[.lst [encL (told (plusR r1 r2)), encL (told (plusR r1 r2))], .lst [encL (told (plusR r1 r2)), encL (told (plusR r1 r2))]], ?_⟩
  simp! [st4, e, per10, g1, g2, (h2 _).1]
theorem x_st5 (b1 : Bd 1000000000 r1) (b2 : Bd 1000000000 r2) (b3 : Bd 1000000000 r3) {P Q : D} {a5 a6 a7 a8 a9 a10 a11 a12 a13 a14 : Option D} :
    st5 [some P, some Q, some (encL (told r1)), some (encL (told r2)), some (encL (told r3)), a5, a6, a7, a8, a9, a10, a11, a12, a13, a14] M = .ok (.nx [some P, some Q, some (encL (told r1)), some (encL (told r2)), some (encL (told r3)), a5, a6, a7, a8, a9, a10, a11, a12, a13, a14]) M := by
  have e1 := c_sum_told b1 b2 bd9 bd9 (by decide)
  have e2 := c_sum_told (bd_plus b1 b2 bd9 bd9) b3 (by decide) bd9 (by decide)
  have e3 := c_sum_told b2 b3 bd9 bd9 (by decide)
  have e4 := c_sum_told b1 (bd_plus b2 b3 bd9 bd9) bd9 (by decide) (by decide)
  have e5 : ∀ M, callF m_sum_of [encL (told r1), .tup []] M = .ok (encL (told r1)) M := c_sum_told b1 (bd_nil (Int.le_refl 0)) bd9 (Int.le_refl 0) (by decide)
  have e6 : ∀ M, callF m_sum_of [.tup [], encL (told r1)] M = .ok (encL (told (plusR [] r1))) M := c_sum_told (bd_nil (Int.le_refl 0)) b1 (Int.le_refl 0) bd9 (by decide)
  rw [nil_plus] at e6
  rw [← plus_assoc] at e4
  have q1 : ∀ l : PQ, eqM true (encL l) (encL l) M = some (.bl false, M) := fun l => eq_yes (sim_encL l) (by decide)
  simp! [st5, e1, e2, e3, e4, e5, e6, q1]
theorem x_st6 (c : C5 p q n1 n2 n3 r1 r2 r3 M) {A B C : D} {a5 a6 a7 a8 a9 a10 a11 a12 a13 a14 : Option D} :
    ∃ X, st6 [some (.ref p), some (.ref q), some A, some B, some C, a5, a6, a7, a8, a9, a10, a11, a12, a13, a14] M = .ok (.nx [some (.ref p), some (.ref q), some A, some B, some C, a5, some (.bl (ownLess r1 r2)), a7, a8, a9, a10, a11, a12, a13, a14]) (M ++ X) := by
  have he := eq_rows true c.h1 c.h2
  by_cases hz : r1 = r2
  · refine ⟨[], ?_⟩
    have hw : ownLess r1 r2 = false := by
      rw [← less_ne, if_pos hz]
    rw [hw]
    simp! [st6, c.hq, he, decide_eq_true hz, List.append_nil]
  · have hw : ownLess r1 r2 = if (r1.length : Int) = (r2.length : Int) then ltI r1.reverse r2.reverse else decide ((r1.length : Int) < (r2.length : Int)) := by
      unfold ownLess
      by_cases e : r1.length = r2.length
      · rw [if_pos e, if_pos (by omega)]
      · rw [if_neg e, if_neg (by omega)]
        congr 1
        exact propext (by omega)
    let X : Mem := [.lst (r1.reverse.map D.int), .lst (r2.reverse.map D.int)]
    have hlt := lt_pair (M := M ++ [.lst (r1.reverse.map D.int), .lst (r2.reverse.map D.int)]) (i := M.length) (j := M.length + 1) (a := r1.reverse) (b := r2.reverse) (x := r1.length) (y := r2.length) memAt0 memAt
    rw [← hw] at hlt
    refine ⟨[.lst (r1.reverse.map D.int), .lst (r2.reverse.map D.int)], ?_⟩
    have gq : ∀ X : Mem, (M ++ X)[q]? = some (.lst [.ref n1, .ref n2, .ref n3]) := fun X => mem_old c.hq
    have gq1 : ∀ X : Mem, (M ++ X)[n1]? = row r1 := fun X => mem_old c.h1
    have gq2 : ∀ X : Mem, (M ++ X)[n2]? = row r2 := fun X => mem_old c.h2
    have m1 : (r1.map D.int).reverse = r1.reverse.map D.int := List.map_reverse.symm
    have m2 : (r2.map D.int).reverse = r2.reverse.map D.int := List.map_reverse.symm
    simp! [st6, c.hq, c.h1, c.h2, he, decide_eq_false hz, gq, gq1, gq2, List.length_map, m1, m2, hlt]
theorem x_st7 (c : C5 p q n1 n2 n3 r1 r2 r3 M) (b1 : Bd 1000000000 r1) (b2 : Bd 1000000000 r2) {C : D} {a7 a8 a9 a10 a11 a12 a13 a14 : Option D} :
    ∃ X, st7 [some (.ref p), some (.ref q), some (encL (told r1)), some (encL (told r2)), some C, some (encL (told (plusR r1 r2))), some (.bl (ownLess r1 r2)), a7, a8, a9, a10, a11, a12, a13, a14] M = .ok (.nx [some (.ref p), some (.ref q), some (encL (told r1)), some (encL (told r2)), some C, some (encL (told (plusR r1 r2))), some (.bl (ownLess r1 r2)), a7, a8, a9, a10, a11, a12, a13, a14]) (M ++ X) := by
  have bs := bd_plus b1 b2 bd9 bd9
  have e : ∀ M, callF m_is_less [encL (told r1), encL (told r2)] M = .ok (.bl (ownLess r1 r2)) M := fun M => by
    have := c_is_less (M := M) (bd_len b1) (bd_len b2) (bd_V b1 (by decide)) (bd_V b2 (by decide))
    rw [lex_told b1.nn b2.nn] at this
    exact this
  have e2 : ∀ M, callF m_is_less [encL (told (plusR r1 r2)), encL (told r1)] M = .ok (.bl false) M := fun M => by
    have := c_is_less (M := M) (bd_len bs) (bd_len b1) (bd_V bs (by decide)) (bd_V b1 (by decide))
    rw [sum_not_less b1.nn b2.nn] at this
    exact this
  obtain ⟨S, h1, h2⟩ := rep_bool (ownLess r1 r2)
  generalize ownLess r1 r2 = w at *
  have g1 := h1 (M ++ [.lst [.bl w, .bl w]]) M.length mem_new
  have g2 := h1 (M ++ [.lst [.bl w, .bl w], .lst [.bl w, .bl w]]) (M.length + 1) memAt
  refine ⟨[.lst [.bl w, .bl w], .lst [.bl w, .bl w]], ?_⟩
  simp! [st7, e, e2, per10, g1, g2, h2]
theorem x_st8 (c : C5 p q n1 n2 n3 r1 r2 r3 M) {A B C : D} {a5 a6 a7 a8 a9 a10 a11 a12 a13 a14 : Option D} :
    ∃ (m : Nat) (M' : Mem), m < 7 ∧ st8 [some (.ref p), some (.ref q), some A, some B, some C, a5, a6, a7, a8, a9, a10, a11, a12, a13, a14] M = .ok (.nx [some (.ref p), some (.ref q), some A, some B, some C, a5, a6, some (.int m), some (.ref M'.length), a9, a10, a11, a12, a13, a14]) (M' ++ [.lst []]) ∧ C5 p q n1 n2 n3 r1 r2 r3 M' := by
  obtain ⟨v, M', e, v0, v1, d⟩ := c_law_draw (m := 7) c.pot (by decide) (by decide)
  obtain ⟨k, rfl⟩ : ∃ k : Nat, v = k := ⟨v.toNat, by omega⟩
  refine ⟨k, M', by omega, ?_, c.dr d⟩
  simp! [st8, e]
theorem bd_times {x : Int} {c : List Int} (hc : Bd x c) (hx : 0 ≤ x) : ∀ m : Nat, Bd (x * m) (timesR c m)
  | 0 => bd_nil (by rw [Int.natCast_zero, Int.mul_zero]; exact Int.le_refl _)
  | m + 1 => by
    have h := bd_plus (bd_times hc hx m) hc (Int.mul_nonneg hx (by omega)) hx
    rw [show x * ((m + 1 : Nat) : Int) = x * (m : Int) + x by rw [Int.natCast_add, Int.natCast_one, Int.mul_add, Int.mul_one]]
    exact h
theorem x_st9 (c : C5 p q n1 n2 n3 r1 r2 r3 M) (b3 : Bd 1000000000 r3) {m k : Nat} (hm : m < 7) (hk : M[k]? = row []) {A B C : D} {a5 a6 a9 a10 a11 a12 a13 a14 : Option D} :
    ∃ (X : Mem) (k' : Nat) (a9' : Option D), st9 [some (.ref p), some (.ref q), some A, some B, some C, a5, a6, some (.int m), some (.ref k), a9, a10, a11, a12, a13, a14] M = .ok (.nx [some (.ref p), some (.ref q), some A, some B, some C, a5, a6, some (.int m), some (.ref k'), a9', a10, a11, a12, a13, a14]) (M ++ X) ∧ (M ++ X)[k']? = row (timesR r3 m) := by
  have l3 := b3.len
  have gen : ∃ ρ' M', forG (srcR 0 m 1) (gName' 9) (gSet 8 (gCall m_law_plus (gCons (gV 8) (gCons (gOp ixM (gV 1) (gC (.int 2))) (gNil))))) big 0 [some (.ref p), some (.ref q), some A, some B, some C, a5, a6, some (.int m), some (.ref k), a9, a10, a11, a12, a13, a14] M = .ok (.nx ρ') M' ∧
      ∃ (X : Mem) (k' : Nat) (a9' : Option D), ρ' = [some (.ref p), some (.ref q), some A, some B, some C, a5, a6, some (.int m), some (.ref k'), a9', a10, a11, a12, a13, a14] ∧ M' = M ++ X ∧ M'[k']? = row (timesR r3 (rngD 0 m 1).length) := by
    refine for_inv (its := rngD 0 m 1) (fun i ρ M1 => ∃ (X : Mem) (k' : Nat) (a9' : Option D), ρ = [some (.ref p), some (.ref q), some A, some B, some C, a5, a6, some (.int m), some (.ref k'), a9', a10, a11, a12, a13, a14] ∧ M1 = M ++ X ∧ M1[k']? = row (timesR r3 i))
      (by rw [rngD_len]; exact big_gt (by omega)) ⟨[], k, a9, rfl, (List.append_nil _).symm, hk⟩ (fun i _ _ _ _ => srcR_is i) (fun i ρ M1 d hd hP => ?_)
    obtain ⟨X, k', a9', rfl, rfl, h1⟩ := hP
    have ht := (bd_times b3 bd9 i).len
    obtain ⟨n, Y, e, g1, _⟩ := c_plus h1 (mem_old (M' := X) c.h3) (by omega) (by omega)
    have gq : (M ++ X)[q]? = some (.lst [.ref n1, .ref n2, .ref n3]) := mem_old c.hq
    refine ⟨_, _, [some (.ref p), some (.ref q), some A, some B, some C, a5, a6, some (.int m), some (.ref n), some d, a10, a11, a12, a13, a14], M ++ (X ++ Y), rfl, .inl ?_, X ++ Y, n, some d, rfl, rfl, ?_⟩
    · simp! [gq, e]
    · rw [← List.append_assoc]
      exact g1
  obtain ⟨ρ', M', e, X, k', a9', rfl, rfl, g⟩ := gen
  rw [rngD_len] at g
  refine ⟨X, k', a9', ?_, g⟩
  simp! [st9, aRng1n (show m ≤ 1000000 by omega)]
  exact e
end
end K56
set_option maxRecDepth 100000
set_option maxHeartbeats 4000000
namespace K56
open PySem G
local macro_rules
  | `(tactic| simp! [$xs,*]) => `(tactic| simp only [v0, vS, aC, aOp, aOp1, aOp2, aOf, aUn, aUn1, aNil, aCons, aCons1, aCons2, aCB, aCB1, aTup, aTup1, aLst, aLst1, aTru, aTru1, aTru2, aTst, aTst1, aAndT, aAndT1, aAndT2, aOrT, aOrT1, aOrT2, aNotT, aNotT1, aAnd, aAnd1, aAnd2, aAnd3, aOr, aOr1, aOr2, aOr3, aNot, aNot1, aNot2, aIf, aIf1, aIf2, aCh, aCh0, aCh1, aCh2, aCh3, aCh4, aCall, aCall1, aCallK, aCallK1, aCallK2, aNP, aPart, aPart1, aSl, aSl1, aSl2, aSl3, aMt, aMt1, aMt2, aMt3, aPr0, aPr, aPr1, aPr2, aPr3, aDisp, aDisp1, aEmp, aSeqI, aSeqI1, aSeqI2, aRng1, aEn, aZip, aRng2, aRngD, afI, aLc, aLc1, aLc2, aW0, aW1, aSkip, aSeq, aSeq1, aSeq2, aSeq3, aSeq4, aExpr, aExpr1, aRet, aRet1, aRetN, aBrk, aCnt, aIfS, aIfS1, aIfS2, aSet, aSet1, aPar, aPar1, aPar3, aPar31, aAsg, aAsg1, aAsg2, aFor, aFor1, aRun, aRun1, aRun2, tName, tUnp, tsNil, tsCons, tsCons1, tr_bl, tr_non, tr_int, tr_tup, tr_str,
      List.map_cons, List.map_nil, List.length_cons, List.length_nil, Nat.reduceAdd, Nat.reduceSub, Nat.zero_add, List.replicate, List.cons_append, List.nil_append, List.set_cons_zero, List.set_cons_succ, Nat.reduceLeDiff, Bool.not_true, Bool.not_false, if_true, if_false, ↓reduceIte, G.oAddI, G.oSubI, G.oLeI, G.oGtI, G.oGeI, G.oIsB, G.oIsntB, G.oIsN, G.oIsntN, G.oLenT, G.oLenR, G.oLenS, oIsi, oIsi1, iNon, iBl, iInt, iStr, iTup, iRol, G.tSub, G.tSub1, G.tSub2, G.tSub3, G.oInt, G.oAbs, G.oMax2, G.oPow30, G.oPow18, G.oPow9, G.oEqI, G.oNeI, G.oLtI, isNon, Bool.true_and, Bool.and_true, Bool.false_and, Bool.and_false, Bool.true_or, Bool.false_or, Bool.or_true, Bool.or_false, Bool.not_not, Bool.false_eq_true, G.sT, G.sR, G.sS, Int.cast_ofNat_Int, List.append_assoc, List.length_append, memAt0, memAt, List.getElem?_cons_zero, List.getElem?_cons_succ, xLen, xLen1, xLen2, xLis1, xLst, xSeq, xSeqT, xSeqR, xTup, xTup1, xLis, xLis2, xAll, xAny, xAll0, xAll1, xSum, xSum0, xSum1, xEn, xEn1, xEnR, xSrc, xSrc1, xIx, xIxA, xIxS, xIxI, xIx1, xIxT, xIxR, at0, at1, at2, xAdd, xMul, xRev, xRev1, xCut, xCut1, xCutT, xCutS, xIsi, xIsi1, xIsi2, xTyL, xTyL1, xApp, xExt, G.oRevT, setAt0, setAt, eW_on_on, eW_on_fr, eW_on_ro, eW_on_mi, eW_on_le, eW_fr_on, eW_fr_fr, eW_fr_ro, eW_fr_mi, eW_fr_le, eW_ro_on, eW_ro_fr, eW_ro_ro, eW_ro_mi, eW_ro_le, eW_mi_on, eW_mi_fr, eW_mi_ro, eW_mi_mi, eW_mi_le, eW_le_on, eW_le_fr, eW_le_ro, eW_le_mi, eW_le_le, iW_on_on, iW_on_onn, iW_on_ro, iW_on_ron, iW_fr_on, iW_fr_onn, iW_fr_ro, iW_fr_ron, iW_ro_on, iW_ro_onn, iW_ro_ro, iW_ro_ron, iW_mi_on, iW_mi_onn, iW_mi_ro, iW_mi_ron, iW_le_on, iW_le_onn, iW_le_ro, iW_le_ron, decide_true, decide_false, Int.reduceEq, Int.reduceLT, Int.reduceLE, Int.reduceAdd, Int.reduceSub, Int.reduceMul, Int.reducePow, Int.reduceNeg, Int.reduceNe, $xs,*])
  | `(tactic| simp! [$xs,*] at $h:ident) => `(tactic| simp only [v0, vS, aC, aOp, aOp1, aOp2, aOf, aUn, aUn1, aNil, aCons, aCons1, aCons2, aCB, aCB1, aTup, aTup1, aLst, aLst1, aTru, aTru1, aTru2, aTst, aTst1, aAndT, aAndT1, aAndT2, aOrT, aOrT1, aOrT2, aNotT, aNotT1, aAnd, aAnd1, aAnd2, aAnd3, aOr, aOr1, aOr2, aOr3, aNot, aNot1, aNot2, aIf, aIf1, aIf2, aCh, aCh0, aCh1, aCh2, aCh3, aCh4, aCall, aCall1, aCallK, aCallK1, aCallK2, aNP, aPart, aPart1, aSl, aSl1, aSl2, aSl3, aMt, aMt1, aMt2, aMt3, aPr0, aPr, aPr1, aPr2, aPr3, aDisp, aDisp1, aEmp, aSeqI, aSeqI1, aSeqI2, aRng1, aEn, aZip, aRng2, aRngD, afI, aLc, aLc1, aLc2, aW0, aW1, aSkip, aSeq, aSeq1, aSeq2, aSeq3, aSeq4, aExpr, aExpr1, aRet, aRet1, aRetN, aBrk, aCnt, aIfS, aIfS1, aIfS2, aSet, aSet1, aPar, aPar1, aPar3, aPar31, aAsg, aAsg1, aAsg2, aFor, aFor1, aRun, aRun1, aRun2, tName, tUnp, tsNil, tsCons, tsCons1, tr_bl, tr_non, tr_int, tr_tup, tr_str,
      List.map_cons, List.map_nil, List.length_cons, List.length_nil, Nat.reduceAdd, Nat.reduceSub, Nat.zero_add, List.replicate, List.cons_append, List.nil_append, List.set_cons_zero, List.set_cons_succ, Nat.reduceLeDiff, Bool.not_true, Bool.not_false, if_true, if_false, ↓reduceIte, G.oAddI, G.oSubI, G.oLeI, G.oGtI, G.oGeI, G.oIsB, G.oIsntB, G.oIsN, G.oIsntN, G.oLenT, G.oLenR, G.oLenS, oIsi, oIsi1, iNon, iBl, iInt, iStr, iTup, iRol, G.tSub, G.tSub1, G.tSub2, G.tSub3, G.oInt, G.oAbs, G.oMax2, G.oPow30, G.oPow18, G.oPow9, G.oEqI, G.oNeI, G.oLtI, isNon, Bool.true_and, Bool.and_true, Bool.false_and, Bool.and_false, Bool.true_or, Bool.false_or, Bool.or_true, Bool.or_false, Bool.not_not, Bool.false_eq_true, G.sT, G.sR, G.sS, Int.cast_ofNat_Int, List.append_assoc, List.length_append, memAt0, memAt, List.getElem?_cons_zero, List.getElem?_cons_succ, xLen, xLen1, xLen2, xLis1, xLst, xSeq, xSeqT, xSeqR, xTup, xTup1, xLis, xLis2, xAll, xAny, xAll0, xAll1, xSum, xSum0, xSum1, xEn, xEn1, xEnR, xSrc, xSrc1, xIx, xIxA, xIxS, xIxI, xIx1, xIxT, xIxR, at0, at1, at2, xAdd, xMul, xRev, xRev1, xCut, xCut1, xCutT, xCutS, xIsi, xIsi1, xIsi2, xTyL, xTyL1, xApp, xExt, G.oRevT, setAt0, setAt, eW_on_on, eW_on_fr, eW_on_ro, eW_on_mi, eW_on_le, eW_fr_on, eW_fr_fr, eW_fr_ro, eW_fr_mi, eW_fr_le, eW_ro_on, eW_ro_fr, eW_ro_ro, eW_ro_mi, eW_ro_le, eW_mi_on, eW_mi_fr, eW_mi_ro, eW_mi_mi, eW_mi_le, eW_le_on, eW_le_fr, eW_le_ro, eW_le_mi, eW_le_le, iW_on_on, iW_on_onn, iW_on_ro, iW_on_ron, iW_fr_on, iW_fr_onn, iW_fr_ro, iW_fr_ron, iW_ro_on, iW_ro_onn, iW_ro_ro, iW_ro_ron, iW_mi_on, iW_mi_onn, iW_mi_ro, iW_mi_ron, iW_le_on, iW_le_onn, iW_le_ro, iW_le_ron, decide_true, decide_false, Int.reduceEq, Int.reduceLT, Int.reduceLE, Int.reduceAdd, Int.reduceSub, Int.reduceMul, Int.reducePow, Int.reduceNeg, Int.reduceNe, $xs,*] at $h:ident)
theorem small_bd {r : List Int} (h : Small 8 r) : Bd 1000000000 r ∧ r.length ≤ 7 := by
  have hp : ∀ k, 0 ≤ r.getD k 0 ∧ r.getD k 0 ≤ 1000000000 := fun k => by
    by_cases hk : k < r.length
    · have := h.pos r[k] (List.getElem_mem hk)
      rw [List.getD_eq_getElem?_getD, List.getElem?_eq_getElem hk]
      show 0 ≤ r[k] ∧ r[k] ≤ _
      omega
    · rw [getD_far (by omega)]
      decide
  have hl := h.len
  refine ⟨⟨⟨fun k => (hp k).1, fun hne => ?_⟩, by omega, fun k => (hp k).2⟩, by omega⟩
  have hs : r = r.dropLast ++ [r.getLast hne] := (List.dropLast_concat_getLast hne).symm
  have hy : r.getLast hne ≠ 0 := fun z => by
    have e := h.led
    rw [hs, led_snoc, if_pos z] at e
    have := led_len r.dropLast
    have h2 := congrArg List.length e
    rw [List.length_append, List.length_cons, List.length_nil] at h2
    omega
  have hg : r.getD (r.length - 1) 0 = r.getLast hne := by
    have hk : r.length - 1 < r.length := by
      have := List.length_pos_iff.mpr hne
      omega
    rw [List.getD_eq_getElem?_getD, List.getElem?_eq_getElem hk, List.getLast_eq_getElem]
    rfl
  have := (hp (r.length - 1)).1
  rw [hg] at this ⊢
  omega
theorem tUnpR {M : Mem} {i n : Nat} {xs : List D} {g : Ggs} {ρ : Rho} (h : M[i]? = some (.lst xs)) (hl : xs.length = n) : gUnp n g (.ref i) ρ M = g xs ρ M := by
  have e : seqM M (.ref i) = some xs := by rw [xSeq, h]; rfl
  show (match seqM M (.ref i) with | some xs => if xs.length = n then g xs ρ M else none | none => none) = _
  rw [e]
  exact if_pos hl
theorem x_st1 {M : Mem} {p : Nat} (hp : Pot M p) : ∃ (q n1 n2 n3 : Nat) (r1 r2 r3 : List Int) (M' : Mem), st1 [some (.ref p), none, none, none, none, none, none, none, none, none, none, none, none, none, none] M = .ok (.nx [some (.ref p), some (.ref q), none, none, none, none, none, none, none, none, none, none, none, none, none]) M' ∧ C5 p q n1 n2 n3 r1 r2 r3 M' ∧ Small 8 r1 ∧ Small 8 r2 ∧ Small 8 r3 := by
  have hpl := hp.lt
  have key : ∃ ys M4, lcG (srcR 0 3 1) (gName' 9) gYes (gCall m_law_length (gCons (gV 0) (gCons (gC (.int 8)) gNil))) [some (.ref p), none, none, none, none, none, none, none, none, none, none, none, none, none, none] big 0 M = .ok ys M4 ∧
      (Dr p M M4 ∧ ∃ rs : List (Nat × List Int), ys = rs.map (fun x => D.ref x.1) ∧ rs.length = (rngD 0 3 1).length ∧ ∀ x ∈ rs, M4[x.1]? = row x.2 ∧ Small 8 x.2 ∧ x.1 ≠ p) := by
    refine lc_inv (its := rngD 0 3 1) (fun i ys M4 => Dr p M M4 ∧ ∃ rs : List (Nat × List Int), ys = rs.map (fun x => D.ref x.1) ∧ rs.length = i ∧ ∀ x ∈ rs, M4[x.1]? = row x.2 ∧ Small 8 x.2 ∧ x.1 ≠ p) (by decide) ⟨Dr.refl hp, [], rfl, rfl, by simp⟩ (fun i ys M4 _ _ => srcR_is i) (fun i ys M4 d hd hP => ?_)
    obtain ⟨dr, rs, rfl, hl, hx⟩ := hP
    obtain ⟨n, r, M5, e5, g1, g2, d5, g3⟩ := f_law_length (m := 8) dr.pot (by decide) (by decide)
    have hpl4 := dr.pot.lt
    refine ⟨_, _, M4, rfl, .inr ⟨rfl, .ref n, M5, ?_, dr.trans d5, rs ++ [(n, r)], by rw [List.map_append]; rfl, by rw [List.length_append, hl]; rfl, fun x hxm => ?_⟩⟩
    · have e5' : callF m_law_length [.ref p, .int 8] M4 = .ok (.ref n) M5 := e5
      simp! [e5']
    · rcases List.mem_append.mp hxm with z | z
      · obtain ⟨k1, k2, k3⟩ := hx x z
        exact ⟨d5.old _ _ k3 k1, k2, k3⟩
      · rw [List.mem_singleton.mp z]
        exact ⟨g1, g2, by show n ≠ p; omega⟩
  obtain ⟨ys, M4, e, dr, rs, rfl, hl, hx⟩ := key
  rw [rngD_len] at hl
  match rs, hl with
  | [(n1, r1), (n2, r2), (n3, r3)], _ =>
    obtain ⟨a1, b1, c1⟩ := hx (n1, r1) (by simp)
    obtain ⟨a2, b2, c2⟩ := hx (n2, r2) (by simp)
    obtain ⟨a3, b3, c3⟩ := hx (n3, r3) (by simp)
    have hpl4 := dr.pot.lt
    have h3 : ∀ M, rng1K (.ok (.int 3) M) = .ok (srcR 0 3 1) M := fun M => aRng1n (n := 3) (by decide)
    refine ⟨M4.length, n1, n2, n3, r1, r2, r3, M4 ++ [.lst [.ref n1, .ref n2, .ref n3]], ?_, ⟨dr.pot.app, mem_new, mem_old a1, mem_old a2, mem_old a3, by omega, c1, c2, c3⟩, b1, b2, b3⟩
    have e' : lcG (srcR 0 3 1) (gName' 9) gYes (gCall m_law_length (gCons (gV 0) (gCons (gC (.int 8)) gNil))) [some (.ref p), none, none, none, none, none, none, none, none, none, none, none, none, none, none] big 0 M = .ok [.ref n1, .ref n2, .ref n3] M4 := e
    simp! [st1, h3, e']
section
variable {p q n1 n2 n3 : Nat} {r1 r2 r3 : List Int} {M : Mem}
theorem x_st2 (c : C5 p q n1 n2 n3 r1 r2 r3 M) (l1 : r1.length ≤ 7) (l2 : r2.length ≤ 7) (l3 : r3.length ≤ 7) :
    ∃ X, st2 [some (.ref p), some (.ref q), none, none, none, none, none, none, none, none, none, none, none, none, none] M = .ok (.nx [some (.ref p), some (.ref q), some (encL (told r1)), some (encL (told r2)), some (encL (told r3)), none, none, none, none, none, none, none, none, none, none]) (M ++ X) := by
  obtain ⟨X1, e1⟩ := c_told c.h1 (by omega)
  obtain ⟨X2, e2⟩ := c_told (c.app X1).h2 (by omega)
  obtain ⟨X3, e3⟩ := c_told ((c.app X1).app X2).h3 (by omega)
  have h := lc_three (src := srcM q) (tg := gName' 8) (te := gCall m_law_told_length (gCons (gV 8) gNil)) (ρ := [some (.ref p), some (.ref q), none, none, none, none, none, none, none, none, none, none, none, none, none]) (a := .ref n1) (b := .ref n2) (c := .ref n3) (x := encL (told r1)) (y := encL (told r2)) (z := encL (told r3)) (M0 := M) (M1 := M ++ X1) (M2 := M ++ X1 ++ X2) (M3 := M ++ X1 ++ X2 ++ X3)
    (fun i M' hM => by
      rcases hM with rfl | rfl | rfl | rfl
      · exact srcM_is c.hq i
      · exact srcM_is (c.app X1).hq i
      · exact srcM_is ((c.app X1).app X2).hq i
      · exact srcM_is (((c.app X1).app X2).app X3).hq i) rfl (by simp! []; rw [← List.append_nil M] at e1; simpa using e1) rfl (by simp! []; simpa using e2) rfl (by simp! []; simpa using e3)
  simp only [List.append_assoc] at h
  have hu : (M ++ (X1 ++ (X2 ++ (X3 ++ [Ob.lst [encL (told r1), encL (told r2), encL (told r3)]]))))[M.length + (X1.length + (X2.length + X3.length))]? = some (.lst [encL (told r1), encL (told r2), encL (told r3)]) := by
    rw [memAt, memAt, memAt, memAt0]
    rfl
  refine ⟨X1 ++ (X2 ++ (X3 ++ [.lst [encL (told r1), encL (told r2), encL (told r3)]])), ?_⟩
  simp! [st2, c.hq, h]
  rw [tUnpR (n := 3) hu rfl]
  simp! []
theorem x_st10 (c : C5 p q n1 n2 n3 r1 r2 r3 M) (b3 : Bd 1000000000 r3) {m k : Nat} (hm : m < 7) (hk : M[k]? = row (timesR r3 m)) {A B : D} {a5 a6 a9 a10 a11 a12 a13 a14 : Option D} :
    ∃ X, st10 [some (.ref p), some (.ref q), some A, some B, some (encL (told r3)), a5, a6, some (.int m), some (.ref k), a9, a10, a11, a12, a13, a14] M = .ok (.nx [some (.ref p), some (.ref q), some A, some B, some (encL (told r3)), a5, a6, some (.int m), some (.ref k), a9, a10, a11, a12, a13, a14]) (M ++ X) := by
  have bt := bd_times b3 bd9 m
  have hle : (1000000000 : Int) * m ≤ 1000000000000000000000000000000 := by omega
  have et : ∀ M, callF m_times [encL (told r3), .int m] M = .ok (encL (told (timesR r3 m))) M := fun M => by
    rw [told_times b3.nn]
    exact c_times (bd_len b3) (bd_V b3 (by decide)) (by omega) (by omega) (fun q hq => (bd_abs b3 (by decide) q hq).2) (by rw [← told_times b3.nn]; exact bd_q bt hle)
  obtain ⟨S, h1, h2⟩ := rep_pair (bd_len bt) (bd_abs bt hle)
  generalize hT : encL (told (timesR r3 m)) = T at *
  have hk1 : (M ++ [Ob.lst [T, T]])[k]? = row (timesR r3 m) := mem_old hk
  have lt := bt.len
  obtain ⟨X, e⟩ := c_told hk1 (by omega)
  rw [hT] at e
  have g1 := h1 (M ++ [.lst [T, T]]) M.length mem_new
  have hm2 : ∀ (d : D) (M : Mem), mulK 2 M (some [d]) = some (.ref M.length, M ++ [.lst [d, d]]) := fun d M => xMul1 (j := 2) (by decide)
  refine ⟨.lst [T, T] :: (X ++ [.lst [T], .lst [T, T]]), ?_⟩
  simp! [st10, et, per10, g1, e, hm2]
  rw [h1]
  · simp! [(h2 _).1]
  · simp! []
end
end K56
set_option maxRecDepth 100000
set_option maxHeartbeats 4000000
namespace K56
open PySem G
local macro_rules
  | `(tactic| simp! [$xs,*]) => `(tactic| simp only [v0, vS, aC, aOp, aOp1, aOp2, aOf, aUn, aUn1, aNil, aCons, aCons1, aCons2, aCB, aCB1, aTup, aTup1, aLst, aLst1, aTru, aTru1, aTru2, aTst, aTst1, aAndT, aAndT1, aAndT2, aOrT, aOrT1, aOrT2, aNotT, aNotT1, aAnd, aAnd1, aAnd2, aAnd3, aOr, aOr1, aOr2, aOr3, aNot, aNot1, aNot2, aIf, aIf1, aIf2, aCh, aCh0, aCh1, aCh2, aCh3, aCh4, aCall, aCall1, aCallK, aCallK1, aCallK2, aNP, aPart, aPart1, aSl, aSl1, aSl2, aSl3, aMt, aMt1, aMt2, aMt3, aPr0, aPr, aPr1, aPr2, aPr3, aDisp, aDisp1, aEmp, aSeqI, aSeqI1, aSeqI2, aRng1, aEn, aZip, aRng2, aRngD, afI, aLc, aLc1, aLc2, aW0, aW1, aSkip, aSeq, aSeq1, aSeq2, aSeq3, aSeq4, aExpr, aExpr1, aRet, aRet1, aRetN, aBrk, aCnt, aIfS, aIfS1, aIfS2, aSet, aSet1, aPar, aPar1, aPar3, aPar31, aAsg, aAsg1, aAsg2, aFor, aFor1, aRun, aRun1, aRun2, tName, tUnp, tsNil, tsCons, tsCons1, tr_bl, tr_non, tr_int, tr_tup, tr_str,
      List.map_cons, List.map_nil, List.length_cons, List.length_nil, Nat.reduceAdd, Nat.reduceSub, Nat.zero_add, List.replicate, List.cons_append, List.nil_append, List.set_cons_zero, List.set_cons_succ, Nat.reduceLeDiff, Bool.not_true, Bool.not_false, if_true, if_false, ↓reduceIte, G.oAddI, G.oSubI, G.oLeI, G.oGtI, G.oGeI, G.oIsB, G.oIsntB, G.oIsN, G.oIsntN, G.oLenT, G.oLenR, G.oLenS, oIsi, oIsi1, iNon, iBl, iInt, iStr, iTup, iRol, G.tSub, G.tSub1, G.tSub2, G.tSub3, G.oInt, G.oAbs, G.oMax2, G.oPow30, G.oPow18, G.oPow9, G.oEqI, G.oNeI, G.oLtI, isNon, Bool.true_and, Bool.and_true, Bool.false_and, Bool.and_false, Bool.true_or, Bool.false_or, Bool.or_true, Bool.or_false, Bool.not_not, Bool.false_eq_true, G.sT, G.sR, G.sS, Int.cast_ofNat_Int, List.append_assoc, List.length_append, memAt0, memAt, List.getElem?_cons_zero, List.getElem?_cons_succ, xLen, xLen1, xLen2, xLis1, xLst, xSeq, xSeqT, xSeqR, xTup, xTup1, xLis, xLis2, xAll, xAny, xAll0, xAll1, xSum, xSum0, xSum1, xEn, xEn1, xEnR, xSrc, xSrc1, xIx, xIxA, xIxS, xIxI, xIx1, xIxT, xIxR, at0, at1, at2, xAdd, xMul, xRev, xRev1, xCut, xCut1, xCutT, xCutS, xIsi, xIsi1, xIsi2, xTyL, xTyL1, xApp, xExt, G.oRevT, setAt0, setAt, eW_on_on, eW_on_fr, eW_on_ro, eW_on_mi, eW_on_le, eW_fr_on, eW_fr_fr, eW_fr_ro, eW_fr_mi, eW_fr_le, eW_ro_on, eW_ro_fr, eW_ro_ro, eW_ro_mi, eW_ro_le, eW_mi_on, eW_mi_fr, eW_mi_ro, eW_mi_mi, eW_mi_le, eW_le_on, eW_le_fr, eW_le_ro, eW_le_mi, eW_le_le, iW_on_on, iW_on_onn, iW_on_ro, iW_on_ron, iW_fr_on, iW_fr_onn, iW_fr_ro, iW_fr_ron, iW_ro_on, iW_ro_onn, iW_ro_ro, iW_ro_ron, iW_mi_on, iW_mi_onn, iW_mi_ro, iW_mi_ron, iW_le_on, iW_le_onn, iW_le_ro, iW_le_ron, decide_true, decide_false, Int.reduceEq, Int.reduceLT, Int.reduceLE, Int.reduceAdd, Int.reduceSub, Int.reduceMul, Int.reducePow, Int.reduceNeg, Int.reduceNe, $xs,*])
  | `(tactic| simp! [$xs,*] at $h:ident) => `(tactic| simp only [v0, vS, aC, aOp, aOp1, aOp2, aOf, aUn, aUn1, aNil, aCons, aCons1, aCons2, aCB, aCB1, aTup, aTup1, aLst, aLst1, aTru, aTru1, aTru2, aTst, aTst1, aAndT, aAndT1, aAndT2, aOrT, aOrT1, aOrT2, aNotT, aNotT1, aAnd, aAnd1, aAnd2, aAnd3, aOr, aOr1, aOr2, aOr3, aNot, aNot1, aNot2, aIf, aIf1, aIf2, aCh, aCh0, aCh1, aCh2, aCh3, aCh4, aCall, aCall1, aCallK, aCallK1, aCallK2, aNP, aPart, aPart1, aSl, aSl1, aSl2, aSl3, aMt, aMt1, aMt2, aMt3, aPr0, aPr, aPr1, aPr2, aPr3, aDisp, aDisp1, aEmp, aSeqI, aSeqI1, aSeqI2, aRng1, aEn, aZip, aRng2, aRngD, afI, aLc, aLc1, aLc2, aW0, aW1, aSkip, aSeq, aSeq1, aSeq2, aSeq3, aSeq4, aExpr, aExpr1, aRet, aRet1, aRetN, aBrk, aCnt, aIfS, aIfS1, aIfS2, aSet, aSet1, aPar, aPar1, aPar3, aPar31, aAsg, aAsg1, aAsg2, aFor, aFor1, aRun, aRun1, aRun2, tName, tUnp, tsNil, tsCons, tsCons1, tr_bl, tr_non, tr_int, tr_tup, tr_str,
      List.map_cons, List.map_nil, List.length_cons, List.length_nil, Nat.reduceAdd, Nat.reduceSub, Nat.zero_add, List.replicate, List.cons_append, List.nil_append, List.set_cons_zero, List.set_cons_succ, Nat.reduceLeDiff, Bool.not_true, Bool.not_false, if_true, if_false, ↓reduceIte, G.oAddI, G.oSubI, G.oLeI, G.oGtI, G.oGeI, G.oIsB, G.oIsntB, G.oIsN, G.oIsntN, G.oLenT, G.oLenR, G.oLenS, oIsi, oIsi1, iNon, iBl, iInt, iStr, iTup, iRol, G.tSub, G.tSub1, G.tSub2, G.tSub3, G.oInt, G.oAbs, G.oMax2, G.oPow30, G.oPow18, G.oPow9, G.oEqI, G.oNeI, G.oLtI, isNon, Bool.true_and, Bool.and_true, Bool.false_and, Bool.and_false, Bool.true_or, Bool.false_or, Bool.or_true, Bool.or_false, Bool.not_not, Bool.false_eq_true, G.sT, G.sR, G.sS, Int.cast_ofNat_Int, List.append_assoc, List.length_append, memAt0, memAt, List.getElem?_cons_zero, List.getElem?_cons_succ, xLen, xLen1, xLen2, xLis1, xLst, xSeq, xSeqT, xSeqR, xTup, xTup1, xLis, xLis2, xAll, xAny, xAll0, xAll1, xSum, xSum0, xSum1, xEn, xEn1, xEnR, xSrc, xSrc1, xIx, xIxA, xIxS, xIxI, xIx1, xIxT, xIxR, at0, at1, at2, xAdd, xMul, xRev, xRev1, xCut, xCut1, xCutT, xCutS, xIsi, xIsi1, xIsi2, xTyL, xTyL1, xApp, xExt, G.oRevT, setAt0, setAt, eW_on_on, eW_on_fr, eW_on_ro, eW_on_mi, eW_on_le, eW_fr_on, eW_fr_fr, eW_fr_ro, eW_fr_mi, eW_fr_le, eW_ro_on, eW_ro_fr, eW_ro_ro, eW_ro_mi, eW_ro_le, eW_mi_on, eW_mi_fr, eW_mi_ro, eW_mi_mi, eW_mi_le, eW_le_on, eW_le_fr, eW_le_ro, eW_le_mi, eW_le_le, iW_on_on, iW_on_onn, iW_on_ro, iW_on_ron, iW_fr_on, iW_fr_onn, iW_fr_ro, iW_fr_ron, iW_ro_on, iW_ro_onn, iW_ro_ro, iW_ro_ron, iW_mi_on, iW_mi_onn, iW_mi_ro, iW_mi_ron, iW_le_on, iW_le_onn, iW_le_ro, iW_le_ron, decide_true, decide_false, Int.reduceEq, Int.reduceLT, Int.reduceLE, Int.reduceAdd, Int.reduceSub, Int.reduceMul, Int.reducePow, Int.reduceNeg, Int.reduceNe, $xs,*] at $h:ident)
section
variable {p q n1 n2 n3 : Nat} {r1 r2 r3 : List Int} {M : Mem}
/-- the law's own forever -/
def everT (r : List Int) : PQ := if r = [] then [] else told (everR r.length)
theorem x_st11 (c : C5 p q n1 n2 n3 r1 r2 r3 M) (l3 : r3.length ≤ 7) {A B C : D} {a5 a6 a7 a8 a9 a10 a11 a12 a13 a14 : Option D} :
    ∃ X, st11 [some (.ref p), some (.ref q), some A, some B, some C, a5, a6, a7, a8, a9, a10, a11, a12, a13, a14] M = .ok (.nx [some (.ref p), some (.ref q), some A, some B, some C, a5, a6, a7, a8, a9, some (encL (everT r3)), a11, a12, a13, a14]) (M ++ X) := by
  have he := eq_rows true (M := M ++ [.lst []]) (mem_old c.h3) (show (M ++ [Ob.lst []])[M.length]? = row [] from mem_new)
  have gq : ∀ X : Mem, (M ++ X)[q]? = some (.lst [.ref n1, .ref n2, .ref n3]) := fun X => mem_old c.hq
  have g3 : ∀ X : Mem, (M ++ X)[n3]? = row r3 := fun X => mem_old c.h3
  by_cases hz : r3 = []
  · refine ⟨[.lst []], ?_⟩
    have hE : everT r3 = [] := if_pos hz
    rw [hE]
    simp! [st11, c.hq, gq, he, decide_eq_true hz]
    rfl
  · have hE : everT r3 = told (everR r3.length) := if_neg hz
    rw [hE]
    have hadd : (List.replicate r3.length (D.int 0)).length + [D.int 1].length ≤ 16777216 := by
      rw [List.length_replicate, List.length_cons, List.length_nil]
      omega
    have hev : List.replicate r3.length (D.int 0) ++ [D.int 1] = (everR r3.length).map D.int := by
      unfold everR
      rw [List.map_append, List.map_replicate]
      rfl
    have hrow : (M ++ [Ob.lst [], .lst [.int 0], .lst (List.replicate r3.length (.int 0)), .lst [.int 1], .lst ((everR r3.length).map D.int)])[M.length + 4]? = row (everR r3.length) := memAt
    obtain ⟨X, e⟩ := c_told hrow (by rw [ever_len]; omega)
    refine ⟨[.lst [], .lst [.int 0], .lst (List.replicate r3.length (.int 0)), .lst [.int 1], .lst ((everR r3.length).map D.int)] ++ X, ?_⟩
    simp! [st11, c.hq, gq, g3, he, decide_eq_false hz, List.length_map, xMul1 (show r3.length ≤ 1000000 by omega), xAdd1 hadd, hev, e]
theorem bd_ever {r : List Int} (h : r.length ≤ 7) : Bd 1 (everR r.length) := ⟨nn_ever _, by rw [ever_len]; omega, fun k => by rw [ever_get]; split <;> decide⟩
theorem x_st12 (b3 : Bd 1000000000 r3) (l3 : r3.length ≤ 7) {P Q A B : D} {a5 a6 a7 a8 a9 a11 a12 a13 a14 : Option D} :
    ∃ X, st12 [some P, some Q, some A, some B, some (encL (told r3)), a5, a6, a7, a8, a9, some (encL (everT r3)), a11, a12, a13, a14] M = .ok (.nx [some P, some Q, some A, some B, some (encL (told r3)), a5, a6, a7, a8, a9, some (encL (everT r3)), a11, a12, a13, a14]) (M ++ X) := by
  have ef : ∀ M, callF m_forever [encL (told r3)] M = .ok (encL (everT r3)) M := fun M => by
    have e := c_forever (M := M) (bd_len b3) (bd_V b3 (by decide)) (fun x hx => by
      obtain ⟨k, h1, rfl, _⟩ := told_mem hx
      show (k : Int) < 15
      omega)
    rw [forever_told b3.nn] at e
    exact e
  have hl : (everT r3).length ≤ 1000 := by
    unfold everT
    split
    · simp
    · rw [told_ever]
      simp
  have hb : ∀ x ∈ everT r3, x.1.natAbs < 18446744073709551616 * 18446744073709551616 ∧ x.2.natAbs < 18446744073709551616 * 18446744073709551616 := by
    unfold everT
    split
    · intro x hx; cases hx
    · exact bd_abs (bd_ever l3) (by decide)
  obtain ⟨S, h1, h2⟩ := rep_pair hl hb
  have g1 := h1 (M ++ [.lst [encL (everT r3), encL (everT r3)]]) M.length mem_new
  have g2 := h1 (M ++ [.lst [encL (everT r3), encL (everT r3)], .lst [encL (everT r3), encL (everT r3)]]) (M.length + 1) memAt
  refine ⟨[.lst [encL (everT r3), encL (everT r3)], .lst [encL (everT r3), encL (everT r3)]], ?_⟩
  have hne : ∀ M, eqM true (encL (everT r3)) (.tup []) M = some (.bl (!decide (everT r3 = [])), M) := fun M => eq_encL0 true _
  by_cases hz : r3 = []
  · have hE : everT r3 = [] := if_pos hz
    have hd : decide (everT r3 = []) = true := decide_eq_true hE
    simp! [st12, ef, per0, g1, g2, (h2 _).1, hne, hd]
  · have hE : everT r3 = told (everR r3.length) := if_neg hz
    have hd : decide (everT r3 = []) = false := by
      rw [hE, told_ever]
      rfl
    have es : ∀ M, callF m_sum_of [encL (told r3), encL (everT r3)] M = .ok (encL (everT r3)) M := fun M => by
      have e := c_sum_told b3 (bd_ever l3) bd9 (by decide) (by decide) M
      rw [told_plus b3.nn (nn_ever _), ← hE, hE, told_ever, sum_ever, ← told_ever, ← hE] at e
      exact e
    have q1 : ∀ M, eqM true (encL (everT r3)) (encL (everT r3)) M = some (.bl false, M) := fun M => eq_yes (sim_encL _) (by decide)
    simp! [st12, ef, per0, g1, g2, (h2 _).1, hne, hd, es, q1]
end
/-! the values -/
theorem fine_nil {M : Mem} {v : D} (e : noRefs [v] = true) (h : Fine M v) : Fine [] v := by
  have kall : ∀ d, noRef d = true → Kd M d → Kd [] d := by
    intro d hd hk
    cases d <;> first | exact hk | rfl | cases hd
  have e1 : noRef v = true := by simpa [noRefs] using e
  have sub : ∀ (xs : List D), noRefs xs = true → ∀ d ∈ xs, noRef d = true := by
    intro xs
    induction xs with
    | nil => intro _ d hd; cases hd
    | cons x xs ih =>
      intro hx d hd
      rw [noRefs, Bool.and_eq_true] at hx
      rcases List.mem_cons.mp hd with z | z
      · rw [z]; exact hx.1
      · exact ih hx.2 d z
  refine ⟨kall v e1 h.kd, h.len, fun xs d ev hd => ?_, fun xs ys d ev hy hd => ?_, h.few⟩
  · subst ev
    exact kall d (sub xs e1 d hd) (h.it xs d rfl hd)
  · subst ev
    exact kall d (sub ys (sub xs e1 _ hy) d hd) (h.part xs ys d rfl hy hd)
theorem c_law_is_length {M : Mem} {v : D} (h : Fine M v) : ∃ X, callF m_law_is_length [v] M = .ok (.bl (lenV v)) (M ++ X) := by
  cases e : noRefs [v] with
  | true =>
    obtain ⟨X, e2⟩ := f_law_is_length (fine_nil e h)
    exact ⟨[], by rw [List.append_nil]; exact call_pure e rfl e2⟩
  | false =>
    obtain ⟨X, e2⟩ := f_law_is_length h
    exact ⟨X, by rw [call_ref e]; exact e2⟩
theorem val_step {M : Mem} {v : D} (h : Fine M v) {ρ : Rho} (hv : slot ρ 11 = some v) (hs : ρ.length = 15) :
    ∃ X, (gSeq (gSet 12 (gCall m_law_is_length (gCons (gV 11) (gNil))))
          (gIfS (gTst (gOp (eqM true) (gCB reprN (gCons (gLst (gCons (gCall m_is_length (gCons (gV 11) (gNil))) (gCons (gCallK m_is_length [0] (gCons (gV 11) (gNil))) (gNil)))) (gNil))) (gCB reprN (gCons (gLst (gCons (gV 12) (gCons (gV 12) (gNil)))) (gNil))))) (gRet (gC (.bl false))) (gsSkip))) ρ M = .ok (.nx (ρ.set 12 (some (.bl (lenV v))))) (M ++ X) := by
  obtain ⟨X1, e1⟩ := c_law_is_length h
  obtain ⟨X2, e2⟩ := c_is_length (h.app (X := X1))
  obtain ⟨X3, e3⟩ := c_is_length ((h.app (X := X1)).app (X := X2))
  obtain ⟨S, h1, h2⟩ := rep_bool (lenV v)
  generalize hw : lenV v = w at *
  match ρ, hs with
  | [a0, a1, a2, a3, a4, a5, a6, a7, a8, a9, a10, a11, a12, a13, a14], _ =>
    have hv' : a11 = some v := hv
    subst hv'
    simp only [List.append_assoc] at e2 e3
    refine ⟨X1 ++ (X2 ++ (X3 ++ [.lst [.bl w, .bl w], .lst [.bl w, .bl w]])), ?_⟩
    simp! [e1, e2, e3, per0]
    rw [h1]
    · simp! []
      rw [h1]
      · simp! [h2]
      · simp! [Nat.add_assoc]
    · simp! []
end K56
set_option maxRecDepth 100000
set_option maxHeartbeats 4000000
namespace K56
open PySem G
local macro_rules
  | `(tactic| simp! [$xs,*]) => `(tactic| simp only [v0, vS, aC, aOp, aOp1, aOp2, aOf, aUn, aUn1, aNil, aCons, aCons1, aCons2, aCB, aCB1, aTup, aTup1, aLst, aLst1, aTru, aTru1, aTru2, aTst, aTst1, aAndT, aAndT1, aAndT2, aOrT, aOrT1, aOrT2, aNotT, aNotT1, aAnd, aAnd1, aAnd2, aAnd3, aOr, aOr1, aOr2, aOr3, aNot, aNot1, aNot2, aIf, aIf1, aIf2, aCh, aCh0, aCh1, aCh2, aCh3, aCh4, aCall, aCall1, aCallK, aCallK1, aCallK2, aNP, aPart, aPart1, aSl, aSl1, aSl2, aSl3, aMt, aMt1, aMt2, aMt3, aPr0, aPr, aPr1, aPr2, aPr3, aDisp, aDisp1, aEmp, aSeqI, aSeqI1, aSeqI2, aRng1, aEn, aZip, aRng2, aRngD, afI, aLc, aLc1, aLc2, aW0, aW1, aSkip, aSeq, aSeq1, aSeq2, aSeq3, aSeq4, aExpr, aExpr1, aRet, aRet1, aRetN, aBrk, aCnt, aIfS, aIfS1, aIfS2, aSet, aSet1, aPar, aPar1, aPar3, aPar31, aAsg, aAsg1, aAsg2, aFor, aFor1, aRun, aRun1, aRun2, tName, tUnp, tsNil, tsCons, tsCons1, tr_bl, tr_non, tr_int, tr_tup, tr_str,
      List.map_cons, List.map_nil, List.length_cons, List.length_nil, Nat.reduceAdd, Nat.reduceSub, Nat.zero_add, List.replicate, List.cons_append, List.nil_append, List.set_cons_zero, List.set_cons_succ, Nat.reduceLeDiff, Bool.not_true, Bool.not_false, if_true, if_false, ↓reduceIte, G.oAddI, G.oSubI, G.oLeI, G.oGtI, G.oGeI, G.oIsB, G.oIsntB, G.oIsN, G.oIsntN, G.oLenT, G.oLenR, G.oLenS, oIsi, oIsi1, iNon, iBl, iInt, iStr, iTup, iRol, G.tSub, G.tSub1, G.tSub2, G.tSub3, G.oInt, G.oAbs, G.oMax2, G.oPow30, G.oPow18, G.oPow9, G.oEqI, G.oNeI, G.oLtI, isNon, Bool.true_and, Bool.and_true, Bool.false_and, Bool.and_false, Bool.true_or, Bool.false_or, Bool.or_true, Bool.or_false, Bool.not_not, Bool.false_eq_true, G.sT, G.sR, G.sS, Int.cast_ofNat_Int, List.append_assoc, List.length_append, memAt0, memAt, List.getElem?_cons_zero, List.getElem?_cons_succ, xLen, xLen1, xLen2, xLis1, xLst, xSeq, xSeqT, xSeqR, xTup, xTup1, xLis, xLis2, xAll, xAny, xAll0, xAll1, xSum, xSum0, xSum1, xEn, xEn1, xEnR, xSrc, xSrc1, xIx, xIxA, xIxS, xIxI, xIx1, xIxT, xIxR, at0, at1, at2, xAdd, xMul, xRev, xRev1, xCut, xCut1, xCutT, xCutS, xIsi, xIsi1, xIsi2, xTyL, xTyL1, xApp, xExt, G.oRevT, setAt0, setAt, eW_on_on, eW_on_fr, eW_on_ro, eW_on_mi, eW_on_le, eW_fr_on, eW_fr_fr, eW_fr_ro, eW_fr_mi, eW_fr_le, eW_ro_on, eW_ro_fr, eW_ro_ro, eW_ro_mi, eW_ro_le, eW_mi_on, eW_mi_fr, eW_mi_ro, eW_mi_mi, eW_mi_le, eW_le_on, eW_le_fr, eW_le_ro, eW_le_mi, eW_le_le, iW_on_on, iW_on_onn, iW_on_ro, iW_on_ron, iW_fr_on, iW_fr_onn, iW_fr_ro, iW_fr_ron, iW_ro_on, iW_ro_onn, iW_ro_ro, iW_ro_ron, iW_mi_on, iW_mi_onn, iW_mi_ro, iW_mi_ron, iW_le_on, iW_le_onn, iW_le_ro, iW_le_ron, decide_true, decide_false, Int.reduceEq, Int.reduceLT, Int.reduceLE, Int.reduceAdd, Int.reduceSub, Int.reduceMul, Int.reducePow, Int.reduceNeg, Int.reduceNe, $xs,*])
  | `(tactic| simp! [$xs,*] at $h:ident) => `(tactic| simp only [v0, vS, aC, aOp, aOp1, aOp2, aOf, aUn, aUn1, aNil, aCons, aCons1, aCons2, aCB, aCB1, aTup, aTup1, aLst, aLst1, aTru, aTru1, aTru2, aTst, aTst1, aAndT, aAndT1, aAndT2, aOrT, aOrT1, aOrT2, aNotT, aNotT1, aAnd, aAnd1, aAnd2, aAnd3, aOr, aOr1, aOr2, aOr3, aNot, aNot1, aNot2, aIf, aIf1, aIf2, aCh, aCh0, aCh1, aCh2, aCh3, aCh4, aCall, aCall1, aCallK, aCallK1, aCallK2, aNP, aPart, aPart1, aSl, aSl1, aSl2, aSl3, aMt, aMt1, aMt2, aMt3, aPr0, aPr, aPr1, aPr2, aPr3, aDisp, aDisp1, aEmp, aSeqI, aSeqI1, aSeqI2, aRng1, aEn, aZip, aRng2, aRngD, afI, aLc, aLc1, aLc2, aW0, aW1, aSkip, aSeq, aSeq1, aSeq2, aSeq3, aSeq4, aExpr, aExpr1, aRet, aRet1, aRetN, aBrk, aCnt, aIfS, aIfS1, aIfS2, aSet, aSet1, aPar, aPar1, aPar3, aPar31, aAsg, aAsg1, aAsg2, aFor, aFor1, aRun, aRun1, aRun2, tName, tUnp, tsNil, tsCons, tsCons1, tr_bl, tr_non, tr_int, tr_tup, tr_str,
      List.map_cons, List.map_nil, List.length_cons, List.length_nil, Nat.reduceAdd, Nat.reduceSub, Nat.zero_add, List.replicate, List.cons_append, List.nil_append, List.set_cons_zero, List.set_cons_succ, Nat.reduceLeDiff, Bool.not_true, Bool.not_false, if_true, if_false, ↓reduceIte, G.oAddI, G.oSubI, G.oLeI, G.oGtI, G.oGeI, G.oIsB, G.oIsntB, G.oIsN, G.oIsntN, G.oLenT, G.oLenR, G.oLenS, oIsi, oIsi1, iNon, iBl, iInt, iStr, iTup, iRol, G.tSub, G.tSub1, G.tSub2, G.tSub3, G.oInt, G.oAbs, G.oMax2, G.oPow30, G.oPow18, G.oPow9, G.oEqI, G.oNeI, G.oLtI, isNon, Bool.true_and, Bool.and_true, Bool.false_and, Bool.and_false, Bool.true_or, Bool.false_or, Bool.or_true, Bool.or_false, Bool.not_not, Bool.false_eq_true, G.sT, G.sR, G.sS, Int.cast_ofNat_Int, List.append_assoc, List.length_append, memAt0, memAt, List.getElem?_cons_zero, List.getElem?_cons_succ, xLen, xLen1, xLen2, xLis1, xLst, xSeq, xSeqT, xSeqR, xTup, xTup1, xLis, xLis2, xAll, xAny, xAll0, xAll1, xSum, xSum0, xSum1, xEn, xEn1, xEnR, xSrc, xSrc1, xIx, xIxA, xIxS, xIxI, xIx1, xIxT, xIxR, at0, at1, at2, xAdd, xMul, xRev, xRev1, xCut, xCut1, xCutT, xCutS, xIsi, xIsi1, xIsi2, xTyL, xTyL1, xApp, xExt, G.oRevT, setAt0, setAt, eW_on_on, eW_on_fr, eW_on_ro, eW_on_mi, eW_on_le, eW_fr_on, eW_fr_fr, eW_fr_ro, eW_fr_mi, eW_fr_le, eW_ro_on, eW_ro_fr, eW_ro_ro, eW_ro_mi, eW_ro_le, eW_mi_on, eW_mi_fr, eW_mi_ro, eW_mi_mi, eW_mi_le, eW_le_on, eW_le_fr, eW_le_ro, eW_le_mi, eW_le_le, iW_on_on, iW_on_onn, iW_on_ro, iW_on_ron, iW_fr_on, iW_fr_onn, iW_fr_ro, iW_fr_ron, iW_ro_on, iW_ro_onn, iW_ro_ro, iW_ro_ron, iW_mi_on, iW_mi_onn, iW_mi_ro, iW_mi_ron, iW_le_on, iW_le_onn, iW_le_ro, iW_le_ron, decide_true, decide_false, Int.reduceEq, Int.reduceLT, Int.reduceLE, Int.reduceAdd, Int.reduceSub, Int.reduceMul, Int.reducePow, Int.reduceNeg, Int.reduceNe, $xs,*] at $h:ident)
section
variable {p q n1 n2 n3 : Nat} {r1 r2 r3 : List Int} {M : Mem}
theorem odd_mem {l : PQ} {M : Mem} : ∀ d ∈ l.map encP, Odd M d := fun d hd => by
  obtain ⟨x, _, rfl⟩ := List.mem_map.mp hd
  exact odd_encP
theorem x_st13 (c : C5 p q n1 n2 n3 r1 r2 r3 M) (l1 : r1.length ≤ 7) (l2 : r2.length ≤ 7) (l3 : r3.length ≤ 7) {a5 a6 a7 a8 a9 a10 a11 a12 a13 a14 : Option D} :
    ∃ (M' : Mem) (a11' a12' : Option D), st13 [some (.ref p), some (.ref q), some (encL (told r1)), some (encL (told r2)), some (encL (told r3)), a5, a6, a7, a8, a9, a10, a11, a12, a13, a14] M = .ok (.nx [some (.ref p), some (.ref q), some (encL (told r1)), some (encL (told r2)), some (encL (told r3)), a5, a6, a7, a8, a9, a10, a11', a12', a13, a14]) M' ∧ Dr p M M' := by
  have t1 := told_len r1
  have t2 := told_len r2
  have t3 := told_len r3
  let A := encL (told r1)
  let L0 : List D := [encL (told r1), .non, .tup [], .ref M.length]
  let M1 : Mem := M ++ [.lst ((told r1).map encP), .lst L0]
  have d1 : Dr p M M1 := Dr.app c.pot
  have hpl := c.pot.lt
  have hlis : ∀ M, seqM M (encL (told r1)) = some ((told r1).map encP) := fun _ => rfl
  have key : ∃ ys M4, lcG (srcR 0 8 1) (gName' 9) gYes (gCall m_law_bent (gCons (gV 0) (gCons (gCall m_law_pick (gCons (gV 0) (gCons (gLst (gCons (gV 2) (gCons (gV 3) (gCons (gV 4) (gNil))))) (gNil)))) (gNil)))) [some (.ref p), some (.ref q), some (encL (told r1)), some (encL (told r2)), some (encL (told r3)), a5, a6, a7, a8, none, a10, a11, a12, a13, a14] big 0 M1 = .ok ys M4 ∧
      (Dr p M1 M4 ∧ ys.length = (rngD 0 8 1).length ∧ ∀ v ∈ ys, Fine M4 v) := by
    refine lc_inv (its := rngD 0 8 1) (fun i ys M4 => Dr p M1 M4 ∧ ys.length = i ∧ ∀ v ∈ ys, Fine M4 v) (by decide) ⟨Dr.refl d1.pot, rfl, by simp⟩ (fun i ys M4 _ _ => srcR_is i) (fun i ys M4 d hd hP => ?_)
    obtain ⟨dr, hl, hf⟩ := hP
    have d5 : Dr p M4 (M4 ++ [.lst [encL (told r1), encL (told r2), encL (told r3)]]) := Dr.app dr.pot
    have hpl4 := dr.pot.lt
    obtain ⟨x, M6, e6, hx, d6⟩ := c_law_pick (d := .ref M4.length) (xs := [encL (told r1), encL (told r2), encL (told r3)]) d5.pot (fun n e => by cases e; omega) (by simp only [itemsOf, memAt0]; rfl) (by simp) (by simp)
    have hxe : ∃ l : PQ, x = encL l ∧ l.length ≤ 1000 := by
      simp only [List.mem_cons, List.not_mem_nil, or_false] at hx
      rcases hx with rfl | rfl | rfl
      · exact ⟨_, rfl, by omega⟩
      · exact ⟨_, rfl, by omega⟩
      · exact ⟨_, rfl, by omega⟩
    obtain ⟨l, rfl, hll⟩ := hxe
    obtain ⟨v, M7, e7, d7, f7⟩ := c_law_bent (xs := l.map encP) d6.pot odd_mem (by rw [List.length_map]; exact hll)
    have D7 := (d5.trans d6).trans d7
    refine ⟨_, _, M4, rfl, .inr ⟨rfl, v, M7, ?_, dr.trans D7, by rw [List.length_append, hl]; rfl, fun u hu => ?_⟩⟩
    · have e7' : callF m_law_bent [.ref p, encL l] M6 = .ok v M7 := e7
      simp! [e6, e7']
    · rcases List.mem_append.mp hu with z | z
      · exact (hf u z).dr D7
      · rw [List.mem_singleton.mp z]
        exact f7
  obtain ⟨ys, M4, e4, d4, hyl, hyf⟩ := key
  rw [rngD_len] at hyl
  have D4 := d1.trans d4
  have hLM : M1[M.length + 1]? = some (.lst L0) := memAt
  have hL4 : M4[M.length + 1]? = some (.lst L0) := d4.old _ _ (by omega) hLM
  have hl0 : M4[M.length]? = some (.lst ((told r1).map encP)) := d4.old _ _ (by omega) memAt0
  have gL : ∀ X : Mem, (M4 ++ X)[M.length + 1]? = some (.lst L0) := fun X => mem_old hL4
  have hadd : L0.length + ys.length ≤ 16777216 := by
    rw [hyl]
    exact (by decide : 4 + 8 ≤ 16777216)
  let V : List D := L0 ++ ys
  let M5 : Mem := M4 ++ [.lst ys, .lst V]
  have hfine : ∀ v ∈ V, Fine M5 v := by
    intro v hv
    rcases List.mem_append.mp hv with z | z
    · simp only [L0, List.mem_cons, List.not_mem_nil, or_false] at z
      rcases z with rfl | rfl | rfl | rfl
      · exact fine_encL (by omega)
      · exact fine_other rfl (fun xs e => by cases e)
      · exact fine_tup (by simp) (by simp)
      · refine fine_other ?_ (fun xs e => by cases e)
        unfold Kd
        have : M5[M.length]? = some (.lst ((told r1).map encP)) := mem_old hl0
        rw [xIsi, this]
        rfl
    · exact (hyf v z).app
  have hV : M5[M4.length + 1]? = some (.lst V) := memAt
  have gen : ∃ ρ' M', forG (srcM (M4.length + 1)) (gName' 11) (gSeq (gSet 12 (gCall m_law_is_length (gCons (gV 11) (gNil))))
          (gIfS (gTst (gOp (eqM true) (gCB reprN (gCons (gLst (gCons (gCall m_is_length (gCons (gV 11) (gNil))) (gCons (gCallK m_is_length [0] (gCons (gV 11) (gNil))) (gNil)))) (gNil))) (gCB reprN (gCons (gLst (gCons (gV 12) (gCons (gV 12) (gNil)))) (gNil))))) (gRet (gC (.bl false))) (gsSkip))) big 0 [some (.ref p), some (.ref q), some (encL (told r1)), some (encL (told r2)), some (encL (told r3)), a5, a6, a7, a8, a9, a10, a11, a12, a13, a14] M5 = .ok (.nx ρ') M' ∧
      ∃ (X : Mem) (a11' a12' : Option D), ρ' = [some (.ref p), some (.ref q), some (encL (told r1)), some (encL (told r2)), some (encL (told r3)), a5, a6, a7, a8, a9, a10, a11', a12', a13, a14] ∧ M' = M5 ++ X := by
    refine for_inv (its := V) (fun i ρ M1 => ∃ (X : Mem) (a11' a12' : Option D), ρ = [some (.ref p), some (.ref q), some (encL (told r1)), some (encL (told r2)), some (encL (told r3)), a5, a6, a7, a8, a9, a10, a11', a12', a13, a14] ∧ M1 = M5 ++ X)
      (by rw [List.length_append, hyl]; exact (by decide : 4 + 8 < big)) ⟨[], a11, a12, rfl, (List.append_nil _).symm⟩ (fun i ρ M1 _ hP => by
        obtain ⟨X, _, _, _, rfl⟩ := hP
        exact srcM_is (mem_old hV) i) (fun i ρ M1 d hd hP => ?_)
    obtain ⟨X, b11, b12, rfl, rfl⟩ := hP
    obtain ⟨Y, e⟩ := val_step ((hfine d (List.mem_of_getElem? hd)).app (X := X)) (ρ := [some (.ref p), some (.ref q), some (encL (told r1)), some (encL (told r2)), some (encL (told r3)), a5, a6, a7, a8, a9, a10, some d, b12, a13, a14]) rfl rfl
    exact ⟨_, _, _, _, rfl, .inl e, X ++ Y, some d, some (.bl (lenV d)), rfl, List.append_assoc _ _ _⟩
  obtain ⟨ρ', M', e, X, b11, b12, rfl, rfl⟩ := gen
  refine ⟨M5 ++ X, b11, b12, ?_, D4.trans ((Dr.app (X := [.lst ys, .lst V]) d4.pot).trans (Dr.app (Dr.app (X := [.lst ys, .lst V]) d4.pot).pot))⟩
  have h8 : ∀ M, rng1K (.ok (.int 8) M) = .ok (srcR 0 8 1) M := fun M => aRng1n (n := 8) (by decide)
  have e4' : lcG (srcR 0 8 1) (gName' 9) gYes (gCall m_law_bent (gCons (gV 0) (gCons (gCall m_law_pick (gCons (gV 0) (gCons (gLst (gCons (gV 2) (gCons (gV 3) (gCons (gV 4) (gNil))))) (gNil)))) (gNil)))) [some (.ref p), some (.ref q), some (encL (told r1)), some (encL (told r2)), some (encL (told r3)), a5, a6, a7, a8, none, a10, a11, a12, a13, a14] big 0 (M ++ [.lst ((told r1).map encP), .lst [encL (told r1), .non, .tup [], .ref M.length]]) = .ok ys M4 := e4
  have gL' : ∀ X : Mem, (M4 ++ X)[M.length + 1]? = some (.lst [encL (told r1), .non, .tup [], .ref M.length]) := gL
  have hadd' : ([encL (told r1), .non, .tup [], .ref M.length] : List D).length + ys.length ≤ 16777216 := hadd
  simp! [st13, hlis, h8, e4', aLc2 (show ys.length ≤ 16777216 by omega), gL', xAdd1 hadd']
  exact e
end
theorem x_end {M : Mem} {p : Nat} (hp : Pot M p) {P Q A B C : D} {a5 a6 a7 a8 a9 a10 a11 a12 a13 a14 : Option D} (hP : P = .ref p) :
    ∃ M', gSeq st14 (gSeq st15 st16) [some P, some Q, some A, some B, some C, a5, a6, a7, a8, a9, a10, a11, a12, a13, a14] M = .ok (.rt (.bl true)) M' := by
  subst hP
  have hpl := hp.lt
  have d1 : Dr p M (M ++ [.lst [.str [111, 110], .str [111, 110]]]) := Dr.app hp
  obtain ⟨t, M2, e2, d2, ho, hs, hd⟩ := f_law_time (p := p) (w := M.length) (by omega) 8 5 (by decide) (by decide) (by decide) _ d1.pot (show (M ++ [Ob.lst [D.str [111, 110], D.str [111, 110]]])[M.length]? = ONS from mem_new)
  have hs' : t.size ≤ 100 := Nat.le_trans hs (by decide)
  have e2' : callF m_law_time [.ref p, .str [97, 98], .ref M.length, .int 5] (M ++ [.lst [.str [111, 110], .str [111, 110]]]) = .ok t.enc M2 := e2
  obtain ⟨n, X, e3, g3, _⟩ := c_own_length ho hd hs' M2
  have hol := own_len t
  obtain ⟨Y, e4⟩ := c_told g3 (by omega)
  have e5 := c_length_of ho hd hs'
  have hb : ∀ x ∈ told (ownL t), x.1.natAbs < 18446744073709551616 * 18446744073709551616 ∧ x.2.natAbs < 18446744073709551616 * 18446744073709551616 := fun x hx => by
    obtain ⟨k, h1, rfl, h2⟩ := told_mem hx
    have h3 := own_le t k
    constructor
    · show (k : Int).natAbs < _
      omega
    · show ((ownL t).getD k 0).natAbs < _
      omega
  obtain ⟨S, h1, h2⟩ := rep_pair (l := told (ownL t)) (by have := told_len (ownL t); omega) hb
  generalize hT : encL (told (ownL t)) = T at *
  simp only [List.append_assoc] at e4
  refine ⟨M2 ++ (X ++ (Y ++ [.lst [T, T], .lst [T, T]])), ?_⟩
  simp! [st14, st15, st16, e2', e3, e4, e5, per0]
  rw [h1]
  · simp! []
    rw [h1]
    · simp! [(h2 _).2]
    · simp! [Nat.add_assoc]
  · simp! []
theorem f_law_right {M : Mem} {p : Nat} (hp : Pot M p) : ∃ M', m_law_right [.ref p] M = .ok (.bl true) M' := by
  obtain ⟨q, n1, n2, n3, r1, r2, r3, M1, e1, c1, s1, s2, s3⟩ := x_st1 hp
  obtain ⟨b1, l1⟩ := small_bd s1
  obtain ⟨b2, l2⟩ := small_bd s2
  obtain ⟨b3, l3⟩ := small_bd s3
  obtain ⟨X2, e2⟩ := x_st2 c1 l1 l2 l3
  have c2 := c1.app X2
  obtain ⟨X3, e3⟩ := x_st3 c2 b1 b2 (A := encL (told r1)) (B := encL (told r2)) (C := encL (told r3)) (a5 := none) (a6 := none) (a7 := none) (a8 := none) (a9 := none) (a10 := none) (a11 := none) (a12 := none) (a13 := none) (a14 := none)
  have c3 := c2.app X3
  obtain ⟨X4, e4⟩ := x_st4 c3 b1 b2 (C := encL (told r3)) (a6 := none) (a7 := none) (a8 := none) (a9 := none) (a10 := none) (a11 := none) (a12 := none) (a13 := none) (a14 := none)
  have c4 := c3.app X4
  have e5 := x_st5 (M := M1 ++ X2 ++ X3 ++ X4) b1 b2 b3 (P := .ref p) (Q := .ref q) (a5 := some (encL (told (plusR r1 r2)))) (a6 := none) (a7 := none) (a8 := none) (a9 := none) (a10 := none) (a11 := none) (a12 := none) (a13 := none) (a14 := none)
  obtain ⟨X6, e6⟩ := x_st6 c4 (A := encL (told r1)) (B := encL (told r2)) (C := encL (told r3)) (a5 := some (encL (told (plusR r1 r2)))) (a6 := none) (a7 := none) (a8 := none) (a9 := none) (a10 := none) (a11 := none) (a12 := none) (a13 := none) (a14 := none)
  have c6 := c4.app X6
  obtain ⟨X7, e7⟩ := x_st7 c6 b1 b2 (C := encL (told r3)) (a7 := none) (a8 := none) (a9 := none) (a10 := none) (a11 := none) (a12 := none) (a13 := none) (a14 := none)
  have c7 := c6.app X7
  obtain ⟨m, M8, hm, e8, c8⟩ := x_st8 c7 (A := encL (told r1)) (B := encL (told r2)) (C := encL (told r3)) (a5 := some (encL (told (plusR r1 r2)))) (a6 := some (.bl (ownLess r1 r2))) (a7 := none) (a8 := none) (a9 := none) (a10 := none) (a11 := none) (a12 := none) (a13 := none) (a14 := none)
  have c8' := c8.app [.lst []]
  obtain ⟨X9, k, a9, e9, g9⟩ := x_st9 c8' b3 hm (show (M8 ++ [Ob.lst []])[M8.length]? = row [] from mem_new) (A := encL (told r1)) (B := encL (told r2)) (C := encL (told r3)) (a5 := some (encL (told (plusR r1 r2)))) (a6 := some (.bl (ownLess r1 r2))) (a9 := none) (a10 := none) (a11 := none) (a12 := none) (a13 := none) (a14 := none)
  have c9 := c8'.app X9
  obtain ⟨X10, e10⟩ := x_st10 c9 b3 hm g9 (A := encL (told r1)) (B := encL (told r2)) (a5 := some (encL (told (plusR r1 r2)))) (a6 := some (.bl (ownLess r1 r2))) (a9 := a9) (a10 := none) (a11 := none) (a12 := none) (a13 := none) (a14 := none)
  have c10 := c9.app X10
  obtain ⟨X11, e11⟩ := x_st11 c10 l3 (A := encL (told r1)) (B := encL (told r2)) (C := encL (told r3)) (a5 := some (encL (told (plusR r1 r2)))) (a6 := some (.bl (ownLess r1 r2))) (a7 := some (.int m)) (a8 := some (.ref k)) (a9 := a9) (a10 := none) (a11 := none) (a12 := none) (a13 := none) (a14 := none)
  have c11 := c10.app X11
  obtain ⟨X12, e12⟩ := x_st12 (M := M8 ++ [.lst []] ++ X9 ++ X10 ++ X11) b3 l3 (P := .ref p) (Q := .ref q) (A := encL (told r1)) (B := encL (told r2)) (a5 := some (encL (told (plusR r1 r2)))) (a6 := some (.bl (ownLess r1 r2))) (a7 := some (.int m)) (a8 := some (.ref k)) (a9 := a9) (a11 := none) (a12 := none) (a13 := none) (a14 := none)
  have c12 := c11.app X12
  obtain ⟨M13, a11, a12, e13, d13⟩ := x_st13 c12 l1 l2 l3 (a5 := some (encL (told (plusR r1 r2)))) (a6 := some (.bl (ownLess r1 r2))) (a7 := some (.int m)) (a8 := some (.ref k)) (a9 := a9) (a10 := some (encL (everT r3))) (a11 := none) (a12 := none) (a13 := none) (a14 := none)
  obtain ⟨M14, e14⟩ := x_end d13.pot (P := .ref p) (Q := .ref q) (A := encL (told r1)) (B := encL (told r2)) (C := encL (told r3)) (a5 := some (encL (told (plusR r1 r2)))) (a6 := some (.bl (ownLess r1 r2))) (a7 := some (.int m)) (a8 := some (.ref k)) (a9 := a9) (a10 := some (encL (everT r3))) (a11 := a11) (a12 := a12) (a13 := none) (a14 := none) rfl
  refine ⟨M14, ?_⟩
  show runDef 15 b_law_right [.ref p] M = _
  rw [right_st, aRun]
  show runK ((gSeq st1 _) [some (.ref p), none, none, none, none, none, none, none, none, none, none, none, none, none, none] M) = _
  rw [aSeq, e1, aSeq1, aSeq, e2, aSeq1, aSeq, e3, aSeq1, aSeq, e4, aSeq1, aSeq, e5, aSeq1, aSeq, e6, aSeq1, aSeq, e7, aSeq1, aSeq, e8, aSeq1, aSeq, e9, aSeq1, aSeq, e10, aSeq1, aSeq, e11, aSeq1, aSeq, e12, aSeq1, aSeq, e13, aSeq1, e14]
  rfl
theorem law_gives (ns : List Int) (_ : ns.length ≤ 63) : Gives m_law ns := by
  have key : ∃ ys M4, lcG (srcR 0 4 1) (gName' 1) gYes (gCall m_law_right (gCons (gCall m_law_pot (gCons (gV 0) (gCons (gV 1) (gNil)))) (gNil))) [some (dScript ns), none] big 0 [] = .ok ys M4 ∧ ys = List.replicate (rngD 0 4 1).length (D.bl true) := by
    refine lc_inv (its := rngD 0 4 1) (fun i ys _ => ys = List.replicate i (D.bl true)) (by decide) rfl (fun i ys M4 _ _ => srcR_is i) (fun i ys M4 d hd hP => ?_)
    obtain ⟨k, hk, rfl⟩ := mem_rng (List.mem_of_getElem? hd)
    obtain ⟨a, b, e1, a0, b0, b1⟩ := c_law_pot (M := M4) (ns := ns) (k := k) (by omega)
    obtain ⟨M5, e2⟩ := f_law_right (M := M4 ++ [.lst [.int a, .int b]]) (p := M4.length) ⟨a, b, mem_new, a0, b0, b1⟩
    have e2' : callF m_law_right [.ref M4.length] (M4 ++ [.lst [.int a, .int b]]) = .ok (.bl true) M5 := by
      rw [call_ref rfl]
      exact e2
    refine ⟨_, _, M4, rfl, .inr ⟨rfl, .bl true, M5, ?_, by rw [hP, List.replicate_succ']⟩⟩
    simp! [e1, e2']
  obtain ⟨ys, M4, e, rfl⟩ := key
  rw [rngD_len] at e
  have h4 : ∀ M, rng1K (.ok (.int 4) M) = .ok (srcR 0 4 1) M := fun M => aRng1n (n := 4) (by decide)
  have hb : bolsM (List.replicate 4 (D.bl true)) = some [true, true, true, true] := rfl
  have ha : allB [true, true, true, true] = true := rfl
  refine ⟨M4 ++ [.lst (List.replicate 4 (.bl true))], ?_⟩
  have hl : (List.replicate 4 (D.bl true)).length ≤ 16777216 := by decide
  show m_law [dScript ns] [] = _
  unfold m_law
  rw [aRun]
  show runK (b_law [some (dScript ns), none] []) = _
  unfold b_law
  rw [aRet, aCB, aCons, aLc, aRng1, aC, h4, aLc1]
  show runK (retK _ (cbK allN (consK gNil _ (lcK2 (lcG (srcR 0 4 1) (gName' 1) gYes _ [some (dScript ns), none] big 0 []))))) = _
  rw [e, aLc2 hl, aCons1, aNil, aCons2, aCB1, xAll, xLst, mem_new, xLis1, xAll0, hb, xAll1, ha, aOf, aRet1, aRun1]
end K56
section
open PySem PySem.W PyProof.Rows
set_option maxRecDepth 100000 in
set_option maxHeartbeats 0 in
theorem PySem.Challenge.cw_nextless_k56_whole_lengths_and_sums_holds : PySem.Challenge.rw_nextless_k56_whole_lengths_and_sums.Holds :=
  head (by
  k_fill
  refine G.walk_gx (n := 63) (k := 27) (x := "script") rfl (by decide) rfl ⟨rfl, by decide, by decide⟩ ?F
  case F =>
    intro w mg fa h Y XX GX hmg
    have KX := PySem.W.kIn_of Y
    clear Y
    refine' K56.all_mk rfl KX GX hmg ?a0 ?l0 ?e0 ?p0 ?a1 ?l1 ?e1 ?p1 ?a2 ?l2 ?e2 ?p2 ?a3 ?l3 ?e3 ?p3 ?a4 ?l4 ?e4 ?p4 ?a5 ?l5 ?e5 ?p5 ?a6 ?l6 ?e6 ?p6 ?a7 ?l7 ?e7 ?p7 ?a8 ?l8 ?e8 ?p8 ?a9 ?l9 ?e9 ?p9 ?a10 ?l10 ?e10 ?p10 ?a11 ?l11 ?e11 ?p11 ?a12 ?l12 ?e12 ?p12 ?a13 ?l13 ?e13 ?p13 ?a14 ?l14 ?e14 ?p14 ?a15 ?l15 ?e15 ?p15 ?a16 ?l16 ?e16 ?p16 ?a17 ?l17 ?e17 ?p17 ?a18 ?l18 ?e18 ?p18 ?a19 ?l19 ?e19 ?p19 ?a20 ?l20 ?e20 ?p20 ?a21 ?l21 ?e21 ?p21 ?a22 ?l22 ?e22 ?p22 ?a23 ?l23 ?e23 ?p23 ?a24 ?l24 ?e24 ?p24 ?a25 ?l25 ?e25 ?p25 ?a26 ?l26 ?e26 ?p26 ?a27 ?l27 ?e27 ?p27 ?a28 ?l28 ?e28 ?p28 ?a29 ?l29 ?e29 ?p29 ?a30 ?l30 ?e30 ?p30 ?a31 ?l31 ?e31 ?p31 ?a32 ?l32 ?e32 ?p32 ?a33 ?l33 ?e33 ?p33 ?a34 ?l34 ?e34 ?p34 ?a35 ?l35 ?e35 ?p35 ?a36 ?l36 ?e36 ?p36 ?a37 ?l37 ?e37 ?p37 ?a38 ?l38 ?e38 ?p38 ?a39 ?l39 ?e39 ?p39 ?z_enumerate ?z_tuple ?z_divmod ?z_int ?z_len ?z_str ?z_isinstance ?z_list ?z_range ?z_max ?z_bool ?z_all ?z_zip ?z_any ?z_sum ?z_repr ?z_abs (.int ⟨_, PySem.W.mg_of KX GX (by k_is)⟩) (.loose XX (by decide +kernel)) (.str ⟨_, PySem.W.mg_of KX GX (by k_is)⟩ (by decide +kernel) (by decide)) (.int ⟨_, PySem.W.mg_of KX GX (by k_is)⟩) (.str ⟨_, PySem.W.mg_of KX GX (by k_is)⟩ (by decide +kernel) (by decide)) (.str ⟨_, PySem.W.mg_of KX GX (by k_is)⟩ (by decide +kernel) (by decide)) (.str ⟨_, PySem.W.mg_of KX GX (by k_is)⟩ (by decide +kernel) (by decide)) (.str ⟨_, PySem.W.mg_of KX GX (by k_is)⟩ (by decide +kernel) (by decide)) (.int ⟨_, PySem.W.mg_of KX GX (by k_is)⟩) (.int ⟨_, PySem.W.mg_of KX GX (by k_is)⟩) K56.law_gives
    (case a0 => k_is); (case l0 => k_is); (case e0 => k_is); (case p0 => k_is); (case a1 => k_is); (case l1 => k_is); (case e1 => k_is); (case p1 => k_is); (case a2 => k_is); (case l2 => k_is); (case e2 => k_is); (case p2 => k_is); (case a3 => k_is); (case l3 => k_is); (case e3 => k_is); (case p3 => k_is); (case a4 => k_is); (case l4 => k_is); (case e4 => k_is); (case p4 => k_is); (case a5 => k_is); (case l5 => k_is); (case e5 => k_is); (case p5 => k_is); (case a6 => k_is); (case l6 => k_is); (case e6 => k_is); (case p6 => k_is); (case a7 => k_is); (case l7 => k_is); (case e7 => k_is); (case p7 => k_is); (case a8 => k_is); (case l8 => k_is); (case e8 => k_is); (case p8 => k_is); (case a9 => k_is); (case l9 => k_is); (case e9 => k_is); (case p9 => k_is); (case a10 => k_is); (case l10 => k_is); (case e10 => k_is); (case p10 => k_is); (case a11 => k_is); (case l11 => k_is); (case e11 => k_is); (case p11 => k_is); (case a12 => k_is); (case l12 => k_is); (case e12 => k_is); (case p12 => k_is); (case a13 => k_is); (case l13 => k_is); (case e13 => k_is); (case p13 => k_is); (case a14 => k_is); (case l14 => k_is); (case e14 => k_is); (case p14 => k_is); (case a15 => k_is); (case l15 => k_is); (case e15 => k_is); (case p15 => k_is); (case a16 => k_is); (case l16 => k_is); (case e16 => k_is); (case p16 => k_is); (case a17 => k_is); (case l17 => k_is); (case e17 => k_is); (case p17 => k_is); (case a18 => k_is); (case l18 => k_is); (case e18 => k_is); (case p18 => k_is); (case a19 => k_is); (case l19 => k_is); (case e19 => k_is); (case p19 => k_is); (case a20 => k_is); (case l20 => k_is); (case e20 => k_is); (case p20 => k_is); (case a21 => k_is); (case l21 => k_is); (case e21 => k_is); (case p21 => k_is); (case a22 => k_is); (case l22 => k_is); (case e22 => k_is); (case p22 => k_is); (case a23 => k_is); (case l23 => k_is); (case e23 => k_is); (case p23 => k_is); (case a24 => k_is); (case l24 => k_is); (case e24 => k_is); (case p24 => k_is); (case a25 => k_is); (case l25 => k_is); (case e25 => k_is); (case p25 => k_is); (case a26 => k_is); (case l26 => k_is); (case e26 => k_is); (case p26 => k_is); (case a27 => k_is); (case l27 => k_is); (case e27 => k_is); (case p27 => k_is); (case a28 => k_is); (case l28 => k_is); (case e28 => k_is); (case p28 => k_is); (case a29 => k_is); (case l29 => k_is); (case e29 => k_is); (case p29 => k_is); (case a30 => k_is); (case l30 => k_is); (case e30 => k_is); (case p30 => k_is); (case a31 => k_is); (case l31 => k_is); (case e31 => k_is); (case p31 => k_is); (case a32 => k_is); (case l32 => k_is); (case e32 => k_is); (case p32 => k_is); (case a33 => k_is); (case l33 => k_is); (case e33 => k_is); (case p33 => k_is); (case a34 => k_is); (case l34 => k_is); (case e34 => k_is); (case p34 => k_is); (case a35 => k_is); (case l35 => k_is); (case e35 => k_is); (case p35 => k_is); (case a36 => k_is); (case l36 => k_is); (case e36 => k_is); (case p36 => k_is); (case a37 => k_is); (case l37 => k_is); (case e37 => k_is); (case p37 => k_is); (case a38 => k_is); (case l38 => k_is); (case e38 => k_is); (case p38 => k_is); (case a39 => k_is); (case l39 => k_is); (case e39 => k_is); (case p39 => k_is); (case z_enumerate => k_is); (case z_tuple => k_is); (case z_divmod => k_is); (case z_int => k_is); (case z_len => k_is); (case z_str => k_is); (case z_isinstance => k_is); (case z_list => k_is); (case z_range => k_is); (case z_max => k_is); (case z_bool => k_is); (case z_all => k_is); (case z_zip => k_is); (case z_any => k_is); (case z_sum => k_is); (case z_repr => k_is); (case z_abs => k_is))
end
