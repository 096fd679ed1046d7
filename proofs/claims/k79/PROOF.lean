import PyProof.Rows.All
import Wide.All
import OpenK.AllK
import Wide.FinOn
import HandS.ForMost
import HandS.ForExc
import HandS.Flow
import HandS.Wide
import HandS.WideBits
import HandS.TupAny
import HandS.Defaults
import HandS.ExcCtx
import HandS.StrMore
import HandS.Style
import HandS.Strs
import HandS.Flt
import HandS.RaiseMore
import HandS.Zip
import HandS.Property
import HandS.ExcIs
import HandS.ExcField
import HandS.ExcInit
import HandS.IsInst
import HandS.HeadHook2
import HandS.EndBits
import HandS.HeadEnd
import HandS.Head2
import HandS.Words
import HandS.MakeKw
import HandS.Text
import KE.IntTextText
import PySem.Challenge.RW_sureplace_k79_words
set_option Elab.async false
set_option linter.all false
set_option maxRecDepth 100000
/-! Z1: data as trees (D), a store of the things that change (Store), how the layer's heap bears them (Rep, RS), what an expression answers (Res), and how an answer is a reading (rd). -/
namespace Z
open PySem L2

/-- data: what never changes is a tree, what may change is named by its place in the store -/
inductive D where
  | non | bl (b : Bool) | int (i : Int) | str (x : Str) | ref (k : Nat)
  | tup (ds : List D) | lst (ds : List D) | seq (ds : List D) | obj (c : Nat) (ds : List D)
  | exn (a : Nat) (d : Option Nat) (c : Nat) (ds : List D)
/-- a thing that may change -/
inductive Cell where
  | lst (ds : List D) | obj (c : Nat) (ds : List D) | dct (kvs : List (Key × D))
abbrev Store := List (Option Cell)
abbrev Env := List (Option D)
/-- an exception of an own class: its class, its fields -/
structure Exn where
  c : Nat
  ds : List D
inductive Res (α : Type) where
  | ok (a : α) (S : Store) | ex (x : Exn) (S : Store) | no
def Res.bind {α β : Type} (r : Res α) (f : α → Store → Res β) : Res β := match r with
  | .ok a S => f a S
  | .ex x S => .ex x S
  | .no => .no
@[simp] theorem Res.bind_ok {α β : Type} (a : α) (S : Store) (f : α → Store → Res β) : (Res.ok a S).bind f = f a S := (rfl)
@[simp] theorem Res.bind_ex {α β : Type} (x : Exn) (S : Store) (f : α → Store → Res β) : (Res.ex x S : Res α).bind f = .ex x S := (rfl)
@[simp] theorem Res.bind_no {α β : Type} (f : α → Store → Res β) : (Res.no : Res α).bind f = .no := (rfl)

/-- the text's part: what the module holds, the classes' addresses, their fields in order -/
structure GC where
  P : Program
  w : World
  K : PySem.W.Frag
  mg : Str → Option Value
  base : Heap
  cad : Nat → Option Addr
  fld : Nat → List Str

mutual
inductive Rep (g : GC) (G : Hp) (m : List Addr) : V → D → Prop where
  | non : Rep g G m .non .non
  | bl (b : Bool) : Rep g G m (.bl b) (.bl b)
  | int (i : Int) : Rep g G m (.int i) (.int i)
  | str (x : Str) : Rep g G m (.str x) (.str x)
  | ref {k : Nat} {a : Addr} (h : m[k]? = some a) : Rep g G m (.ref a) (.ref k)
  | tup {a : Addr} {vs : List V} {ds : List D} (h : SqT g.K G a vs) (r : Reps g G m vs ds) : Rep g G m (.ref a) (.tup ds)
  | lst {a : Addr} {vs : List V} {ds : List D} (h : G a = some (.lst vs)) (r : Reps g G m vs ds) : Rep g G m (.ref a) (.lst ds)
  | seq {a : Addr} {vs : List V} {ds : List D} (h : SqL g.K G a vs) (r : Reps g G m vs ds) : Rep g G m (.ref a) (.seq ds)
  | obj {a C dx : Addr} {c : Nat} {vs : List V} {ds : List D} (hc : g.cad c = some C) (h : G a = some (.ins C dx ((g.fld c).zip vs))) (hl : vs.length = (g.fld c).length) (r : Reps g G m vs ds) : Rep g G m (.ref a) (.obj c ds)
  | exn0 {a : Addr} {c : Nat} : Rep g G m (.ref a) (.exn a none c [])
  | exn1 {a dx : Addr} {c : Nat} {fs : List (Str × V)} {vs : List V} {ds : List D} (h : G dx = some (.xd fs)) (hl : ds.length = (g.fld c).length) (hf : ∀ (i : Nat) f v, (g.fld c)[i]? = some f → vs[i]? = some v → fs.lookup f = some v) (r : Reps g G m vs ds) : Rep g G m (.ref a) (.exn a (some dx) c ds)
inductive Reps (g : GC) (G : Hp) (m : List Addr) : List V → List D → Prop where
  | nil : Reps g G m [] []
  | cons {v : V} {d : D} {vs : List V} {ds : List D} (r : Rep g G m v d) (s : Reps g G m vs ds) : Reps g G m (v :: vs) (d :: ds)
end

theorem sqT_same {K : PySem.W.Frag} {G G' : Hp} {a : Addr} {xs : List V} (e : Same G G') (h : SqT K G a xs) : SqT K G' a xs := by
  rcases h with (h | ⟨o, h⟩) | h
  · exact .inl (.inl (e _ _ h))
  · exact .inl (.inr ⟨o, e _ _ h⟩)
  · exact .inr h
theorem get_pre {α : Type} {m m' : List α} (h : m <+: m') {k : Nat} {a : α} (e : m[k]? = some a) : m'[k]? = some a := by
  obtain ⟨t, rfl⟩ := h
  have hk := (List.getElem?_eq_some_iff.mp e).1
  rw [List.getElem?_append_left hk]
  exact e
mutual
theorem Rep.mono {g : GC} {G G' : Hp} {m m' : List Addr} (e : Same G G') (p : m <+: m') : ∀ {v : V} {d : D}, Rep g G m v d → Rep g G' m' v d
  | _, _, .non => .non
  | _, _, .bl b => .bl b
  | _, _, .int i => .int i
  | _, _, .str x => .str x
  | _, _, .ref h => .ref (get_pre p h)
  | _, _, .tup h r => .tup (sqT_same e h) (Reps.mono e p r)
  | _, _, .lst h r => .lst (e _ _ h) (Reps.mono e p r)
  | _, _, .seq h r => .seq (e.seq h) (Reps.mono e p r)
  | _, _, .obj hc h hl r => .obj hc (e _ _ h) hl (Reps.mono e p r)
  | _, _, .exn0 => .exn0
  | _, _, .exn1 h hl hf r => .exn1 (e _ _ h) hl hf (Reps.mono e p r)
theorem Reps.mono {g : GC} {G G' : Hp} {m m' : List Addr} (e : Same G G') (p : m <+: m') : ∀ {vs : List V} {ds : List D}, Reps g G m vs ds → Reps g G' m' vs ds
  | _, _, .nil => .nil
  | _, _, .cons r s => .cons (r.mono e p) (Reps.mono e p s)
end
section
variable {g : GC} {G G' H H' : Hp} {m m' : List Addr}
theorem Reps.length : ∀ {vs : List V} {ds : List D}, Reps g G m vs ds → vs.length = ds.length
  | _, _, .nil => rfl
  | _, _, .cons _ s => congrArg Nat.succ s.length
theorem Reps.get : ∀ {vs : List V} {ds : List D} {i : Nat} {d : D}, Reps g G m vs ds → ds[i]? = some d → ∃ v, vs[i]? = some v ∧ Rep g G m v d
  | _, _, _, _, .nil, e => by simp at e
  | _, _, 0, _, .cons r _, e => by
    simp at e
    subst e
    exact ⟨_, rfl, r⟩
  | _, _, i + 1, _, .cons _ s, e => by
    obtain ⟨v, h1, h2⟩ := Reps.get (i := i) s (by simpa using e)
    exact ⟨v, by simpa using h1, h2⟩
theorem Reps.append : ∀ {vs ws : List V} {ds es : List D}, Reps g G m vs ds → Reps g G m ws es → Reps g G m (vs ++ ws) (ds ++ es)
  | _, _, _, _, .nil, s => s
  | _, _, _, _, .cons r t, s => .cons r (t.append s)
theorem Reps.take : ∀ {vs : List V} {ds : List D} (n : Nat), Reps g G m vs ds → Reps g G m (vs.take n) (ds.take n)
  | _, _, 0, _ => .nil
  | _, _, _ + 1, .nil => .nil
  | _, _, n + 1, .cons r t => .cons r (t.take n)
theorem Reps.drop : ∀ {vs : List V} {ds : List D} (n : Nat), Reps g G m vs ds → Reps g G m (vs.drop n) (ds.drop n)
  | _, _, 0, r => r
  | _, _, _ + 1, .nil => .nil
  | _, _, n + 1, .cons _ t => t.drop n
theorem Reps.set : ∀ {vs : List V} {ds : List D} (n : Nat) {v : V} {d : D}, Reps g G m vs ds → Rep g G m v d → Reps g G m (vs.set n v) (ds.set n d)
  | _, _, _, _, _, .nil, _ => .nil
  | _, _, 0, _, _, .cons _ t, q => .cons q t
  | _, _, n + 1, _, _, .cons r t, q => .cons r (t.set n q)
theorem Reps.one {v : V} {d : D} (r : Rep g G m v d) : Reps g G m [v] [d] := .cons r .nil

/-! ### the store -/
theorem nodup_at {α : Type} : ∀ {l : List α} {i j : Nat} {x : α}, l.Nodup → l[i]? = some x → l[j]? = some x → i = j
  | [], _, _, _, _, h, _ => by simp at h
  | y :: l, 0, 0, _, _, _, _ => rfl
  | y :: l, 0, j + 1, x, n, h, k => by
    have e : y = x := by simpa using h
    subst e
    exact absurd (List.mem_of_getElem? (by simpa using k)) (List.nodup_cons.mp n).1
  | y :: l, i + 1, 0, x, n, h, k => by
    have e : y = x := by simpa using k
    subst e
    exact absurd (List.mem_of_getElem? (by simpa using h)) (List.nodup_cons.mp n).1
  | y :: l, i + 1, j + 1, x, n, h, k => congrArg Nat.succ (nodup_at (List.nodup_cons.mp n).2 (by simpa using h) (by simpa using k))
def Knv (g : GC) (G : Hp) (m : List Addr) (p : Key × V) (q : Key × D) : Prop := p.1 = q.1 ∧ Rep g G m p.2 q.2
/-- the cell c stands at a -/
def CellOk (g : GC) (G : Hp) (m : List Addr) (H : Hp) (a : Addr) : Cell → Prop
  | .lst ds => ∃ vs, H a = some (.lst vs) ∧ Reps g G m vs ds
  | .obj c ds => ∃ C dx vs, g.cad c = some C ∧ H a = some (.ins C dx ((g.fld c).zip vs)) ∧ ds.length ≤ (g.fld c).length ∧ Reps g G m vs ds
  | .dct kvs => ∃ vs, H a = some (.dK vs) ∧ Paired (Knv g G m) vs kvs
theorem CellOk.mono {a : Addr} {c : Cell} (x : CellOk g G m H a c) (e : Same G G') (p : m <+: m') (h : H' a = H a) : CellOk g G' m' H' a c := by
  cases c with
  | lst ds =>
    obtain ⟨vs, h1, h2⟩ := x
    exact ⟨vs, h.trans h1, h2.mono e p⟩
  | obj c ds =>
    obtain ⟨C, dx, vs, h0, h1, h2, h3⟩ := x
    exact ⟨C, dx, vs, h0, h.trans h1, h2, h3.mono e p⟩
  | dct kvs =>
    obtain ⟨vs, h1, h2⟩ := x
    exact ⟨vs, h.trans h1, Paired.mapP h2 fun _ _ z => ⟨z.1, z.2.mono e p⟩⟩
/-- the heap H: the part G that stays, and the store's cells at the addresses m -/
structure RS (g : GC) (G : Hp) (m : List Addr) (S : Store) (H : Hp) : Prop where
  sub : Same G H
  len : m.length = S.length
  nd : m.Nodup
  known : ∀ a ∈ m, H a ≠ none
  cell : ∀ (k : Nat) (c : Cell) (a : Addr), S[k]? = some (some c) → m[k]? = some a → G a = none ∧ CellOk g G m H a c
theorem RS.free {S : Store} (r : RS g G m S H) {p : Addr} (h : H p = none) : G p = none := by
  cases e : G p with
  | none => rfl
  | some o =>
    rw [r.sub _ _ e] at h
    cases h
theorem RS.nm {S : Store} (r : RS g G m S H) {p : Addr} (h : H p = none) : p ∉ m := fun q => r.known p q h
theorem same_upd {p : Addr} {o : HO} (h : G p = none) : Same G (upd G p o) := fun b u e => by
  rw [upd_ne (ne_of_none e h)]
  exact e
/-- a new thing that stays -/
theorem RS.new {S : Store} (r : RS g G m S H) {p : Addr} {o : HO} (h : H p = none) : RS g (upd G p o) m S (upd H p o) := by
  refine ⟨fun b u e => ?_, r.len, r.nd, fun a ha => ?_, fun k c a h1 h2 => ?_⟩
  · by_cases hb : b = p
    · subst hb
      rw [upd_same] at e ⊢
      exact e
    · rw [upd_ne hb] at e ⊢
      exact r.sub _ _ e
  · by_cases hb : a = p
    · subst hb
      rw [upd_same]
      intro z
      cases z
    · rw [upd_ne hb]
      exact r.known a ha
  · have na : a ≠ p := fun q => r.nm h (q ▸ List.mem_of_getElem? h2)
    obtain ⟨x1, x2⟩ := r.cell k c a h1 h2
    exact ⟨by rw [upd_ne na]; exact x1, x2.mono (same_upd (r.free h)) (List.prefix_refl _) (upd_ne na)⟩
/-- a thing that does not matter -/
theorem RS.junk {S : Store} (r : RS g G m S H) {p : Addr} {o : HO} (h : H p = none) : RS g G m S (upd H p o) := by
  refine ⟨fun b u e => ?_, r.len, r.nd, fun a ha => ?_, fun k c a h1 h2 => ?_⟩
  · have z := r.sub _ _ e
    rw [upd_ne (ne_of_none z h)]
    exact z
  · have na : a ≠ p := fun q => r.nm h (q ▸ ha)
    rw [upd_ne na]
    exact r.known a ha
  · have na : a ≠ p := fun q => r.nm h (q ▸ List.mem_of_getElem? h2)
    obtain ⟨x1, x2⟩ := r.cell k c a h1 h2
    exact ⟨x1, x2.mono (Same.refl _) (List.prefix_refl _) (upd_ne na)⟩
/-- a new cell -/
theorem RS.push {S : Store} (r : RS g G m S H) {p : Addr} {o : HO} {c : Cell} (h : H p = none) (q : CellOk g G m (upd H p o) p c) : RS g G (m ++ [p]) (S ++ [some c]) (upd H p o) := by
  refine ⟨fun b u e => ?_, by simp [r.len], ?_, fun a ha => ?_, fun k c' a h1 h2 => ?_⟩
  · have z := r.sub _ _ e
    rw [upd_ne (ne_of_none z h)]
    exact z
  · rw [List.nodup_append]
    refine ⟨r.nd, by simp, fun a ha b hb e => ?_⟩
    rw [List.mem_singleton] at hb
    subst hb
    subst e
    exact r.nm h ha
  · rcases List.mem_append.mp ha with ha | ha
    · have na : a ≠ p := fun q => r.nm h (q ▸ ha)
      rw [upd_ne na]
      exact r.known a ha
    · rw [List.mem_singleton] at ha
      subst ha
      rw [upd_same]
      intro z
      cases z
  · by_cases hk : k < S.length
    · rw [List.getElem?_append_left hk] at h1
      rw [List.getElem?_append_left (by rw [r.len]; exact hk)] at h2
      have na : a ≠ p := fun q => r.nm h (q ▸ List.mem_of_getElem? h2)
      obtain ⟨x1, x2⟩ := r.cell k c' a h1 h2
      exact ⟨x1, x2.mono (Same.refl _) (List.prefix_append _ _) (upd_ne na)⟩
    · have ek : k = S.length := by
        have z := (List.getElem?_eq_some_iff.mp h1).1
        rw [List.length_append, List.length_singleton] at z
        omega
      subst ek
      rw [List.getElem?_append_right (Nat.le_refl _), Nat.sub_self] at h1
      rw [← r.len, List.getElem?_append_right (Nat.le_refl _), Nat.sub_self] at h2
      have e1 : c = c' := by simpa using h1
      have e2 : p = a := by simpa using h2
      subst e1 e2
      exact ⟨r.free h, q.mono (Same.refl _) (List.prefix_append _ _) rfl⟩
/-- a cell is changed -/
theorem RS.put {S : Store} (r : RS g G m S H) {k : Nat} {a : Addr} {o : HO} {c c' : Cell} (h1 : S[k]? = some (some c)) (h2 : m[k]? = some a) (q : CellOk g G m (upd H a o) a c') : RS g G m (S.set k (some c')) (upd H a o) := by
  have hG := (r.cell k c a h1 h2).1
  refine ⟨fun b u e => ?_, by simp [r.len], r.nd, fun b hb => ?_, fun j d b j1 j2 => ?_⟩
  · rw [upd_ne (ne_of_none e hG)]
    exact r.sub _ _ e
  · by_cases e : b = a
    · subst e
      rw [upd_same]
      intro z
      cases z
    · rw [upd_ne e]
      exact r.known b hb
  · by_cases e : j = k
    · subst e
      rw [h2] at j2
      cases j2
      rw [List.getElem?_set_self (List.getElem?_eq_some_iff.mp h1).1] at j1
      cases j1
      exact ⟨hG, q⟩
    · rw [List.getElem?_set_ne (Ne.symm e)] at j1
      have nb : b ≠ a := by
        intro z
        subst z
        exact e (nodup_at r.nd j2 h2)
      obtain ⟨x1, x2⟩ := r.cell j d b j1 j2
      exact ⟨x1, x2.mono (Same.refl _) (List.prefix_refl _) (upd_ne nb)⟩
theorem RS.at {S : Store} (r : RS g G m S H) {k : Nat} {c : Cell} (h : S[k]? = some (some c)) : ∃ a, m[k]? = some a ∧ G a = none ∧ CellOk g G m H a c := by
  have hk := (List.getElem?_eq_some_iff.mp h).1
  rw [← r.len] at hk
  exact ⟨m[k], by simp [hk], r.cell k c _ h (by simp [hk])⟩
/-- a cell is given up -/
theorem RS.kill {S : Store} (r : RS g G m S H) (k : Nat) : RS g G m (S.set k none) H := by
  refine ⟨r.sub, by simp [r.len], r.nd, r.known, fun j d b j1 j2 => ?_⟩
  by_cases e : j = k
  · subst e
    by_cases hj : j < S.length
    · rw [List.getElem?_set_self hj] at j1
      cases j1
    · rw [List.getElem?_eq_none (by simpa using hj)] at j1
      cases j1
  · rw [List.getElem?_set_ne (Ne.symm e)] at j1
    exact r.cell j d b j1 j2
/-- a cell stays as it is from now on -/
theorem RS.freeze {S : Store} (r : RS g G m S H) {k : Nat} {a : Addr} {o : HO} (h2 : m[k]? = some a) (ho : H a = some o) (hG : G a = none) : RS g (upd G a o) m (S.set k none) H := by
  refine ⟨fun b u e => ?_, by simp [r.len], r.nd, r.known, fun j d b j1 j2 => ?_⟩
  · by_cases hb : b = a
    · subst hb
      rw [upd_same] at e
      cases e
      exact ho
    · rw [upd_ne hb] at e
      exact r.sub _ _ e
  · by_cases e : j = k
    · subst e
      by_cases hj : j < S.length
      · rw [List.getElem?_set_self hj] at j1
        cases j1
      · rw [List.getElem?_eq_none (by simpa using hj)] at j1
        cases j1
    · rw [List.getElem?_set_ne (Ne.symm e)] at j1
      have nb : b ≠ a := by
        intro z
        subst z
        exact e (nodup_at r.nd j2 h2)
      obtain ⟨x1, x2⟩ := r.cell j d b j1 j2
      exact ⟨by rw [upd_ne nb]; exact x1, x2.mono (same_upd hG) (List.prefix_refl _) rfl⟩
/-- the cells behind n are forgotten -/
theorem RS.cut {S : Store} (r : RS g G m S H) (n : Nat) (hn : n ≤ S.length) (hc : ∀ (k : Nat) (c : Cell) (a : Addr), k < n → S[k]? = some (some c) → m[k]? = some a → CellOk g G (m.take n) H a c) : RS g G (m.take n) (S.take n) H := by
  refine ⟨r.sub, by simp [r.len], r.nd.sublist (List.take_sublist _ _), fun a ha => r.known a (List.mem_of_mem_take ha), fun k c a h1 h2 => ?_⟩
  by_cases hk : k < n
  · rw [List.getElem?_take_of_lt hk] at h1 h2
    exact ⟨(r.cell k c a h1 h2).1, hc k c a hk h1 h2⟩
  · rw [List.getElem?_eq_none (by rw [List.length_take]; omega)] at h1
    cases h1
end

/-! ### the names' values -/
def RE (g : GC) (G : Hp) (m : List Addr) (ρ : Env) (σ : St) : Prop := ρ.length = σ.length ∧ ∀ (i : Nat) (d : D), ρ[i]? = some (some d) → ∃ v, σ[i]? = some (some v) ∧ Rep g G m v d
section
variable {g : GC} {G G' H H' : Hp} {m m' : List Addr} {ρ : Env} {σ : St}
theorem RE.mono (r : RE g G m ρ σ) (e : Same G G') (p : m <+: m') : RE g G' m' ρ σ := ⟨r.1, fun i d h => by
  obtain ⟨v, h1, h2⟩ := r.2 i d h
  exact ⟨v, h1, h2.mono e p⟩⟩
theorem RE.set (r : RE g G m ρ σ) (i : Nat) {v : V} {d : D} (h : Rep g G m v d) : RE g G m (ρ.set i (some d)) (σ.set i (some v)) := ⟨by simp [r.1], fun j e hj => by
  by_cases q : j = i
  · subst q
    have hl : j < ρ.length := by
      have z := (List.getElem?_eq_some_iff.mp hj).1
      simpa using z
    rw [List.getElem?_set_self hl] at hj
    cases hj
    exact ⟨v, List.getElem?_set_self (by rw [← r.1]; exact hl), h⟩
  · rw [List.getElem?_set_ne (Ne.symm q)] at hj
    obtain ⟨w, h1, h2⟩ := r.2 j e hj
    exact ⟨w, by rw [List.getElem?_set_ne (Ne.symm q)]; exact h1, h2⟩⟩
/-- names forgotten -/
theorem RE.less (r : RE g G m ρ σ) {ρ' : Env} (hl : ρ'.length = ρ.length) (h : ∀ (i : Nat) (d : D), ρ'[i]? = some (some d) → ρ[i]? = some (some d)) : RE g G m ρ' σ := ⟨hl.trans r.1, fun i d e => r.2 i d (h i d e)⟩
/-- a slot that ρ does not tell may be anything -/
theorem RE.any (r : RE g G m ρ σ) {σ' : St} (hl : σ'.length = σ.length) (h : ∀ (i : Nat) (d : D), ρ[i]? = some (some d) → σ'[i]? = σ[i]?) : RE g G m ρ σ' := ⟨r.1.trans hl.symm, fun i d e => by
  obtain ⟨v, h1, h2⟩ := r.2 i d e
  exact ⟨v, (h i d e).trans h1, h2⟩⟩
end

/-! ### exceptions -/
def RepX (g : GC) (G : Hp) (m : List Addr) (cls : Value) (dx : Option Addr) (x : Exn) : Prop :=
  ∃ C, g.cad x.c = some C ∧ cls = .ref C ∧ ∀ a, Rep g G m (.ref a) (.exn a dx x.c x.ds)

/-! ### how a state goes on -/
/-- what stays, what is told, and what is neither but stands in the heap: it is kept -/
structure Ev (G : Hp) (m : List Addr) (H : Hp) (G' : Hp) (m' : List Addr) (H' : Hp) : Prop where
  sub : Same G G'
  pre : m <+: m'
  keep : ∀ a o, H a = some o → G a = none → a ∉ m → H' a = some o ∧ G' a = none ∧ a ∉ m'
theorem Ev.refl {G : Hp} {m : List Addr} {H : Hp} : Ev G m H G m H := ⟨Same.refl _, List.prefix_refl _, fun _ _ h a b => ⟨h, a, b⟩⟩
theorem Ev.trans {G G1 G2 H H1 H2 : Hp} {m m1 m2 : List Addr} (a : Ev G m H G1 m1 H1) (b : Ev G1 m1 H1 G2 m2 H2) : Ev G m H G2 m2 H2 := ⟨a.sub.trans b.sub, a.pre.trans b.pre, fun x o h h1 h2 => by
  obtain ⟨k1, k2, k3⟩ := a.keep x o h h1 h2
  exact b.keep x o k1 k2 k3⟩
/-- something new that stays -/
theorem Ev.new {G H : Hp} {m : List Addr} {l : Addr} {o : HO} (h : H l = none) (hG : G l = none) : Ev G m H (upd G l o) m (upd H l o) := ⟨same_upd hG, List.prefix_refl _, fun x u hx h1 h2 => by
  have ne := ne_of_none hx h
  exact ⟨by rw [upd_ne ne]; exact hx, by rw [upd_ne ne]; exact h1, h2⟩⟩
/-- something new that is told by a cell -/
theorem Ev.push {G H : Hp} {m : List Addr} {l : Addr} {o : HO} (h : H l = none) : Ev G m H G (m ++ [l]) (upd H l o) := ⟨Same.refl _, List.prefix_append _ _, fun x u hx h1 h2 => by
  have ne := ne_of_none hx h
  refine ⟨by rw [upd_ne ne]; exact hx, h1, fun z => ?_⟩
  rcases List.mem_append.mp z with z | z
  · exact h2 z
  · rw [List.mem_singleton] at z
    exact ne z⟩
/-- something new that does not matter -/
theorem Ev.junk {G H : Hp} {m : List Addr} {l : Addr} {o : HO} (h : H l = none) : Ev G m H G m (upd H l o) := ⟨Same.refl _, List.prefix_refl _, fun x u hx h1 h2 => by
  have ne := ne_of_none hx h
  exact ⟨by rw [upd_ne ne]; exact hx, h1, h2⟩⟩
/-- a cell is changed -/
theorem Ev.put {G H : Hp} {m : List Addr} {k : Nat} {l : Addr} {o : HO} (h : m[k]? = some l) : Ev G m H G m (upd H l o) := ⟨Same.refl _, List.prefix_refl _, fun x u hx h1 h2 => by
  have ne : x ≠ l := fun z => h2 (z ▸ List.mem_of_getElem? h)
  exact ⟨by rw [upd_ne ne]; exact hx, h1, h2⟩⟩
/-- a cell stays from now on -/
theorem Ev.freeze {G H : Hp} {m : List Addr} {k : Nat} {l : Addr} {o : HO} (h : m[k]? = some l) (hG : G l = none) : Ev G m H (upd G l o) m H := ⟨same_upd hG, List.prefix_refl _, fun x u hx h1 h2 => by
  have ne : x ≠ l := fun z => h2 (z ▸ List.mem_of_getElem? h)
  exact ⟨hx, by rw [upd_ne ne]; exact h1, h2⟩⟩

/-! ### an answer as a reading -/
section
variable {U α β : Type}
def Po (g : GC) (rel : Hp → List Addr → U → α → Prop) (W : WX) (G : Hp) (m : List Addr) (H : Hp) (σ : St) (Q : U → Hp → Prop) : Res α → Prop
  | .ok a S => ∀ G' m' H' u, Ev G m H G' m' H' → RS g G' m' S H' → rel G' m' u a → Q u H'
  | .ex x S => ∀ G' m' H' cls dx, Ev G m H G' m' H' → RS g G' m' S H' → RepX g G' m' cls dx x → W cls dx σ H'
  | .no => False
/-- in a state that bears more (X) -/
def rdX (g : GC) (X : Hp → List Addr → Prop) (rel : Hp → List Addr → U → α → Prop) (W : WX) (f : Env → Store → Res α) (σ : St) (H : Hp) (Q : U → Hp → Prop) : Prop :=
  ∃ G m ρ S, RS g G m S H ∧ RE g G m ρ σ ∧ X G m ∧ Po g rel W G m H σ Q (f ρ S)
abbrev rd (g : GC) (rel : Hp → List Addr → U → α → Prop) (W : WX) (f : Env → Store → Res α) : St → Hp → (U → Hp → Prop) → Prop := rdX g (fun _ _ => True) rel W f
def MonX (X : Hp → List Addr → Prop) : Prop := ∀ G G' m m', Same G G' → m <+: m' → X G m → X G' m'
theorem Po.imp {g : GC} {rel : Hp → List Addr → U → α → Prop} {W : WX} {G : Hp} {m : List Addr} {H : Hp} {σ : St} {Q Q' : U → Hp → Prop} {r : Res α} (h : ∀ u H, Q u H → Q' u H) (p : Po g rel W G m H σ Q r) : Po g rel W G m H σ Q' r := by
  cases r with
  | ok a S => exact fun G' m' H' u e s t => h _ _ (p G' m' H' u e s t)
  | ex x S => exact p
  | no => exact p
theorem rdX.imp {g : GC} {X : Hp → List Addr → Prop} {rel : Hp → List Addr → U → α → Prop} {W : WX} {f : Env → Store → Res α} {σ : St} {H : Hp} {Q Q' : U → Hp → Prop} (h : ∀ u H, Q u H → Q' u H) (p : rdX g X rel W f σ H Q) : rdX g X rel W f σ H Q' := by
  obtain ⟨G, m, ρ, S, a, b, c, d⟩ := p
  exact ⟨G, m, ρ, S, a, b, c, d.imp h⟩
theorem Po.up {g : GC} {rel : Hp → List Addr → U → α → Prop} {W : WX} {G G' H H' : Hp} {m m' : List Addr} {σ : St} {Q : U → Hp → Prop} {r : Res α} (e : Ev G m H G' m' H') (h : Po g rel W G m H σ Q r) : Po g rel W G' m' H' σ Q r := by
  cases r with
  | ok a S => exact fun G2 m2 H2 u e2 s t => h G2 m2 H2 u (e.trans e2) s t
  | ex x S => exact fun G2 m2 H2 u dx e2 s t => h G2 m2 H2 u dx (e.trans e2) s t
  | no => exact h
/-- one part, then the rest -/
theorem rdX_bind {g : GC} {X : Hp → List Addr → Prop} (mX : MonX X) {U' : Type} {relα : Hp → List Addr → U → α → Prop} {relβ : Hp → List Addr → U' → β → Prop} {W : WX} {f : Env → Store → Res α} {k : α → Env → Store → Res β} {σ : St} {H : Hp} {Q : U' → Hp → Prop}
    (h : rdX g X relβ W (fun ρ S => (f ρ S).bind fun a S1 => k a ρ S1) σ H Q) : rd g relα W f σ H (fun u H1 => ∃ a, rdX g (fun G m => X G m ∧ relα G m u a) relβ W (k a) σ H1 Q) := by
  obtain ⟨G, m, ρ, S, rs, re, x, p⟩ := h
  refine ⟨G, m, ρ, S, rs, re, True.intro, ?_⟩
  dsimp only at p
  cases e : f ρ S with
  | ok a S1 =>
    rw [e, Res.bind_ok] at p
    exact fun G' m' H' u e2 s t => ⟨a, G', m', ρ, S1, s, re.mono e2.sub e2.pre, ⟨mX _ _ _ _ e2.sub e2.pre x, t⟩, p.up e2⟩
  | ex y S1 =>
    rw [e, Res.bind_ex] at p
    exact p
  | no =>
    rw [e, Res.bind_no] at p
    exact p
theorem mon_true : MonX fun _ _ => True := fun _ _ _ _ _ _ _ => True.intro
theorem MonX.and {X Y : Hp → List Addr → Prop} (a : MonX X) (b : MonX Y) : MonX fun G m => X G m ∧ Y G m := fun _ _ _ _ e p h => ⟨a _ _ _ _ e p h.1, b _ _ _ _ e p h.2⟩
theorem mon_rep {g : GC} {v : V} {d : D} : MonX fun G m => Rep g G m v d := fun _ _ _ _ e p h => h.mono e p
theorem mon_reps {g : GC} {v : List V} {d : List D} : MonX fun G m => Reps g G m v d := fun _ _ _ _ e p h => h.mono e p
theorem mon_const {p : Prop} : MonX fun _ _ => p := fun _ _ _ _ _ _ h => h
end
/-- the kinds of relations: a value, a list of values, a truth value -/
abbrev EE := Env → Store → Res D
abbrev AA := Env → Store → Res (List D)
abbrev TT' := Env → Store → Res Bool
abbrev rdE (g : GC) (W : WX) (f : EE) : TE := rd g (Rep g) W f
abbrev rdA (g : GC) (W : WX) (f : AA) : TA := rd g (Reps g) W f
abbrev rdT (g : GC) (W : WX) (f : TT') : TT := rd g (fun _ _ u b => u = b) W f
theorem _root_.L2.PE.mono {X : Cx} {e : Expr} {t t' : TE} (h : PE X e t) (i : ∀ σ H Q, t' σ H Q → t σ H Q) : PE X e t' := ⟨fun pins s σ H Q I q => h.run pins s σ H Q I (i _ _ _ q)⟩
theorem _root_.L2.PT.mono {X : Cx} {e : Expr} {t t' : TT} (h : PT X e t) (i : ∀ σ H Q, t' σ H Q → t σ H Q) : PT X e t' := ⟨fun pins s σ H Q I q => h.run pins s σ H Q I (i _ _ _ q)⟩
theorem _root_.L2.PA.mono {X : Cx} {e : List Expr} {t t' : TA} (h : PA X e t) (i : ∀ σ H Q, t' σ H Q → t σ H Q) : PA X e t' := ⟨fun pos pins s σ H Q I q => h.run pos pins s σ H Q I (i _ _ _ q)⟩
theorem _root_.L2.PS.mono {X : Cx} {e : Stmt} {t t' : TS} (h : PS X e t) (i : ∀ D σ H, t' D σ H → t D σ H) : PS X e t' := ⟨fun pins s σ H Q I q => h.run pins s σ H Q I (i _ _ _ q)⟩
theorem _root_.L2.PSs.mono {X : Cx} {e : List Stmt} {t t' : TS} (h : PSs X e t) (i : ∀ D σ H, t' D σ H → t D σ H) : PSs X e t' := ⟨fun pins s σ H Q I q => h.run pins s σ H Q I (i _ _ _ q)⟩
end Z
set_option Elab.async false
set_option linter.all false
set_option maxRecDepth 100000
/-! Z2: the judgement: a piece of syntax answers as a function over data; names, constants, operators, tests, displays, subscripts. -/
namespace Z
open PySem L2

/-- the frame: the names' places, the scope, how many calls may lie within one another -/
structure Fm where
  N : List Str
  sc : Scope
  lvl : Nat
  cl : Str → Bool := fun _ => true
  hot : Bool := false
  exn : Option (Addr × Option Addr × Nat) := none
structure CxOk (g : GC) (F : Fm) (X : Cx) : Prop where
  P : X.prog = g.P
  w : X.w = g.w
  K : X.K = g.K
  mg : X.mg = g.mg
  base : X.base = g.base
  N : X.N = F.N
  sc : X.env.scope = F.sc
  nd : F.N.Nodup
  room : F.hot = false → Room F.lvl X.A
  calm : F.hot = false → X.calm = true
  un : X.A.units + 64 < cLine
  fn : ∀ x, F.cl x = true → X.fn x = true
  exn : ∀ a d c, F.exn = some (a, d, c) → ∃ oe C, (a, oe) ∈ X.pn ∧ g.cad c = some C ∧ Zc (.ref C) d oe ∧ ∃ vs, oe.data = .fields vs
def VE (g : GC) (F : Fm) (e : Expr) (f : EE) : Prop := ∀ (X : Cx) (W : WX), CxOk g F X → L2N.Takes X W → PE X e (rdE g W f)
def VA (g : GC) (F : Fm) (es : List Expr) (f : AA) : Prop := ∀ (X : Cx) (W : WX), CxOk g F X → L2N.Takes X W → PA X es (rdA g W f)
def VT (g : GC) (F : Fm) (e : Expr) (f : TT') : Prop := ∀ (X : Cx) (W : WX), CxOk g F X → L2N.Takes X W → PT X e (rdT g W f)

/-! ### from a pure step -/
section
variable {g : GC} {W : WX} {σ : St} {H : Hp} {Q : VK}
/-- the answer is there, nothing new -/
theorem rd_ok {X : Hp → List Addr → Prop} {U α : Type} {rel : Hp → List Addr → U → α → Prop} {f : PySem.Shared → Unit} {k : Env → Store → Res α} {Q : U → Hp → Prop} {a : α} {u : U} (h : rdX g X rel W k σ H Q)
    (hk : ∀ ρ S, k ρ S = .ok a S) (hr : ∀ G m, X G m → rel G m u a) : Q u H := by
  obtain ⟨G, m, ρ, S, rs, re, x, p⟩ := h
  rw [hk] at p
  exact p G m H u Ev.refl rs (hr _ _ x)
end

/-! ### names and constants -/
def eVar (i : Nat) : EE := fun ρ S => match ρ[i]? with
  | some (some d) => .ok d S
  | _ => .no
def eC (d : D) : EE := fun _ S => .ok d S
def visB (sc : Scope) (x : Str) : Bool := match sc.names.lookup x with
  | some .local => true
  | some .cell => true
  | some .free => true
  | _ => false
theorem vis_of {sc : Scope} {x : Str} (h : visB sc x = true) : Vis sc x := by
  unfold visB at h
  unfold Vis
  split at h <;> first | exact Or.inl (by assumption) | exact Or.inr (Or.inl (by assumption)) | exact Or.inr (Or.inr (by assumption)) | cases h
/-- a name of the frame's -/
def varB (F : Fm) (i : Nat) (x : Str) : Bool := decide (F.N[i]? = some x) && visB F.sc x && !(x == ("__debug__" : Str)) && !(x == ("__classdict__" : Str))
section
variable {g : GC} {F : Fm} {e a b c : Expr} {pos : Pos} {fa fb fc : EE}
theorem ve_var {i : Nat} {x : Str} (h : varB F i x = true) : VE g F (.Name x pos) (eVar i) := fun X W cx tk => by
  unfold varB at h
  simp only [Bool.and_eq_true, Bool.not_eq_true', decide_eq_true_eq] at h
  obtain ⟨⟨⟨h1, h2⟩, h3⟩, h4⟩ := h
  refine (pe_var (X := X) (i := i) (by rw [cx.N]; exact h1) (by rw [cx.sc]; exact vis_of h2) h3 h4).mono fun σ H Q q => ?_
  obtain ⟨G, m, ρ, S, rs, re, _, p⟩ := q
  unfold eVar at p
  split at p
  · rename_i d hd
    obtain ⟨v, h1, h2⟩ := re.2 i d hd
    exact ⟨v, h1, p G m H v Ev.refl rs h2⟩
  · exact p.elim
theorem rd_c {W : WX} {σ : St} {H : Hp} {Q : VK} {v : V} {d : D} (hr : ∀ G m, Rep g G m v d) (q : rdE g W (eC d) σ H Q) : Q v H := by
  obtain ⟨G, m, ρ, S, rs, re, _, p⟩ := q
  exact p G m H v Ev.refl rs (hr G m)
theorem ve_int {i : Int} {j : Nat} : VE g F (.Constant (.int i) j pos) (eC (.int i)) := fun X W cx tk => pe_int.mono fun σ H Q q => rd_c (fun _ _ => .int i) q
theorem ve_bl {i : Bool} {j : Nat} : VE g F (.Constant (.bool i) j pos) (eC (.bl i)) := fun X W cx tk => pe_bl.mono fun σ H Q q => rd_c (fun _ _ => .bl i) q
theorem ve_str {i : Str} {j : Nat} : VE g F (.Constant (.str i) j pos) (eC (.str i)) := fun X W cx tk => pe_str.mono fun σ H Q q => rd_c (fun _ _ => .str i) q
theorem ve_non {j : Nat} : VE g F (.Constant .none j pos) (eC .non) := fun X W cx tk => pe_non.mono fun σ H Q q => rd_c (fun _ _ => .non) q
/-- a global name of the frame's -/
def glB (F : Fm) (x : Str) : Bool := decide (F.sc.names.lookup x = some .globalImplicit) && !(x == ("__debug__" : Str)) && !(x == ("__name__" : Str))
theorem gl_of {X : Cx} {x : Str} (cx : CxOk g F X) (h : glB F x = true) : Gl X x ∧ (x == ("__debug__" : Str)) = false ∧ x ≠ "__name__" := by
  unfold glB at h
  simp only [Bool.and_eq_true, Bool.not_eq_true', decide_eq_true_eq] at h
  refine ⟨?_, h.1.2, fun z => ?_⟩
  · show X.env.scope.names.lookup x = _
    rw [cx.sc]
    exact h.1.1
  · rw [z] at h
    simp at h
/-- a constant of the module -/
def Con (g : GC) (x : Str) (d : D) : Prop := ∃ (u : Value) (v : V), g.mg x = some u ∧ RelV v u ∧ ∀ G m, Rep g G m v d
theorem ve_con {x : Str} {d : D} (h : glB F x = true) (k : Con g x d) : VE g F (.Name x pos) (eC d) := fun X W cx tk => by
  obtain ⟨u, v, h1, h2, h3⟩ := k
  obtain ⟨g1, g2, g3⟩ := gl_of cx h
  exact (pe_glob g1 (by rw [cx.mg]; exact h1) h2 g2).mono fun σ H Q q => rd_c h3 q

/-! ### operators -/
abbrev Op2 := D → D → Store → Res D
def eOp (o : Op2) (fa fb : EE) : EE := fun ρ S => (fa ρ S).bind fun x S1 => (fb ρ S1).bind fun y S2 => o x y S2
/-- an operator by values answers as o -/
def OpZ (g : GC) (r : R2) (o : Op2) : Prop := ∀ (W : WX) (σ : St) (H : Hp) (Q : VK) (G : Hp) (m : List Addr) (S : Store) (x y : V) (d e : D), RS g G m S H → Rep g G m x d → Rep g G m y e → Po g (Rep g) W G m H σ Q (o d e S) → r x y H Q
theorem rd_op {W : WX} {r : R2} {o : Op2} (h : OpZ g r o) {σ : St} {H : Hp} {Q : VK} (q : rdE g W (eOp o fa fb) σ H Q) : tOp r (rdE g W fa) (rdE g W fb) σ H Q := by
  have q1 := rdX_bind (relα := Rep g) mon_true q
  refine q1.imp fun u H1 q2 => ?_
  obtain ⟨d, q2⟩ := q2
  have q3 := rdX_bind (relα := Rep g) (mon_true.and mon_rep) q2
  refine q3.imp fun u2 H2 q4 => ?_
  obtain ⟨e, G, m, ρ, S, rs, re, x, p⟩ := q4
  exact h W σ H2 Q G m S u u2 d e rs x.1.2 x.2 p
/-- an operator of ints -/
def oI (f : Int → Int → Int) : Op2 := fun x y S => match x, y with
  | .int i, .int j => .ok (.int (f i j)) S
  | _, _ => .no
open Classical in
noncomputable def oIC (C : Int → Int → Prop) (f : Int → Int → Int) : Op2 := fun x y S => match x, y with
  | .int i, .int j => if C i j then .ok (.int (f i j)) S else .no
  | _, _ => .no
def oB (f : Int → Int → Bool) : Op2 := fun x y S => match x, y with
  | .int i, .int j => .ok (.bl (f i j)) S
  | _, _ => .no
theorem opz_I {f : Int → Int → Int} : OpZ g (rI0 fun i j => .int (f i j)) (oI f) := fun W σ H Q G m S x y d e rs rx ry p => by
  unfold oI at p
  split at p
  · cases rx
    cases ry
    exact ⟨_, _, rfl, rfl, p G m H _ Ev.refl rs (.int _)⟩
  · exact p.elim
theorem opz_IC {C : Int → Int → Prop} {f : Int → Int → Int} : OpZ g (rI C fun i j => .int (f i j)) (oIC C f) := fun W σ H Q G m S x y d e rs rx ry p => by
  unfold oIC at p
  split at p
  · cases rx
    cases ry
    split at p
    · rename_i hc
      exact ⟨_, _, rfl, rfl, hc, p G m H _ Ev.refl rs (.int _)⟩
    · exact p.elim
  · exact p.elim
theorem opz_B {f : Int → Int → Bool} : OpZ g (rI0 fun i j => .bl (f i j)) (oB f) := fun W σ H Q G m S x y d e rs rx ry p => by
  unfold oB at p
  split at p
  · cases rx
    cases ry
    exact ⟨_, _, rfl, rfl, p G m H _ Ev.refl rs (.bl _)⟩
  · exact p.elim
theorem ve_op {op : Operator} {r : R2} {o : Op2} (hr : ∀ X, CxOk g F X → OpR X (binaryOp op) r) (h : OpZ g r o) (ha : VE g F a fa) (hb : VE g F b fb) : VE g F (.BinOp a op b pos) (eOp o fa fb) := fun X W cx tk =>
  (pe_op (hr X cx) (ha X W cx tk) (hb X W cx tk)).mono fun σ H Q q => rd_op h q
noncomputable def oMul : Op2 := oIC CMulX fun i j => i * j
noncomputable def oDiv : Op2 := oIC CDivW fun i j => i / j
noncomputable def oMod : Op2 := oIC (fun _ j => 0 < j) fun i j => i % j
abbrev oSub : Op2 := oI fun i j => i - j
theorem ve_sub (ha : VE g F a fa) (hb : VE g F b fb) : VE g F (.BinOp a .Sub b pos) (eOp oSub fa fb) := ve_op (fun _ _ => op_sub) opz_I ha hb
theorem ve_mul (ha : VE g F a fa) (hb : VE g F b fb) : VE g F (.BinOp a .Mult b pos) (eOp oMul fa fb) := ve_op (fun _ _ => op_mulX) opz_IC ha hb
theorem ve_div (ha : VE g F a fa) (hb : VE g F b fb) : VE g F (.BinOp a .FloorDiv b pos) (eOp oDiv fa fb) := ve_op (fun _ _ => op_fdivW) opz_IC ha hb
theorem ve_mod (ha : VE g F a fa) (hb : VE g F b fb) : VE g F (.BinOp a .Mod b pos) (eOp oMod fa fb) := ve_op (fun _ _ => op_mod) opz_IC ha hb

/-- the list behind a value -/
def lstOf (S : Store) : D → Option (List D)
  | .lst ds => some ds
  | .ref k => match S[k]? with
    | some (some (.lst ds)) => some ds
    | _ => none
  | _ => none
theorem lst_at {G H : Hp} {m : List Addr} {S : Store} {v : V} {d : D} {ds : List D} (rs : RS g G m S H) (r : Rep g G m v d) (h : lstOf S d = some ds) : ∃ a vs, v = .ref a ∧ H a = some (.lst vs) ∧ Reps g G m vs ds := by
  unfold lstOf at h
  split at h
  · cases h
    cases r with
    | lst h1 h2 => exact ⟨_, _, rfl, rs.sub _ _ h1, h2⟩
  · rename_i k
    split at h
    · rename_i es he
      cases h
      cases r with
      | ref hk =>
        obtain ⟨_, vs, h1, h2⟩ := rs.cell _ _ _ he hk
        exact ⟨_, _, rfl, h1, h2⟩
    · cases h
  · cases h
/-- + of ints, texts, tuples, lists -/
def oAdd : Op2 := fun x y S => match x, y with
  | .int i, .int j => .ok (.int (i + j)) S
  | .str i, .str j => if i.length + j.length ≤ sizeLine then .ok (.str (i ++ j)) S else .no
  | .tup i, .tup j => if i.length + j.length ≤ sizeLine then .ok (.tup (i ++ j)) S else .no
  | x, y => match lstOf S x, lstOf S y with
    | some i, some j => if i.length + j.length ≤ sizeLine then .ok (.lst (i ++ j)) S else .no
    | _, _ => .no
theorem sqT_sub {G H : Hp} {a : Addr} {vs : List V} (e : Same G H) (h : SqT g.K G a vs) : SqT g.K H a vs := sqT_same e h
/-- a new tuple, a new list that stays -/
theorem new_tup {W : WX} {G H : Hp} {m : List Addr} {S : Store} {σ : St} {Q : VK} {vs : List V} {ds : List D} (rs : RS g G m S H) (r : Reps g G m vs ds) (p : Po g (Rep g) W G m H σ Q (.ok (.tup ds) S)) {l : Addr} (hl : H l = none) : Q (.ref l) (upd H l (.tup vs)) :=
  p _ m _ _ (.new hl (rs.free hl)) (rs.new hl) (.tup (.inl (.inl upd_same)) (r.mono (same_upd (rs.free hl)) (List.prefix_refl _)))
theorem new_lst {W : WX} {G H : Hp} {m : List Addr} {S : Store} {σ : St} {Q : VK} {vs : List V} {ds : List D} (rs : RS g G m S H) (r : Reps g G m vs ds) (p : Po g (Rep g) W G m H σ Q (.ok (.lst ds) S)) {l : Addr} (hl : H l = none) : Q (.ref l) (upd H l (.lst vs)) :=
  p _ m _ _ (.new hl (rs.free hl)) (rs.new hl) (.lst upd_same (r.mono (same_upd (rs.free hl)) (List.prefix_refl _)))
/-- a new list that may change -/
theorem new_cell {W : WX} {G H : Hp} {m : List Addr} {S : Store} {σ : St} {Q : VK} {vs : List V} {ds : List D} (rs : RS g G m S H) (r : Reps g G m vs ds) (p : Po g (Rep g) W G m H σ Q (.ok (.ref S.length) (S ++ [some (.lst ds)]))) {l : Addr} (hl : H l = none) : Q (.ref l) (upd H l (.lst vs)) :=
  p G (m ++ [l]) _ _ (.push hl) (rs.push hl ⟨vs, upd_same, r⟩) (.ref (by rw [← rs.len]; simp))
def rAddZ (K : PySem.W.Frag) : R2 := fun x y H Q => (rI0 (fun i j => .int (i + j)) x y H Q ∨ (∃ i j, x = .str i ∧ y = .str j ∧ i.length + j.length ≤ sizeLine ∧ Q (.str (i ++ j)) H)) ∨ (rCatA K x y H Q ∨ rCat x y H Q)
theorem op_addZ {X : Cx} : OpR X (binaryOp .Add) (rAddZ X.K) := (op_add.or op_add_str).or (op_catA.or op_cat)
theorem opz_add : OpZ g (rAddZ g.K) oAdd := fun W σ H Q G m S x y d e rs rx ry p => by
  unfold oAdd at p
  split at p
  · cases rx
    cases ry
    exact .inl (.inl ⟨_, _, rfl, rfl, p G m H _ Ev.refl rs (.int _)⟩)
  · cases rx
    cases ry
    split at p
    · rename_i hc
      exact .inl (.inr ⟨_, _, rfl, rfl, hc, p G m H _ Ev.refl rs (.str _)⟩)
    · exact p.elim
  · split at p
    · rename_i hc
      cases rx with
      | tup h1 r1 =>
        cases ry with
        | tup h2 r2 =>
          refine .inr (.inl ⟨_, _, _, _, rfl, rfl, sqT_sub rs.sub h1, sqT_sub rs.sub h2, by rw [r1.length, r2.length]; exact hc, fun z => ?_, fun _ z => ?_, fun _ _ l hl => ?_⟩)
          · subst z
            cases r1
            exact p G m H _ Ev.refl rs (.tup h2 r2)
          · subst z
            cases r2
            rw [List.append_nil] at p
            exact p G m H _ Ev.refl rs (.tup h1 r1)
          · exact new_tup rs (r1.append r2) p hl
    · exact p.elim
  · split at p
    · rename_i i j hi hj
      obtain ⟨a, vs, rfl, ha, r1⟩ := lst_at rs rx hi
      obtain ⟨b, ws, rfl, hb, r2⟩ := lst_at rs ry hj
      split at p
      · rename_i hc
        refine .inr (.inr ⟨a, b, vs, ws, rfl, rfl, ha, hb, by rw [r1.length, r2.length]; exact hc, fun l hl => ?_⟩)
        exact new_lst rs (r1.append r2) p hl
      · exact p.elim
    · exact p.elim
theorem ve_add (ha : VE g F a fa) (hb : VE g F b fb) : VE g F (.BinOp a .Add b pos) (eOp oAdd fa fb) := ve_op (r := rAddZ g.K) (fun X cx => by rw [← cx.K]; exact op_addZ) opz_add ha hb
/-- -x -/
def eNeg (fa : EE) : EE := fun ρ S => (fa ρ S).bind fun x S1 => match x with
  | .int i => .ok (.int (-i)) S1
  | _ => .no
theorem ve_neg (ha : VE g F a fa) : VE g F (.UnaryOp .USub a pos) (eNeg fa) := fun X W cx tk => (pe_un un_neg (ha X W cx tk)).mono fun σ H Q q => by
  have q1 := rdX_bind (relα := Rep g) mon_true q
  refine q1.imp fun u H1 q2 => ?_
  obtain ⟨d, G, m, ρ, S, rs, re, x, p⟩ := q2
  dsimp only at p
  split at p
  · have r := x.2
    cases r
    exact ⟨_, rfl, p G m H1 _ Ev.refl rs (.int _)⟩
  · exact p.elim
end
end Z
set_option Elab.async false
set_option linter.all false
set_option maxRecDepth 100000
/-! Z3: comparisons, tests, and, or, displays, subscripts, slices, calls of built-ins. -/
namespace Z
open PySem L2

section
variable {g : GC} {F : Fm} {e a b c : Expr} {es : List Expr} {pos : Pos} {fa fb fc : EE} {G H : Hp} {m : List Addr} {S : Store}

/-! ### equal data -/
/-- == of two scalars -/
def scD : D → D → Option Bool
  | .non, .non => some true
  | .int i, .int j => some (decide (i = j))
  | .bl i, .bl j => some (decide (i = j))
  | .str i, .str j => some (decide (i = j))
  | .non, .int _ => some false
  | .int _, .non => some false
  | .non, .bl _ => some false
  | .bl _, .non => some false
  | .non, .str _ => some false
  | .str _, .non => some false
  | .int _, .str _ => some false
  | .str _, .int _ => some false
  | .bl _, .str _ => some false
  | .str _, .bl _ => some false
  | _, _ => none
theorem sc_ok {x y : V} {d e : D} {k : Bool} (rx : Rep g G m x d) (ry : Rep g G m y e) (h : scD d e = some k) : scal x y = true ∧ decide (x = y) = k := by
  cases rx <;> cases ry <;> simp [scD] at h <;> simp [scal, ← h]
mutual
/-- data without own objects, as the model's data -/
def pyOf : D → Option PyData
  | .non => some .none
  | .bl b => some (.bool b)
  | .int i => some (.int i)
  | .str x => some (.str x)
  | .tup ds => (pyAll ds).map .tuple
  | .lst ds => (pyAll ds).map .list
  | .seq ds => (pyAll ds).map .list
  | _ => none
def pyAll : List D → Option (List PyData)
  | [] => some []
  | d :: ds => (pyOf d).bind fun p => (pyAll ds).map fun ps => p :: ps
end
mutual
theorem dp_of (s : Same G H) : ∀ (d : D) (p : PyData) (v : V), Rep g G m v d → pyOf d = some p → Dp g.K H v p
  | .non, _, _, r, h => by
    cases r
    simp [pyOf] at h
    subst h
    exact .non
  | .bl _, _, _, r, h => by
    cases r
    simp [pyOf] at h
    subst h
    exact .bl _
  | .int _, _, _, r, h => by
    cases r
    simp [pyOf] at h
    subst h
    exact .int _
  | .str _, _, _, r, h => by
    cases r
    simp [pyOf] at h
    subst h
    exact .str _
  | .tup ds, p, _, r, h => by
    cases r with
    | tup h1 r1 =>
      unfold pyOf at h
      cases e : pyAll ds with
      | none => simp [e] at h
      | some ps =>
        simp [e] at h
        subst h
        exact .tup (sqT_same s h1) (dpAll_of s ds ps _ r1 e)
  | .lst ds, p, _, r, h => by
    cases r with
    | lst h1 r1 =>
      unfold pyOf at h
      cases e : pyAll ds with
      | none => simp [e] at h
      | some ps =>
        simp [e] at h
        subst h
        exact .lst (SqL.of (s _ _ h1)) (dpAll_of s ds ps _ r1 e)
  | .seq ds, p, _, r, h => by
    cases r with
    | seq h1 r1 =>
      unfold pyOf at h
      cases e : pyAll ds with
      | none => simp [e] at h
      | some ps =>
        simp [e] at h
        subst h
        exact .lst (s.seq h1) (dpAll_of s ds ps _ r1 e)
  | .ref _, _, _, r, h => by simp [pyOf] at h
  | .obj _ _, _, _, r, h => by simp [pyOf] at h
theorem dpAll_of (s : Same G H) : ∀ (ds : List D) (ps : List PyData) (vs : List V), Reps g G m vs ds → pyAll ds = some ps → DpAll g.K H vs ps
  | [], _, _, r, h => by
    cases r
    simp [pyAll] at h
    subst h
    exact .nil
  | d :: ds, ps, _, r, h => by
    cases r with
    | cons r1 r2 =>
      unfold pyAll at h
      cases e : pyOf d with
      | none => simp [e] at h
      | some p =>
        cases e2 : pyAll ds with
        | none => simp [e, e2] at h
        | some qs =>
          simp [e, e2] at h
          subst h
          exact .cons (dp_of s d p _ r1 e) (dpAll_of s ds qs _ r2 e2)
end
/-- .. where the whole may be a list that changes -/
def pyTop (S : Store) : D → Option PyData
  | .ref k => match S[k]? with
    | some (some (.lst ds)) => (pyAll ds).map .list
    | _ => none
  | d => pyOf d
theorem dp_top {v : V} {d : D} {p : PyData} (rs : RS g G m S H) (r : Rep g G m v d) (h : pyTop S d = some p) : Dp g.K H v p := by
  unfold pyTop at h
  split at h
  · rename_i k
    split at h
    · rename_i ds hk
      cases r with
      | ref hm =>
        obtain ⟨_, vs, h1, h2⟩ := rs.cell _ _ _ hk hm
        cases e : pyAll ds with
        | none => simp [e] at h
        | some ps =>
          simp [e] at h
          subst h
          exact .lst (SqL.of h1) (dpAll_of rs.sub ds ps _ h2 e)
    · cases h
  · exact dp_of rs.sub _ _ _ r h
/-- == -/
def eqZ (S : Store) (x y : D) : Option Bool := match scD x y with
  | some b => some b
  | none => match pyTop S x, pyTop S y with
    | some p, some q => if SeqAt.shaped p = true ∧ SeqAt.shaped q = true then some (PyData.eqv p q) else none
    | _, _ => none
def oEq : Op2 := fun x y S => match eqZ S x y with
  | some b => .ok (.bl b) S
  | none => .no
def oNe : Op2 := fun x y S => match eqZ S x y with
  | some b => .ok (.bl (!b)) S
  | none => .no
theorem eqZ_ok {x y : V} {d e : D} {k : Bool} (rs : RS g G m S H) (rx : Rep g G m x d) (ry : Rep g G m y e) (h : eqZ S d e = some k) :
    (scal x y = true ∧ decide (x = y) = k) ∨ ∃ p q, Dp g.K H x p ∧ Dp g.K H y q ∧ SeqAt.shaped p = true ∧ SeqAt.shaped q = true ∧ PyData.eqv p q = k := by
  unfold eqZ at h
  split at h
  · rename_i b hb
    cases h
    exact .inl (sc_ok rx ry hb)
  · split at h
    · rename_i p q hp hq
      split at h
      · rename_i hs
        cases h
        exact .inr ⟨p, q, dp_top rs rx hp, dp_top rs ry hq, hs.1, hs.2, rfl⟩
      · cases h
    · cases h
theorem opz_eq : OpZ g (fun x y H Q => rEq x y H Q ∨ rEqD g.K x y H Q) oEq := fun W σ H Q G m S x y d e rs rx ry p => by
  unfold oEq at p
  split at p
  · rename_i k hk
    have q := p G m H _ Ev.refl rs (.bl _)
    rcases eqZ_ok rs rx ry hk with ⟨h1, h2⟩ | ⟨p1, p2, h1, h2, h3, h4, h5⟩
    · exact .inl ⟨h1, by rw [h2]; exact q⟩
    · exact .inr ⟨p1, p2, h1, h2, h3, h4, by rw [h5]; exact q⟩
  · exact p.elim
theorem opz_ne : OpZ g (fun x y H Q => rNe x y H Q ∨ rNeD g.K x y H Q) oNe := fun W σ H Q G m S x y d e rs rx ry p => by
  unfold oNe at p
  split at p
  · rename_i k hk
    have q := p G m H _ Ev.refl rs (.bl _)
    rcases eqZ_ok rs rx ry hk with ⟨h1, h2⟩ | ⟨p1, p2, h1, h2, h3, h4, h5⟩
    · exact .inl ⟨h1, by rw [h2]; exact q⟩
    · exact .inr ⟨p1, p2, h1, h2, h3, h4, by rw [h5]; exact q⟩
  · exact p.elim
/-- is None, is not None -/
def oIs : Op2 := fun x y S => match x, y with
  | .non, .non => .ok (.bl true) S
  | _, .non => .ok (.bl false) S
  | _, _ => .no
def oIsN : Op2 := fun x y S => match x, y with
  | .non, .non => .ok (.bl false) S
  | _, .non => .ok (.bl true) S
  | _, _ => .no
theorem rep_non {x : V} {d : D} (r : Rep g G m x d) : decide (x = .non) = (match d with | .non => true | _ => false) := by
  cases r <;> simp
theorem opz_is : OpZ g (fun x y H Q => y = .non ∧ Q (.bl (decide (x = .non))) H) oIs := fun W σ H Q G m S x y d e rs rx ry p => by
  unfold oIs at p
  have z := rep_non rx
  split at p
  · cases ry
    exact ⟨rfl, by rw [z]; exact p G m H _ Ev.refl rs (.bl _)⟩
  · cases ry
    rename_i hn
    refine ⟨rfl, ?_⟩
    rw [z]
    have q := p G m H _ Ev.refl rs (.bl _)
    cases d <;> first | exact q | exact (hn rfl).elim
  · exact p.elim
theorem opz_isN : OpZ g (fun x y H Q => y = .non ∧ Q (.bl (!decide (x = .non))) H) oIsN := fun W σ H Q G m S x y d e rs rx ry p => by
  unfold oIsN at p
  have z := rep_non rx
  split at p
  · cases ry
    exact ⟨rfl, by rw [z]; exact p G m H _ Ev.refl rs (.bl _)⟩
  · cases ry
    rename_i hn
    refine ⟨rfl, ?_⟩
    rw [z]
    have q := p G m H _ Ev.refl rs (.bl _)
    cases d <;> first | exact q | exact (hn rfl).elim
  · exact p.elim

/-! ### x in xs -/
def flatD : D → Bool
  | .non => true
  | .bl _ => true
  | .int _ => true
  | .str _ => true
  | _ => false
def eqF : D → D → Bool
  | .non, .non => true
  | .bl a, .bl b => a == b
  | .bl a, .int b => (if a then 1 else 0) == b
  | .int a, .bl b => a == (if b then 1 else 0)
  | .int a, .int b => a == b
  | .str a, .str b => a == b
  | _, _ => false
theorem flat_ok {x : V} {d : D} (r : Rep g G m x d) (h : flatD d = true) : flatV x = true := by
  cases r <;> first | rfl | cases h
theorem eqF_ok {x y : V} {d e : D} (rx : Rep g G m x d) (ry : Rep g G m y e) (h : flatD d = true) (h' : flatD e = true) : eqV x y = eqF d e := by
  cases rx <;> cases ry <;> first | rfl | cases h | cases h'
theorem flats_ok : ∀ {xs : List V} {ds : List D}, Reps g G m xs ds → ds.all flatD = true → xs.all flatV = true
  | _, _, .nil, _ => rfl
  | _, _, .cons r s, h => by
    rw [List.all_cons, Bool.and_eq_true] at h ⊢
    exact ⟨flat_ok r h.1, flats_ok s h.2⟩
theorem inF_ok {x : V} {d : D} (rx : Rep g G m x d) (h : flatD d = true) : ∀ {ys : List V} {es : List D}, Reps g G m ys es → es.all flatD = true → inV x ys = es.any fun e => eqF e d
  | _, _, .nil, _ => rfl
  | _, _, .cons r s, hs => by
    rw [List.all_cons, Bool.and_eq_true] at hs
    have ih := inF_ok rx h s hs.2
    unfold inV at ih ⊢
    rw [List.any_cons, List.any_cons, ih, eqF_ok r rx hs.1 h]
/-- the items behind a value: a tuple, a list -/
def seqOf (S : Store) : D → Option (List D)
  | .tup ds => some ds
  | .lst ds => some ds
  | .seq ds => some ds
  | .ref k => match S[k]? with
    | some (some (.lst ds)) => some ds
    | _ => none
  | _ => none
theorem seq_at {v : V} {d : D} {ds : List D} (rs : RS g G m S H) (r : Rep g G m v d) (h : seqOf S d = some ds) : ∃ a vs, v = .ref a ∧ (SqL g.K H a vs ∨ SqT g.K H a vs) ∧ Reps g G m vs ds := by
  unfold seqOf at h
  split at h
  · cases h
    cases r with
    | tup h1 h2 => exact ⟨_, _, rfl, .inr (sqT_same rs.sub h1), h2⟩
  · cases h
    cases r with
    | lst h1 h2 => exact ⟨_, _, rfl, .inl (SqL.of (rs.sub _ _ h1)), h2⟩
  · cases h
    cases r with
    | seq h1 h2 => exact ⟨_, _, rfl, .inl (rs.sub.seq h1), h2⟩
  · split at h
    · rename_i es he
      cases h
      cases r with
      | ref hk =>
        obtain ⟨_, vs, h1, h2⟩ := rs.cell _ _ _ he hk
        exact ⟨_, _, rfl, .inl (SqL.of h1), h2⟩
    · cases h
  · cases h
def inZ (S : Store) (x y : D) : Option Bool := match x, y with
  | .str ⟨⟨[c]⟩⟩, .str z => some (decide (c ∈ z.cps.toList))
  | x, y => match seqOf S y with
    | some es => if flatD x = true ∧ es.all flatD = true then some (es.any fun e => eqF e x) else none
    | none => none
def oIn : Op2 := fun x y S => match inZ S x y with
  | some b => .ok (.bl b) S
  | none => .no
def oNotIn : Op2 := fun x y S => match inZ S x y with
  | some b => .ok (.bl (!b)) S
  | none => .no
theorem inZ_ok {x y : V} {d e : D} {k : Bool} (rs : RS g G m S H) (rx : Rep g G m x d) (ry : Rep g G m y e) (h : inZ S d e = some k) :
    (∃ (c : Nat) (z : Str), x = .str ⟨#[c]⟩ ∧ y = .str z ∧ decide (c ∈ z.cps.toList) = k) ∨
    ∃ p xs, y = .ref p ∧ (SqL g.K H p xs ∨ SqT g.K H p xs) ∧ flatV x = true ∧ xs.all flatV = true ∧ inV x xs = k := by
  unfold inZ at h
  split at h
  · cases h
    cases rx
    cases ry
    exact .inl ⟨_, _, rfl, rfl, rfl⟩
  · split at h
    · rename_i es he
      split at h
      · rename_i hf
        cases h
        obtain ⟨p, xs, rfl, hq, r⟩ := seq_at rs ry he
        exact .inr ⟨p, xs, rfl, hq, flat_ok rx hf.1, flats_ok r hf.2, inF_ok rx hf.1 r hf.2⟩
      · cases h
    · cases h
theorem opz_in : OpZ g (fun x y H Q => (∃ (c : Nat) (z : Str), x = .str ⟨#[c]⟩ ∧ y = .str z ∧ Q (.bl (decide (c ∈ z.cps.toList))) H) ∨ rIn g.K false x y H Q) oIn := fun W σ H Q G m S x y d e rs rx ry p => by
  unfold oIn at p
  split at p
  · rename_i k hk
    have q := p G m H _ Ev.refl rs (.bl _)
    rcases inZ_ok rs rx ry hk with ⟨c, z, h1, h2, h3⟩ | ⟨p1, xs, h1, h2, h3, h4, h5⟩
    · exact .inl ⟨c, z, h1, h2, by rw [h3]; exact q⟩
    · exact .inr ⟨p1, xs, h1, h2, h3, h4, by rw [if_neg Bool.false_ne_true, h5]; exact q⟩
  · exact p.elim
theorem opz_notIn : OpZ g (fun x y H Q => (∃ (c : Nat) (z : Str), x = .str ⟨#[c]⟩ ∧ y = .str z ∧ Q (.bl (!decide (c ∈ z.cps.toList))) H) ∨ rIn g.K true x y H Q) oNotIn := fun W σ H Q G m S x y d e rs rx ry p => by
  unfold oNotIn at p
  split at p
  · rename_i k hk
    have q := p G m H _ Ev.refl rs (.bl _)
    rcases inZ_ok rs rx ry hk with ⟨c, z, h1, h2, h3⟩ | ⟨p1, xs, h1, h2, h3, h4, h5⟩
    · exact .inl ⟨c, z, h1, h2, by rw [h3]; exact q⟩
    · exact .inr ⟨p1, xs, h1, h2, h3, h4, by rw [if_pos rfl, h5]; exact q⟩
  · exact p.elim

/-! ### comparisons as values and as tests -/
/-- how an operator compares: its rule by values and its answer -/
structure Cmp (g : GC) (F : Fm) (op : CmpOp) (o : Op2) where
  r : R2
  ok : ∀ X, CxOk g F X → OpR X (compareOp op) r
  an : OpZ g r o
def cLt : Cmp g F .Lt (oB fun i j => decide (i < j)) := ⟨_, fun _ _ => op_lt, opz_B⟩
def cLe : Cmp g F .LtE (oB fun i j => decide (i ≤ j)) := ⟨_, fun _ _ => op_le, opz_B⟩
def cGt : Cmp g F .Gt (oB fun i j => decide (j < i)) := ⟨_, fun _ _ => op_gt, opz_B⟩
def cGe : Cmp g F .GtE (oB fun i j => decide (j ≤ i)) := ⟨_, fun _ _ => op_ge, opz_B⟩
def cEq : Cmp g F .Eq oEq := ⟨_, fun X cx => op_eq.or (by rw [← cx.K]; exact op_eqD cx.un), opz_eq⟩
def cNe : Cmp g F .NotEq oNe := ⟨_, fun X cx => op_ne.or (by rw [← cx.K]; exact op_neD cx.un), opz_ne⟩
def cIs : Cmp g F .Is oIs := ⟨_, fun _ _ => op_isN, opz_is⟩
def cIsN : Cmp g F .IsNot oIsN := ⟨_, fun _ _ => op_notN, opz_isN⟩
def cIn : Cmp g F .In oIn := ⟨_, fun X cx => op_in_sign.or (by rw [← cx.K]; exact op_in_seq), opz_in⟩
def cNotIn : Cmp g F .NotIn oNotIn := ⟨_, fun X cx => op_notIn_sign.or (by rw [← cx.K]; exact op_notIn_seq), opz_notIn⟩
theorem ve_cmp {op : CmpOp} {o : Op2} (h : Cmp g F op o) (ha : VE g F a fa) (hb : VE g F b fb) (hm : behindInMarks op b = false := by rfl) : VE g F (.Compare a [op] [b] pos) (eOp o fa fb) := fun X W cx tk =>
  (pe_cmpR (h.ok X cx) (ha X W cx tk) (hb X W cx tk) hm).mono fun σ H Q q => rd_op h.an q
/-- an answer as a test -/
def eT (f : EE) : TT' := fun ρ S => (f ρ S).bind fun d S1 => match d with
  | .bl b => .ok b S1
  | _ => .no
theorem rd_T {W : WX} {σ : St} {H : Hp} {Q : Bool → Hp → Prop} {f : EE} (q : rdT g W (eT f) σ H Q) : rdE g W f σ H fun x H' => ∃ k, x = .bl k ∧ Q k H' := by
  refine (rdX_bind (relα := Rep g) mon_true q).imp fun u H1 q2 => ?_
  obtain ⟨d, G, m, ρ, S, rs, re, x, p⟩ := q2
  dsimp only at p
  split at p
  · rename_i b
    have r := x.2
    cases r
    exact ⟨b, rfl, p G m H1 _ Ev.refl rs rfl⟩
  · exact p.elim
theorem vt_cmp {op : CmpOp} {o : Op2} (h : Cmp g F op o) (ha : VE g F a fa) (hb : VE g F b fb) (hm : behindInMarks op b = false := by rfl) : VT g F (.Compare a [op] [b] pos) (eT (eOp o fa fb)) := fun X W cx tk =>
  (pt_cmpR (h.ok X cx) (ha X W cx tk) (hb X W cx tk) hm).mono fun σ H Q q => rd_op h.an (rd_T q)
/-- any expression that gives True or False -/
theorem vt_val {f : EE} (h : VE g F e f) (he : ∀ (env : PySem.Env) (whole : Sem Value), isTrue e env whole = (do let v ← whole; standAt e.pos; holding [v] (truthy v)) := by intro _ _; rfl) : VT g F e (eT f) := fun X W cx tk =>
  (pt_val (h X W cx tk) (he _)).mono fun σ H Q q => rd_T q
/-- a < b < c -/
def eChain (o o' : Op2) (fa fb fc : EE) : EE := fun ρ S => (fa ρ S).bind fun x S1 => (fb ρ S1).bind fun y S2 => (o x y S2).bind fun z S3 => match z with
  | .bl true => (fc ρ S3).bind fun w S4 => o' y w S4
  | .bl false => .ok (.bl false) S3
  | _ => .no
theorem rd_chain {op op' : CmpOp} {o o' : Op2} (h : Cmp g F op o) (h' : Cmp g F op' o') {W : WX} {σ : St} {H : Hp} {Q : VK} (q : rdE g W (eChain o o' fa fb fc) σ H Q) : tChain h.r h'.r (rdE g W fa) (rdE g W fb) (rdE g W fc) σ H Q := by
  refine (rdX_bind (relα := Rep g) mon_true q).imp fun u H1 q2 => ?_
  obtain ⟨d, q2⟩ := q2
  refine (rdX_bind (relα := Rep g) (mon_true.and mon_rep) q2).imp fun u2 H2 q4 => ?_
  obtain ⟨e, G, m, ρ, S, rs, re, x, p⟩ := q4
  refine h.an W σ H2 _ G m S u u2 d e rs x.1.2 x.2 ?_
  dsimp only at p
  cases ho : o d e S with
  | ok z S3 =>
    rw [ho, Res.bind_ok] at p
    intro G3 m3 H3 u3 e3 s3 r3
    split at p
    · cases r3
      refine ⟨true, rfl, ?_⟩
      rw [if_pos rfl]
      have q5 : rdX g (fun G m => Rep g G m u2 e) (Rep g) W (fun ρ S => (fc ρ S).bind fun w S4 => o' e w S4) σ H3 Q := ⟨G3, m3, ρ, S3, s3, re.mono e3.sub e3.pre, x.2.mono e3.sub e3.pre, p.up e3⟩
      refine (rdX_bind (relα := Rep g) mon_rep q5).imp fun u6 H6 q6 => ?_
      obtain ⟨w, G6, m6, ρ6, S6, rs6, re6, x6, p6⟩ := q6
      exact h'.an W σ H6 Q G6 m6 S6 u2 u6 e w rs6 x6.1 x6.2 p6
    · cases r3
      refine ⟨false, rfl, ?_⟩
      rw [if_neg Bool.false_ne_true]
      exact p G3 m3 H3 _ e3 s3 (.bl _)
    · exact p.elim
  | ex y S3 =>
    rw [ho, Res.bind_ex] at p
    exact p
  | no =>
    rw [ho, Res.bind_no] at p
    exact p
theorem ve_chain {op op' : CmpOp} {o o' : Op2} (h : Cmp g F op o) (h' : Cmp g F op' o') (ha : VE g F a fa) (hb : VE g F b fb) (hc : VE g F c fc) (hm : lastMarks [op, op'] [b, c] = false := by with_unfolding_all rfl) :
    VE g F (.Compare a [op, op'] [b, c] pos) (eChain o o' fa fb fc) := fun X W cx tk =>
  (pe_chain (h.ok X cx) (h'.ok X cx) (ha X W cx tk) (hb X W cx tk) (hc X W cx tk) hm).mono fun σ H Q q => rd_chain h h' q
theorem vt_chain {op op' : CmpOp} {o o' : Op2} (h : Cmp g F op o) (h' : Cmp g F op' o') (ha : VE g F a fa) (hb : VE g F b fb) (hc : VE g F c fc) (hm : lastMarks [op, op'] [b, c] = false := by with_unfolding_all rfl) :
    VT g F (.Compare a [op, op'] [b, c] pos) (eT (eChain o o' fa fb fc)) := fun X W cx tk =>
  (pt_chain (h.ok X cx) (h'.ok X cx) (ha X W cx tk) (hb X W cx tk) (hc X W cx tk) hm).mono fun σ H Q q => rd_chain h h' (rd_T q)

/-! ### and, or, not -/
def eAnd (fa fb : EE) : EE := fun ρ S => (fa ρ S).bind fun x S1 => match x with
  | .bl true => fb ρ S1
  | .bl false => .ok (.bl false) S1
  | _ => .no
def eOr (fa fb : EE) : EE := fun ρ S => (fa ρ S).bind fun x S1 => match x with
  | .bl true => .ok (.bl true) S1
  | .bl false => fb ρ S1
  | _ => .no
def eNot (fa : EE) : EE := fun ρ S => (fa ρ S).bind fun x S1 => match x with
  | .bl b => .ok (.bl (!b)) S1
  | _ => .no
theorem ve_one {op : BoolOp} (ha : VE g F a fa) : VE g F (.BoolOp op [a] pos) fa := fun X W cx tk => pe_one (ha X W cx tk)
theorem ve_and (ha : VE g F a fa) (hb : VE g F (.BoolOp .And (b :: es) pos) fb) : VE g F (.BoolOp .And (a :: b :: es) pos) (eAnd fa fb) := fun X W cx tk =>
  (pe_and (ha X W cx tk) (hb X W cx tk)).mono fun σ H Q q => by
    refine (rdX_bind (relα := Rep g) mon_true q).imp fun u H1 q2 => ?_
    obtain ⟨d, G, m, ρ, S, rs, re, x, p⟩ := q2
    dsimp only at p
    split at p
    · have r := x.2
      cases r
      exact ⟨true, rfl, by rw [if_pos rfl]; exact ⟨G, m, ρ, S, rs, re, True.intro, p⟩⟩
    · have r := x.2
      cases r
      exact ⟨false, rfl, by rw [if_neg Bool.false_ne_true]; exact p G m H1 _ Ev.refl rs (.bl _)⟩
    · exact p.elim
theorem ve_or (ha : VE g F a fa) (hb : VE g F (.BoolOp .Or (b :: es) pos) fb) : VE g F (.BoolOp .Or (a :: b :: es) pos) (eOr fa fb) := fun X W cx tk =>
  (pe_or (ha X W cx tk) (hb X W cx tk)).mono fun σ H Q q => by
    refine (rdX_bind (relα := Rep g) mon_true q).imp fun u H1 q2 => ?_
    obtain ⟨d, G, m, ρ, S, rs, re, x, p⟩ := q2
    dsimp only at p
    split at p
    · have r := x.2
      cases r
      exact ⟨true, rfl, by rw [if_pos rfl]; exact p G m H1 _ Ev.refl rs (.bl _)⟩
    · have r := x.2
      cases r
      exact ⟨false, rfl, by rw [if_neg Bool.false_ne_true]; exact ⟨G, m, ρ, S, rs, re, True.intro, p⟩⟩
    · exact p.elim
theorem ve_not (ha : VE g F a fa) : VE g F (.UnaryOp .Not a pos) (eNot fa) := fun X W cx tk =>
  (pe_not (ha X W cx tk)).mono fun σ H Q q => by
    refine (rdX_bind (relα := Rep g) mon_true q).imp fun u H1 q2 => ?_
    obtain ⟨d, G, m, ρ, S, rs, re, x, p⟩ := q2
    dsimp only at p
    split at p
    · have r := x.2
      cases r
      exact ⟨_, rfl, p G m H1 _ Ev.refl rs (.bl _)⟩
    · exact p.elim
/-- the same as tests -/
def VW (g : GC) (F : Fm) (e : Expr) (f : TT') : Prop := ∀ (X : Cx) (W : WX), CxOk g F X → L2N.Takes X W → PW X e (rdT g W f)
def qAnd (fa fb : TT') : TT' := fun ρ S => (fa ρ S).bind fun x S1 => if x = true then fb ρ S1 else .ok false S1
def qOr (fa fb : TT') : TT' := fun ρ S => (fa ρ S).bind fun x S1 => if x = true then .ok true S1 else fb ρ S1
def qNot (fa : TT') : TT' := fun ρ S => (fa ρ S).bind fun x S1 => .ok (!x) S1
variable {ta tb : TT'}
theorem _root_.L2.PW.mono {X : Cx} {e : Expr} {t t' : TT} (h : PW X e t) (i : ∀ σ H Q, t' σ H Q → t σ H Q) : PW X e t' := ⟨fun w pins s σ H Q I q => h.run w pins s σ H Q I (i _ _ _ q)⟩
theorem vw_t (h : VW g F e ta) : VT g F e ta := fun X W cx tk => (h X W cx tk).pt
theorem vw_and1 (h : VT g F a ta) : VW g F (.BoolOp .And [a] pos) ta := fun X W cx tk => pw_and1 (h X W cx tk)
theorem vw_or1 (h : VT g F a ta) : VW g F (.BoolOp .Or [a] pos) ta := fun X W cx tk => pw_or1 (h X W cx tk)
theorem rd_if {W : WX} {σ : St} {H : Hp} {Q : Bool → Hp → Prop} {ta tb tc : TT'} (q : rdT g W (fun ρ S => (ta ρ S).bind fun x S1 => if x = true then tb ρ S1 else tc ρ S1) σ H Q) : rdT g W ta σ H fun c H1 => if c = true then rdT g W tb σ H1 Q else rdT g W tc σ H1 Q := by
  refine (rdX_bind (relα := fun _ _ u b => u = b) mon_true q).imp fun u H1 q2 => ?_
  obtain ⟨d, G, m, ρ, S, rs, re, x, p⟩ := q2
  have e : u = d := x.2
  subst e
  cases u with
  | true => exact iteT ⟨G, m, ρ, S, rs, re, True.intro, by simpa using p⟩
  | false => exact iteF ⟨G, m, ρ, S, rs, re, True.intro, by simpa using p⟩
theorem rd_kb {W : WX} {σ : St} {H : Hp} {Q : Bool → Hp → Prop} {k : Bool} (q : rdT g W (fun _ S => .ok k S) σ H Q) : Q k H := by
  obtain ⟨G, m, ρ, S, rs, re, x, p⟩ := q
  exact p G m H _ Ev.refl rs rfl
theorem vw_and (ha : VT g F a ta) (hb : VW g F (.BoolOp .And (b :: es) pos) tb) : VW g F (.BoolOp .And (a :: b :: es) pos) (qAnd ta tb) := fun X W cx tk =>
  (pw_and (ha X W cx tk) (hb X W cx tk)).mono fun σ H Q q => by
    refine (rd_if (tc := fun _ S => .ok false S) q).imp fun c H1 z => ?_
    cases c with
    | true => exact z
    | false => exact iteF (rd_kb (by simpa using z))
theorem vw_or (ha : VT g F a ta) (hb : VW g F (.BoolOp .Or (b :: es) pos) tb) : VW g F (.BoolOp .Or (a :: b :: es) pos) (qOr ta tb) := fun X W cx tk =>
  (pw_or (ha X W cx tk) (hb X W cx tk)).mono fun σ H Q q => by
    refine (rd_if (tb := fun _ S => .ok true S) q).imp fun c H1 z => ?_
    cases c with
    | true => exact iteT (rd_kb (by simpa using z))
    | false => exact z
theorem vt_not (ha : VT g F a ta) : VT g F (.UnaryOp .Not a pos) (qNot ta) := fun X W cx tk =>
  (pt_not (ha X W cx tk)).mono fun σ H Q q => by
    refine (rdX_bind (relα := fun _ _ u b => u = b) mon_true q).imp fun u H1 q2 => ?_
    obtain ⟨d, G, m, ρ, S, rs, re, x, p⟩ := q2
    have e : u = d := x.2
    subst e
    exact p G m H1 _ Ev.refl rs rfl
/-- a if t else b -/
def eIf (t : TT') (fa fb : EE) : EE := fun ρ S => (t ρ S).bind fun x S1 => if x = true then fa ρ S1 else fb ρ S1
theorem ve_if (ht : VT g F c ta) (ha : VE g F a fa) (hb : VE g F b fb) : VE g F (.IfExp c a b pos) (eIf ta fa fb) := fun X W cx tk =>
  (pe_ifExp (ht X W cx tk) (ha X W cx tk) (hb X W cx tk)).mono fun σ H Q q => by
    refine (rdX_bind (relα := fun _ _ u b => u = b) mon_true q).imp fun u H1 q2 => ?_
    obtain ⟨d, G, m, ρ, S, rs, re, x, p⟩ := q2
    have e : u = d := x.2
    subst e
    cases u with
    | true => exact iteT ⟨G, m, ρ, S, rs, re, True.intro, by simpa using p⟩
    | false => exact iteF ⟨G, m, ρ, S, rs, re, True.intro, by simpa using p⟩

/-! ### arguments, displays -/
def aNil : AA := fun _ S => .ok [] S
def aCons (f : EE) (k : AA) : AA := fun ρ S => (f ρ S).bind fun d S1 => (k ρ S1).bind fun ds S2 => .ok (d :: ds) S2
theorem va_nil : VA g F [] aNil := fun X W cx tk => pa_nil.mono fun σ H Q q => by
  obtain ⟨G, m, ρ, S, rs, re, x, p⟩ := q
  exact p G m H _ Ev.refl rs .nil
variable {ka : AA}
theorem va_cons (h : VE g F e fa) (k : VA g F es ka) (hs : ∀ env, starEach (e :: es) env = (false, eval e env) :: starEach es env := by intro _; rfl) : VA g F (e :: es) (aCons fa ka) := fun X W cx tk =>
  (pa_cons (h X W cx tk) (k X W cx tk) (hs _)).mono fun σ H Q q => by
    refine (rdX_bind (relα := Rep g) mon_true q).imp fun u H1 q2 => ?_
    obtain ⟨d, q2⟩ := q2
    refine (rdX_bind (relα := Reps g) (mon_true.and mon_rep) q2).imp fun us H2 q3 => ?_
    obtain ⟨ds, G, m, ρ, S, rs, re, x, p⟩ := q3
    exact p G m H2 _ Ev.refl rs (.cons x.1.2 x.2)
def eTup (k : AA) : EE := fun ρ S => (k ρ S).bind fun ds S1 => if ds.length ≤ sizeLine then .ok (.tup ds) S1 else .no
def eLst (k : AA) : EE := fun ρ S => (k ρ S).bind fun ds S1 => if ds.length ≤ sizeLine then .ok (.lst ds) S1 else .no
/-- a list that may change -/
def eCel (k : AA) : EE := fun ρ S => (k ρ S).bind fun ds S1 => if ds.length ≤ sizeLine then .ok (.ref S1.length) (S1 ++ [some (.lst ds)]) else .no
theorem ve_tup {x1 : Nat} (k : VA g F es ka) : VE g F (.Tuple es x1 pos) (eTup ka) := fun X W cx tk => (pe_tup (k X W cx tk)).mono fun σ H Q q => by
  refine (rdX_bind (relα := Reps g) mon_true q).imp fun us H1 q2 => ?_
  obtain ⟨ds, G, m, ρ, S, rs, re, x, p⟩ := q2
  dsimp only at p
  split at p
  · rename_i hz
    exact ⟨by rw [x.2.length]; exact hz, fun l hl => new_tup rs x.2 p hl⟩
  · exact p.elim
theorem ve_lst (k : VA g F es ka) : VE g F (.List es pos) (eLst ka) := fun X W cx tk => (pe_lst (k X W cx tk)).mono fun σ H Q q => by
  refine (rdX_bind (relα := Reps g) mon_true q).imp fun us H1 q2 => ?_
  obtain ⟨ds, G, m, ρ, S, rs, re, x, p⟩ := q2
  dsimp only at p
  split at p
  · rename_i hz
    exact ⟨by rw [x.2.length]; exact hz, fun l hl => new_lst rs x.2 p hl⟩
  · exact p.elim
theorem ve_cel (k : VA g F es ka) : VE g F (.List es pos) (eCel ka) := fun X W cx tk => (pe_lst (k X W cx tk)).mono fun σ H Q q => by
  refine (rdX_bind (relα := Reps g) mon_true q).imp fun us H1 q2 => ?_
  obtain ⟨ds, G, m, ρ, S, rs, re, x, p⟩ := q2
  dsimp only at p
  split at p
  · rename_i hz
    exact ⟨by rw [x.2.length]; exact hz, fun l hl => new_cell rs x.2 p hl⟩
  · exact p.elim
end
end Z
set_option Elab.async false
set_option linter.all false
set_option maxRecDepth 100000
/-! Z4: subscripts, slices, built-in functions, methods of built-in types. -/
namespace Z
open PySem L2

section
variable {g : GC} {F : Fm} {e a b c : Expr} {es : List Expr} {pos : Pos} {fa fb fc : EE} {ka : AA} {G H : Hp} {m : List Addr} {S : Store}

/-! ### subscripts -/
theorem ixN_len {n i : Int} : True := True.intro
theorem atI_rep {vs : List V} {ds : List D} (r : Reps g G m vs ds) {i : Int} {d : D} (h : atI ds i = some d) : ∃ v, atI vs i = some v ∧ Rep g G m v d := by
  unfold atI at h ⊢
  rw [r.length]
  cases e : ixN ds.length i with
  | none =>
    rw [e] at h
    cases h
  | some j =>
    rw [e] at h
    exact r.get h
def oIx : Op2 := fun x y S => match y with
  | .int i => match x with
    | .str z => if z.length ≤ sizeLine then (match atI z.cps.toList i with
      | some c => .ok (.str ⟨#[c]⟩) S
      | none => .no) else .no
    | x => match seqOf S x with
      | some ds => match atI ds i with
        | some d => .ok d S
        | none => .no
      | none => .no
  | _ => .no
theorem opz_ix : OpZ g (rIx g.K) oIx := fun W σ H Q G m S x y d e rs rx ry p => by
  unfold oIx at p
  split at p
  · cases ry
    rename_i i
    split at p
    · cases rx
      rename_i z
      split at p
      · rename_i hz
        split at p
        · rename_i c hc
          exact .inr (.inr ⟨z, i, c, rfl, rfl, hz, hc, p G m H _ Ev.refl rs (.str _)⟩)
        · exact p.elim
      · exact p.elim
    · split at p
      · rename_i ds hds
        split at p
        · rename_i d' hd
          obtain ⟨q, vs, rfl, hs, r⟩ := seq_at rs rx hds
          obtain ⟨v, hv, rv⟩ := atI_rep r hd
          have z := p G m H v Ev.refl rs rv
          rcases hs with hs | hs
          · exact .inl ⟨q, vs, i, v, rfl, rfl, hs, hv, z⟩
          · exact .inr (.inl ⟨q, vs, i, v, rfl, rfl, hs, hv, z⟩)
        · exact p.elim
      · exact p.elim
  · exact p.elim
theorem ve_ix (ha : VE g F a fa) (hb : VE g F b fb) (hs : PlainIx b := by intro _ _; rfl) : VE g F (.Subscript a b pos) (eOp oIx fa fb) := fun X W cx tk =>
  (pe_ix (r := rIx X.K) ix_seq (ha X W cx tk) (hb X W cx tk) hs).mono fun σ H Q q => by
    rw [cx.K]
    exact rd_op opz_ix q

/-! ### slices -/
abbrev OO := Env → Store → Res (Option Int)
def pNone : OO := fun _ S => .ok none S
def pSome (f : EE) : OO := fun ρ S => (f ρ S).bind fun d S1 => match d with
  | .int i => .ok (some i) S1
  | _ => .no
abbrev rdO (g : GC) (W : WX) (f : OO) : TO := rd g (fun _ _ u b => u = b) W f
def VO (g : GC) (F : Fm) (e : Option Expr) (f : OO) : Prop := ∀ (X : Cx) (W : WX), CxOk g F X → L2N.Takes X W → PO X e (rdO g W f)
theorem _root_.L2.PO.mono {X : Cx} {e : Option Expr} {t t' : TO} (h : PO X e t) (i : ∀ σ H Q, t' σ H Q → t σ H Q) : PO X e t' := ⟨fun pins s σ H Q I q => h.run pins s σ H Q I (i _ _ _ q)⟩
theorem vo_none : VO g F none pNone := fun X W cx tk => po_none.mono fun σ H Q q => by
  obtain ⟨G, m, ρ, S, rs, re, x, p⟩ := q
  exact p G m H _ Ev.refl rs rfl
theorem vo_some (h : VE g F e fa) : VO g F (some e) (pSome fa) := fun X W cx tk => (po_some (h X W cx tk)).mono fun σ H Q q => by
  refine (rdX_bind (relα := Rep g) mon_true q).imp fun u H1 q2 => ?_
  obtain ⟨d, G, m, ρ, S, rs, re, x, p⟩ := q2
  dsimp only at p
  split at p
  · have r := x.2
    cases r
    exact ⟨_, rfl, p G m H1 _ Ev.refl rs rfl⟩
  · exact p.elim
def cutD {α : Type} (xs : List α) (lo hi : Option Int) : List α := (xs.drop (HT.sIx xs.length 0 lo)).take (HT.sIx xs.length xs.length hi - HT.sIx xs.length 0 lo)
theorem cut_rep {vs : List V} {ds : List D} (r : Reps g G m vs ds) (lo hi : Option Int) : Reps g G m (cutV vs lo hi) (cutD ds lo hi) := by
  unfold cutV cutD
  rw [r.length]
  exact (r.drop _).take _
/-- what a slice answers -/
def slZ (S : Store) (x : D) (lo hi : Option Int) : Option D := match x with
  | .str z => if z.length ≤ sizeLine then some (.str (cutS z lo hi)) else none
  | .tup ds => some (.tup (cutD ds lo hi))
  | .seq ds => some (.lst (cutD ds lo hi))
  | x => (lstOf S x).map fun ds => .lst (cutD ds lo hi)
def eSl (f : EE) (lo hi : OO) : EE := fun ρ S => (f ρ S).bind fun x S1 => (lo ρ S1).bind fun l S2 => (hi ρ S2).bind fun h S3 => match slZ S3 x l h with
  | some d => .ok d S3
  | none => .no
def rSlZ (K : PySem.W.Frag) : V → Option Int → Option Int → Hp → VK → Prop := fun x lo hi H Q => rSlL K x lo hi H Q ∨ (rSlA K x lo hi H Q ∨ rSlS x lo hi H Q)
theorem cut_all {vs : List V} {lo hi : Option Int} (h : HT.sIx vs.length 0 lo = 0 ∧ HT.sIx vs.length vs.length hi = vs.length) : cutV vs lo hi = vs := by
  unfold cutV
  rw [h.1, h.2]
  simp
theorem ve_sl {lo hi : Option Expr} {pl ph : OO} {p2 : Pos} (ha : VE g F a fa) (hl : VO g F lo pl) (hh : VO g F hi ph) : VE g F (.Subscript a (.Slice lo hi none p2) pos) (eSl fa pl ph) := fun X W cx tk =>
  (pe_slice (r := rSlZ X.K) (sl_list.or (sl_tupA.or sl_str)) (ha X W cx tk) (hl X W cx tk) (hh X W cx tk)).mono fun σ H Q q => by
    refine (rdX_bind (relα := Rep g) mon_true q).imp fun u H1 q2 => ?_
    obtain ⟨d, q2⟩ := q2
    refine (rdX_bind (relα := fun _ _ u b => u = b) (mon_true.and mon_rep) q2).imp fun l H2 q3 => ?_
    obtain ⟨l', q3⟩ := q3
    refine (rdX_bind (relα := fun _ _ u b => u = b) ((mon_true.and mon_rep).and mon_const) q3).imp fun h H3 q4 => ?_
    obtain ⟨h', G, m, ρ, S, rs, re, x, p⟩ := q4
    have e1 : l = l' := x.1.2
    have e2 : h = h' := x.2
    subst e1 e2
    have rx := x.1.1.2
    rw [cx.K]
    dsimp only at p
    split at p
    · rename_i d' hd
      unfold slZ at hd
      split at hd
      · cases rx
        split at hd
        · rename_i z hz
          cases hd
          exact .inr (.inr ⟨z, rfl, hz, p G m H3 _ Ev.refl rs (.str _)⟩)
        · cases hd
      · cases hd
        cases rx with
        | tup h1 r1 =>
          refine .inr (.inl ⟨_, _, rfl, sqT_same rs.sub h1, fun hc => ?_, fun _ q hq => ?_⟩)
          · have e := cut_all hc
            refine p G m H3 _ Ev.refl rs (.tup h1 ?_)
            rw [← e]
            exact cut_rep r1 _ _
          · exact new_tup rs (cut_rep r1 _ _) p hq
      · cases hd
        cases rx with
        | seq h1 r1 => exact .inl ⟨_, _, rfl, rs.sub.seq h1, fun q hq => new_lst rs (cut_rep r1 _ _) p hq⟩
      · cases el : lstOf S d with
        | none =>
          rw [el] at hd
          cases hd
        | some ds =>
          rw [el] at hd
          cases hd
          obtain ⟨a, vs, rfl, ha, r⟩ := lst_at rs rx el
          exact .inl ⟨a, vs, rfl, SqL.of ha, fun q hq => new_lst rs (cut_rep r _ _) p hq⟩
    · exact p.elim
/-- xs[::-1] of a list -/
def eRev (f : EE) : EE := fun ρ S => (f ρ S).bind fun x S1 => match lstOf S1 x with
  | some ds => .ok (.lst ds.reverse) S1
  | none => .no
theorem Reps.reverse : ∀ {vs : List V} {ds : List D}, Reps g G m vs ds → Reps g G m vs.reverse ds.reverse
  | _, _, .nil => .nil
  | _, _, .cons r s => by
    rw [List.reverse_cons, List.reverse_cons]
    exact s.reverse.append (.one r)
theorem ve_rev {k : Nat} {p1 p2 p3 : Pos} (ha : VE g F a fa) : VE g F (.Subscript a (.Slice none none (some (.UnaryOp .USub (.Constant (.int 1) k p1) p2)) p3) pos) (eRev fa) := fun X W cx tk =>
  (pe_revL (ha X W cx tk)).mono fun σ H Q q => by
    refine (rdX_bind (relα := Rep g) mon_true q).imp fun u H1 q2 => ?_
    obtain ⟨d, G, m, ρ, S, rs, re, x, p⟩ := q2
    dsimp only at p
    split at p
    · rename_i ds hds
      obtain ⟨a, vs, rfl, ha, r⟩ := lst_at rs x.2 hds
      exact ⟨a, vs, rfl, SqL.of ha, fun l hq => new_lst rs r.reverse p hq⟩
    · exact p.elim

/-! ### calls of built-ins -/
abbrev Bl := List D → Store → Res D
def eB (o : Bl) (k : AA) : EE := fun ρ S => (k ρ S).bind fun ds S1 => o ds S1
def CallZ (g : GC) (r : List V → Hp → VK → Prop) (o : Bl) : Prop := ∀ (W : WX) (σ : St) (H : Hp) (Q : VK) (G : Hp) (m : List Addr) (S : Store) (vs : List V) (ds : List D), RS g G m S H → Reps g G m vs ds → Po g (Rep g) W G m H σ Q (o ds S) → r vs H Q
theorem rd_B {W : WX} {r : List V → Hp → VK → Prop} {o : Bl} (h : CallZ g r o) {σ : St} {H : Hp} {Q : VK} (q : rdE g W (eB o ka) σ H Q) : tCB r (rdA g W ka) σ H Q := by
  refine (rdX_bind (relα := Reps g) mon_true q).imp fun us H1 q2 => ?_
  obtain ⟨ds, G, m, ρ, S, rs, re, x, p⟩ := q2
  exact h W σ H1 Q G m S us ds rs x.2 p
/-- a built-in function -/
structure BlF (g : GC) (F : Fm) (id : String) (o : Bl) where
  r : List V → Hp → VK → Prop
  ok : ∀ X, CxOk g F X → CallR X (.builtin id) r
  an : CallZ g r o
/-- a built-in class, called -/
structure BlT (g : GC) (F : Fm) (T : String) (o : Bl) where
  r : List V → Hp → VK → Prop
  ok : ∀ X, CxOk g F X → CallR X (.type T) r
  an : CallZ g r o
theorem ve_callB {x : Str} {id : String} {o : Bl} {p : Pos} (f : BlF g F id o) (hg : glB F x = true) (hm : g.mg x = none) (hv : bootBuiltins x = some (.builtin id)) (ha : VA g F (e :: es) ka)
    (he : ∀ env, starEach (e :: es) env = (false, eval e env) :: starEach es env := by intro _; rfl) (hpl : ∀ env, (backTo pos (starEach es env)).any (·.1) = false := by intro _; rfl) : VE g F (.Call (.Name x p) (e :: es) [] pos) (eB o ka) := fun X W cx tk => by
  obtain ⟨g1, g2, g3⟩ := gl_of cx hg
  exact (pe_callB (f.ok X cx) g1 (by rw [cx.mg]; exact hm) hv (ha X W cx tk) g3 g2 (he _) (hpl _)).mono fun σ H Q q => rd_B f.an q
theorem ve_callT {x : Str} {T : String} {o : Bl} {p : Pos} (f : BlT g F T o) (hg : glB F x = true) (hm : g.mg x = none) (hv : bootBuiltins x = some (.type T)) (ha : VA g F (e :: es) ka)
    (he : ∀ env, starEach (e :: es) env = (false, eval e env) :: starEach es env := by intro _; rfl) (hpl : ∀ env, (backTo pos (starEach es env)).any (·.1) = false := by intro _; rfl) : VE g F (.Call (.Name x p) (e :: es) [] pos) (eB o ka) := fun X W cx tk => by
  obtain ⟨g1, g2, g3⟩ := gl_of cx hg
  exact (pe_callTy (f.ok X cx) g1 (by rw [cx.mg]; exact hm) hv (ha X W cx tk) g3 g2 (he _) (hpl _)).mono fun σ H Q q => rd_B f.an q
theorem reps1 {vs : List V} {d : D} (r : Reps g G m vs [d]) : ∃ v, vs = [v] ∧ Rep g G m v d := by
  cases r with
  | cons r s =>
    cases s
    exact ⟨_, rfl, r⟩
theorem reps2 {vs : List V} {d e : D} (r : Reps g G m vs [d, e]) : ∃ v u, vs = [v, u] ∧ Rep g G m v d ∧ Rep g G m u e := by
  cases r with
  | cons r s =>
    obtain ⟨u, rfl, q⟩ := reps1 s
    exact ⟨_, _, rfl, r, q⟩
theorem reps3 {vs : List V} {d e f : D} (r : Reps g G m vs [d, e, f]) : ∃ v u w, vs = [v, u, w] ∧ Rep g G m v d ∧ Rep g G m u e ∧ Rep g G m w f := by
  cases r with
  | cons r s =>
    obtain ⟨u, w, rfl, q, q2⟩ := reps2 s
    exact ⟨_, _, _, rfl, r, q, q2⟩
/-- the same state, a plain answer -/
theorem po_ok {W : WX} {σ : St} {Q : VK} {d : D} {v : V} (rs : RS g G m S H) (p : Po g (Rep g) W G m H σ Q (.ok d S)) (r : Rep g G m v d) : Q v H := p G m H v Ev.refl rs r

/-! ### which built-ins -/
/-- len -/
def lenZ (S : Store) : D → Option Nat
  | .str z => if z.length ≤ sizeLine then some z.length else none
  | d => (seqOf S d).map List.length
def oLen : Bl := fun ds S => match ds with
  | [d] => match lenZ S d with
    | some n => .ok (.int n) S
    | none => .no
  | _ => .no
def bLen : BlF g F "len" oLen := ⟨_, fun X cx => by
  have z := @call_len X
  rw [cx.K] at z
  exact z, fun W σ H Q G m S vs ds rs r p => by
  unfold oLen at p
  split at p
  · rename_i d
    obtain ⟨v, rfl, rv⟩ := reps1 r
    split at p
    · rename_i n hn
      unfold lenZ at hn
      split at hn
      · cases rv
        split at hn
        · rename_i z hz
          cases hn
          exact ⟨_, _, rfl, ⟨hz, rfl⟩, po_ok rs p (.int _)⟩
        · cases hn
      · cases es : seqOf S d with
        | none =>
          rw [es] at hn
          cases hn
        | some xs =>
          rw [es] at hn
          cases hn
          obtain ⟨a, ws, rfl, hs, r2⟩ := seq_at rs rv es
          refine ⟨_, _, rfl, ?_, po_ok rs p (.int _)⟩
          rcases hs with hs | hs
          · exact .inl ⟨ws, hs, r2.length.symm⟩
          · exact .inr ⟨ws, hs, r2.length.symm⟩
    · exact p.elim
  · exact p.elim⟩
/-- a function of one int -/
def oI1 (f : Int → D) : Bl := fun ds S => match ds with
  | [.int i] => .ok (f i) S
  | _ => .no
def bAbs : BlF g F "abs" (oI1 fun i => .int (if i < 0 then -i else i)) := ⟨_, fun _ _ => call_abs, fun W σ H Q G m S vs ds rs r p => by
  unfold oI1 at p
  split at p
  · obtain ⟨v, rfl, rv⟩ := reps1 r
    cases rv
    exact ⟨_, rfl, po_ok rs p (.int _)⟩
  · exact p.elim⟩
/-- int(x) of an int, of a text -/
def oInt : Bl := fun ds S => match ds with
  | [.int i] => .ok (.int i) S
  | [.str z] => match PySem.intText? z with
    | some n => if z.length ≤ 640 then .ok (.int n) S else .no
    | none => .no
  | _ => .no
def bInt : BlT g F "int" oInt := ⟨_, fun _ _ => call_int1.or call_int_str, fun W σ H Q G m S vs ds rs r p => by
  unfold oInt at p
  split at p
  · obtain ⟨v, rfl, rv⟩ := reps1 r
    cases rv
    exact .inl (.inl ⟨_, rfl, po_ok rs p (.int _)⟩)
  · obtain ⟨v, rfl, rv⟩ := reps1 r
    cases rv
    split at p
    · rename_i n hn
      split at p
      · rename_i hz
        exact .inr ⟨_, n, rfl, hn, hz, po_ok rs p (.int _)⟩
      · exact p.elim
    · exact p.elim
  · exact p.elim⟩
/-- str(x) of an int, of a text -/
def oStr : Bl := fun ds S => match ds with
  | [.int i] => if i.natAbs.log2 < 1920 then .ok (.str (toString i)) S else .no
  | [.str z] => .ok (.str z) S
  | _ => .no
def bStr : BlT g F "str" oStr := ⟨_, fun _ _ => call_str_int.or SkE.call_str_str, fun W σ H Q G m S vs ds rs r p => by
  unfold oStr at p
  split at p
  · obtain ⟨v, rfl, rv⟩ := reps1 r
    cases rv
    split at p
    · rename_i hz
      exact .inl ⟨_, rfl, hz, po_ok rs p (.str _)⟩
    · exact p.elim
  · obtain ⟨v, rfl, rv⟩ := reps1 r
    cases rv
    exact .inr ⟨_, rfl, po_ok rs p (.str _)⟩
  · exact p.elim⟩
/-- the ints of a list -/
def intsOf : List D → Option (List Int)
  | [] => some []
  | .int i :: ds => (intsOf ds).map fun r => i :: r
  | _ :: _ => none
def blsOf : List D → Option (List Bool)
  | [] => some []
  | .bl i :: ds => (blsOf ds).map fun r => i :: r
  | _ :: _ => none
def strsOf : List D → Option (List Str)
  | [] => some []
  | .str i :: ds => (strsOf ds).map fun r => i :: r
  | _ :: _ => none
theorem ints_ok : ∀ {ds : List D} {vs : List V} {ns : List Int}, Reps g G m vs ds → intsOf ds = some ns → vs = ns.map V.int
  | [], _, _, .nil, h => by
    cases h
    rfl
  | d :: ds, _, _, .cons r s, h => by
    cases r with
    | int i =>
      unfold intsOf at h
      cases e : intsOf ds with
      | none =>
        rw [e] at h
        cases h
      | some rs =>
        rw [e] at h
        cases h
        rw [List.map_cons, ← ints_ok s e]
    | _ => cases h
theorem bls_ok : ∀ {ds : List D} {vs : List V} {ns : List Bool}, Reps g G m vs ds → blsOf ds = some ns → vs = ns.map V.bl
  | [], _, _, .nil, h => by
    cases h
    rfl
  | d :: ds, _, _, .cons r s, h => by
    cases r with
    | bl i =>
      unfold blsOf at h
      cases e : blsOf ds with
      | none =>
        rw [e] at h
        cases h
      | some rs =>
        rw [e] at h
        cases h
        rw [List.map_cons, ← bls_ok s e]
    | _ => cases h
theorem strs_ok : ∀ {ds : List D} {vs : List V} {ns : List Str}, Reps g G m vs ds → strsOf ds = some ns → vs = ns.map V.str
  | [], _, _, .nil, h => by
    cases h
    rfl
  | d :: ds, _, _, .cons r s, h => by
    cases r with
    | str i =>
      unfold strsOf at h
      cases e : strsOf ds with
      | none =>
        rw [e] at h
        cases h
      | some rs =>
        rw [e] at h
        cases h
        rw [List.map_cons, ← strs_ok s e]
    | _ => cases h
/-- a function of a list -/
def oL (f : List D → Option D) : Bl := fun ds S => match ds with
  | [x] => match (lstOf S x).bind f with
    | some d => .ok d S
    | none => .no
  | _ => .no
theorem oL_at {f : List D → Option D} {W : WX} {σ : St} {Q : VK} {vs : List V} {ds : List D} (rs : RS g G m S H) (r : Reps g G m vs ds) (p : Po g (Rep g) W G m H σ Q (oL f ds S)) :
    ∃ (a : Addr) (ws : List V) (xs : List D) (d : D), vs = [.ref a] ∧ H a = some (.lst ws) ∧ Reps g G m ws xs ∧ f xs = some d ∧ Po g (Rep g) W G m H σ Q (.ok d S) := by
  unfold oL at p
  split at p
  · rename_i x
    obtain ⟨v, rfl, rv⟩ := reps1 r
    split at p
    · rename_i d hd
      cases e : lstOf S x with
      | none =>
        rw [e] at hd
        cases hd
      | some xs =>
        rw [e] at hd
        obtain ⟨a, ws, rfl, ha, r2⟩ := lst_at rs rv e
        exact ⟨a, ws, xs, d, rfl, ha, r2, hd, p⟩
    · exact p.elim
  · exact p.elim
def bSum (hot : F.hot = false := by rfl) : BlF g F "sum" (oL fun xs => (intsOf xs).map fun ns => .int ns.sum) := ⟨rSum g.K, fun X cx => by
  have z := cr_sum (X := X) (cx.calm hot)
  rw [cx.K] at z
  exact z, fun W σ H Q G m S vs ds rs r p => by
  obtain ⟨a, ws, xs, d, rfl, ha, r2, hd, p⟩ := oL_at rs r p
  cases e : intsOf xs with
  | none =>
    rw [e] at hd
    cases hd
  | some ns =>
    rw [e] at hd
    cases hd
    exact ⟨a, ns, rfl, SqL.of (by rw [ha, ints_ok r2 e]), po_ok rs p (.int _)⟩⟩
def bAny (hot : F.hot = false := by rfl) : BlF g F "any" (oL fun xs => (blsOf xs).map fun ns => .bl (ns.any id)) := ⟨rAny g.K, fun X cx => by
  have z := cr_any (X := X) (cx.calm hot)
  rw [cx.K] at z
  exact z, fun W σ H Q G m S vs ds rs r p => by
  obtain ⟨a, ws, xs, d, rfl, ha, r2, hd, p⟩ := oL_at rs r p
  cases e : blsOf xs with
  | none =>
    rw [e] at hd
    cases hd
  | some ns =>
    rw [e] at hd
    cases hd
    exact ⟨a, ns, rfl, SqL.of (by rw [ha, bls_ok r2 e]), po_ok rs p (.bl _)⟩⟩
def bAll (hot : F.hot = false := by rfl) : BlF g F "all" (oL fun xs => (blsOf xs).map fun ns => .bl (ns.all id)) := ⟨rAll g.K, fun X cx => by
  have z := cr_all (X := X) (cx.calm hot)
  rw [cx.K] at z
  exact z, fun W σ H Q G m S vs ds rs r p => by
  obtain ⟨a, ws, xs, d, rfl, ha, r2, hd, p⟩ := oL_at rs r p
  cases e : blsOf xs with
  | none =>
    rw [e] at hd
    cases hd
  | some ns =>
    rw [e] at hd
    cases hd
    exact ⟨a, ns, rfl, SqL.of (by rw [ha, bls_ok r2 e]), po_ok rs p (.bl _)⟩⟩
/-- the greatest, the least of some ints -/
def maxI : Int → List Int → Int
  | a, [] => a
  | a, b :: r => maxI (if b > a then b else a) r
def minI : Int → List Int → Int
  | a, [] => a
  | a, b :: r => minI (if b < a then b else a) r
theorem maxI_max {m : Int} : ∀ {a : Int} {r : List Int}, m ∈ a :: r → (∀ y ∈ a :: r, y ≤ m) → maxI a r = m
  | a, [], h, k => by
    rw [List.mem_singleton] at h
    exact h.symm
  | a, b :: r, h, k => by
    unfold maxI
    have ka := k a (by simp)
    have kb := k b (by simp)
    refine maxI_max ?_ fun y hy => ?_
    · rcases List.mem_cons.mp h with e | h
      · subst e
        rw [if_neg (by omega)]
        exact List.mem_cons_self
      · rcases List.mem_cons.mp h with e | h
        · subst e
          by_cases q : m > a
          · rw [if_pos q]
            exact List.mem_cons_self
          · rw [if_neg q]
            have : m = a := by omega
            rw [this]
            exact List.mem_cons_self
        · exact List.mem_cons_of_mem _ h
    · rcases List.mem_cons.mp hy with e | hy
      · subst e
        split <;> assumption
      · exact k y (by simp [hy])
theorem minI_min {m : Int} : ∀ {a : Int} {r : List Int}, m ∈ a :: r → (∀ y ∈ a :: r, m ≤ y) → minI a r = m
  | a, [], h, k => by
    rw [List.mem_singleton] at h
    exact h.symm
  | a, b :: r, h, k => by
    unfold minI
    have ka := k a (by simp)
    have kb := k b (by simp)
    refine minI_min ?_ fun y hy => ?_
    · rcases List.mem_cons.mp h with e | h
      · subst e
        rw [if_neg (by omega)]
        exact List.mem_cons_self
      · rcases List.mem_cons.mp h with e | h
        · subst e
          by_cases q : m < a
          · rw [if_pos q]
            exact List.mem_cons_self
          · rw [if_neg q]
            have : m = a := by omega
            rw [this]
            exact List.mem_cons_self
        · exact List.mem_cons_of_mem _ h
    · rcases List.mem_cons.mp hy with e | hy
      · subst e
        split <;> assumption
      · exact k y (by simp [hy])
/-- max, min of a list of ints, of two ints -/
def oExt (f : Int → List Int → Int) : Bl := fun ds S => match ds with
  | [.int i, .int j] => .ok (.int (f i [j])) S
  | ds => oL (fun xs => match intsOf xs with
    | some (a :: r) => some (.int (f a r))
    | _ => none) ds S
def bMax (hot : F.hot = false := by rfl) : BlF g F "max" (oExt maxI) := ⟨fun vs H Q => (∃ i j, vs = [.int i, .int j] ∧ Q (.int (if j > i then j else i)) H) ∨ rMax g.K vs H Q, fun X cx => by
  have z := cr_max (X := X) (cx.calm hot)
  rw [cx.K] at z
  exact (call_max2 (cx.calm hot)).or z, fun W σ H Q G m S vs ds rs r p => by
  unfold oExt at p
  split at p
  · obtain ⟨v, u, rfl, rv, ru⟩ := reps2 r
    cases rv
    cases ru
    exact .inl ⟨_, _, rfl, po_ok rs p (.int _)⟩
  · obtain ⟨a, ws, xs, d, rfl, ha, r2, hd, p⟩ := oL_at rs r p
    split at hd
    · rename_i b bs hb
      cases hd
      refine .inr ⟨a, b :: bs, rfl, SqL.of (by rw [ha, ints_ok r2 hb]), by simp, fun m hm hk => ?_⟩
      rw [← maxI_max hm hk]
      exact po_ok rs p (.int _)
    · cases hd⟩
def bMin (hot : F.hot = false := by rfl) : BlF g F "min" (oExt minI) := ⟨fun vs H Q => (∃ i j, vs = [.int i, .int j] ∧ Q (.int (if j < i then j else i)) H) ∨ rMin g.K vs H Q, fun X cx => by
  have z := cr_min (X := X) (cx.calm hot)
  rw [cx.K] at z
  exact (call_min2 (cx.calm hot)).or z, fun W σ H Q G m S vs ds rs r p => by
  unfold oExt at p
  split at p
  · obtain ⟨v, u, rfl, rv, ru⟩ := reps2 r
    cases rv
    cases ru
    exact .inl ⟨_, _, rfl, po_ok rs p (.int _)⟩
  · obtain ⟨a, ws, xs, d, rfl, ha, r2, hd, p⟩ := oL_at rs r p
    split at hd
    · rename_i b bs hb
      cases hd
      refine .inr ⟨a, b :: bs, rfl, SqL.of (by rw [ha, ints_ok r2 hb]), by simp, fun m hm hk => ?_⟩
      rw [← minI_min hm hk]
      exact po_ok rs p (.int _)
    · cases hd⟩
/-- tuple(x) of a list, of a tuple; list(x): a new list -/
def oTupF : Bl := fun ds S => match ds with
  | [.tup xs] => .ok (.tup xs) S
  | [x] => match lstOf S x with
    | some xs => .ok (.tup xs) S
    | none => .no
  | _ => .no
def bTup : BlT g F "tuple" oTupF := ⟨fun xs H Q => ∃ p ys, xs = [.ref p] ∧ ((SqL g.K H p ys ∧ ∀ l, H l = none → Q (.ref l) (upd H l (.tup ys))) ∨ (SqT g.K H p ys ∧ Q (.ref p) H)), fun X cx => by
  have z := @call_tuple_of X
  rw [cx.K] at z
  exact z, fun W σ H Q G m S vs ds rs r p => by
  unfold oTupF at p
  split at p
  · obtain ⟨v, rfl, rv⟩ := reps1 r
    cases rv with
    | tup h1 r1 => exact ⟨_, _, rfl, .inr ⟨sqT_same rs.sub h1, po_ok rs p (.tup h1 r1)⟩⟩
  · obtain ⟨v, rfl, rv⟩ := reps1 r
    split at p
    · rename_i xs hx
      obtain ⟨a, ws, rfl, ha, r2⟩ := lst_at rs rv hx
      exact ⟨a, ws, rfl, .inl ⟨SqL.of ha, fun l hl => new_tup rs r2 p hl⟩⟩
    · exact p.elim
  · exact p.elim⟩
def rListZ (K : PySem.W.Frag) : List V → Hp → VK → Prop := fun xs H Q => ∃ p ys, xs = [.ref p] ∧ (SqL K H p ys ∨ SqT K H p ys) ∧ ∀ l, H l = none → Q (.ref l) (upd H l (.lst ys))
/-- list(x), which stays -/
def oListF : Bl := fun ds S => match ds with
  | [x] => match seqOf S x with
    | some xs => .ok (.lst xs) S
    | none => .no
  | _ => .no
/-- list(x), which may change -/
def oListC : Bl := fun ds S => match ds with
  | [x] => match seqOf S x with
    | some xs => .ok (.ref S.length) (S ++ [some (.lst xs)])
    | none => .no
  | _ => .no
def bListF : BlT g F "list" oListF := ⟨rListZ g.K, fun X cx => by
  have z := @call_list_of X
  rw [cx.K] at z
  exact z, fun W σ H Q G m S vs ds rs r p => by
  unfold oListF at p
  split at p
  · obtain ⟨v, rfl, rv⟩ := reps1 r
    split at p
    · rename_i xs hx
      obtain ⟨a, ws, rfl, ha, r2⟩ := seq_at rs rv hx
      exact ⟨a, ws, rfl, ha, fun l hl => new_lst rs r2 p hl⟩
    · exact p.elim
  · exact p.elim⟩
def bListC : BlT g F "list" oListC := ⟨rListZ g.K, fun X cx => by
  have z := @call_list_of X
  rw [cx.K] at z
  exact z, fun W σ H Q G m S vs ds rs r p => by
  unfold oListC at p
  split at p
  · obtain ⟨v, rfl, rv⟩ := reps1 r
    split at p
    · rename_i xs hx
      obtain ⟨a, ws, rfl, ha, r2⟩ := seq_at rs rv hx
      exact ⟨a, ws, rfl, ha, fun l hl => new_cell rs r2 p hl⟩
    · exact p.elim
  · exact p.elim⟩

/-! ### methods of built-in types -/
abbrev Mt := D → List D → Store → Res D
/-- o.m(e, ..): the receiver must be of the type T when it is reached (ty) -/
def eM (ty : Store → D → Bool) (o : Mt) (f : EE) (k : AA) : EE := fun ρ S => (f ρ S).bind fun x S1 => if ty S1 x = true then (k ρ S1).bind fun ds S2 => o x ds S2 else .no
def MtZ (g : GC) (r : V → List V → Hp → VK → Prop) (o : Mt) : Prop := ∀ (W : WX) (σ : St) (H : Hp) (Q : VK) (G : Hp) (m : List Addr) (S : Store) (x : V) (d : D) (vs : List V) (ds : List D), RS g G m S H → Rep g G m x d → Reps g G m vs ds → Po g (Rep g) W G m H σ Q (o d ds S) → r x vs H Q
structure BlM (g : GC) (F : Fm) (T id : String) (name : Str) (ty : Store → D → Bool) (o : Mt) where
  pa : PlainAttrs T
  slot : Slot T name id
  hty : typeOf (.builtin id) = pure (.type "method_descriptor")
  r : V → List V → Hp → VK → Prop
  ok : ∀ X, CxOk g F X → MtR X id r
  an : MtZ g r o
  is : ∀ (G H : Hp) (m : List Addr) (S : Store) (x : V) (d : D), RS g G m S H → Rep g G m x d → ty S d = true → tyV g.K T x H
theorem ve_m {T id : String} {name : Str} {ty : Store → D → Bool} {o : Mt} {apos : Pos} (f : BlM g F T id name ty o) (ha : VE g F a fa) (hk : VA g F (e :: es) ka)
    (hbase : ∀ env, attributeBase a name env (eval a env) = eval a env := by intro _; rfl)
    (hfew : ∀ env, ((backTo pos (starEach (e :: es) env)).all (fun x => !x.1) && (backToKw pos (keywordEach [] env)).all (fun x => x.1.isSome)
      && decide ((e :: es).length + ([] : List Keyword).length + (if ([] : List Keyword).isEmpty then 0 else 1) < 30)) = true := by intro _; rfl)
    (hline : (apos.endLine == pos.line) = true := by rfl) (hs : ∀ env, starEach (e :: es) env = (false, eval e env) :: starEach es env := by intro _; rfl) (hplain : ∀ env, (backTo pos (starEach es env)).any (·.1) = false := by intro _; rfl) :
    VE g F (.Call (.Attribute a name apos) (e :: es) [] pos) (eM ty o fa ka) := fun X W cx tk =>
  (pe_bm f.pa f.slot f.hty (f.ok X cx) (ha X W cx tk) (hk X W cx tk) (hbase _) (hfew _) hline (hs _) (hplain _)).mono fun σ H Q q => by
    refine (rdX_bind (relα := Rep g) mon_true q).imp fun u H1 q2 => ?_
    obtain ⟨d, G, m, ρ, S, rs, re, x, p⟩ := q2
    dsimp only at p
    split at p
    · rename_i ht
      refine ⟨by rw [cx.K]; exact f.is G H1 m S u d rs x.2 ht, ?_⟩
      have q3 : rdX g (fun G m => Rep g G m u d) (Rep g) W (fun ρ S => (ka ρ S).bind fun ds S2 => o d ds S2) σ H1 Q := ⟨G, m, ρ, S, rs, re, x.2, p⟩
      refine (rdX_bind (relα := Reps g) mon_rep q3).imp fun us H2 q4 => ?_
      obtain ⟨ds, G4, m4, ρ4, S4, rs4, re4, x4, p4⟩ := q4
      exact f.an W σ H2 Q G4 m4 S4 u d us ds rs4 x4.1 x4.2 p4
    · exact p.elim
theorem ve_m0 {T id : String} {name : Str} {ty : Store → D → Bool} {o : Mt} {apos : Pos} (f : BlM g F T id name ty o) (ha : VE g F a fa)
    (hbase : ∀ env, attributeBase a name env (eval a env) = eval a env := by intro _; rfl) (hline : (apos.endLine == pos.line) = true := by rfl) :
    VE g F (.Call (.Attribute a name apos) [] [] pos) (eM ty o fa aNil) := fun X W cx tk =>
  (pe_bm0 f.pa f.slot f.hty (f.ok X cx) (ha X W cx tk) (hbase _) hline).mono fun σ H Q q => by
    refine (rdX_bind (relα := Rep g) mon_true q).imp fun u H1 q2 => ?_
    obtain ⟨d, G, m, ρ, S, rs, re, x, p⟩ := q2
    dsimp only at p
    split at p
    · rename_i ht
      refine ⟨by rw [cx.K]; exact f.is G H1 m S u d rs x.2 ht, ?_⟩
      exact f.an W σ H1 Q G m S u d [] [] rs x.2 .nil p
    · exact p.elim
def isCell (S : Store) : D → Bool
  | .ref k => match S[k]? with
    | some (some (.lst _)) => true
    | _ => false
  | _ => false
def isStr (_ : Store) : D → Bool
  | .str _ => true
  | _ => false
theorem isCell_ok (G H : Hp) (m : List Addr) (S : Store) (x : V) (d : D) (rs : RS g G m S H) (r : Rep g G m x d) (h : isCell S d = true) : tyV g.K "list" x H := by
  unfold isCell at h
  split at h
  · split at h
    · rename_i ds hk
      cases r with
      | ref hm =>
        obtain ⟨_, vs, h1, _⟩ := rs.cell _ _ _ hk hm
        exact .inl ⟨rfl, vs, SqL.of h1⟩
    · cases h
  · cases h
theorem isStr_ok (G H : Hp) (m : List Addr) (S : Store) (x : V) (d : D) (rs : RS g G m S H) (r : Rep g G m x d) (h : isStr S d = true) : tyV g.K "str" x H := by
  unfold isStr at h
  split at h
  · cases r
    rfl
  · cases h
/-- what a method does to a list that may change: the new list, the answer -/
def oCell (f : List D → List D → Option (List D × D)) : Mt := fun x ds S => match x with
  | .ref k => match S[k]? with
    | some (some (.lst xs)) => match f xs ds with
      | some (ys, d) => .ok d (S.set k (some (.lst ys)))
      | none => .no
    | _ => .no
  | _ => .no
theorem oCell_at {f : List D → List D → Option (List D × D)} {W : WX} {σ : St} {Q : VK} {x : V} {d : D} {ds : List D} (rs : RS g G m S H) (r : Rep g G m x d) (p : Po g (Rep g) W G m H σ Q (oCell f d ds S)) :
    ∃ (l : Addr) (vs : List V) (xs ys : List D) (z : D), x = .ref l ∧ H l = some (.lst vs) ∧ Reps g G m vs xs ∧ f xs ds = some (ys, z) ∧ ∀ ws v, Reps g G m ws ys → Rep g G m v z → Q v (upd H l (.lst ws)) := by
  unfold oCell at p
  split at p
  · rename_i k
    split at p
    · rename_i xs hk
      split at p
      · rename_i ys z hf
        cases r with
        | ref hm =>
          obtain ⟨_, vs, h1, h2⟩ := rs.cell _ _ _ hk hm
          exact ⟨_, vs, xs, ys, z, rfl, h1, h2, hf, fun ws v hw hv => p G m _ v (.put hm) (rs.put hk hm ⟨ws, upd_same, hw⟩) hv⟩
      · exact p.elim
    · exact p.elim
  · exact p.elim
def zAppend (xs ds : List D) : Option (List D × D) := match ds with
  | [d] => if xs.length < sizeLine then some (xs ++ [d], .non) else none
  | _ => none
def oAppend : Mt := oCell zAppend
def mAppend : BlM g F "list" "list.append" "append" isCell oAppend := ⟨PySem.F.plainAttrs_list, PySem.F.slot_list_append, PySem.F.type_list_append, rAppend, fun _ _ => mt_append, fun W σ H Q G m S x d vs ds rs rx r p => by
  obtain ⟨l, ws, xs, ys, z, rfl, hl, r2, hf, q⟩ := oCell_at rs rx p
  unfold zAppend at hf
  split at hf
  · obtain ⟨v, rfl, rv⟩ := reps1 r
    split at hf
    · rename_i hz
      cases hf
      exact ⟨l, ws, v, rfl, rfl, hl, by rw [r2.length]; exact hz, q _ _ (r2.append (.one rv)) .non⟩
    · cases hf
  · (cases hf), isCell_ok⟩
/-- the last item -/
def popZ (xs : List D) : Option (List D × D) := match xs.getLast? with
  | some d => some (xs.dropLast, d)
  | none => none
theorem Reps.dropLast {vs : List V} {ds : List D} (r : Reps g G m vs ds) : Reps g G m vs.dropLast ds.dropLast := by
  rw [List.dropLast_eq_take, List.dropLast_eq_take, r.length]
  exact r.take _
def zPop (xs ds : List D) : Option (List D × D) := match ds with
  | [] => popZ xs
  | _ => none
def oPop : Mt := oCell zPop
def mPop : BlM g F "list" "list.pop" "pop" isCell oPop := ⟨PySem.F.plainAttrs_list, PySem.F.slot_list_pop, PySem.F.type_list_pop, rPop, fun _ _ => mt_pop, fun W σ H Q G m S x d vs ds rs rx r p => by
  obtain ⟨l, ws, xs, ys, z, rfl, hl, r2, hf, q⟩ := oCell_at rs rx p
  unfold zPop at hf
  split at hf
  · cases r
    unfold popZ at hf
    split at hf
    · rename_i d' hd
      cases hf
      rw [List.getLast?_eq_getElem?] at hd
      obtain ⟨v, hv, rv⟩ := r2.get hd
      exact ⟨l, ws, v, rfl, rfl, hl, by rw [r2.length]; exact hv, q _ _ r2.dropLast rv⟩
    · cases hf
  · (cases hf), isCell_ok⟩
def oExtend : Mt := fun x ds S => match ds with
  | [y] => match lstOf S y with
    | some zs => oCell (fun xs _ => if xs.length + zs.length ≤ sizeLine then some (xs ++ zs, .non) else none) x [] S
    | none => .no
  | _ => .no
def mExtend : BlM g F "list" "list.extend" "extend" isCell oExtend := ⟨PySem.F.plainAttrs_list, PySem.F.slot_list_extend, PySem.F.type_list_extend, rExtend, fun _ _ => mt_extend, fun W σ H Q G m S x d vs ds rs rx r p => by
  unfold oExtend at p
  split at p
  · rename_i y
    obtain ⟨v, rfl, rv⟩ := reps1 r
    split at p
    · rename_i zs hz
      obtain ⟨b, us, rfl, hb, r3⟩ := lst_at rs rv hz
      obtain ⟨l, ws, xs, ys, z, rfl, hl, r2, hf, q⟩ := oCell_at rs rx p
      split at hf
      · rename_i hc
        cases hf
        exact ⟨l, b, ws, us, rfl, rfl, hl, hb, by rw [r2.length, r3.length]; exact hc, q _ _ (r2.append r3) .non⟩
      · cases hf
    · exact p.elim
  · exact p.elim, isCell_ok⟩
/-- texts -/
def oStarts : Mt := fun x ds S => match x, ds with
  | .str a, [.str b] => .ok (.bl (Txt.startswith a b)) S
  | _, _ => .no
def mStarts : BlM g F "str" "str.startswith" "startswith" isStr oStarts := ⟨PySem.F.plainAttrs_str, PySem.F.slot_str_startswith, PySem.F.type_str_startswith, _, fun _ _ => mt_startswith, fun W σ H Q G m S x d vs ds rs rx r p => by
  unfold oStarts at p
  split at p
  · obtain ⟨v, rfl, rv⟩ := reps1 r
    cases rv
    cases rx
    exact ⟨_, _, rfl, rfl, po_ok rs p (.bl _)⟩
  · exact p.elim, isStr_ok⟩
theorem reps_strs : ∀ (ys : List Str), Reps g G m (ys.map V.str) (ys.map D.str)
  | [] => .nil
  | y :: ys => .cons (.str y) (reps_strs ys)
def oSplit : Mt := fun x ds S => match x, ds with
  | .str a, [.str b] => if (b.length == 0) = false ∧ a.length + 2 ≤ sizeLine then .ok (.lst ((Txt.split a b).map D.str)) S else .no
  | _, _ => .no
def mSplit : BlM g F "str" "str.split" "split" isStr oSplit := ⟨PySem.F.plainAttrs_str, PySem.F.slot_str_split, PySem.F.type_str_split, _, fun _ _ => mt_split, fun W σ H Q G m S x d vs ds rs rx r p => by
  unfold oSplit at p
  split at p
  · obtain ⟨v, rfl, rv⟩ := reps1 r
    cases rv
    cases rx
    split at p
    · rename_i hc
      exact ⟨_, _, rfl, rfl, hc.1, hc.2, fun l hl => new_lst rs (reps_strs _) p hl⟩
    · exact p.elim
  · exact p.elim, isStr_ok⟩
def oJoin : Mt := fun x ds S => match x, ds with
  | .str a, [y] => match (lstOf S y).bind strsOf with
    | some ys => if (ys.map (·.length)).sum + ys.length * a.length ≤ 16777216 then .ok (.str (Txt.join a ys)) S else .no
    | none => .no
  | _, _ => .no
def mJoin : BlM g F "str" "str.join" "join" isStr oJoin := ⟨PySem.F.plainAttrs_str, PySem.F.slot_str_join, PySem.F.type_str_join, fun x xs H Q => ∃ a p, ∃ ys : List Str, x = .str a ∧ xs = [.ref p] ∧ (SqL g.K H p (ys.map V.str) ∨ SqT g.K H p (ys.map V.str)) ∧ (ys.map (·.length)).sum + ys.length * a.length ≤ 16777216 ∧ Q (.str (Txt.join a ys)) H,
  fun X cx => by
    have z := @mt_join X
    rw [cx.K] at z
    exact z, fun W σ H Q G m S x d vs ds rs rx r p => by
  unfold oJoin at p
  split at p
  · rename_i y
    obtain ⟨v, rfl, rv⟩ := reps1 r
    cases rx
    split at p
    · rename_i ys hy
      split at p
      · rename_i hc
        cases el : lstOf S y with
        | none =>
          rw [el] at hy
          cases hy
        | some ds =>
          rw [el] at hy
          obtain ⟨l, ws, rfl, hl, r2⟩ := lst_at rs rv el
          exact ⟨_, l, ys, rfl, rfl, .inl (SqL.of (by rw [hl, strs_ok r2 hy])), hc, po_ok rs p (.str _)⟩
      · exact p.elim
    · exact p.elim
  · exact p.elim, isStr_ok⟩
end
end Z
set_option Elab.async false
set_option linter.all false
set_option maxRecDepth 100000
/-! Z5: statements: what a block answers; targets; fields; if, for, while, return. -/
namespace Z
open PySem L2

inductive Out where
  | next (ρ : Env) (S : Store) | ret (d : D) (S : Store) | brk (ρ : Env) (S : Store) | cont (ρ : Env) (S : Store) | ex (x : Exn) (ρ : Env) (S : Store) | no
abbrev SS := Env → Store → Out
section
variable {g : GC} {F : Fm} {e a b c : Expr} {es : List Expr} {pos : Pos} {fa fb fc : EE} {ka : AA} {G G' H : Hp} {m m' : List Addr} {S : Store} {ta tb : TT'}

def PoS (g : GC) (W : WX) (G : Hp) (m : List Addr) (H : Hp) (D : Ends) : Out → Prop
  | .next ρ S => ∀ G' m' H' σ', Ev G m H G' m' H' → RS g G' m' S H' → RE g G' m' ρ σ' → D.nx σ' H'
  | .ret d S => ∀ G' m' H' v, Ev G m H G' m' H' → RS g G' m' S H' → Rep g G' m' v d → D.rt v H'
  | .brk ρ S => ∀ G' m' H' σ', Ev G m H G' m' H' → RS g G' m' S H' → RE g G' m' ρ σ' → D.bk σ' H'
  | .cont ρ S => ∀ G' m' H' σ', Ev G m H G' m' H' → RS g G' m' S H' → RE g G' m' ρ σ' → D.ct σ' H'
  | .ex x ρ S => ∀ G' m' H' σ' cls dx, Ev G m H G' m' H' → RS g G' m' S H' → RE g G' m' ρ σ' → RepX g G' m' cls dx x → W cls dx σ' H'
  | .no => False
theorem PoS.up {H' : Hp} {W : WX} {D : Ends} {o : Out} (e : Ev G m H G' m' H') (h : PoS g W G m H D o) : PoS g W G' m' H' D o := by
  cases o with
  | next ρ S => exact fun G2 m2 H2 σ2 e2 s t => h G2 m2 H2 σ2 (e.trans e2) s t
  | ret d S => exact fun G2 m2 H2 σ2 e2 s t => h G2 m2 H2 σ2 (e.trans e2) s t
  | brk ρ S => exact fun G2 m2 H2 σ2 e2 s t => h G2 m2 H2 σ2 (e.trans e2) s t
  | cont ρ S => exact fun G2 m2 H2 σ2 e2 s t => h G2 m2 H2 σ2 (e.trans e2) s t
  | ex x ρ S => exact fun G2 m2 H2 σ2 c d e2 s t => h G2 m2 H2 σ2 c d (e.trans e2) s t
  | no => exact h
def rdSX (g : GC) (X : Hp → List Addr → Prop) (W : WX) (f : SS) : TS := fun D σ H => ∃ G m ρ S, RS g G m S H ∧ RE g G m ρ σ ∧ X G m ∧ PoS g W G m H D (f ρ S)
abbrev rdS (g : GC) (W : WX) (f : SS) : TS := rdSX g (fun _ _ => True) W f
/-- what a frame must be for loops and tries -/
structure FrOk (X : Cx) : Prop where
  hs : X.stack = X.env :: X.outer
  hf : X.env.frame = some X.env.locals
  hp : PassesOwn (model X.prog X.w) X.A X.env X.xe
def VS (g : GC) (F : Fm) (st : Stmt) (f : SS) : Prop := ∀ (X : Cx) (W : WX), CxOk g F X → FrOk X → L2N.Takes X W → PS X st (rdS g W f)
def VB (g : GC) (F : Fm) (st : List Stmt) (f : SS) : Prop := ∀ (X : Cx) (W : WX), CxOk g F X → FrOk X → L2N.Takes X W → PSs X st (rdS g W f)

def Out.bind (o : Out) (f : Env → Store → Out) : Out := match o with
  | .next ρ S => f ρ S
  | o => o
@[simp] theorem Out.bind_next (ρ : Env) (S : Store) (f : Env → Store → Out) : (Out.next ρ S).bind f = f ρ S := (rfl)
@[simp] theorem Out.bind_ret (d : D) (S : Store) (f : Env → Store → Out) : (Out.ret d S).bind f = .ret d S := (rfl)
@[simp] theorem Out.bind_brk (ρ : Env) (S : Store) (f : Env → Store → Out) : (Out.brk ρ S).bind f = .brk ρ S := (rfl)
@[simp] theorem Out.bind_cont (ρ : Env) (S : Store) (f : Env → Store → Out) : (Out.cont ρ S).bind f = .cont ρ S := (rfl)
@[simp] theorem Out.bind_ex (x : Exn) (ρ : Env) (S : Store) (f : Env → Store → Out) : (Out.ex x ρ S).bind f = .ex x ρ S := (rfl)
@[simp] theorem Out.bind_no (f : Env → Store → Out) : Out.no.bind f = .no := (rfl)
def sNil : SS := fun ρ S => .next ρ S
def sSeq (f k : SS) : SS := fun ρ S => (f ρ S).bind k
theorem vb_nil : VB g F [] sNil := fun X W cx fr tk => pss_nil.mono fun D σ H q => by
  obtain ⟨G, m, ρ, S, rs, re, x, p⟩ := q
  exact p G m H σ Ev.refl rs re
variable {st : Stmt} {sts : List Stmt} {f k : SS}
theorem vb_cons (h : VS g F st f) (hk : VB g F sts k) : VB g F (st :: sts) (sSeq f k) := fun X W cx fr tk => (pss_cons (h X W cx fr tk) (hk X W cx fr tk)).mono fun D σ H q => by
  obtain ⟨G, m, ρ, S, rs, re, x, p⟩ := q
  refine ⟨G, m, ρ, S, rs, re, True.intro, ?_⟩
  unfold sSeq at p
  cases e : f ρ S with
  | next ρ' S' =>
    rw [e, Out.bind_next] at p
    exact fun G' m' H' σ' e2 s t => ⟨G', m', ρ', S', s, t, True.intro, p.up e2⟩
  | ret d S' => rw [e] at p; exact p
  | brk ρ' S' => rw [e] at p; exact p
  | cont ρ' S' => rw [e] at p; exact p
  | ex x' ρ' S' => rw [e] at p; exact p
  | no => rw [e] at p; exact p
theorem vb_one (h : VS g F st f) : VB g F [st] f := fun X W cx fr tk => pss_one (h X W cx fr tk)

/-- a statement that goes by the answer of an expression -/
def sBy {α : Type} (f : Env → Store → Res α) (k : α → SS) : SS := fun ρ S => match f ρ S with
  | .ok a S1 => k a ρ S1
  | .ex x S1 => .ex x ρ S1
  | .no => .no
theorem rd_by {U α : Type} {rel : Hp → List Addr → U → α → Prop} {Y : Hp → List Addr → Prop} (mY : MonX Y) {W : WX} {f : Env → Store → Res α} {k : α → SS} {D : Ends} {σ : St} {H : Hp} (q : rdSX g Y W (sBy f k) D σ H) :
    rd g rel W f σ H fun u H1 => ∃ a, rdSX g (fun G m => Y G m ∧ rel G m u a) W (k a) D σ H1 := by
  obtain ⟨G, m, ρ, S, rs, re, x, p⟩ := q
  refine ⟨G, m, ρ, S, rs, re, True.intro, ?_⟩
  unfold sBy at p
  cases e : f ρ S with
  | ok a S1 =>
    rw [e] at p
    exact fun G' m' H' u e2 s t => ⟨a, G', m', ρ, S1, s, re.mono e2.sub e2.pre, ⟨mY _ _ _ _ e2.sub e2.pre x, t⟩, p.up e2⟩
  | ex y S1 =>
    rw [e] at p
    exact fun G' m' H' cls dx e2 s t => p G' m' H' σ cls dx e2 s (re.mono e2.sub e2.pre) t
  | no =>
    rw [e] at p
    exact p
/-- a statement that leaves the names: what is wanted behind it, of the part alone -/
theorem rd_unit {U α : Type} {rel : Hp → List Addr → U → α → Prop} {Y : Hp → List Addr → Prop} {W : WX} {f : Env → Store → Res α} {k : α → Env → Env} {D : Ends} {σ : St} {H : Hp} {Q : U → Hp → Prop} (q : rdSX g Y W (sBy f fun a ρ S => .next (k a ρ) S) D σ H)
    (h : ∀ G m ρ a u H1, RE g G m ρ σ → rel G m u a → (∀ σ', RE g G m (k a ρ) σ' → D.nx σ' H1) → Q u H1) : rdX g Y rel W f σ H Q := by
  obtain ⟨G, m, ρ, S, rs, re, x, p⟩ := q
  refine ⟨G, m, ρ, S, rs, re, x, ?_⟩
  unfold sBy at p
  cases ez : f ρ S with
  | ok z S1 =>
    rw [ez] at p
    exact fun G' m' H' u e2 s t => h G' m' ρ z u H' (re.mono e2.sub e2.pre) t fun σ' r => p G' m' H' σ' e2 s r
  | ex y S1 =>
    rw [ez] at p
    exact fun G' m' H' cls dx e2 s t => p G' m' H' σ cls dx e2 s (re.mono e2.sub e2.pre) t
  | no =>
    rw [ez] at p
    exact p.elim
def sExpr (f : EE) : SS := sBy f fun _ ρ S => .next ρ S
def sRet (f : EE) : SS := sBy f fun d _ S => .ret d S
def sRetN : SS := fun _ S => .ret .non S
def sIf (t : TT') (f k : SS) : SS := sBy t fun b => if b = true then f else k
theorem vs_expr (h : VE g F e fa) (hs : ∀ env, swapsWith e none pos.line env = pure false := by intro _; rfl) : VS g F (.Expr e pos) (sExpr fa) := fun X W cx fr tk => (ps_expr (h X W cx tk) (hs _)).mono fun D σ H q => by
  refine (rd_by (rel := Rep g) mon_true q).imp fun u H1 q2 => ?_
  obtain ⟨d, G, m, ρ, S, rs, re, x, p⟩ := q2
  exact p G m H1 σ Ev.refl rs re
theorem vs_doc {x : Str} {j : Nat} {p : Pos} : VS g F (.Expr (.Constant (.str x) j p) pos) sNil := fun X W cx fr tk => ps_doc.mono fun D σ H q => by
  obtain ⟨G, m, ρ, S, rs, re, x, p⟩ := q
  exact p G m H σ Ev.refl rs re
theorem vs_pass : VS g F (.Pass pos) sNil := fun X W cx fr tk => ps_pass.mono fun D σ H q => by
  obtain ⟨G, m, ρ, S, rs, re, x, p⟩ := q
  exact p G m H σ Ev.refl rs re
theorem vs_break : VS g F (.Break pos) (fun ρ S => .brk ρ S) := fun X W cx fr tk => ps_break.mono fun D σ H q => by
  obtain ⟨G, m, ρ, S, rs, re, x, p⟩ := q
  exact p G m H σ Ev.refl rs re
theorem vs_cont : VS g F (.Continue pos) (fun ρ S => .cont ρ S) := fun X W cx fr tk => ps_continue.mono fun D σ H q => by
  obtain ⟨G, m, ρ, S, rs, re, x, p⟩ := q
  exact p G m H σ Ev.refl rs re
/-- a way that is not taken -/
theorem vs_never : VS g F st (fun _ _ => .no) := fun X W cx fr tk => ps_never.mono fun D σ H q => by
  obtain ⟨G, m, ρ, S, rs, re, x, p⟩ := q
  exact p
theorem vs_ret (h : VE g F e fa) : VS g F (.Return (some e) pos) (sRet fa) := fun X W cx fr tk => (ps_ret (h X W cx tk)).mono fun D σ H q => by
  refine (rd_by (rel := Rep g) mon_true q).imp fun u H1 q2 => ?_
  obtain ⟨d, G, m, ρ, S, rs, re, x, p⟩ := q2
  exact p G m H1 u Ev.refl rs x.2
theorem vs_retN : VS g F (.Return none pos) sRetN := fun X W cx fr tk => ps_retN.mono fun D σ H q => by
  obtain ⟨G, m, ρ, S, rs, re, x, p⟩ := q
  exact p G m H _ Ev.refl rs .non
theorem vs_if {as bs : List Stmt} (ht : VT g F c ta) (h1 : VB g F as f) (h2 : VB g F bs k) : VS g F (.If c as bs pos) (sIf ta f k) := fun X W cx fr tk => (ps_if (ht X W cx tk) (h1 X W cx fr tk) (h2 X W cx fr tk)).mono fun D σ H q => by
  refine (rd_by (rel := fun _ _ u b => u = b) mon_true q).imp fun u H1 q2 => ?_
  obtain ⟨d, G, m, ρ, S, rs, re, x, p⟩ := q2
  have e : u = d := x.2
  subst e
  cases u with
  | true => exact iteT ⟨G, m, ρ, S, rs, re, True.intro, by simpa using p⟩
  | false => exact iteF ⟨G, m, ρ, S, rs, re, True.intro, by simpa using p⟩

/-! ### targets -/
inductive Tg where
  | nm (i : Nat) | tup (ts : List Tg)
mutual
def setT : Tg → D → Env → Option Env
  | .nm i, d, ρ => some (ρ.set i (some d))
  | .tup ts, d, ρ => match d with
    | .tup ds => setTs ts ds ρ
    | _ => none
def setTs : List Tg → List D → Env → Option Env
  | [], [], ρ => some ρ
  | t :: ts, d :: ds, ρ => (setT t d ρ).bind fun ρ' => setTs ts ds ρ'
  | _, _, _ => none
end
mutual
def slotsT : Tg → List Nat
  | .nm i => [i]
  | .tup ts => slotsTs ts
def slotsTs : List Tg → List Nat
  | [] => []
  | t :: ts => slotsT t ++ slotsTs ts
end
mutual
/-- the layer's reading of a target -/
def gT (K : PySem.W.Frag) : Tg → TG
  | .nm i => gName i
  | .tup ts => gTup K ts.length (gTs K ts)
def gTs (K : PySem.W.Frag) : List Tg → TGs
  | [] => gNil
  | t :: ts => gCons (gT K t) (gTs K ts)
end
/-- off the slots vs nothing changes -/
def Off (vs : List Nat) (σ σ' : St) : Prop := σ'.length = σ.length ∧ ∀ i, i ∉ vs → σ'[i]? = σ[i]?
theorem Off.refl {vs : List Nat} {σ : St} : Off vs σ σ := ⟨rfl, fun _ _ => rfl⟩
theorem setTs_length : ∀ {ts : List Tg} {ds : List D} {ρ ρ' : Env}, setTs ts ds ρ = some ρ' → ts.length = ds.length
  | [], [], _, _, _ => rfl
  | [], _ :: _, _, _, h => by simp [setTs] at h
  | _ :: _, [], _, _, h => by simp [setTs] at h
  | t :: ts, d :: ds, ρ, ρ', h => by
    unfold setTs at h
    cases e : setT t d ρ with
    | none =>
      rw [e] at h
      cases h
    | some ρ1 =>
      rw [e] at h
      exact congrArg Nat.succ (setTs_length (ρ := ρ1) h)
mutual
theorem gT_ok (rs : RS g G m S H) : ∀ (t : Tg) (d : D) (v : V) (ρ ρ' : Env) (σ : St) (Q : St → Hp → Prop), RE g G m ρ σ → Rep g G m v d → setT t d ρ = some ρ' → (∀ σ', RE g G m ρ' σ' → Off (slotsT t) σ σ' → Q σ' H) → gT g.K t v σ H Q
  | .nm i, d, v, ρ, ρ', σ, Q, re, r, h, q => by
    unfold setT at h
    cases h
    unfold gT
    refine q _ (re.set i r) ⟨by simp, fun j hj => ?_⟩
    unfold slotsT at hj
    rw [List.getElem?_set_ne (fun z => hj (by simp [z]))]
  | .tup ts, d, v, ρ, ρ', σ, Q, re, r, h, q => by
    unfold setT at h
    split at h
    · rename_i ds
      cases r with
      | tup h1 r1 =>
        unfold gT
        exact ⟨_, _, rfl, sqT_same rs.sub h1, by rw [r1.length]; exact (setTs_length h).symm, gTs_ok rs ts ds _ ρ ρ' σ Q re r1 h q⟩
    · cases h
theorem gTs_ok (rs : RS g G m S H) : ∀ (ts : List Tg) (ds : List D) (vs : List V) (ρ ρ' : Env) (σ : St) (Q : St → Hp → Prop), RE g G m ρ σ → Reps g G m vs ds → setTs ts ds ρ = some ρ' → (∀ σ', RE g G m ρ' σ' → Off (slotsTs ts) σ σ' → Q σ' H) → gTs g.K ts vs σ H Q
  | [], ds, vs, ρ, ρ', σ, Q, re, r, h, q => by
    cases r with
    | nil =>
      unfold setTs at h
      cases h
      unfold gTs
      exact ⟨rfl, q _ re Off.refl⟩
    | cons _ _ => simp [setTs] at h
  | t :: ts, ds, vs, ρ, ρ', σ, Q, re, r, h, q => by
    cases r with
    | nil => simp [setTs] at h
    | @cons v d vs ds r1 r2 =>
      unfold setTs at h
      cases e : setT t d ρ with
      | none =>
        rw [e] at h
        cases h
      | some ρ1 =>
        rw [e] at h
        unfold gTs
        refine ⟨_, _, rfl, gT_ok rs t d v ρ ρ1 σ _ re r1 e fun σ1 re1 o1 => ?_⟩
        refine gTs_ok rs ts ds vs ρ1 ρ' σ1 _ re1 r2 h fun σ2 re2 o2 => q σ2 re2 ⟨o2.1.trans o1.1, fun i hi => ?_⟩
        unfold slotsTs at hi
        rw [List.mem_append, not_or] at hi
        rw [o2.2 i hi.2, o1.2 i hi.1]
end
def VG (g : GC) (F : Fm) (tg : Expr) (t : Tg) : Prop := ∀ X, CxOk g F X → PG X tg (gT g.K t)
def VGs (g : GC) (F : Fm) (tg : List Expr) (t : List Tg) : Prop := ∀ X, CxOk g F X → PGs X tg (gTs g.K t)
/-- a name that may be stored -/
def locB (F : Fm) (i : Nat) (x : Str) : Bool := decide (F.N[i]? = some x) && match F.sc.names.lookup x with
  | some .local => true
  | some .cell => F.cl x
  | _ => false
theorem loc_of {X : Cx} {i : Nat} {x : Str} (cx : CxOk g F X) (h : locB F i x = true) : X.N[i]? = some x ∧ L2.Loc X.env.scope x ∧ (X.fn x = true ∨ X.env.scope.names.lookup x = some .local) := by
  unfold locB at h
  rw [Bool.and_eq_true, decide_eq_true_eq] at h
  obtain ⟨h1, h2⟩ := h
  rw [cx.N, cx.sc]
  refine ⟨h1, ?_⟩
  unfold L2.Loc
  split at h2
  · rename_i e
    exact ⟨.inl e, .inr e⟩
  · rename_i e
    exact ⟨.inr e, .inl (cx.fn _ h2)⟩
  · cases h2
theorem CxOk.nd' {X : Cx} (cx : CxOk g F X) : X.N.Nodup := by
  rw [cx.N]
  exact cx.nd
theorem vg_name {i : Nat} {x : Str} (h : locB F i x = true) : VG g F (.Name x pos) (.nm i) := fun X cx => by
  obtain ⟨h1, h2, h3⟩ := loc_of cx h
  unfold gT
  exact pg_name cx.nd' h1 h2 h3
theorem vgs_nil : VGs g F [] [] := fun X cx => by
  unfold gTs
  exact pgs_nil
theorem vgs_cons {t : Tg} {ts : List Tg} (h : VG g F e t) (hs : VGs g F es ts) (hm : ∀ env, (assignEach (e :: es) env).map (·.2) = assign e env :: (assignEach es env).map (·.2) := by intro _; rfl) : VGs g F (e :: es) (t :: ts) := fun X cx => by
  unfold gTs
  exact pgs_cons (h X cx) (hs X cx) (hm _)
theorem vg_tup {ts : List Tg} {n : Nat} (h : VGs g F es ts) (hn : ∀ env, (assignEach es env).length = ts.length := by intro _; rfl) (hst : ∀ env, (assignEach es env).findIdx? (·.1) = none := by intro _; rfl) (hot : F.hot = false := by rfl) : VG g F (.Tuple es n pos) (.tup ts) := fun X cx => by
  unfold gT
  have z := h X cx
  rw [← cx.K] at z ⊢
  exact pg_tup (cx.calm hot) z (hn _) (hst _)
def sSet (t : Tg) (f : EE) : SS := sBy f fun d ρ S => match setT t d ρ with
  | some ρ' => .next ρ' S
  | none => .no
theorem vs_set {t : Tg} (he : VE g F e fa) (hg : VG g F a t) (hs : ∀ env, swapsWithSole [a] e pos.line env = pure false := by intro _; rfl) (hw : ∀ env, swappedStores [a] e env = pure none := by intro _; rfl) (h1 : ∀ env, (assignEach [a] env).map (·.2) = [assign a env] := by intro _; rfl) :
    VS g F (.Assign [a] e pos) (sSet t fa) := fun X W cx fr tk => (ps_asg (he X W cx tk) (hg X cx) (hs _) (hw _) (h1 := h1 _)).mono fun D σ H q => by
  refine (rd_by (rel := Rep g) mon_true q).imp fun u H1 q2 => ?_
  obtain ⟨d, G, m, ρ, S, rs, re, x, p⟩ := q2
  dsimp only at p
  split at p
  · rename_i ρ' hr
    exact gT_ok rs t d u ρ ρ' σ _ re x.2 hr fun σ' re' _ => p G m H1 σ' Ev.refl rs re'
  · exact p.elim
/-- x op= e -/
def sAug (i : Nat) (o : Op2) (f : EE) : SS := fun ρ S => match ρ[i]? with
  | some (some x) => sBy (fun ρ S => (f ρ S).bind fun y S1 => o x y S1) (fun z ρ S => .next (ρ.set i (some z)) S) ρ S
  | _ => .no
structure IpZ (g : GC) (F : Fm) (op : Operator) (o : Op2) where
  r : TIp
  ok : ∀ X, CxOk g F X → PIp X op r
  an : OpZ g r o
def ipAdd : IpZ g F .Add (oI fun i j => i + j) := ⟨_, fun _ _ => ip_add, opz_I⟩
def ipSub : IpZ g F .Sub (oI fun i j => i - j) := ⟨_, fun _ _ => ip_sub, opz_I⟩
theorem vs_aug {i : Nat} {x : Str} {op : Operator} {o : Op2} {p : Pos} (ip : IpZ g F op o) (h : locB F i x = true) (he : VE g F e fa) : VS g F (.AugAssign (.Name x p) op e pos) (sAug i o fa) := fun X W cx fr tk => by
  obtain ⟨h1, h2, h3⟩ := loc_of cx h
  refine (ps_aug cx.nd' h1 h2 (he X W cx tk) (ip.ok X cx) h3).mono fun D σ H q => ?_
  obtain ⟨G, m, ρ, S, rs, re, x, p⟩ := q
  unfold sAug at p
  split at p
  · rename_i d hd
    obtain ⟨v, hv, rv⟩ := re.2 i d hd
    refine ⟨v, hv, ?_⟩
    have q1 : rdSX g (fun G m => Rep g G m v d) W (sBy (fun ρ S => (fa ρ S).bind fun y S1 => o d y S1) (fun z ρ S => .next (ρ.set i (some z)) S)) D σ H := ⟨G, m, ρ, S, rs, re, rv, p⟩
    have q2 := rd_unit (rel := Rep g) (Q := fun z H2 => D.nx (σ.set i (some z)) H2) q1 fun G m ρ a u H1 re r k => k _ (re.set i r)
    refine (rdX_bind (relα := Rep g) mon_rep q2).imp fun u H2 q3 => ?_
    obtain ⟨y, G3, m3, ρ3, S3, rs3, re3, x3, p3⟩ := q3
    exact ip.an W σ H2 _ G3 m3 S3 v u d y rs3 x3.1 x3.2 p3
  · exact p.elim

/-! ### fields -/
/-- a class whose fields are told -/
structure ClsZ (g : GC) (c : Nat) : Prop where
  at_ : ∃ C, g.cad c = some C ∧ Cls g.K C ∧ ∀ f ∈ g.fld c, NoAttr g.K C f
  nd : (g.fld c).Nodup
  few : (g.fld c).length ≤ 900
theorem zip_lookup : ∀ {fs : List Str} {vs : List V} {i : Nat} {f : Str} {v : V}, fs.Nodup → fs[i]? = some f → vs[i]? = some v → (fs.zip vs).lookup f = some v
  | [], _, _, _, _, _, h, _ => by simp at h
  | _ :: _, [], _, _, _, _, _, h => by simp at h
  | f0 :: fs, v0 :: vs, 0, f, v, _, h, k => by
    simp at h k
    subst h k
    simp [List.lookup]
  | f0 :: fs, v0 :: vs, i + 1, f, v, n, h, k => by
    have h' : fs[i]? = some f := by simpa using h
    have ne : (f == f0) = false := by
      rw [beq_eq_false_iff_ne]
      intro z
      subst z
      exact (List.nodup_cons.mp n).1 (List.mem_of_getElem? h')
    rw [List.zip_cons_cons, List.lookup_cons, ne]
    exact zip_lookup (List.nodup_cons.mp n).2 h' (by simpa using k)
/-- the object behind a value: its class, its fields' values -/
def objOf (S : Store) : D → Option (Nat × List D)
  | .obj c ds => some (c, ds)
  | .ref k => match S[k]? with
    | some (some (.obj c ds)) => some (c, ds)
    | _ => none
  | _ => none
theorem obj_at {v : V} {d : D} {c : Nat} {ds : List D} (rs : RS g G m S H) (r : Rep g G m v d) (h : objOf S d = some (c, ds)) :
    ∃ a C dx vs, v = .ref a ∧ g.cad c = some C ∧ H a = some (.ins C dx ((g.fld c).zip vs)) ∧ Reps g G m vs ds := by
  unfold objOf at h
  split at h
  · cases h
    cases r with
    | obj hc h1 hl r1 => exact ⟨_, _, _, _, rfl, hc, rs.sub _ _ h1, r1⟩
  · rename_i k
    split at h
    · rename_i c' es he
      cases h
      cases r with
      | ref hk =>
        obtain ⟨_, C, dx, vs, h0, h1, h2, h3⟩ := rs.cell _ _ _ he hk
        exact ⟨_, C, dx, vs, rfl, h0, h1, h3⟩
    · cases h
  · cases h
/-- e.f: t tells, by the class, which field it is -/
def eFld (t : List (Nat × Nat)) (f : EE) : EE := fun ρ S => (f ρ S).bind fun x S1 => match objOf S1 x with
  | some (c, ds) => match t.lookup c with
    | some i => match ds[i]? with
      | some d => .ok d S1
      | none => .no
    | none => .no
  | none => .no
theorem mem_of_lk {t : List (Nat × Nat)} {c i : Nat} (h : t.lookup c = some i) : (c, i) ∈ t := by
  induction t with
  | nil => simp at h
  | cons p t ih =>
    obtain ⟨c', i'⟩ := p
    rw [List.lookup_cons] at h
    split at h
    · rename_i hb
      cases h
      rw [beq_iff_eq] at hb
      subst hb
      exact List.mem_cons_self
    · exact List.mem_cons_of_mem _ (ih h)
theorem ve_fld {f : Str} {t : List (Nat × Nat)} (ht : ∀ p ∈ t, ClsZ g p.1 ∧ (g.fld p.1)[p.2]? = some f) (ha : VE g F a fa) (hb : ∀ env, attributeBase a f env (eval a env) = eval a env := by intro _; rfl) : VE g F (.Attribute a f pos) (eFld t fa) := fun X W cx tk =>
  (pe_fld (ha X W cx tk) (hb _)).mono fun σ H Q q => by
    refine (rdX_bind (relα := Rep g) mon_true q).imp fun u H1 q2 => ?_
    obtain ⟨d, G, m, ρ, S, rs, re, x, p⟩ := q2
    dsimp only at p
    split at p
    · rename_i c ds hc
      split at p
      · rename_i i hi
        split at p
        · rename_i d' hd
          obtain ⟨z, hf⟩ := ht (c, i) (mem_of_lk hi)
          dsimp only at z hf
          obtain ⟨C, h1, h2, h3⟩ := z.at_
          obtain ⟨a', C', dx, vs, rfl, h4, h5, h6⟩ := obj_at rs x.2 hc
          rw [h1] at h4
          cases h4
          obtain ⟨v, hv, rv⟩ := h6.get hd
          exact ⟨a', C, dx, _, v, rfl, h5, by rw [cx.K]; exact h2, by rw [cx.K]; exact h3 f (List.mem_of_getElem? hf), zip_lookup z.nd hf hv, p G m H1 v Ev.refl rs rv⟩
        · exact p.elim
      · exact p.elim
    · exact p.elim
theorem putF_new {f : Str} {v : V} : ∀ {l : List (Str × V)}, f ∉ l.map (·.1) → putF f v l = l ++ [(f, v)]
  | [], _ => rfl
  | (f0, v0) :: l, h => by
    rw [List.map_cons, List.mem_cons, not_or] at h
    show (if f0 = f then (f0, v) :: l else (f0, v0) :: putF f v l) = _
    rw [if_neg (fun z => h.1 z.symm), putF_new h.2]
    rfl
theorem zip_put : ∀ {fs : List Str} {vs : List V} {i : Nat} {f : Str} {v : V}, fs.Nodup → fs[i]? = some f → i < vs.length → putF f v (fs.zip vs) = fs.zip (vs.set i v)
  | [], _, _, _, _, _, h, _ => by simp at h
  | _ :: _, [], _, _, _, _, _, h => by simp at h
  | f0 :: fs, v0 :: vs, 0, f, v, _, h, _ => by
    simp at h
    subst h
    show (if f0 = f0 then (f0, v) :: fs.zip vs else _) = _
    rw [if_pos rfl]
    rfl
  | f0 :: fs, v0 :: vs, i + 1, f, v, n, h, k => by
    have h' : fs[i]? = some f := by simpa using h
    have ne : ¬ f0 = f := by
      intro z
      subst z
      exact (List.nodup_cons.mp n).1 (List.mem_of_getElem? h')
    show (if f0 = f then _ else (f0, v0) :: putF f v (fs.zip vs)) = _
    rw [if_neg ne, zip_put (List.nodup_cons.mp n).2 h' (by simpa using k)]
    rfl
theorem zip_add {fs : List Str} {vs : List V} {f : Str} {v : V} (n : fs.Nodup) (h : fs[vs.length]? = some f) : putF f v (fs.zip vs) = fs.zip (vs ++ [v]) := by
  have hl := (List.getElem?_eq_some_iff.mp h).1
  have e : fs = fs.take vs.length ++ f :: fs.drop (vs.length + 1) := by
    obtain ⟨h1, h2⟩ := List.getElem?_eq_some_iff.mp h
    rw [← h2, ← List.drop_eq_getElem_cons h1]
    exact (List.take_append_drop _ _).symm
  rw [putF_new]
  · conv => rhs; rw [e]
    have l1 : (fs.take vs.length).length = vs.length := by rw [List.length_take]; omega
    rw [List.zip_append l1]
    have e3 : fs.zip vs = (fs.take vs.length).zip vs := by
      conv => lhs; rw [e]
      rw [show (fs.take vs.length ++ f :: fs.drop (vs.length + 1)).zip vs = (fs.take vs.length ++ f :: fs.drop (vs.length + 1)).zip (vs ++ []) by rw [List.append_nil], List.zip_append l1]
      simp
    rw [e3, List.zip_cons_cons, List.zip_nil_right]
  · intro hm
    rw [List.mem_map] at hm
    obtain ⟨p, hp, ep⟩ := hm
    obtain ⟨i, hi⟩ := List.getElem?_of_mem hp
    have e1 := List.getElem?_zip_eq_some.mp hi
    have e2 := nodup_at n (by rw [← ep]; exact e1.1) h
    have e3 := (List.getElem?_eq_some_iff.mp e1.2).1
    omega
/-- e.f = value, of an object that may change -/
def oPut (c i : Nat) (x y : D) (S : Store) : Option Store := match x with
  | .ref k => match S[k]? with
    | some (some (.obj c' ds)) => if c' = c then (if i < ds.length then some (S.set k (some (.obj c (ds.set i y)))) else if i = ds.length then some (S.set k (some (.obj c (ds ++ [y])))) else none) else none
    | _ => none
  | _ => none
def sFldZ (c i : Nat) (fo fv : EE) : SS := sBy (fun ρ S => (fv ρ S).bind fun y S1 => (fo ρ S1).bind fun x S2 => match oPut c i x y S2 with
  | some S3 => .ok () S3
  | none => .no) fun _ ρ S => .next ρ S
theorem put_at {c i : Nat} {x y : V} {d e : D} {S' : Store} {f : Str} (z : ClsZ g c) (hf : (g.fld c)[i]? = some f) (rs : RS g G m S H) (rx : Rep g G m x d) (ry : Rep g G m y e) (h : oPut c i d e S = some S') :
    ∃ a C dx fs, x = .ref a ∧ H a = some (.ins C dx fs) ∧ Cls g.K C ∧ NoAttr g.K C f ∧ fs.length < 1000 ∧ g.cad c = some C ∧ RS g G m S' (upd H a (.ins C dx (putF f y fs))) ∧ Ev G m H G m (upd H a (.ins C dx (putF f y fs))) := by
  obtain ⟨C, h1, h2, h3⟩ := z.at_
  unfold oPut at h
  split at h
  · rename_i k
    split at h
    · rename_i c' ds hk
      split at h
      · rename_i ec
        subst ec
        cases rx with
        | @ref _ a hm =>
          obtain ⟨_, C', dx, vs, q0, q1, q2, q3⟩ := rs.cell _ _ _ hk hm
          rw [h1] at q0
          cases q0
          have hl := z.few
          have hv := q3.length
          refine ⟨a, C, dx, _, rfl, q1, h2, h3 f (List.mem_of_getElem? hf), by rw [List.length_zip]; omega, h1, ?_, .put hm⟩
          split at h
          · rename_i hi
            cases h
            rw [zip_put z.nd hf (by omega)]
            exact rs.put hk hm ⟨C, dx, _, h1, upd_same, by simpa using q2, q3.set i ry⟩
          · split at h
            · rename_i hi
              cases h
              rw [zip_add z.nd (by rw [hv, ← hi]; exact hf)]
              have hlt := (List.getElem?_eq_some_iff.mp hf).1
              refine rs.put hk hm ⟨C, dx, _, h1, upd_same, ?_, q3.append (.one ry)⟩
              rw [List.length_append, List.length_singleton]
              omega
            · cases h
      · cases h
    · cases h
  · cases h
theorem vs_fld {c i : Nat} {f : Str} {p : Pos} (z : ClsZ g c) (hf : (g.fld c)[i]? = some f) (ho : VE g F a fa) (hv : VE g F e fb) (hs : ∀ env, swapsWith e (some (.Attribute a f p)) pos.line env = pure false := by intro _; rfl) :
    VS g F (.Assign [.Attribute a f p] e pos) (sFldZ c i fa fb) := fun X W cx fr tk => (ps_fld (ho X W cx tk) (hv X W cx tk) (hs _)).mono fun D σ H q => by
  have q0 := rd_unit (rel := fun _ _ (_ : Unit) (_ : Unit) => True) (k := fun _ ρ => ρ) (Q := fun _ H1 => D.nx σ H1) q fun G m ρ a u H1 re r k => k _ re
  refine (rdX_bind (relα := Rep g) mon_true q0).imp fun y H1 q2 => ?_
  obtain ⟨d, q2⟩ := q2
  refine (rdX_bind (relα := Rep g) (mon_true.and mon_rep) q2).imp fun u H2 q3 => ?_
  obtain ⟨e', G, m, ρ, S, rs, re, x, p⟩ := q3
  dsimp only at p
  split at p
  · rename_i S3 h3
    obtain ⟨a, C, dx, fs, h1, h2, h4, h5, h6, _, h7, h8⟩ := put_at z hf rs x.2 x.1.2 h3
    exact ⟨a, C, dx, fs, h1, h2, by rw [cx.K]; exact h4, by rw [cx.K]; exact h5, h6, p G m _ () h8 h7 True.intro⟩
  · exact p.elim
/-- e.f op= value -/
def sFldAugZ (c i : Nat) (o : Op2) (fo fv : EE) : SS := sBy (fun ρ S => (fo ρ S).bind fun x S1 => match objOf S1 x with
  | some (c', ds) => if c' = c then (match ds[i]? with
    | some v => (fv ρ S1).bind fun y S2 => (o v y S2).bind fun z S3 => match oPut c i x z S3 with
      | some S4 => .ok () S4
      | none => .no
    | none => .no) else .no
  | none => .no) fun _ ρ S => .next ρ S
structure InZ (g : GC) (F : Fm) (op : Operator) (o : Op2) where
  r : V → V → Hp → VK → Prop
  ok : ∀ X, CxOk g F X → InOp X op r
  an : OpZ g r o
def inAdd : InZ g F .Add (oI fun i j => i + j) := ⟨_, fun _ _ => in_add, opz_I⟩
def inSub : InZ g F .Sub (oI fun i j => i - j) := ⟨_, fun _ _ => in_sub, opz_I⟩
theorem vs_fldAug {c i : Nat} {f : Str} {p : Pos} {op : Operator} {o : Op2} (ip : InZ g F op o) (z : ClsZ g c) (hf : (g.fld c)[i]? = some f) (ho : VE g F a fa) (hv : VE g F e fb) : VS g F (.AugAssign (.Attribute a f p) op e pos) (sFldAugZ c i o fa fb) := fun X W cx fr tk =>
  (ps_fldaug (ho X W cx tk) (hv X W cx tk) (ip.ok X cx)).mono fun D σ H q => by
  have q0 := rd_unit (rel := fun _ _ (_ : Unit) (_ : Unit) => True) (k := fun _ ρ => ρ) (Q := fun _ H1 => D.nx σ H1) q fun G m ρ a u H1 re r k => k _ re
  refine (rdX_bind (relα := Rep g) mon_true q0).imp fun u H1 q2 => ?_
  obtain ⟨d, G, m, ρ, S, rs, re, x, p⟩ := q2
  dsimp only at p
  obtain ⟨C, k1, k2, k3⟩ := z.at_
  split at p
  · rename_i c' ds hc
    split at p
    · rename_i ec
      subst ec
      split at p
      · rename_i v0 hv0
        obtain ⟨a', C', dx, vs, rfl, h4, h5, h6⟩ := obj_at rs x.2 hc
        rw [k1] at h4
        cases h4
        obtain ⟨v, hv1, rv⟩ := h6.get hv0
        refine ⟨a', C, dx, _, v, rfl, h5, by rw [cx.K]; exact k2, by rw [cx.K]; exact k3 f (List.mem_of_getElem? hf), zip_lookup z.nd hf hv1, ?_⟩
        have q3 : rdX g (fun G m => Rep g G m (.ref a') d ∧ Rep g G m v v0) (fun _ _ (_ : Unit) (_ : Unit) => True) W (fun ρ S1 => (fb ρ S1).bind fun y S2 => (o v0 y S2).bind fun z S3 => match oPut c' i d z S3 with
          | some S4 => .ok () S4
          | none => .no) σ H1 fun _ H1 => D.nx σ H1 := ⟨G, m, ρ, S, rs, re, ⟨x.2, rv⟩, p⟩
        refine (rdX_bind (relα := Rep g) (mon_rep.and mon_rep) q3).imp fun y H2 q4 => ?_
        obtain ⟨y', G2, m2, ρ2, S2, rs2, re2, x2, p2⟩ := q4
        refine ip.an W σ H2 _ G2 m2 S2 v y v0 y' rs2 x2.1.2 x2.2 ?_
        dsimp only at p2
        cases eo : o v0 y' S2 with
        | ok z0 S3 =>
          rw [eo, Res.bind_ok] at p2
          intro G3 m3 H3 u3 e3 rs3 ru3
          split at p2
          · rename_i S4 h4'
            obtain ⟨a2, C2, dx2, fs2, j1, j2, j3, j4, j5, j6, j7, j8⟩ := put_at z hf rs3 (x2.1.1.mono e3.sub e3.pre) ru3 h4'
            cases j1
            rw [k1] at j6
            cases j6
            exact ⟨dx2, fs2, j2, j5, p2 G3 m3 _ () (e3.trans j8) j7 True.intro⟩
          · exact p2.elim
        | ex y3 S3 =>
          rw [eo, Res.bind_ex] at p2
          exact p2
        | no =>
          rw [eo, Res.bind_no] at p2
          exact p2
      · exact p.elim
    · exact p.elim
  · exact p.elim
end
end Z
set_option Elab.async false
set_option linter.all false
set_option maxRecDepth 100000
/-! Z6: what is walked; for, while; list comprehensions. -/
namespace Z
open PySem L2

/-- a list that must stay as it is while it is walked -/
abbrev Hold := Option (Nat × List D)
def holds (S : Store) : Hold → Prop
  | none => True
  | some (k, ds) => S[k]? = some (some (.lst ds))
@[simp] theorem holds_none {S : Store} : holds S none = True := (rfl)
def Goes (g : GC) (J : It) (G : Hp) (m : List Addr) (ds : List D) (h : Hold) : Prop :=
  ∀ G' m' S' H', Same G G' → m <+: m' → RS g G' m' S' H' → holds S' h →
    J.stop ds.length H' ∧ ∀ (i : Nat) (d : D), ds[i]? = some d → J.go i H' ∧ ∀ x H2, J.yld i H' x H2 → ∃ G2, Ev G' m' H' G2 m' H2 ∧ RS g G2 m' S' H2 ∧ Rep g G2 m' x d
theorem Goes.mono {g : GC} {J : It} {G G' : Hp} {m m' : List Addr} {ds : List D} {h : Hold} (x : Goes g J G m ds h) (e : Same G G') (p : m <+: m') : Goes g J G' m' ds h := fun G2 m2 S2 H2 e2 p2 => x G2 m2 S2 H2 (e.trans e2) (p.trans p2)
abbrev II := Env → Store → Res (List D × Hold)
abbrev rdI (g : GC) (W : WX) (f : II) : TI := rd g (fun G m (J : It) a => Goes g J G m a.1 a.2) W f
def VI (g : GC) (F : Fm) (tg it : Expr) (f : II) : Prop := ∀ (X : Cx) (W : WX), CxOk g F X → L2N.Takes X W → PI X tg it (rdI g W f)
theorem _root_.L2.PI.mono {X : Cx} {tg e : Expr} {t t' : TI} (h : PI X tg e t) (i : ∀ σ H Q, t' σ H Q → t σ H Q) : PI X tg e t' := ⟨fun pins s σ H Q I q => h.run pins s σ H Q I (i _ _ _ q)⟩
theorem _root_.L2.PI.or {X : Cx} {tg e : Expr} {t t' : TI} (h : PI X tg e t) (h' : PI X tg e t') : PI X tg e (fun σ H R => t σ H R ∨ t' σ H R) := ⟨fun pins s σ H Q I q => q.elim (h.run pins s σ H Q I) (h'.run pins s σ H Q I)⟩

section
variable {g : GC} {F : Fm} {e a b c tg : Expr} {es : List Expr} {pos : Pos} {fa fb fc : EE} {ka : AA} {G G' H : Hp} {m m' : List Addr} {S : Store}

theorem goes_l {a : Addr} {ds : List D} {h : Hold} (q : ∀ G' m' S' H', Same G G' → m <+: m' → RS g G' m' S' H' → holds S' h → ∃ vs, H' a = some (.lst vs) ∧ Reps g G' m' vs ds) : Goes g (Itl g.K a) G m ds h := fun G' m' S' H' e p rs hh => by
  obtain ⟨vs, h1, h2⟩ := q G' m' S' H' e p rs hh
  refine ⟨⟨vs, SqL.of h1, by rw [h2.length]; exact Nat.le_refl _⟩, fun i d hd => ?_⟩
  obtain ⟨v, hv, rv⟩ := h2.get hd
  refine ⟨⟨vs, v, SqL.of h1, hv⟩, fun x H2 y => ?_⟩
  obtain ⟨rfl, y⟩ := y
  have z := y vs (SqL.of h1)
  rw [hv] at z
  cases z
  exact ⟨G', .refl, rs, rv⟩
theorem goes_s {a : Addr} {ds : List D} {vs : List V} (h : SqL g.K G a vs) (r : Reps g G m vs ds) : Goes g (Itl g.K a) G m ds none := fun G' m' S' H' e p rs hh => by
  have h1 : SqL g.K H' a vs := (e.trans rs.sub).seq h
  have h2 := r.mono e p
  refine ⟨⟨vs, h1, by rw [h2.length]; exact Nat.le_refl _⟩, fun i d hd => ?_⟩
  obtain ⟨v, hv, rv⟩ := h2.get hd
  refine ⟨⟨vs, v, h1, hv⟩, fun x H2 y => ?_⟩
  obtain ⟨rfl, y⟩ := y
  have z := y vs h1
  rw [hv] at z
  cases z
  exact ⟨G', .refl, rs, rv⟩
theorem goes_t {a : Addr} {ds : List D} {vs : List V} (h : SqT g.K G a vs) (r : Reps g G m vs ds) : Goes g (Itt g.K a) G m ds none := fun G' m' S' H' e p rs hh => by
  have h1 : SqT g.K H' a vs := sqT_same (e.trans rs.sub) h
  have h2 := r.mono e p
  refine ⟨⟨vs, h1, by rw [h2.length]; exact Nat.le_refl _⟩, fun i d hd => ?_⟩
  obtain ⟨v, hv, rv⟩ := h2.get hd
  refine ⟨⟨vs, v, h1, hv⟩, fun x H2 y => ?_⟩
  obtain ⟨rfl, y⟩ := y
  have z := y vs h1
  rw [hv] at z
  cases z
  exact ⟨G', .refl, rs, rv⟩
/-- the items of a list or a tuple -/
def itemsOf (S : Store) : D → Option (List D × Hold)
  | .tup ds => some (ds, none)
  | .lst ds => some (ds, none)
  | .seq ds => some (ds, none)
  | .ref k => match S[k]? with
    | some (some (.lst ds)) => some (ds, some (k, ds))
    | _ => none
  | _ => none
def iSeq (f : EE) : II := fun ρ S => (f ρ S).bind fun x S1 => match itemsOf S1 x with
  | some p => .ok p S1
  | none => .no
theorem vi_seq (ha : VE g F a fa) : VI g F tg a (iSeq fa) := fun X W cx tk => ((pi_list (ha X W cx tk)).or (pi_tup (ha X W cx tk))).mono fun σ H R q => by
  obtain ⟨G, m, ρ, S, rs, re, x, p⟩ := q
  unfold iSeq at p
  cases ef : fa ρ S with
  | ok d S1 =>
    rw [ef, Res.bind_ok] at p
    by_cases ht : ∃ ds, d = .tup ds
    · obtain ⟨ds, rfl⟩ := ht
      refine .inr ⟨G, m, ρ, S, rs, re, True.intro, ?_⟩
      rw [ef]
      intro G' m' H' u e s r
      cases r with
      | tup h1 r1 =>
        refine ⟨_, rfl, ⟨_, by rw [cx.K]; exact sqT_same s.sub h1⟩, ?_⟩
        rw [cx.K]
        exact p G' m' H' _ e s (goes_t h1 r1)
    · refine .inl ⟨G, m, ρ, S, rs, re, True.intro, ?_⟩
      rw [ef]
      intro G' m' H' u e s r
      rw [cx.K]
      unfold itemsOf at p
      cases r with
      | tup h1 r1 => exact absurd ⟨_, rfl⟩ ht
      | lst h1 r1 => exact ⟨_, rfl, ⟨_, SqL.of (s.sub _ _ h1)⟩, p G' m' H' _ e s (goes_s (SqL.of h1) r1)⟩
      | seq h1 r1 => exact ⟨_, rfl, ⟨_, s.sub.seq h1⟩, p G' m' H' _ e s (goes_s h1 r1)⟩
      | @ref k l hk =>
        dsimp only at p
        split at p
        · rename_i pr hpr
          split at hpr
          · rename_i ds hds
            cases hpr
            obtain ⟨_, vs, h1, h2⟩ := s.cell _ _ _ hds hk
            refine ⟨_, rfl, ⟨_, SqL.of h1⟩, p G' m' H' _ e s (goes_l fun G2 m2 S2 H2 e2 p2 rs2 hh => ?_)⟩
            obtain ⟨_, ws, k1, k2⟩ := rs2.cell _ _ _ hh (get_pre p2 hk)
            exact ⟨ws, k1, k2⟩
          · cases hpr
        · exact p.elim
      | _ => exact p.elim
  | ex y S1 =>
    rw [ef, Res.bind_ex] at p
    refine .inl ⟨G, m, ρ, S, rs, re, True.intro, ?_⟩
    rw [ef]
    exact p
  | no =>
    rw [ef, Res.bind_no] at p
    exact p.elim
/-- the signs of a text -/
def iStrZ (f : EE) : II := fun ρ S => (f ρ S).bind fun x S1 => match x with
  | .str z => .ok (z.cps.toList.map fun c => .str ⟨#[c]⟩, none) S1
  | _ => .no
theorem vi_str (ha : VE g F a fa) : VI g F tg a (iStrZ fa) := fun X W cx tk => (pi_str (ha X W cx tk)).mono fun σ H R q => by
  refine (rdX_bind (relα := Rep g) mon_true q).imp fun u H1 q2 => ?_
  obtain ⟨d, G, m, ρ, S, rs, re, x, p⟩ := q2
  dsimp only at p
  split at p
  · rename_i z
    have r := x.2
    cases r
    refine ⟨z, rfl, p G m H1 _ .refl rs fun G' m' S' H' e pp rs' hh => ?_⟩
    refine ⟨by show z.cps.size ≤ _; simp, fun i d hd => ?_⟩
    rw [List.getElem?_map] at hd
    cases ec : z.cps.toList[i]? with
    | none =>
      rw [ec] at hd
      cases hd
    | some c =>
      rw [ec] at hd
      cases hd
      have hi := (List.getElem?_eq_some_iff.mp ec).1
      refine ⟨by show i < z.cps.size; simpa using hi, fun x H2 y => ?_⟩
      obtain ⟨rfl, c', hc', rfl⟩ := y
      rw [Array.getElem?_toList] at ec
      rw [ec] at hc'
      cases hc'
      exact ⟨G', .refl, rs', .str _⟩
  · exact p.elim
/-- range -/
def rngD (lo : Int) (n : Nat) : List D := (List.range n).map fun i => .int (lo + (i : Nat))
theorem goes_r {lo : Int} {n : Nat} : Goes g (Itr lo n) G m (rngD lo n) none := fun G' m' S' H' e p rs hh => by
  refine ⟨by show n ≤ _; simp [rngD], fun i d hd => ?_⟩
  unfold rngD at hd
  rw [List.getElem?_map] at hd
  cases ec : (List.range n)[i]? with
  | none =>
    rw [ec] at hd
    cases hd
  | some c =>
    rw [ec] at hd
    cases hd
    have hi := (List.getElem?_eq_some_iff.mp ec).1
    rw [List.length_range] at hi
    rw [List.getElem?_range hi] at ec
    cases ec
    refine ⟨hi, fun x H2 y => ?_⟩
    obtain ⟨rfl, rfl⟩ := y
    exact ⟨G', .refl, rs, .int _⟩
def inR (i : Int) : Prop := -(2 ^ 62) ≤ i ∧ i < 2 ^ 62
instance (i : Int) : Decidable (inR i) := by
  unfold inR
  infer_instance
def iRange1 (k : AA) : II := fun ρ S => (k ρ S).bind fun ds S1 => match ds with
  | [.int j] => if inR j then .ok (rngD 0 j.toNat, none) S1 else .no
  | _ => .no
def iRange2 (k : AA) : II := fun ρ S => (k ρ S).bind fun ds S1 => match ds with
  | [.int i, .int j] => if inR i ∧ inR j then .ok (rngD i (j - i).toNat, none) S1 else .no
  | _ => .no
theorem vi_range1 {p : Pos} (hg : glB F "range" = true) (hm : g.mg "range" = none) (ha : VA g F [a] ka) (hs : ∀ env, starEach [a] env = [(false, eval a env)] := by intro _; rfl) : VI g F tg (.Call (.Name "range" p) [a] [] pos) (iRange1 ka) := fun X W cx tk => by
  obtain ⟨g1, g2, g3⟩ := gl_of cx hg
  refine (pi_range1 g1 (by rw [cx.mg]; exact hm) (ha X W cx tk) (hs _)).mono fun σ H R q => ?_
  refine (rdX_bind (relα := Reps g) mon_true q).imp fun u H1 q2 => ?_
  obtain ⟨d, G, m, ρ, S, rs, re, x, p⟩ := q2
  dsimp only at p
  split at p
  · rename_i j
    obtain ⟨v, rfl, rv⟩ := reps1 x.2
    cases rv
    split at p
    · rename_i hj
      exact ⟨j, rfl, hj.1, hj.2, p G m H1 _ .refl rs goes_r⟩
    · exact p.elim
  · exact p.elim
theorem vi_range2 {p : Pos} (hg : glB F "range" = true) (hm : g.mg "range" = none) (ha : VA g F [a, b] ka) (hs : ∀ env, starEach [a, b] env = [(false, eval a env), (false, eval b env)] := by intro _; rfl) (hs2 : ∀ env, starEach [b] env = [(false, eval b env)] := by intro _; rfl) :
    VI g F tg (.Call (.Name "range" p) [a, b] [] pos) (iRange2 ka) := fun X W cx tk => by
  obtain ⟨g1, g2, g3⟩ := gl_of cx hg
  refine (pi_range2 g1 (by rw [cx.mg]; exact hm) (ha X W cx tk) (hs _) (hs2 _)).mono fun σ H R q => ?_
  refine (rdX_bind (relα := Reps g) mon_true q).imp fun u H1 q2 => ?_
  obtain ⟨d, G, m, ρ, S, rs, re, x, p⟩ := q2
  dsimp only at p
  split at p
  · rename_i i j
    obtain ⟨v, w, rfl, rv, rw'⟩ := reps2 x.2
    cases rv
    cases rw'
    split at p
    · rename_i hj
      exact ⟨i, j, rfl, ⟨hj.1.1, hj.1.2, hj.2.1, hj.2.2⟩, p G m H1 _ .refl rs goes_r⟩
    · exact p.elim
  · exact p.elim

/-! ### for -/
open Classical in
noncomputable def forL (h : Hold) (b : D → SS) : List D → SS
  | [], ρ, S => if holds S h then .next ρ S else .no
  | d :: ds, ρ, S => if holds S h then (match b d ρ S with
    | .next ρ' S' => forL h b ds ρ' S'
    | .cont ρ' S' => forL h b ds ρ' S'
    | .brk ρ' S' => .next ρ' S'
    | o => o) else .no
def turnZ (t : Tg) (f : SS) (d : D) : SS := fun ρ S => match setT t d ρ with
  | some ρ' => f ρ' S
  | none => .no
noncomputable def sFor (i : II) (t : Tg) (f : SS) : SS := sBy i fun p => forL p.2 (turnZ t f) p.1
theorem vs_for {i : II} {t : Tg} {f : SS} {body : List Stmt} (hi : VI g F tg e i) (hg : VG g F tg t) (hb : VB g F body f) (hs : ∀ env x, foldedSetIterable e env x = pure x := by intro _ _; rfl) (hot : F.hot = false := by rfl) : VS g F (.For tg e body [] pos) (sFor i t f) := fun X W cx fr tk =>
  (ps_for fr.hp (cx.calm hot) (hi X W cx tk) (hg X cx) (hb X W cx fr tk) (hs _)).mono fun D σ H q => by
    refine (rd_by (rel := fun G m (J : It) (a : List Z.D × Hold) => Goes g J G m a.1 a.2) mon_true q).imp fun J H1 q2 => ?_
    obtain ⟨⟨ds, h⟩, G, m, ρ, S, rs, re, x, p⟩ := q2
    have go : Goes g J G m ds h := x.2
    have p : PoS g W G m H1 D (forL h (turnZ t f) ds ρ S) := p
    refine ⟨fun i n σ H' => n = ds.length - i ∧ i ≤ ds.length ∧ ∃ G' m' ρ' S', Ev G m H1 G' m' H' ∧ RS g G' m' S' H' ∧ RE g G' m' ρ' σ ∧ PoS g W G m H1 D (forL h (turnZ t f) (ds.drop i) ρ' S'), ⟨ds.length, by simp, Nat.zero_le _, G, m, ρ, S, .refl, rs, re, by simpa using p⟩, ?_⟩
    rintro i n σ' H' ⟨rfl, hi', G', m', ρ', S', ev, rs', re', p'⟩
    by_cases hlt : i < ds.length
    · rw [List.drop_eq_getElem_cons hlt] at p'
      unfold forL at p'
      split at p'
      · rename_i hh
        obtain ⟨_, g2⟩ := go G' m' S' H' ev.sub ev.pre rs' hh
        obtain ⟨g3, g4⟩ := g2 i ds[i] (by simp [hlt])
        refine .inr ⟨g3, fun σ H' => ∃ G' m' ρ' S', Ev G m H1 G' m' H' ∧ RS g G' m' S' H' ∧ RE g G' m' ρ' σ ∧ PoS g W G m H1 D (forL h (turnZ t f) (ds.drop (i + 1)) ρ' S'), fun σ2 H2 z => ⟨ds.length - (i + 1), by omega, rfl, hlt, z⟩, fun v H2 y => ?_⟩
        obtain ⟨G2, e2, rs2, r2⟩ := g4 v H2 y
        cases et : setT t ds[i] ρ' with
        | none =>
          have z : turnZ t f ds[i] ρ' S' = .no := by
            unfold turnZ
            rw [et]
          rw [z] at p'
          exact p'.elim
        | some ρ2 =>
          have z : turnZ t f ds[i] ρ' S' = f ρ2 S' := by
            unfold turnZ
            rw [et]
          rw [z] at p'
          refine gT_ok rs2 t ds[i] v ρ' ρ2 σ' _ (re'.mono e2.sub e2.pre) r2 et fun σ3 re3 _ => ?_
          refine ⟨G2, m', ρ2, S', rs2, re3, True.intro, ?_⟩
          have ev2 := ev.trans e2
          cases ef : f ρ2 S' with
          | next ρ3 S3 =>
            rw [ef] at p'
            exact fun G4 m4 H4 σ4 e4 s4 t4 => ⟨G4, m4, ρ3, S3, ev2.trans e4, s4, t4, p'⟩
          | cont ρ3 S3 =>
            rw [ef] at p'
            exact fun G4 m4 H4 σ4 e4 s4 t4 => ⟨G4, m4, ρ3, S3, ev2.trans e4, s4, t4, p'⟩
          | brk ρ3 S3 =>
            rw [ef] at p'
            exact fun G4 m4 H4 σ4 e4 s4 t4 => p' G4 m4 H4 σ4 (ev2.trans e4) s4 t4
          | ret d3 S3 =>
            rw [ef] at p'
            exact fun G4 m4 H4 σ4 e4 s4 t4 => p' G4 m4 H4 σ4 (ev2.trans e4) s4 t4
          | ex x3 ρ3 S3 =>
            rw [ef] at p'
            exact fun G4 m4 H4 σ4 c d e4 s4 t4 => p' G4 m4 H4 σ4 c d (ev2.trans e4) s4 t4
          | no =>
            rw [ef] at p'
            exact p'.elim
      · exact p'.elim
    · have ei : i = ds.length := by omega
      subst ei
      rw [List.drop_length] at p'
      unfold forL at p'
      split at p'
      · rename_i hh
        obtain ⟨g1, _⟩ := go G' m' S' H' ev.sub ev.pre rs' hh
        exact .inl ⟨g1, p' G' m' H' σ' ev rs' re'⟩
      · exact p'.elim

/-! ### while -/
noncomputable def whileN (c : TT') (b : SS) : Nat → Env → Store → Option Out
  | 0, _, _ => none
  | n + 1, ρ, S => match c ρ S with
    | .ok true S1 => match b ρ S1 with
      | .next ρ' S' => whileN c b n ρ' S'
      | .cont ρ' S' => whileN c b n ρ' S'
      | .brk ρ' S' => some (.next ρ' S')
      | o => some o
    | .ok false S1 => some (.next ρ S1)
    | .ex x S1 => some (.ex x ρ S1)
    | .no => some .no
theorem whileN_mono {c : TT'} {b : SS} : ∀ {n k : Nat} {ρ : Env} {S : Store} {o : Out}, whileN c b n ρ S = some o → n ≤ k → whileN c b k ρ S = some o
  | 0, _, _, _, _, h, _ => by cases h
  | n + 1, 0, _, _, _, _, hk => by omega
  | n + 1, k + 1, ρ, S, o, h, hk => by
    unfold whileN at h ⊢
    cases ec : c ρ S with
    | ok t S1 =>
      rw [ec] at h
      cases t with
      | true =>
        cases eb : b ρ S1 with
        | next ρ' S' =>
          simp only [eb] at h ⊢
          exact whileN_mono h (by omega)
        | cont ρ' S' =>
          simp only [eb] at h ⊢
          exact whileN_mono h (by omega)
        | _ =>
          simp only [eb] at h ⊢
          exact h
      | false => exact h
    | ex x S1 =>
      rw [ec] at h
      exact h
    | no =>
      rw [ec] at h
      exact h
open Classical in
noncomputable def sWhile (c : TT') (b : SS) : SS := fun ρ S => if h : ∃ n o, whileN c b n ρ S = some o then Classical.choose (Classical.choose_spec h) else .no
theorem sWhile_of {c : TT'} {b : SS} {n : Nat} {ρ : Env} {S : Store} {o : Out} (h : whileN c b n ρ S = some o) : sWhile c b ρ S = o := by
  have hx : ∃ n o, whileN c b n ρ S = some o := ⟨n, o, h⟩
  unfold sWhile
  rw [dif_pos hx]
  have z := Classical.choose_spec (Classical.choose_spec hx)
  have z1 := whileN_mono z (Nat.le_max_left _ n)
  have z2 := whileN_mono h (Nat.le_max_right (Classical.choose hx) n)
  rw [z1] at z2
  exact Option.some.inj z2
theorem vs_while {t : TT'} {f : SS} {body : List Stmt} (ht : VT g F c t) (hb : VB g F body f) : VS g F (.While c body [] pos) (sWhile t f) := fun X W cx fr tk =>
  (ps_while fr.hp (ht X W cx tk) (hb X W cx fr tk)).mono fun D σ H q => by
    obtain ⟨G, m, ρ, S, rs, re, x, p⟩ := q
    by_cases hx : ∃ n o, whileN t f n ρ S = some o
    · obtain ⟨n, o, hn⟩ := hx
      rw [sWhile_of hn] at p
      refine ⟨fun k σ H' => ∃ G' m' ρ' S', Ev G m H G' m' H' ∧ RS g G' m' S' H' ∧ RE g G' m' ρ' σ ∧ whileN t f k ρ' S' = some o, ⟨n, G, m, ρ, S, .refl, rs, re, hn⟩, ?_⟩
      rintro k σ' H' ⟨G', m', ρ', S', ev, rs', re', hk⟩
      cases k with
      | zero => cases hk
      | succ k =>
        refine ⟨G', m', ρ', S', rs', re', True.intro, ?_⟩
        unfold whileN at hk
        cases ec : t ρ' S' with
        | ok b S1 =>
          rw [ec] at hk
          intro G2 m2 H2 u e2 rs2 eu
          have eu : u = b := eu
          subst eu
          cases u with
          | true =>
            refine iteT ⟨fun σ H' => ∃ G' m' ρ' S', Ev G m H G' m' H' ∧ RS g G' m' S' H' ∧ RE g G' m' ρ' σ ∧ whileN t f k ρ' S' = some o, fun σ3 H3 z => ⟨k, Nat.lt_succ_self _, z⟩, ?_⟩
            refine ⟨G2, m2, ρ', S1, rs2, re'.mono e2.sub e2.pre, True.intro, ?_⟩
            have ev2 := ev.trans e2
            cases ef : f ρ' S1 with
            | next ρ3 S3 =>
              simp only [ef] at hk
              exact fun G4 m4 H4 σ4 e4 s4 t4 => ⟨G4, m4, ρ3, S3, ev2.trans e4, s4, t4, hk⟩
            | cont ρ3 S3 =>
              simp only [ef] at hk
              exact fun G4 m4 H4 σ4 e4 s4 t4 => ⟨G4, m4, ρ3, S3, ev2.trans e4, s4, t4, hk⟩
            | brk ρ3 S3 =>
              simp only [ef] at hk
              cases hk
              exact fun G4 m4 H4 σ4 e4 s4 t4 => p G4 m4 H4 σ4 (ev2.trans e4) s4 t4
            | ret d3 S3 =>
              simp only [ef] at hk
              cases hk
              exact fun G4 m4 H4 σ4 e4 s4 t4 => p G4 m4 H4 σ4 (ev2.trans e4) s4 t4
            | ex x3 ρ3 S3 =>
              simp only [ef] at hk
              cases hk
              exact fun G4 m4 H4 σ4 c d e4 s4 t4 => p G4 m4 H4 σ4 c d (ev2.trans e4) s4 t4
            | no =>
              simp only [ef] at hk
              cases hk
              exact p.elim
          | false =>
            refine iteF ?_
            cases hk
            exact p G2 m2 H2 σ' (ev.trans e2) rs2 (re'.mono e2.sub e2.pre)
        | ex y S1 =>
          rw [ec] at hk
          cases hk
          exact fun G4 m4 H4 c d e4 s4 t4 => p G4 m4 H4 σ' c d (ev.trans e4) s4 (re'.mono e4.sub e4.pre) t4
        | no =>
          rw [ec] at hk
          cases hk
          exact p.elim
    · unfold sWhile at p
      rw [dif_neg hx] at p
      exact p.elim

/-! ### list comprehensions -/
/-- the frame of a comprehension's block -/
def Fm.blk (F : Fm) (scope : Scope) : Fm := { N := F.N, sc := relS scope F.sc, lvl := F.lvl, cl := fun x => scope.names.lookup x == some .cell, hot := F.hot }
theorem cx_blk {X : Cx} (cx : CxOk g F X) (scope : Scope) (s : Shared) (H : Hp) (C : Addr) (cl : List (Str × Addr)) (fp : List Addr) : CxOk g (F.blk scope) (X.blk s H scope (compEnvC scope cl C X.env) fp) :=
  ⟨cx.P, cx.w, cx.K, cx.mg, cx.base, cx.N, by show relS scope X.env.scope = relS scope F.sc; rw [cx.sc], cx.nd, cx.room, cx.calm, cx.un, fun x h => h, fun _ _ _ z => by cases z⟩
theorem takesN {X : Cx} : L2N.Takes X (fun _ _ _ _ => False) := fun _ _ ⟨_, _, _, _, _, _, _, _, _, _, _, _, _, _, _, _, w⟩ => w.elim
def noEx {α : Type} : Res α → Res α
  | .ex _ _ => .no
  | r => r
@[simp] theorem noEx_ok {α : Type} (a : α) (S : Store) : noEx (.ok a S) = .ok a S := (rfl)
@[simp] theorem noEx_no {α : Type} : noEx (.no : Res α) = .no := (rfl)
def wipeZ (ρ : Env) : List Nat → Env
  | [] => ρ
  | v :: vs => (wipeZ ρ vs).set v none
open Classical in
noncomputable def compL (h : Hold) (t : Tg) (c : TT') (e : EE) : List D → Env → Store → List D → Res (List D)
  | [], _, S, acc => if holds S h then .ok acc S else .no
  | d :: ds, ρ, S, acc => if holds S h then (match setT t d ρ with
    | none => .no
    | some ρ' => (noEx (c ρ' S)).bind fun b S1 => if b = true then (noEx (e ρ' S1)).bind fun y S2 => if acc.length < sizeLine then compL h t c e ds ρ S2 (acc ++ [y]) else .no
      else compL h t c e ds ρ S1 acc) else .no
/-- a comprehension: its items -/
noncomputable def aComp (i : II) (t : Tg) (c : TT') (e : EE) (own : List Nat) : AA := fun ρ S => (i ρ S).bind fun p S1 => compL p.2 t c e p.1 (wipeZ ρ own) S1 []
/-- .. as a list that stays -/
noncomputable def eComp (i : II) (t : Tg) (c : TT') (e : EE) (own : List Nat) : EE := fun ρ S => (aComp i t c e own ρ S).bind fun ds S1 => .ok (.lst ds) S1
/-- .. as a list that may change -/
noncomputable def eCompC (i : II) (t : Tg) (c : TT') (e : EE) (own : List Nat) : EE := fun ρ S => (aComp i t c e own ρ S).bind fun ds S1 => .ok (.ref S1.length) (S1 ++ [some (.lst ds)])
def qYes : TT' := fun _ S => .ok true S
def VTs (g : GC) (F : Fm) (ifs : List Expr) (f : TT') : Prop := ∀ (X : Cx) (W : WX), CxOk g F X → L2N.Takes X W → PTs X ifs (rdT g W f)
theorem _root_.L2.PTs.mono {X : Cx} {e : List Expr} {t t' : TT} (h : PTs X e t) (i : ∀ σ H Q, t' σ H Q → t σ H Q) : PTs X e t' := ⟨fun pins s σ H Q I q => h.run pins s σ H Q I (i _ _ _ q)⟩
theorem vts_nil : VTs g F [] qYes := fun X W cx tk => pts_nil.mono fun σ H Q q => rd_kb q
theorem vts_one {t : TT'} (h : VT g F c t) : VTs g F [c] t := fun X W cx tk => pts_one (h X W cx tk)
theorem wipe_at {σ : St} : ∀ {vs : List Nat} {i : Nat}, (wipe σ vs)[i]? = if i ∈ vs ∧ i < σ.length then some none else σ[i]?
  | [], i => by simp [wipe]
  | v :: vs, i => by
    unfold wipe
    by_cases h : v = i
    · subst h
      by_cases hl : v < σ.length
      · rw [List.getElem?_set_self (by rw [wipe_length]; exact hl), if_pos ⟨List.mem_cons_self, hl⟩]
      · rw [List.getElem?_eq_none (by rw [List.length_set, wipe_length]; omega), if_neg (fun z => hl z.2), List.getElem?_eq_none (by omega)]
    · rw [List.getElem?_set_ne h, wipe_at]
      by_cases hm : i ∈ vs
      · simp [hm]
      · have : i ∉ v :: vs := by simp [hm, Ne.symm h]
        simp [hm, this]
theorem wipe_off {σ σ2 : St} {vs sl : List Nat} (o : Off sl (wipe σ vs) σ2) (hs : ∀ i ∈ sl, i ∈ vs) : wipe σ2 vs = wipe σ vs := by
  apply List.ext_getElem?
  intro i
  have hl : σ2.length = σ.length := by rw [o.1, wipe_length]
  rw [wipe_at, wipe_at, hl]
  by_cases hm : i ∈ vs ∧ i < σ.length
  · rw [if_pos hm, if_pos hm]
  · rw [if_neg hm, if_neg hm]
    by_cases hv : i ∈ vs
    · have : ¬ i < σ.length := fun z => hm ⟨hv, z⟩
      rw [List.getElem?_eq_none (by omega), List.getElem?_eq_none (by omega)]
    · have z := o.2 i (fun z => hv (hs i z))
      rw [z, wipe_at, if_neg (fun z => hv z.1)]
theorem wipeZ_length {ρ : Env} : ∀ {vs : List Nat}, (wipeZ ρ vs).length = ρ.length
  | [] => rfl
  | v :: vs => by
    unfold wipeZ
    rw [List.length_set, wipeZ_length]
theorem RE.wipe {ρ : Env} {σ : St} (r : RE g G m ρ σ) : ∀ (vs : List Nat), RE g G m (wipeZ ρ vs) (L2.wipe σ vs)
  | [] => r
  | v :: vs => by
    have ih := r.wipe vs
    unfold wipeZ L2.wipe
    refine ⟨by simp [ih.1], fun i d hd => ?_⟩
    by_cases e : v = i
    · subst e
      by_cases hl : v < (wipeZ ρ vs).length
      · rw [List.getElem?_set_self hl] at hd
        cases hd
      · rw [List.getElem?_eq_none (by simpa using hl)] at hd
        cases hd
    · rw [List.getElem?_set_ne e] at hd ⊢
      exact ih.2 i d hd
/-- a thing that did not matter stays from now on; it is told by a cell from now on -/
theorem RS.adopt {S : Store} {l : Addr} {o : HO} (r : RS g G m S H) (h : H l = some o) (hG : G l = none) (hm : l ∉ m) : RS g (upd G l o) m S H := by
  refine ⟨fun b u e => ?_, r.len, r.nd, r.known, fun k c a h1 h2 => ?_⟩
  · by_cases hb : b = l
    · subst hb
      rw [upd_same] at e
      cases e
      exact h
    · rw [upd_ne hb] at e
      exact r.sub _ _ e
  · have na : a ≠ l := fun q => hm (q ▸ List.mem_of_getElem? h2)
    obtain ⟨x1, x2⟩ := r.cell k c a h1 h2
    exact ⟨by rw [upd_ne na]; exact x1, x2.mono (same_upd hG) (List.prefix_refl _) rfl⟩
theorem RS.adoptC {S : Store} {l : Addr} {c : Cell} (r : RS g G m S H) (h : H l ≠ none) (hG : G l = none) (hm : l ∉ m) (q : CellOk g G m H l c) : RS g G (m ++ [l]) (S ++ [some c]) H := by
  refine ⟨r.sub, by simp [r.len], ?_, fun a ha => ?_, fun k c' a h1 h2 => ?_⟩
  · rw [List.nodup_append]
    refine ⟨r.nd, by simp, fun a ha b hb e => ?_⟩
    rw [List.mem_singleton] at hb
    subst hb
    subst e
    exact hm ha
  · rcases List.mem_append.mp ha with ha | ha
    · exact r.known a ha
    · rw [List.mem_singleton] at ha
      subst ha
      exact h
  · by_cases hk : k < S.length
    · rw [List.getElem?_append_left hk] at h1
      rw [List.getElem?_append_left (by rw [r.len]; exact hk)] at h2
      obtain ⟨x1, x2⟩ := r.cell k c' a h1 h2
      exact ⟨x1, x2.mono (Same.refl _) (List.prefix_append _ _) rfl⟩
    · have ek : k = S.length := by
        have z := (List.getElem?_eq_some_iff.mp h1).1
        rw [List.length_append, List.length_singleton] at z
        omega
      subst ek
      rw [List.getElem?_append_right (Nat.le_refl _), Nat.sub_self] at h1
      rw [← r.len, List.getElem?_append_right (Nat.le_refl _), Nat.sub_self] at h2
      have e1 : c = c' := by simpa using h1
      have e2 : l = a := by simpa using h2
      subst e1 e2
      exact ⟨hG, q.mono (Same.refl _) (List.prefix_append _ _) rfl⟩
/-- a thing that does not matter is changed -/
theorem RS.other {S : Store} {l : Addr} {o : HO} (r : RS g G m S H) (hG : G l = none) (hm : l ∉ m) : RS g G m S (upd H l o) := by
  refine ⟨fun b u e => ?_, r.len, r.nd, fun a ha => ?_, fun k c a h1 h2 => ?_⟩
  · rw [upd_ne (ne_of_none e hG)]
    exact r.sub _ _ e
  · have na : a ≠ l := fun q => hm (q ▸ ha)
    rw [upd_ne na]
    exact r.known a ha
  · have na : a ≠ l := fun q => hm (q ▸ List.mem_of_getElem? h2)
    obtain ⟨x1, x2⟩ := r.cell k c a h1 h2
    exact ⟨x1, x2.mono (Same.refl _) (List.prefix_refl _) (upd_ne na)⟩
/-- how the new list becomes the answer -/
structure Fin (g : GC) (k : List D → Store → Res D) : Prop where
  ok : ∀ (W : WX) (σ : St) (Q : VK) (G1 G H1 H : Hp) (m1 m : List Addr) (S : Store) (acc : List D) (vs : List V) (l : Addr), RS g G m S H → Ev G1 m1 H1 G m H → H1 l = none → H l = some (.lst vs) → G l = none → l ∉ m → Reps g G m vs acc →
    Po g (Rep g) W G1 m1 H1 σ Q (k acc S) → Q (.ref l) H
theorem fin_lst : Fin g fun ds S => .ok (.lst ds) S := ⟨fun W σ Q G1 G H1 H m1 m S acc vs l rs ev h0 h hG hm r p => by
  refine p (upd G l (.lst vs)) m H _ ⟨ev.sub.trans (same_upd hG), ev.pre, fun a o ha hga hma => ?_⟩ (rs.adopt h hG hm) (.lst upd_same (r.mono (same_upd hG) (List.prefix_refl _)))
  obtain ⟨k1, k2, k3⟩ := ev.keep a o ha hga hma
  exact ⟨k1, by rw [upd_ne (ne_of_none ha h0)]; exact k2, k3⟩⟩
theorem fin_cel : Fin g fun ds S => .ok (.ref S.length) (S ++ [some (.lst ds)]) := ⟨fun W σ Q G1 G H1 H m1 m S acc vs l rs ev h0 h hG hm r p => by
  refine p G (m ++ [l]) H _ ⟨ev.sub, ev.pre.trans (List.prefix_append _ _), fun a o ha hga hma => ?_⟩ (rs.adoptC (by rw [h]; intro z; cases z) hG hm ⟨vs, h, r⟩) (.ref (by rw [← rs.len]; simp))
  obtain ⟨k1, k2, k3⟩ := ev.keep a o ha hga hma
  refine ⟨k1, k2, fun z => ?_⟩
  rcases List.mem_append.mp z with z | z
  · exact k3 z
  · rw [List.mem_singleton] at z
    exact ne_of_none ha h0 z⟩
theorem comp_ok {X : Cx} {W : WX} {i : II} {t : Tg} {q : TT'} {f : EE} {k : List D → Store → Res D} {scope : Scope} {own : List (Str × Nat)} {ifs : List Expr} {elt it : Expr} (fk : Fin g k) (cx : CxOk g F X) (hsl : ∀ j ∈ slotsT t, j ∈ own.map (·.2))
    {σ : St} {H : Hp} {Q : VK} (h : rdE g W (fun ρ S => (aComp i t q f (own.map (·.2)) ρ S).bind k) σ H Q) :
    tLc (rdI g W i) (gT g.K t) (rdT g (fun _ _ _ _ => False) q) (rdE g (fun _ _ _ _ => False) f) (own.map (·.2)) σ H Q := by
  generalize hvs : own.map (·.2) = vs at h hsl ⊢
  have h' : rdE g W (fun ρ S => (i ρ S).bind fun p S1 => (compL p.2 t q f p.1 (wipeZ ρ vs) S1 []).bind k) σ H Q := by
    obtain ⟨G, m, ρ, S, rs, re, x, p⟩ := h
    refine ⟨G, m, ρ, S, rs, re, x, ?_⟩
    dsimp only at p ⊢
    unfold aComp at p
    cases ei : i ρ S with
    | ok a S1 => simpa [ei] using p
    | ex y S1 => simpa [ei] using p
    | no => simpa [ei] using p
  refine (rdX_bind (relα := fun G m (J : It) (a : List Z.D × Hold) => Goes g J G m a.1 a.2) mon_true h').imp fun J H1 q2 => ?_
  obtain ⟨⟨ds, hd⟩, G, m, ρ, S, rs, re, x, p⟩ := q2
  have go : Goes g J G m ds hd := x.2
  have p : Po g (Rep g) W G m H1 σ Q ((compL hd t q f ds (wipeZ ρ vs) S []).bind k) := p
  intro l hl
  refine ⟨fun j n H' => n = ds.length - j ∧ j ≤ ds.length ∧ ∃ G' m' S' acc as, Ev G m H1 G' m' H' ∧ RS g G' m' S' H' ∧ H' l = some (.lst as) ∧ G' l = none ∧ l ∉ m' ∧ Reps g G' m' as acc ∧ Po g (Rep g) W G m H1 σ Q ((compL hd t q f (ds.drop j) (wipeZ ρ vs) S' acc).bind k),
    ⟨ds.length, by simp, Nat.zero_le _, G, m, S, [], [], .junk hl, rs.junk hl, upd_same, rs.free hl, rs.nm hl, .nil, by simpa using p⟩, ?_⟩
  rintro j n H' ⟨rfl, hj, G', m', S', acc, as, ev, rs', hla, hlG, hlm, ra, p'⟩
  have re' : RE g G' m' (wipeZ ρ vs) (L2.wipe σ vs) := (re.wipe vs).mono ev.sub ev.pre
  by_cases hlt : j < ds.length
  · rw [List.drop_eq_getElem_cons hlt] at p'
    unfold compL at p'
    split at p'
    · rename_i hh
      obtain ⟨_, g2⟩ := go G' m' S' H' ev.sub ev.pre rs' hh
      obtain ⟨g3, g4⟩ := g2 j ds[j] (by simp [hlt])
      refine .inr ⟨g3, fun H' => ∃ G' m' S' acc as, Ev G m H1 G' m' H' ∧ RS g G' m' S' H' ∧ H' l = some (.lst as) ∧ G' l = none ∧ l ∉ m' ∧ Reps g G' m' as acc ∧ Po g (Rep g) W G m H1 σ Q ((compL hd t q f (ds.drop (j + 1)) (wipeZ ρ vs) S' acc).bind k),
        fun H2 z => ⟨ds.length - (j + 1), by omega, rfl, hlt, z⟩, fun v H2 y => ?_⟩
      obtain ⟨G2, e2, rs2, r2⟩ := g4 v H2 y
      obtain ⟨hla2, hlG2, hlm2⟩ := e2.keep l _ hla hlG hlm
      split at p'
      · exact p'.elim
      · rename_i ρ2 et
        refine gT_ok rs2 t ds[j] v _ ρ2 (L2.wipe σ vs) _ (re'.mono e2.sub e2.pre) r2 et fun σ3 re3 off => ⟨wipe_off off hsl, ?_⟩
        refine ⟨G2, m', ρ2, S', rs2, re3, True.intro, ?_⟩
        cases ec : q ρ2 S' with
        | ok b S3 =>
          simp only [ec, noEx_ok, Res.bind_ok] at p'
          intro G3 m3 H3 u e3 rs3 eu
          have eu : u = b := eu
          subst eu
          obtain ⟨hla3, hlG3, hlm3⟩ := e3.keep l _ hla2 hlG2 hlm2
          cases u with
          | true =>
            simp only [if_true] at p'
            refine iteT ⟨G3, m3, ρ2, S3, rs3, re3.mono e3.sub e3.pre, True.intro, ?_⟩
            cases ef : f ρ2 S3 with
            | ok d4 S4 =>
              simp only [ef, noEx_ok, Res.bind_ok] at p'
              intro G4 m4 H4 v4 e4 rs4 r4
              obtain ⟨hla4, hlG4, hlm4⟩ := e4.keep l _ hla3 hlG3 hlm3
              have e5 := ((ev.trans e2).trans e3).trans e4
              have ra4 : Reps g G4 m4 as acc := ((ra.mono e2.sub e2.pre).mono e3.sub e3.pre).mono e4.sub e4.pre
              split at p'
              · rename_i hz
                refine ⟨as, hla4, by rw [ra.length]; exact hz, G4, m4, S4, acc ++ [d4], as ++ [v4], ⟨e5.sub, e5.pre, fun a o ha hga hma => ?_⟩, rs4.other hlG4 hlm4, upd_same, hlG4, hlm4, ra4.append (.one r4), p'⟩
                obtain ⟨k1, k2, k3⟩ := e5.keep a o ha hga hma
                exact ⟨by rw [upd_ne (ne_of_none ha hl)]; exact k1, k2, k3⟩
              · exact p'.elim
            | ex y S4 =>
              simp only [ef, noEx, Res.bind_no] at p'
              exact p'.elim
            | no =>
              simp only [ef, noEx, Res.bind_no] at p'
              exact p'.elim
          | false =>
            simp only [Bool.false_eq_true, if_false] at p'
            refine iteF ?_
            exact ⟨G3, m3, S3, acc, as, (ev.trans e2).trans e3, rs3, hla3, hlG3, hlm3, (ra.mono e2.sub e2.pre).mono e3.sub e3.pre, p'⟩
        | ex y S3 =>
          simp only [ec, noEx, Res.bind_no] at p'
          exact p'.elim
        | no =>
          simp only [ec, noEx, Res.bind_no] at p'
          exact p'.elim
    · exact p'.elim
  · have ej : j = ds.length := by omega
    subst ej
    rw [List.drop_length] at p'
    unfold compL at p'
    split at p'
    · rename_i hh
      obtain ⟨g1, _⟩ := go G' m' S' H' ev.sub ev.pre rs' hh
      exact .inl ⟨g1, fk.ok W σ Q G G' H1 H' m m' S' acc as l rs' ev hl hla hlG hlm ra p'⟩
    · exact p'.elim
/-- the block's names -/
def blkB (F : Fm) (scope : Scope) (own : List (Str × Nat)) (t : Tg) : Bool := blkC F.N F.sc scope own && (slotsT t).all fun j => (own.map (·.2)).contains j
theorem blk_of {X : Cx} {scope : Scope} {own : List (Str × Nat)} {t : Tg} (cx : CxOk g F X) (h : blkB F scope own t = true) : BlkOk X.N X.env.scope scope own ∧ ∀ j ∈ slotsT t, j ∈ own.map (·.2) := by
  unfold blkB at h
  rw [Bool.and_eq_true, List.all_eq_true] at h
  refine ⟨blkOk_by (by rw [cx.N, cx.sc]; exact h.1), fun j hj => ?_⟩
  simpa using h.2 j hj
variable {scope : Scope} {own : List (Str × Nat)} {i : II} {t : Tg} {q : TT'} {ifs : List Expr} {elt : Expr}
theorem ve_compK {k : List D → Store → Res D} (fk : Fin g k) (hb : blkB F scope own t = true) (hi : VI g F tg e i) (hg : VG g (F.blk scope) tg t) (ht : VTs g (F.blk scope) ifs q) (he : VE g (F.blk scope) elt fa) (hs : ∀ env x, foldedSetIterable e env x = pure x := by intro _ _; rfl) (hot : F.hot = false := by rfl) :
    VE g F (.ListComp elt [⟨tg, e, ifs, 0⟩] scope pos) (fun ρ S => (aComp i t q fa (own.map (·.2)) ρ S).bind k) := fun X W cx tk => by
  obtain ⟨b1, b2⟩ := blk_of cx hb
  exact (pe_lc (cx.calm hot) cx.nd' (hi X W cx tk) b1 (fun s H C cl fp => hg _ (cx_blk cx scope s H C cl fp)) (fun s H C cl fp => ht _ _ (cx_blk cx scope s H C cl fp) takesN)
    (fun s H C cl fp => he _ _ (cx_blk cx scope s H C cl fp) takesN) (hs _)).mono fun σ H Q h => comp_ok (ifs := ifs) (elt := elt) (it := e) (scope := scope) fk cx b2 h
theorem ve_comp (hb : blkB F scope own t = true) (hi : VI g F tg e i) (hg : VG g (F.blk scope) tg t) (ht : VTs g (F.blk scope) ifs q) (he : VE g (F.blk scope) elt fa) (hs : ∀ env x, foldedSetIterable e env x = pure x := by intro _ _; rfl) (hot : F.hot = false := by rfl) :
    VE g F (.ListComp elt [⟨tg, e, ifs, 0⟩] scope pos) (eComp i t q fa (own.map (·.2))) := ve_compK fin_lst hb hi hg ht he hs hot
theorem ve_compC (hb : blkB F scope own t = true) (hi : VI g F tg e i) (hg : VG g (F.blk scope) tg t) (ht : VTs g (F.blk scope) ifs q) (he : VE g (F.blk scope) elt fa) (hs : ∀ env x, foldedSetIterable e env x = pure x := by intro _ _; rfl) (hot : F.hot = false := by rfl) :
    VE g F (.ListComp elt [⟨tg, e, ifs, 0⟩] scope pos) (eCompC i t q fa (own.map (·.2))) := ve_compK fin_cel hb hi hg ht he hs hot
/-- y = [..] on one line -/
theorem vs_setCompK {k : List D → Store → Res D} {j : Nat} {y : Str} {py spos : Pos} (fk : Fin g k) (hy : decide (F.N[j]? = some y) = true) (hyl : decide (F.sc.names.lookup y = some .local) = true) (hb : blkB F scope own t = true) (hi : VI g F tg e i) (hg : VG g (F.blk scope) tg t) (ht : VTs g (F.blk scope) ifs q) (he : VE g (F.blk scope) elt fa)
    (hl : (py.line == pos.line) = true) (hn : (scope.names.any fun (n, k) => n == y && (k == .local || k == .cell)) = false) (hk : F.sc.kind = .function := by rfl) (hs : ∀ env x, foldedSetIterable e env x = pure x := by intro _ _; rfl) (hot : F.hot = false := by rfl) :
    VS g F (.Assign [.Name y py] (.ListComp elt [⟨tg, e, ifs, 0⟩] scope pos) spos) (sSet (.nm j) (fun ρ S => (aComp i t q fa (own.map (·.2)) ρ S).bind k)) := fun X W cx fr tk => by
  obtain ⟨b1, b2⟩ := blk_of cx hb
  have hyl' : X.env.scope.names.lookup y = some .local := by rw [cx.sc]; exact of_decide_eq_true hyl
  refine (ps_setLc (i := j) (cx.calm hot) cx.nd' (by rw [cx.N]; exact of_decide_eq_true hy) hyl' (sw_true (by rw [cx.sc]; exact hk) hyl' hl hn) (hi X W cx tk) b1 (fun s H C cl fp => hg _ (cx_blk cx scope s H C cl fp)) (fun s H C cl fp => ht _ _ (cx_blk cx scope s H C cl fp) takesN)
    (fun s H C cl fp => he _ _ (cx_blk cx scope s H C cl fp) takesN) (hs _)).mono fun D σ H h => ?_
  refine comp_ok (ifs := ifs) (elt := elt) (it := e) (scope := scope) (W := W) fk cx b2 ?_
  exact rd_unit (rel := Rep g) (k := fun d ρ => ρ.set j (some d)) (f := fun ρ S => (aComp i t q fa (own.map (·.2)) ρ S).bind k) h fun G m ρ a u H1 re r kk => kk _ (re.set j r)
end
end Z
set_option Elab.async false
set_option linter.all false
set_option maxRecDepth 100000
/-! Z7: what is forgotten at a call's end; functions, calls, methods, properties, constructors. -/
namespace Z
open PySem L2

/-! ### what names only cells ahead of n -/
mutual
def belowD (n : Nat) : D → Bool
  | .ref k => decide (k < n)
  | .tup ds => belowDs n ds
  | .lst ds => belowDs n ds
  | .seq ds => belowDs n ds
  | .obj _ ds => belowDs n ds
  | .exn _ _ _ ds => belowDs n ds
  | .non => true
  | .bl _ => true
  | .int _ => true
  | .str _ => true
def belowDs (n : Nat) : List D → Bool
  | [] => true
  | d :: ds => belowD n d && belowDs n ds
end
def belowC (n : Nat) : Cell → Bool
  | .lst ds => belowDs n ds
  | .obj _ ds => belowDs n ds
  | .dct kvs => kvs.all fun q => belowD n q.2
def belowS (n : Nat) (S : Store) : Bool := S.all fun c => match c with
  | some c => belowC n c
  | none => true
section
variable {g : GC} {G G' H H' : Hp} {m m' : List Addr}
mutual
theorem Rep.cut (n : Nat) : ∀ {v : V} {d : D}, Rep g G m v d → belowD n d = true → Rep g G (m.take n) v d
  | _, _, .non, _ => .non
  | _, _, .bl b, _ => .bl b
  | _, _, .int i, _ => .int i
  | _, _, .str x, _ => .str x
  | _, _, .ref h, b => .ref (by
    have hk := of_decide_eq_true (by simpa [belowD] using b)
    rw [List.getElem?_take_of_lt hk]
    exact h)
  | _, _, .tup h r, b => .tup h (Reps.cut n r (by simpa [belowD] using b))
  | _, _, .lst h r, b => .lst h (Reps.cut n r (by simpa [belowD] using b))
  | _, _, .seq h r, b => .seq h (Reps.cut n r (by simpa [belowD] using b))
  | _, _, .obj hc h hl r, b => .obj hc h hl (Reps.cut n r (by simpa [belowD] using b))
  | _, _, .exn0, _ => .exn0
  | _, _, .exn1 h hl hf r, b => .exn1 h hl hf (Reps.cut n r (by simpa [belowD] using b))
theorem Reps.cut (n : Nat) : ∀ {vs : List V} {ds : List D}, Reps g G m vs ds → belowDs n ds = true → Reps g G (m.take n) vs ds
  | _, _, .nil, _ => .nil
  | _, _, .cons r s, b => by
    unfold belowDs at b
    rw [Bool.and_eq_true] at b
    exact .cons (Rep.cut n r b.1) (Reps.cut n s b.2)
end
theorem CellOk.cut (n : Nat) {a : Addr} {c : Cell} (x : CellOk g G m H a c) (b : belowC n c = true) : CellOk g G (m.take n) H a c := by
  cases c with
  | lst ds =>
    obtain ⟨vs, h1, h2⟩ := x
    exact ⟨vs, h1, h2.cut n b⟩
  | obj c ds =>
    obtain ⟨C, dx, vs, h0, h1, h2, h3⟩ := x
    exact ⟨C, dx, vs, h0, h1, h2, h3.cut n b⟩
  | dct kvs =>
    obtain ⟨vs, h1, h2⟩ := x
    refine ⟨vs, h1, ?_⟩
    unfold belowC at b
    have key : ∀ {vs : List (Key × V)} {kvs : List (Key × D)}, Paired (Knv g G m) vs kvs → (kvs.all fun q => belowD n q.2) = true → Paired (Knv g G (m.take n)) vs kvs := by
      intro vs kvs h
      induction h with
      | nil => exact fun _ => .nil
      | cons h t ih =>
        intro b
        rw [List.all_cons, Bool.and_eq_true] at b
        exact .cons ⟨h.1, h.2.cut n b.1⟩ (ih b.2)
    exact key h2 b
/-- the store's cells behind n are forgotten, if nothing names them -/
def trimR (n : Nat) : Res D → Res D
  | .ok d S => if (belowD n d && belowS n (S.take n)) = true then .ok d (S.take n) else .ok d S
  | .ex x S => if (belowDs n x.ds && belowS n (S.take n)) = true then .ex x (S.take n) else .ex x S
  | .no => .no
theorem RS.trim {S : Store} (r : RS g G m S H) (n : Nat) (hn : n ≤ S.length) (b : belowS n (S.take n) = true) : RS g G (m.take n) (S.take n) H :=
  r.cut n hn fun k c a hk h1 h2 => (r.cell k c a h1 h2).2.cut n (by
    unfold belowS at b
    have h3 : some c ∈ S.take n := List.mem_of_getElem? (by rw [List.getElem?_take_of_lt hk]; exact h1)
    exact List.all_eq_true.mp b _ h3)
theorem Ev.trim {n : Nat} (e : Ev G m H G' m' H') (hn : m.length = n) : Ev G m H G' (m'.take n) H' := by
  refine ⟨e.sub, ?_, fun a o h1 h2 h3 => ?_⟩
  · obtain ⟨t, rfl⟩ := e.pre
    rw [← hn, List.take_left']
    · exact List.prefix_refl _
    · rfl
  · obtain ⟨k1, k2, k3⟩ := e.keep a o h1 h2 h3
    exact ⟨k1, k2, fun z => k3 (List.mem_of_mem_take z)⟩
theorem po_trim {W : WX} {σ : St} {Q : VK} {S : Store} {r : Res D} (rs : RS g G m S H) (p : Po g (Rep g) W G m H σ Q (trimR S.length r)) : Po g (Rep g) W G m H σ Q r := by
  cases r with
  | ok d S' =>
    rw [trimR] at p
    split at p
    · rename_i hb
      rw [Bool.and_eq_true] at hb
      intro G' m' H' u e rs' ru
      have hl : S.length ≤ S'.length := by
        rw [← rs.len, ← rs'.len]
        exact e.pre.length_le
      exact p G' (m'.take S.length) H' u (e.trim rs.len) (rs'.trim _ hl hb.2) (ru.cut _ hb.1)
    · exact p
  | ex x S' =>
    rw [trimR] at p
    split at p
    · rename_i hb
      rw [Bool.and_eq_true] at hb
      intro G' m' H' cls dx e rs' rx
      have hl : S.length ≤ S'.length := by
        rw [← rs.len, ← rs'.len]
        exact e.pre.length_le
      obtain ⟨C, h1, h2, h3⟩ := rx
      exact p G' (m'.take S.length) H' cls dx (e.trim rs.len) (rs'.trim _ hl hb.2) ⟨C, h1, h2, fun a => (h3 a).cut _ (by simpa [belowD] using hb.1)⟩
    · exact p
  | no => exact p.elim
end

/-! ### functions -/
abbrev FSem := List D → Store → Res D
def outR : Out → Res D
  | .next _ S => .ok .non S
  | .ret d S => .ok d S
  | .ex x _ S => .ex x S
  | _ => .no
/-- a def of n names and np parameters -/
def semZ (n np : Nat) (b : SS) : FSem := fun ds S => if ds.length = np then trimR S.length (outR (b (ds.map some ++ List.replicate (n - np) none) S)) else .no
def spZ (g : GC) (n : Nat) (Fs : FSem) : Sp := fun vs H Q E => vs.length = n ∧ ∃ G m S ds, RS g G m S H ∧ Reps g G m vs ds ∧ Po g (Rep g) (fun cls dx _ H => E cls dx H) G m H [] Q (Fs ds S)
structure FnZ (g : GC) (k : Nat) (f : Addr) (fd : FuncData) (ps : List Str) (Fs : FSem) : Prop where
  ok : FnOk g.P g.w g.K g.mg g.base (L2N.CX g.P g.w) k f fd ps (spZ g ps.length Fs)
  len : ∀ ds S, Fs ds S ≠ .no → ds.length = ps.length
theorem FnZ.up {g : GC} {j k : Nat} {f : Addr} {fd : FuncData} {ps : List Str} {Fs : FSem} (F : FnZ g j f fd ps Fs) (h : j ≤ k) : FnZ g k f fd ps Fs := ⟨F.ok.mono h, F.len⟩
section
variable {g : GC} {F : Fm} {e a b c : Expr} {es : List Expr} {pos : Pos} {fa fb fc : EE} {ka kk : AA} {G G' H H' : Hp} {m m' : List Addr} {S : Store} {ds dd : List D} {Fs : FSem}
theorem re_start {N : List Str} {vs : List V} (r : Reps g G m vs ds) : RE g G m (ds.map some ++ List.replicate (N.length - vs.length) none) (L2.start N vs) := by
  have hl := r.length
  refine ⟨?_, fun i d h => ?_⟩
  · unfold L2.start
    simp only [List.length_append, List.length_map, List.length_replicate]
    omega
  · by_cases hi : i < ds.length
    · rw [List.getElem?_append_left (by simpa using hi), List.getElem?_map] at h
      cases e : ds[i]? with
      | none => rw [e] at h; cases h
      | some d' =>
        rw [e] at h
        cases h
        obtain ⟨v, h1, h2⟩ := r.get e
        refine ⟨v, ?_, h2⟩
        unfold L2.start
        rw [List.getElem?_append_left (by rw [List.length_map]; omega), List.getElem?_map, h1]
        rfl
    · rw [List.getElem?_append_right (by simpa using hi), List.getElem?_replicate] at h
      split at h <;> cases h
theorem fnz_of {x qual : Str} {params : Arguments} {body : List Stmt} {scope : Scope} {dvs : List V} {kws : List (Str × V)} {f : Addr} {fd : FuncData} {N ps : List Str} {k : Nat} {bs : SS}
    (Fd : FunD g.K x qual params body scope dvs kws f fd) (Sc : FnScope N ps scope) (hb : VB g { N := N, sc := scope, lvl := k } body bs) : FnZ g (k + 1) f fd ps (semZ N.length ps.length bs) := by
  refine ⟨Fd.ok Sc (fun vs H Q E h => h.1) fun cdv A outer s H vs Q E hr hsp => ?_, fun ds S h => ?_⟩
  · obtain ⟨hl, G, m, S, ds, rs, rr, p⟩ := hsp
    let W : WX := fun cls d _ H => E cls d H
    refine ⟨rdS g W bs, hb _ W ⟨rfl, rfl, rfl, rfl, rfl, rfl, rfl, Sc.nd, fun _ => hr, fun _ => rfl, hr.units, fun _ _ => rfl, fun _ _ _ z => by cases z⟩ ⟨rfl, rfl, L2.passes_of rfl⟩ (L2N.takes_of rfl rfl rfl rfl), ?_⟩
    refine ⟨G, m, _, S, rs, re_start (N := N) rr, True.intro, ?_⟩
    unfold semZ at p
    rw [if_pos (by rw [← rr.length]; exact hl)] at p
    have p2 := po_trim rs p
    rw [hl]
    cases eo : bs (ds.map some ++ List.replicate (N.length - ps.length) none) S with
    | next ρ S' =>
      rw [eo] at p2
      exact fun G' m' H' σ' e2 s t => p2 G' m' H' _ e2 s .non
    | ret d S' =>
      rw [eo] at p2
      exact fun G' m' H' v e2 s t => p2 G' m' H' v e2 s t
    | ex x ρ S' =>
      rw [eo] at p2
      exact fun G' m' H' σ' cls dx e2 s t u => p2 G' m' H' cls dx e2 s u
    | brk ρ S' =>
      rw [eo] at p2
      exact p2.elim
    | cont ρ S' =>
      rw [eo] at p2
      exact p2.elim
    | no =>
      rw [eo] at p2
      exact p2.elim
  · unfold semZ at h
    split at h
    · assumption
    · exact absurd rfl h

/-! ### the callee runs -/
theorem po_ne {W : WX} {σ : St} {U α : Type} {rel : Hp → List Addr → U → α → Prop} {Q : U → Hp → Prop} {r : Res α} (p : Po g rel W G m H σ Q r) : r ≠ .no := fun z => by
  rw [z] at p
  exact p
variable {X : Cx} {W : WX} {k : Nat} {f : Addr} {fd : FuncData} {ps : List Str}
theorem FnZ.at (Fn : FnZ g k f fd ps Fs) (cx : CxOk g F X) : FnOk X.prog X.w X.K X.mg X.base (L2N.CX X.prog X.w) k f fd ps (spZ g ps.length Fs) := by
  rw [cx.P, cx.w, cx.K, cx.mg, cx.base]
  exact Fn.ok
theorem sp_of {E : XK} {σ : St} {vs : List V} {Q : VK} (Fn : FnZ g k f fd ps Fs) (rs : RS g G m S H) (rr : Reps g G m vs ds) (p : Po g (Rep g) (fun cls dx _ H => E cls dx H) G m H σ Q (Fs ds S)) : spZ g ps.length Fs vs H Q E := by
  refine ⟨rr.length.trans (Fn.len ds S (po_ne p)), G, m, S, ds, rs, rr, ?_⟩
  cases eo : Fs ds S with
  | ok d S' =>
    rw [eo] at p
    exact p
  | ex x S' =>
    rw [eo] at p
    exact p
  | no =>
    rw [eo] at p
    exact p
theorem run_z (cx : CxOk g F X) (hot : F.hot = false) (tk : L2N.Takes X W) (Fn : FnZ g k f fd ps Fs) (hk : k ≤ F.lvl) {pins : List (Addr × Obj)} {s : Shared} {σ : St} {Q : VK} {us us' : List Value} {kw : List (Str × Value)} {vs : List V} (I : Inv X pins σ H s)
    (hb : BindsTo s fd ⟨us, kw⟩ (ps.zip us')) (r : Vals vs us') (rs : RS g G m S H) (rr : Reps g G m vs ds) (p : Po g (Rep g) W G m H σ Q (Fs ds S)) : wpAny (model X.prog X.w) X.A (call (.ref f) us kw) (EP X pins σ Q) X.xe s := by
  have p' : Po g (Rep g) (fun cls dx _ H => (fun cls dx H => W cls dx σ H) cls dx H) G m H σ Q (Fs ds S) := by
    cases eo : Fs ds S with
    | ok d S' =>
      rw [eo] at p
      exact p
    | ex x S' =>
      rw [eo] at p
      exact p
    | no =>
      rw [eo] at p
      exact p
  have sp := sp_of (E := fun cls dx H => W cls dx σ H) Fn rs rr p'
  refine wpAny_call (codeAny_mono ((Fn.at cx).run X.A X.stack s H ⟨us, kw⟩ us' vs Q (fun cls dx H => W cls dx σ H) ((cx.room hot).mono hk) I.env0 hb r sp) fun r s' hq => ?_)
  cases r with
  | error e => exact tk e s' (L2N.XE.of_call I (fun _ _ _ h => h) hq)
  | ok fl =>
    cases fl with
    | ret u => exact I.after hq
    | next => exact False.elim hq
    | brk => exact False.elim hq
    | cont => exact False.elim hq
/-- positional arguments, the defaults dd behind -/
structure BndZ (g : GC) (fd : FuncData) (ps : List Str) (dd : List D) : Prop where
  ex : ∃ (us : List Value) (vs : List V), Binds g.K fd ps us ∧ Vals vs us ∧ ∀ G m, Reps g G m vs dd
theorem bnd0 (h : Binds g.K fd ps []) : BndZ g fd ps [] := ⟨[], [], h, .nil, fun _ _ => .nil⟩
/-- n positional arguments, then keywords ks -/
structure BndK (g : GC) (fd : FuncData) (ps : List Str) (n : Nat) (ks : List Str) (arr : List D → List D → List D) : Prop where
  ex : ∃ gg gV, KBn g.K fd ps n ks gg gV ∧ ∀ G m vs zs ds es, Reps g G m vs ds → Reps g G m zs es → Reps g G m (gV vs zs) (arr ds es)
/-- a run, its arguments positional -/
theorem run_p (cx : CxOk g F X) (hot : F.hot = false) (tk : L2N.Takes X W) (Fn : FnZ g k f fd ps Fs) (hk : k ≤ F.lvl) (B : BndZ g fd ps dd) {pins : List (Addr × Obj)} {s : Shared} {σ : St} {Q : VK} {us : List Value} {vs : List V} (I : Inv X pins σ H s)
    (r : Vals vs us) (rs : RS g G m S H) (rr : Reps g G m vs ds) (p : Po g (Rep g) W G m H σ Q (Fs (ds ++ dd) S)) : wpAny (model X.prog X.w) X.A (call (.ref f) us) (EP X pins σ Q) X.xe s := by
  obtain ⟨us2, vs2, hb, r2, rd2⟩ := B.ex
  have rr2 := rr.append (rd2 G m)
  have rv := r.append r2
  refine run_z cx hot tk Fn hk I (hb s us (by rw [← cx.K]; exact I.kIn) ?_) rv rs rr2 p
  rw [← rv.length, rr2.length]
  exact Fn.len _ _ (po_ne p)
theorem run_k {n : Nat} {ks : List Str} {arr : List D → List D → List D} {es : List D} (cx : CxOk g F X) (hot : F.hot = false) (tk : L2N.Takes X W) (Fn : FnZ g k f fd ps Fs) (hk : k ≤ F.lvl) (B : BndK g fd ps n ks arr) {pins : List (Addr × Obj)} {s : Shared} {σ : St} {Q : VK} {us ws : List Value} {vs zs : List V} (I : Inv X pins σ H s)
    (r : Vals vs us) (rz : Vals zs ws) (rs : RS g G m S H) (rr : Reps g G m vs ds) (rq : Reps g G m zs es) (l1 : ds.length = n) (l2 : es.length = ks.length) (p : Po g (Rep g) W G m H σ Q (Fs (arr ds es) S)) : wpAny (model X.prog X.w) X.A (call (.ref f) us (ks.zip ws)) (EP X pins σ Q) X.xe s := by
  obtain ⟨gg, gV, kb, rel⟩ := B.ex
  exact run_z cx hot tk Fn hk I (kb.to s us ws (by rw [← cx.K]; exact I.kIn) (by rw [← r.length, rr.length]; exact l1) (by rw [← rz.length, rq.length]; exact l2)) (kb.rel r rz) rs (rel G m _ _ _ _ rr rq) p

/-! ### f(e, ..) -/
def eCall (Fs : FSem) (dd : List D) (ka : AA) : EE := fun ρ S => (ka ρ S).bind fun ds S1 => Fs (ds ++ dd) S1
structure GlF (g : GC) (k : Nat) (x : Str) (dd : List D) (Fs : FSem) : Prop where
  ex : ∃ f fd ps, g.mg x = some (.ref f) ∧ PySem.W.keepIn g.K (.ref f) = true ∧ FnZ g k f fd ps Fs ∧ BndZ g fd ps dd
theorem ve_call {x : Str} {p : Pos} (Gf : GlF g k x dd Fs) (hg : glB F x = true) (ha : VA g F (e :: es) ka) (hk : k ≤ F.lvl) (hot : F.hot = false := by rfl)
    (he : ∀ env, starEach (e :: es) env = (false, eval e env) :: starEach es env := by intro _; rfl) (hpl : ∀ env, (backTo pos (starEach es env)).any (·.1) = false := by intro _; rfl) : VE g F (.Call (.Name x p) (e :: es) [] pos) (eCall Fs dd ka) := fun X W cx tk => ⟨fun pins s σ H Q I h => by
  obtain ⟨f, fd, ps, hm, hkp, Fn, B⟩ := Gf.ex
  obtain ⟨g1, g2, _⟩ := gl_of cx hg
  have h1 := rdX_bind (relα := Reps g) mon_true h
  refine wpAny_Call_Name_kw (ld_glob I g1 (by rw [cx.mg]; exact hm) ?_ g2)
  refine PySem.W.callWith_K (h₀ := X.base) I.ok.mod.kin (by rw [cx.K]; exact hkp) (thn ((ha X W cx tk).run pos pins s σ H _ I h1) fun us s1 ⟨vs, H1, I1, r, q⟩ => ⟨I1.kIn, ?_⟩) (he _) (hpl _)
  obtain ⟨ds, G, m, ρ, S, rs, re, x, p⟩ := q
  exact run_p cx hot tk Fn hk B I1 r rs x.2 p⟩
theorem ve_call0 {x : Str} {p : Pos} (Gf : GlF g k x dd Fs) (hg : glB F x = true) (hk : k ≤ F.lvl) (hot : F.hot = false := by rfl) : VE g F (.Call (.Name x p) [] [] pos) (eCall Fs dd aNil) := fun X W cx tk => ⟨fun pins s σ H Q I h => by
  obtain ⟨f, fd, ps, hm, hkp, Fn, B⟩ := Gf.ex
  obtain ⟨g1, g2, _⟩ := gl_of cx hg
  refine wpAny_Call_Name_kw (ld_glob I g1 (by rw [cx.mg]; exact hm) ?_ g2)
  obtain ⟨G, m, ρ, S, rs, re, x, p⟩ := h
  exact PySem.W.callWith_K0 I.kIn (by rw [cx.K]; exact hkp) (run_p (us := []) (vs := []) (ds := []) cx hot tk Fn hk B I .nil rs .nil p)⟩
/-- f(e, .., k = v, ..) -/
def eCallK (Fs : FSem) (n l : Nat) (arr : List D → List D → List D) (ka kk : AA) : EE := fun ρ S => (ka ρ S).bind fun ds S1 => (kk ρ S1).bind fun es S2 => if ds.length = n ∧ es.length = l then Fs (arr ds es) S2 else .no
def VK' (g : GC) (F : Fm) (kws : List Keyword) (f : AA) : Prop := ∀ (X : Cx) (W : WX), CxOk g F X → L2N.Takes X W → PK X kws (rdA g W f)
theorem _root_.L2.PK.mono {X : Cx} {e : List Keyword} {t t' : TA} (h : PK X e t) (i : ∀ σ H Q, t' σ H Q → t σ H Q) : PK X e t' := ⟨fun pos pins s σ H Q I q => h.run pos pins s σ H Q I (i _ _ _ q)⟩
theorem vk_nil : VK' g F [] aNil := fun X W cx tk => pk_nil.mono fun σ H Q q => by
  obtain ⟨G, m, ρ, S, rs, re, x, p⟩ := q
  exact p G m H _ Ev.refl rs .nil
theorem vk_cons {nm : Option Str} {kpos : Pos} {kws : List Keyword} (ha : VE g F e fa) (hr : VK' g F kws kk) : VK' g F (⟨nm, e, kpos⟩ :: kws) (aCons fa kk) := fun X W cx tk => (pk_cons (ha X W cx tk) (hr X W cx tk)).mono fun σ H Q q => by
  have q1 := rdX_bind (relα := Rep g) mon_true q
  refine q1.imp fun u H1 q2 => ?_
  obtain ⟨d, q2⟩ := q2
  have q3 := rdX_bind (relα := Reps g) (mon_true.and mon_rep) q2
  refine q3.imp fun us H2 q4 => ?_
  obtain ⟨e, G, m, ρ, S, rs, re, x, p⟩ := q4
  exact p G m H2 _ Ev.refl rs (.cons x.1.2 x.2)
structure GlK (g : GC) (k : Nat) (x : Str) (n : Nat) (ks : List Str) (arr : List D → List D → List D) (Fs : FSem) : Prop where
  ex : ∃ f fd ps, g.mg x = some (.ref f) ∧ PySem.W.keepIn g.K (.ref f) = true ∧ FnZ g k f fd ps Fs ∧ BndK g fd ps n ks arr
theorem ve_callK {x : Str} {p : Pos} {kws : List Keyword} {n : Nat} {ks : List Str} {arr : List D → List D → List D} (Gf : GlK g k x n ks arr Fs) (hg : glB F x = true) (ha : VA g F (e :: es) ka) (hkw : VK' g F kws kk) (hk : k ≤ F.lvl) (hot : F.hot = false := by rfl)
    (hall : ∀ env, (backToKw pos (keywordEach kws env)).all (·.1.isSome) = true := by intro _; rfl) (hks : ∀ env, (backToKw pos (keywordEach kws env)).filterMap (·.1) = ks := by intro _; rfl)
    (he : ∀ env, starEach (e :: es) env = (false, eval e env) :: starEach es env := by intro _; rfl) (hpl : ∀ env, ((backTo pos (starEach (e :: es) env)).any (·.1) || (backToKw pos (keywordEach kws env)).any (·.1.isNone)) = false := by intro _; rfl) :
    VE g F (.Call (.Name x p) (e :: es) kws pos) (eCallK Fs n ks.length arr ka kk) := fun X W cx tk => ⟨fun pins s σ H Q I h => by
  obtain ⟨f, fd, ps, hm, hkp, Fn, B⟩ := Gf.ex
  obtain ⟨g1, g2, _⟩ := gl_of cx hg
  have h1 := rdX_bind (relα := Reps g) mon_true h
  refine wpAny_Call_Name_kw (ld_glob I g1 (by rw [cx.mg]; exact hm) ?_ g2)
  refine PySem.W.callWith_KW (h₀ := X.base) I.ok.mod.kin (by rw [cx.K]; exact hkp) (hall _) (thn ((ha X W cx tk).run pos pins s σ H _ I h1) fun us s1 ⟨vs, H1, I1, r, q⟩ => ?_) (hpl _) (he _)
  obtain ⟨ds, q⟩ := q
  have h2 := rdX_bind (relα := Reps g) (mon_true.and mon_reps) q
  refine thn ((hkw X W cx tk).run pos pins s1 σ H1 _ I1 h2) fun ws s2 ⟨zs, H2, I2, rz, q2⟩ => ⟨I2.kIn, ?_⟩
  obtain ⟨es, G, m, ρ, S, rs, re, x, p⟩ := q2
  rw [hks]
  dsimp only at p
  split at p
  · rename_i hl
    exact run_k cx hot tk Fn hk B I2 r rz rs x.1.2 x.2 hl.1 hl.2 p
  · exact p.elim⟩

/-! ### o.m(e, ..) -/
def plM (o : Expr) (env : PySem.Env) : Sem Bool := do return (← importBound o env).getD true
structure MetZ (g : GC) (k : Nat) (c : Nat) (mn : Str) (dd : List D) (Fs : FSem) : Prop where
  ex : ∃ f fd ps C, g.cad c = some C ∧ Cls g.K C ∧ Meth g.K C mn f ∧ FnZ g k f fd ps Fs ∧ BndZ g fd ps dd
  no : mn ∉ g.fld c
structure MT where
  F : FSem
  dd : List D := []
def eMeth (t : List (Nat × MT)) (fo : EE) (ka : AA) : EE := fun ρ S => (fo ρ S).bind fun x S1 => match objOf S1 x with
  | some (c, _) => match t.lookup c with
    | some M => (ka ρ S1).bind fun ds S2 => M.F (x :: (ds ++ M.dd)) S2
    | none => .no
  | none => .no
theorem mem_of_lkZ {β : Type} {t : List (Nat × β)} {c : Nat} {i : β} (h : t.lookup c = some i) : (c, i) ∈ t := by
  induction t with
  | nil => simp at h
  | cons p t ih =>
    obtain ⟨c', i'⟩ := p
    rw [List.lookup_cons] at h
    split at h
    · rename_i hb
      cases h
      rw [beq_iff_eq] at hb
      subst hb
      exact List.mem_cons_self
    · exact List.mem_cons_of_mem _ (ih h)
theorem zip_none {fs : List Str} {vs : List V} {f : Str} (h : f ∉ fs) : (fs.zip vs).lookup f = none := by
  rw [List.lookup_eq_none_iff]
  intro p hp
  obtain ⟨x, y⟩ := p
  rw [bne_iff_ne]
  intro z
  have z : f = x := z
  exact h (z ▸ (List.of_mem_zip hp).1)
theorem ve_meth {t : List (Nat × MT)} {mn : Str} {apos : Pos} (ht : ∀ p ∈ t, MetZ g k p.1 mn p.2.dd p.2.F) (ho : VE g F a fa) (ha : VA g F (e :: es) ka) (hk : k ≤ F.lvl) (hot : F.hot = false := by rfl)
    (hst : ∀ env, starEach (e :: es) env = (false, eval e env) :: starEach es env := by intro _; rfl) (hpl : ∀ env, (backTo pos (starEach es env)).any (·.1) = false := by intro _; rfl)
    (hev : ∀ env, eval (.Call (.Attribute a mn apos) (e :: es) [] pos) env = (do
      let ov ← eval a env
      standAt apos.atName
      let (f, first) ← holding [ov] (getMethod ov mn (plM a env))
      callWith pos f first (backTo pos (starEach (e :: es) env)) (backToKw pos (keywordEach [] env))) := by intro _; rfl) :
    VE g F (.Call (.Attribute a mn apos) (e :: es) [] pos) (eMeth t fa ka) := fun X W cx tk => ⟨fun pins s σ H Q I h => by
  have h1 := rdX_bind (relα := Rep g) mon_true h
  refine PySem.W.methodCall_KW (pl := plM a X.env) (thn ((ho X W cx tk).run pins s σ H _ I h1) fun u s1 ⟨x, H1, I1, rx, q⟩ => ?_) (hev _)
  obtain ⟨d, G, m, ρ, S, rs, re, x1, p⟩ := q
  dsimp only at p
  split at p
  · rename_i c cs hc
    split at p
    · rename_i M hM
      have z := ht _ (mem_of_lkZ hM)
      obtain ⟨f, fd, ps, C, hcad, hcl, hme, Fn, B⟩ := z.ex
      obtain ⟨ad, C', dx, vs, rfl, h4, h5, h6⟩ := obj_at rs x1.2 hc
      dsimp only at hcad
      rw [hcad] at h4
      cases h4
      obtain rfl : u = Value.ref ad := rx
      refine getmeth_ok I1 h5 (by rw [cx.K]; exact hcl) (by rw [cx.K]; exact hme) (zip_none z.no) ?_
      have q3 : rdX g (fun G m => Rep g G m (.ref ad) d) (Rep g) W (fun ρ S => (ka ρ S).bind fun ds S2 => M.F (d :: (ds ++ M.dd)) S2) σ H1 Q := ⟨G, m, ρ, S, rs, re, x1.2, p⟩
      have h2 := rdX_bind (relα := Reps g) mon_rep q3
      refine PySem.W.callWith_K (first := [.ref ad]) (h₀ := X.base) I.ok.mod.kin (by rw [cx.K]; exact hme.kp) (thn ((ha X W cx tk).run pos pins s1 σ H1 _ I1 h2) fun us s2 ⟨ws, H2, I2, r, q2⟩ => ⟨I2.kIn, ?_⟩) (hst _) (hpl _)
      obtain ⟨ds, G2, m2, ρ2, S2, rs2, re2, x2, p2⟩ := q2
      exact run_p (us := .ref ad :: us) (vs := .ref ad :: ws) (ds := d :: ds) cx hot tk Fn hk B I2 (.cons rfl r) rs2 (.cons x2.1 x2.2) p2
    · exact p.elim
  · exact p.elim⟩
theorem ve_meth0 {t : List (Nat × MT)} {mn : Str} {apos : Pos} (ht : ∀ p ∈ t, MetZ g k p.1 mn p.2.dd p.2.F) (ho : VE g F a fa) (hk : k ≤ F.lvl) (hot : F.hot = false := by rfl)
    (hev : ∀ env, eval (.Call (.Attribute a mn apos) [] [] pos) env = (do
      let ov ← eval a env
      standAt apos.atName
      let (f, first) ← holding [ov] (getMethod ov mn (plM a env))
      callWith pos f first (backTo pos (starEach [] env)) (backToKw pos (keywordEach [] env))) := by intro _; rfl) :
    VE g F (.Call (.Attribute a mn apos) [] [] pos) (eMeth t fa aNil) := fun X W cx tk => ⟨fun pins s σ H Q I h => by
  have h1 := rdX_bind (relα := Rep g) mon_true h
  refine PySem.W.methodCall_KW (pl := plM a X.env) (thn ((ho X W cx tk).run pins s σ H _ I h1) fun u s1 ⟨x, H1, I1, rx, q⟩ => ?_) (hev _)
  obtain ⟨d, G, m, ρ, S, rs, re, x1, p⟩ := q
  dsimp only at p
  split at p
  · rename_i c cs hc
    split at p
    · rename_i M hM
      have z := ht _ (mem_of_lkZ hM)
      obtain ⟨f, fd, ps, C, hcad, hcl, hme, Fn, B⟩ := z.ex
      obtain ⟨ad, C', dx, vs, rfl, h4, h5, h6⟩ := obj_at rs x1.2 hc
      dsimp only at hcad
      rw [hcad] at h4
      cases h4
      obtain rfl : u = Value.ref ad := rx
      refine getmeth_ok I1 h5 (by rw [cx.K]; exact hcl) (by rw [cx.K]; exact hme) (zip_none z.no) ?_
      exact PySem.W.callWith_K0 (first := [.ref ad]) I1.kIn (by rw [cx.K]; exact hme.kp) (run_p (us := [.ref ad]) (vs := [.ref ad]) (ds := [d]) cx hot tk Fn hk B I1 (.cons rfl .nil) rs (.cons x1.2 .nil) p)
    · exact p.elim
  · exact p.elim⟩

/-! ### e.f, a property -/
structure PropZ (g : GC) (k : Nat) (c : Nat) (f : Str) (Fs : FSem) : Prop where
  ex : ∃ fa pa fd ps C, g.cad c = some C ∧ Cls g.K C ∧ PropOf g.K C f pa fa ∧ FnZ g k fa fd ps Fs ∧ BndZ g fd ps []
def onlyOk : Res D → Res D
  | .ok d S => .ok d S
  | _ => .no
def eProp (t : List (Nat × FSem)) (fo : EE) : EE := fun ρ S => (fo ρ S).bind fun x S1 => match objOf S1 x with
  | some (c, _) => match t.lookup c with
    | some Fs => onlyOk (Fs [x] S1)
    | none => .no
  | none => .no
theorem ve_prop {t : List (Nat × FSem)} {fn : Str} (ht : ∀ p ∈ t, PropZ g k p.1 fn p.2) (ho : VE g F a fa) (hk : k + 1 ≤ F.lvl) (hot : F.hot = false := by rfl) (hb : ∀ env, attributeBase a fn env (eval a env) = eval a env := by intro _; rfl) :
    VE g F (.Attribute a fn pos) (eProp t fa) := fun X W cx tk => ⟨fun pins s σ H Q I h => by
  have h1 := rdX_bind (relα := Rep g) mon_true h
  refine attr_of (hb _) (thn ((ho X W cx tk).run pins s σ H _ I h1) fun u s1 ⟨x, H1, I1, rx, q⟩ => ?_)
  obtain ⟨d, G, m, ρ, S, rs, re, x1, p⟩ := q
  dsimp only at p
  split at p
  · rename_i c cs hc
    split at p
    · rename_i Fs hM
      have z := ht _ (mem_of_lkZ hM)
      obtain ⟨f, pa, fd, ps, C, hcad, hcl, hpr, Fn, B⟩ := z.ex
      obtain ⟨us2, vs2, hbd, r2, rd2⟩ := B.ex
      have rz := rd2 G m
      cases rz
      cases r2
      obtain ⟨ad, C', dx, vs, rfl, h4, h5, h6⟩ := obj_at rs x1.2 hc
      dsimp only at hcad
      rw [hcad] at h4
      cases h4
      obtain rfl : u = Value.ref ad := rx
      refine getprop_ok (E := fun _ _ _ => False) (dvs := []) (ds := []) I1 h5 (by rw [cx.K]; exact hcl) (by rw [cx.K]; exact hpr) (Fn.at cx) ((cx.room hot).mono hk) (by rw [cx.K]; exact hbd) .nil (fun _ _ _ _ _ _ _ c => ?_) ?_
      · obtain ⟨_, _, _, _, _, _, _, _, _, _, _, _, hE⟩ := c
        exact hE
      · have p2 : Po g (Rep g) (fun _ _ _ _ => False) G m H1 σ Q (Fs [d] S) := by
          cases eo : Fs [d] S with
          | ok d S' =>
            rw [eo] at p
            exact p
          | ex x S' =>
            rw [eo] at p
            exact p.elim
          | no =>
            rw [eo] at p
            exact p.elim
        exact sp_of (E := fun _ _ _ => False) Fn rs (.cons x1.2 .nil) p2
    · exact p.elim
  · exact p.elim⟩

/-! ### C(e, ..) -/
def newR (c : Nat) (Fs : FSem) (ds : List D) (S : Store) : Res D := match Fs (.ref S.length :: ds) (S ++ [some (.obj c [])]) with
  | .ok .non S' => .ok (.ref S.length) S'
  | .ex x S' => .ex x S'
  | _ => .no
theorem run_newZ {c : Nat} {C : Addr} (cx : CxOk g F X) (hot : F.hot = false) (tk : L2N.Takes X W) (hc : g.cad c = some C) (M : Mk g.K C f) (Fn : FnZ g k f fd ps Fs) (hk : k + 1 ≤ F.lvl) {pins : List (Addr × Obj)} {s : Shared} {σ : St} {Q : VK} {us : List Value} {us' : Addr → List Value} {kw : List (Str × Value)} {vs : Addr → List V} (I : Inv X pins σ H s)
    (hb : ∀ (s' : Shared) (a : Addr), X.K.In s'.heap → BindsTo s' fd ⟨.ref a :: us, kw⟩ (ps.zip (us' a))) (r : ∀ a, Vals (vs a) (us' a)) (rs : RS g G m S H) (rr : ∀ a m' d, m <+: m' → Rep g G m' (.ref a) d → Reps g G m' (vs a) (d :: ds)) (p : Po g (Rep g) W G m H σ Q (newR c Fs ds S)) :
    wpAny (model X.prog X.w) X.A (call (.ref C) us kw) (EP X pins σ Q) X.xe s := by
  have hx : H (s.heap.objs.size + 1) = none := I.hok.fresh (Nat.le_succ _)
  have hd : H s.heap.objs.size = none := I.hok.fresh (Nat.le_refl _)
  have ne : s.heap.objs.size ≠ s.heap.objs.size + 1 := Nat.ne_of_lt (Nat.lt_succ_self _)
  have hx2 : upd H s.heap.objs.size (.own (s.heap.objs.size + 1)) (s.heap.objs.size + 1) = none := by
    rw [upd_ne (Ne.symm ne)]
    exact hx
  have rs1 := (rs.junk (o := .own (s.heap.objs.size + 1)) hd).push (o := .ins C s.heap.objs.size []) (c := .obj c []) hx2 ⟨C, s.heap.objs.size, [], hc, by rw [upd_same, List.zip_nil_right], Nat.zero_le _, .nil⟩
  have ev : Ev G m H G (m ++ [s.heap.objs.size + 1]) _ := (Ev.junk (o := .own (s.heap.objs.size + 1)) hd).trans (Ev.push (o := .ins C s.heap.objs.size []) hx2)
  have rr1 : Reps g G (m ++ [s.heap.objs.size + 1]) (vs (s.heap.objs.size + 1)) (.ref S.length :: ds) := rr _ _ _ (List.prefix_append _ _) (.ref (by rw [← rs.len]; simp))
  have I2 := Inv.made (C := C) I
  have p' : Po g (Rep g) (fun cls dx _ H => (fun cls dx H => W cls dx σ H) cls dx H) G (m ++ [s.heap.objs.size + 1]) (upd (upd H s.heap.objs.size (.own (s.heap.objs.size + 1))) (s.heap.objs.size + 1) (.ins C s.heap.objs.size [])) σ (fun v H2 => v = .non ∧ Q (.ref (s.heap.objs.size + 1)) H2) (Fs (.ref S.length :: ds) (S ++ [some (.obj c [])])) := by
    unfold newR at p
    cases eo : Fs (.ref S.length :: ds) (S ++ [some (.obj c [])]) with
    | ok d S' =>
      rw [eo] at p
      cases d with
      | non =>
        intro G' m' H' u e2 rs2 ru
        cases ru
        refine ⟨rfl, p G' m' H' _ (ev.trans e2) rs2 (.ref (get_pre e2.pre ?_))⟩
        rw [← rs.len]
        simp
      | _ => exact p.elim
    | ex x S' =>
      rw [eo] at p
      exact fun G' m' H' cls dx e2 rs2 rx => p G' m' H' cls dx (ev.trans e2) rs2 rx
    | no =>
      rw [eo] at p
      exact p.elim
  have sp := sp_of (E := fun cls dx H => W cls dx σ H) Fn rs1 rr1 p'
  have M' : Mk X.K C f := by
    rw [cx.K]
    exact M
  refine wpAny_call (make_map (f := f) I.kIn M'.makes M'.init (beq_iff_eq.mp M'.fn) (codeAny_mono ((Fn.at cx).run _ X.stack _ _ ⟨Value.ref (s.heap.objs.size + 1) :: us, kw⟩ (us' (s.heap.objs.size + 1)) _ _ (fun cls dx H => W cls dx σ H) ((((cx.room hot).mono hk)).make C us kw)
    (I2.env0.make C us kw) (hb _ _ I2.kIn) (r _) sp) fun r s' hq' => ?_))
  cases r with
  | error e => exact tk e s' (L2N.XE.of_call I2 (fun _ _ _ h => h) hq')
  | ok fl =>
    cases fl with
    | ret u =>
      obtain ⟨v, H', I3, rv, ev, q3⟩ := I2.after hq'
      subst ev
      exact ⟨rv, ⟨V.ref (s.heap.objs.size + 1), H', I3, rfl, q3⟩⟩
    | next => exact False.elim hq'
    | brk => exact False.elim hq'
    | cont => exact False.elim hq'
structure MkZ (g : GC) (k : Nat) (x : Str) (c : Nat) (dd : List D) (Fs : FSem) : Prop where
  ex : ∃ f fd ps C, g.mg x = some (.ref C) ∧ g.cad c = some C ∧ Mk g.K C f ∧ FnZ g k f fd ps Fs ∧ BndZ g fd ps dd
structure MkK (g : GC) (k : Nat) (x : Str) (c : Nat) (n : Nat) (ks : List Str) (arr : List D → List D → List D) (Fs : FSem) : Prop where
  ex : ∃ f fd ps C, g.mg x = some (.ref C) ∧ g.cad c = some C ∧ Mk g.K C f ∧ FnZ g k f fd ps Fs ∧ BndK g fd ps (n + 1) ks (fun ds es => match ds with
    | [] => []
    | d :: ds => d :: arr ds es)
def eNew (c : Nat) (Fs : FSem) (dd : List D) (ka : AA) : EE := fun ρ S => (ka ρ S).bind fun ds S1 => newR c Fs (ds ++ dd) S1
theorem bnd_self {us : List Value} {dv : List Value} {n : Nat} (hb : Binds g.K fd ps dv) (hl : us.length + dv.length + 1 = ps.length) (cx : CxOk g F X) (s' : Shared) (a : Addr) (hK : X.K.In s'.heap) : BindsTo s' fd ⟨.ref a :: us, []⟩ (ps.zip (.ref a :: (us ++ dv))) :=
  hb s' (.ref a :: us) (by rw [← cx.K]; exact hK) (by rw [List.length_append, List.length_cons]; omega)
theorem ve_new {x : Str} {c : Nat} {p : Pos} (Mz : MkZ g k x c dd Fs) (hg : glB F x = true) (ha : VA g F (e :: es) ka) (hk : k + 1 ≤ F.lvl) (hot : F.hot = false := by rfl)
    (he : ∀ env, starEach (e :: es) env = (false, eval e env) :: starEach es env := by intro _; rfl) (hpl : ∀ env, (backTo pos (starEach es env)).any (·.1) = false := by intro _; rfl) : VE g F (.Call (.Name x p) (e :: es) [] pos) (eNew c Fs dd ka) := fun X W cx tk => ⟨fun pins s σ H Q I h => by
  obtain ⟨f, fd, ps, C, hm, hc, M, Fn, B⟩ := Mz.ex
  obtain ⟨us2, vs2, hb, r2, rd2⟩ := B.ex
  obtain ⟨g1, g2, _⟩ := gl_of cx hg
  have h1 := rdX_bind (relα := Reps g) mon_true h
  refine wpAny_Call_Name_kw (ld_glob I g1 (by rw [cx.mg]; exact hm) ?_ g2)
  refine PySem.W.callWith_K (h₀ := X.base) I.ok.mod.kin (by rw [cx.K]; exact M.kp) (thn ((ha X W cx tk).run pos pins s σ H _ I h1) fun us s1 ⟨vs, H1, I1, r, q⟩ => ⟨I1.kIn, ?_⟩) (he _) (hpl _)
  obtain ⟨ds, G, m, ρ, S, rs, re, x, p⟩ := q
  dsimp only at p
  have rr2 := x.2.append (rd2 G m)
  have rv := r.append r2
  have hl : us.length + us2.length + 1 = ps.length := by
    have z1 := rv.length
    have z2 := rr2.length
    have z3 : (D.ref S.length :: (ds ++ dd)).length = ps.length := by
      refine Fn.len _ (S ++ [some (.obj c [])]) fun z => ?_
      unfold newR at p
      rw [z] at p
      exact p
    rw [List.length_cons] at z3
    rw [List.length_append (as := us)] at z1
    omega
  exact run_newZ (us' := fun a => .ref a :: (us ++ us2)) (vs := fun a => .ref a :: (vs ++ vs2)) cx hot tk hc M Fn hk I1 (fun s' a hK => bnd_self (n := 0) hb hl cx s' a hK) (fun a => .cons (show Value.ref a = Value.ref a from rfl) rv) rs (fun a m' d hp r => .cons r (rr2.mono (Same.refl _) hp)) p⟩
theorem ve_new0 {x : Str} {c : Nat} {p : Pos} (Mz : MkZ g k x c dd Fs) (hg : glB F x = true) (hk : k + 1 ≤ F.lvl) (hot : F.hot = false := by rfl) : VE g F (.Call (.Name x p) [] [] pos) (eNew c Fs dd aNil) := fun X W cx tk => ⟨fun pins s σ H Q I h => by
  obtain ⟨f, fd, ps, C, hm, hc, M, Fn, B⟩ := Mz.ex
  obtain ⟨us2, vs2, hb, r2, rd2⟩ := B.ex
  obtain ⟨g1, g2, _⟩ := gl_of cx hg
  refine wpAny_Call_Name_kw (ld_glob I g1 (by rw [cx.mg]; exact hm) ?_ g2)
  obtain ⟨G, m, ρ, S, rs, re, x, p⟩ := h
  have p : Po g (Rep g) W G m H σ Q (newR c Fs dd S) := p
  have hl : ([] : List Value).length + us2.length + 1 = ps.length := by
    have z1 := r2.length
    have z2 := (rd2 G m).length
    have z3 : (D.ref S.length :: dd).length = ps.length := by
      refine Fn.len _ (S ++ [some (.obj c [])]) fun z => ?_
      unfold newR at p
      rw [z] at p
      exact p
    rw [List.length_cons] at z3
    rw [List.length_nil]
    omega
  exact PySem.W.callWith_K0 I.kIn (by rw [cx.K]; exact M.kp) (run_newZ (us := []) (us' := fun a => .ref a :: ([] ++ us2)) (vs := fun a => .ref a :: vs2) cx hot tk hc M Fn hk I (fun s' a hK => bnd_self (n := 0) hb hl cx s' a hK) (fun a => .cons (show Value.ref a = Value.ref a from rfl) r2) rs (fun a m' d hp r => .cons r (rd2 G m')) p)⟩
def eNewK (c : Nat) (Fs : FSem) (n l : Nat) (arr : List D → List D → List D) (ka kk : AA) : EE := fun ρ S => (ka ρ S).bind fun ds S1 => (kk ρ S1).bind fun es S2 => if ds.length = n ∧ es.length = l then newR c Fs (arr ds es) S2 else .no
theorem ve_newK {x : Str} {c : Nat} {p : Pos} {kws : List Keyword} {n : Nat} {ks : List Str} {arr : List D → List D → List D} (Mz : MkK g k x c n ks arr Fs) (hg : glB F x = true) (ha : VA g F (e :: es) ka) (hkw : VK' g F kws kk) (hk : k + 1 ≤ F.lvl) (hot : F.hot = false := by rfl)
    (hall : ∀ env, (backToKw pos (keywordEach kws env)).all (·.1.isSome) = true := by intro _; rfl) (hks : ∀ env, (backToKw pos (keywordEach kws env)).filterMap (·.1) = ks := by intro _; rfl)
    (he : ∀ env, starEach (e :: es) env = (false, eval e env) :: starEach es env := by intro _; rfl) (hpl : ∀ env, ((backTo pos (starEach (e :: es) env)).any (·.1) || (backToKw pos (keywordEach kws env)).any (·.1.isNone)) = false := by intro _; rfl) :
    VE g F (.Call (.Name x p) (e :: es) kws pos) (eNewK c Fs n ks.length arr ka kk) := fun X W cx tk => ⟨fun pins s σ H Q I h => by
  obtain ⟨f, fd, ps, C, hm, hc, M, Fn, B⟩ := Mz.ex
  obtain ⟨gg, gV, kb, rel⟩ := B.ex
  obtain ⟨g1, g2, _⟩ := gl_of cx hg
  have h1 := rdX_bind (relα := Reps g) mon_true h
  refine wpAny_Call_Name_kw (ld_glob I g1 (by rw [cx.mg]; exact hm) ?_ g2)
  refine PySem.W.callWith_KW (h₀ := X.base) I.ok.mod.kin (by rw [cx.K]; exact M.kp) (hall _) (thn ((ha X W cx tk).run pos pins s σ H _ I h1) fun us s1 ⟨vs, H1, I1, r, q⟩ => ?_) (hpl _) (he _)
  obtain ⟨ds, q⟩ := q
  have h2 := rdX_bind (relα := Reps g) (mon_true.and mon_reps) q
  refine thn ((hkw X W cx tk).run pos pins s1 σ H1 _ I1 h2) fun ws s2 ⟨zs, H2, I2, rz, q2⟩ => ⟨I2.kIn, ?_⟩
  obtain ⟨es, G, m, ρ, S, rs, re, x, p⟩ := q2
  rw [hks]
  dsimp only at p
  split at p
  · rename_i hl
    obtain ⟨hl1, hl2⟩ := hl
    have rr1 : Reps g G m vs ds := x.1.2
    have rr2 : Reps g G m zs es := x.2
    exact run_newZ (us' := fun a => gg (.ref a :: us) ws) (vs := fun a => gV (.ref a :: vs) zs) (ds := arr ds es) cx hot tk hc M Fn hk I2 (fun s' a hK => kb.to s' (.ref a :: us) ws (by rw [← cx.K]; exact hK) (by rw [List.length_cons, ← r.length, rr1.length, hl1]) (by rw [← rz.length, rr2.length]; exact hl2))
      (fun a => kb.rel (.cons (show Value.ref a = Value.ref a from rfl) r) rz) rs (fun a m' d hp q => rel G m' (.ref a :: vs) zs (d :: ds) es (.cons q (rr1.mono (Same.refl _) hp)) (rr2.mono (Same.refl _) hp)) p
  · exact p.elim⟩
end
end Z
set_option Elab.async false
set_option linter.all false
set_option maxRecDepth 100000
set_option maxHeartbeats 2000000
/-! Z8: what is made stays (freeze), cells forgotten mid-way; raising and catching. -/
namespace Z
open PySem L2

section
variable {g : GC} {F : Fm} {e a b c : Expr} {es : List Expr} {pos : Pos} {fa fb fc : EE} {ka kk : AA} {G G' H H' : Hp} {m m' : List Addr} {S : Store} {ds dd : List D} {Fs : FSem} {st : Stmt} {sts : List Stmt}
/-! ### freeze, trim -/
/-- a cell's value that will not change any more; fl: how many fields a class has -/
def frz1 (fl : Nat → Nat) (d : D) (S : Store) : Res D := match d with
  | .ref k => match S[k]? with
    | some (some (.lst ds)) => .ok (.lst ds) (S.set k none)
    | some (some (.obj c ds)) => if ds.length = fl c then .ok (.obj c ds) (S.set k none) else .no
    | _ => .no
  | d => .ok d S
theorem po_frz {fl : Nat → Nat} (hf : ∀ c, fl c = (g.fld c).length) {W : WX} {σ : St} {Q : VK} {v : V} {d : D} (rs : RS g G m S H) (r : Rep g G m v d) (p : Po g (Rep g) W G m H σ Q (frz1 fl d S)) : Q v H := by
  unfold frz1 at p
  split at p
  · rename_i k
    cases r with
    | @ref _ ad hm =>
      split at p
      · rename_i ds hk
        obtain ⟨hG, vs, h1, h2⟩ := rs.cell _ _ _ hk hm
        exact p _ m H _ (.freeze hm hG) (rs.freeze hm h1 hG) (.lst upd_same (h2.mono (same_upd hG) (List.prefix_refl _)))
      · rename_i c ds hk
        obtain ⟨hG, C, dx, vs, h0, h1, h2, h3⟩ := rs.cell _ _ _ hk hm
        split at p
        · rename_i hl
          exact p _ m H _ (.freeze hm hG) (rs.freeze hm h1 hG) (.obj h0 upd_same (by rw [h3.length, hl, hf]) (h3.mono (same_upd hG) (List.prefix_refl _)))
        · exact p.elim
      · exact p.elim
  · exact p G m H v .refl rs r
def eFrz (fl : Nat → Nat) (f : EE) : EE := fun ρ S => (f ρ S).bind fun d S1 => frz1 fl d S1
theorem ve_frz {fl : Nat → Nat} (hf : ∀ c, fl c = (g.fld c).length) (h : VE g F e fa) : VE g F e (eFrz fl fa) := fun X W cx tk => (h X W cx tk).mono fun σ H Q q => by
  refine (rdX_bind (relα := Rep g) mon_true q).imp fun u H1 q2 => ?_
  obtain ⟨d, G, m, ρ, S, rs, re, x, p⟩ := q2
  exact po_frz hf rs x.2 p
def eTrim (f : EE) : EE := fun ρ S => trimR S.length (f ρ S)
theorem ve_trim (h : VE g F e fa) : VE g F e (eTrim fa) := fun X W cx tk => (h X W cx tk).mono fun σ H Q q => by
  obtain ⟨G, m, ρ, S, rs, re, x, p⟩ := q
  exact ⟨G, m, ρ, S, rs, re, x, po_trim rs p⟩
/-! ### raise -/
/-- an own class over ValueError that has no __init__ -/
structure ExcZ (g : GC) (x : Str) (c : Nat) : Prop where
  ex : ∃ C, g.mg x = some (.ref C) ∧ g.cad c = some C ∧ PySem.W.excIn g.K C He.veBase "ValueError.__new__" = true ∧ PySem.W.keepIn g.K (.ref C) = true ∧ PySem.W.subIn g.K (.ref C) (.type "BaseException") = some true ∧ PySem.W.typeIn g.K (.ref C) = some (.type "type")
def sRaise0 (c : Nat) : SS := fun ρ S => .ex ⟨c, []⟩ ρ S
theorem vs_raise0 {x t : Str} {c j : Nat} {p p2 p3 : Pos} (Ez : ExcZ g x c) (hg : glB F x = true) (hot : F.hot = false := by rfl) : VS g F (.Raise (some (.Call (.Name x p) [.Constant (.str t) j p2] [] p3)) none pos) (sRaise0 c) := fun X W cx fr tk => by
  obtain ⟨C, h1, h2, h3, h4, h5, h6⟩ := Ez.ex
  obtain ⟨g1, g2, _⟩ := gl_of cx hg
  refine (L2N.ps_raise (cx.calm hot) tk (L2N.pmk_own PySem.F.excBase_ValueError (bmB := He.veBase) (by rw [cx.K]; exact h3) (by rw [cx.mg]; exact h1) (by rw [cx.K]; exact h4) (raises_own (by rw [cx.K]; exact h5) (by rw [cx.K]; exact h6)) g1 g2)).mono fun D σ H q => ?_
  obtain ⟨G, m, ρ, S, rs, re, x, p⟩ := q
  exact p G m H σ _ _ .refl rs re ⟨C, h2, rfl, fun _ => .exn0⟩
/-- an own class whose __init__ keeps its one argument -/
def spKeep (K : PySem.W.Frag) (C : Addr) (f : Str) : Sp := fun vs H Q _ => ∃ ad v, vs = [.ref ad, v] ∧ H ad = some (exo ad C none) ∧ ∀ dx, H dx = none → dx ≠ ad → Q .non (upd (upd H dx (exd dx [(f, v)])) ad (exo ad C (some dx)))
structure KeepZ (g : GC) (x : Str) (c : Nat) (f : Str) : Prop where
  ex : ∃ C fI fd ps, g.mg x = some (.ref C) ∧ g.cad c = some C ∧ OexC g.K C ∧ PySem.W.findIn g.K (.ref C) f = some none ∧ PySem.W.findIn g.K (.ref C) "__init__" = some (some (.ref fI)) ∧ PySem.W.typeIn g.K (.ref fI) = some (.type "function") ∧
    FnOk g.P g.w g.K g.mg g.base (L2N.CX g.P g.w) 1 fI fd ps (spKeep g.K C f) ∧ Binds g.K fd ps []
  fl : g.fld c = [f]
/-- the __init__ itself -/
theorem keep_ok {qual n0 n1 f : Str} {params : Arguments} {scope : Scope} {fI C : Addr} {fd : FuncData} {p1 p2 p3 p4 : Pos} (Fd : FunD g.K "__init__" qual params [.Assign [.Attribute (.Name n0 p1) f p2] (.Name n1 p3) p4] scope [] [] fI fd) (Sc : FnScope [n0, n1] [n0, n1] scope)
    (T : OexC g.K C) (hf : PySem.W.findIn g.K (.ref C) f = some none) (hd0 : (n0 == ("__debug__" : Str)) = false) (hd1 : (n1 == ("__debug__" : Str)) = false) (hc0 : (n0 == ("__classdict__" : Str)) = false) (hc1 : (n1 == ("__classdict__" : Str)) = false) :
    FnOk g.P g.w g.K g.mg g.base (L2N.CX g.P g.w) 1 fI fd [n0, n1] (spKeep g.K C f) := by
  refine Fd.ok Sc (fun vs H Q E h => ?_) fun cdv A outer s H vs Q E hr hsp => ?_
  · obtain ⟨ad, v, rfl, _⟩ := h
    rfl
  · obtain ⟨ad, v, rfl, h1, h2⟩ := hsp
    have vis : ∀ x ∈ [n0, n1], Vis scope x := fun x hx => (Sc.par x hx).elim (fun z => .inl z) fun z => .inr (.inl z)
    refine ⟨_, pss_one (ps_ost (pe_var (i := 0) rfl (vis n0 (by simp)) hd0 hc0) (pe_var (i := 1) rfl (vis n1 (by simp)) hd1 hc1)), ?_⟩
    exact ⟨v, rfl, .ref ad, rfl, ad, C, rfl, T, hf, .inl ⟨h1, fun dx k1 k2 => h2 dx k1 k2⟩⟩
/-- X(e) of such a class -/
theorem pmk_keep {X : Cx} {x f : Str} {C fI : Addr} {fd : FuncData} {ps : List Str} {te : TE} {p : Pos} (T : OexC X.K C) (iC : PySem.W.findIn X.K (.ref C) "__init__" = some (some (.ref fI))) (tI : PySem.W.typeIn X.K (.ref fI) = some (.type "function"))
    (F1 : FnOk X.prog X.w X.K X.mg X.base (L2N.CX X.prog X.w) 1 fI fd ps (spKeep X.K C f)) (hr : Room 2 X.A) (hb : Binds X.K fd ps []) (hg : Gl X x) (hm : X.mg x = some (.ref C)) (he : PE X e te)
    (hdb : (x == ("__debug__" : Str)) = false) (hs : starEach [e] X.env = (false, eval e X.env) :: starEach [] X.env) :
    L2N.PMk X (.Call (.Name x p) [e] [] pos) (fun σ H Q => te σ H fun v H1 => ∀ d, H1 d = none → Q (.ref C) (some d) (upd H1 d (.xd [(f, v)]))) := by
  intro pins s σ H Q I h
  obtain ⟨nm, qn, N, bs, bm, sn, sub, ab, col, d0, k0, k1, k2, k3, k5, hC, hbm⟩ := T.cls
  refine wpAny_Call_Name_kw (ld_glob I hg hm ?_ hdb)
  refine PySem.W.callWith_K (h₀ := X.base) I.ok.mod.kin T.kC (thn ((pa_cons he pa_nil hs).run pos pins s σ H (fun vs H1 => ∃ v, vs = [v] ∧ ∀ d, H1 d = none → Q (.ref C) (some d) (upd H1 d (.xd [(f, v)]))) I ?_) fun us s1 ⟨vs, H1, I1, r1, v, ev, q1⟩ => ⟨I1.kIn, ?_⟩) hs rfl
  · have key : ∀ {t : TE} {Q1 Q2 : VK}, PE X e t → (∀ v H, Q1 v H → Q2 v H) → True := fun _ _ => True.intro
    show te σ H fun v H1 => _
    refine cast ?_ h
    congr 1
    funext v H1
    apply propext
    constructor
    · intro z
      exact ⟨v, rfl, z⟩
    · intro z
      obtain ⟨v', e1, z⟩ := z
      cases e1
      exact z
  subst ev
  show wpAny _ _ (call (.ref C) us) _ _ _
  obtain ⟨hp, gn, dr, tk, os⟩ := s1
  have hsz : hp.objs.size ≤ hp.objs.size + 1 := Nat.le_succ _
  have hn : H1 (hp.objs.size + 1) = none := I1.hok.fresh hsz
  have kk : ∀ b o, hp.get? b = some o → ((hp.push (PySem.W.kdv_tup us)).push (PySem.HandSPX.excO C hp.objs.size)).get? b = some o := fun b o z => Heap.get?_push_of_some _ (Heap.get?_push_of_some _ z)
  have hget : ((hp.push (PySem.W.kdv_tup us)).push (PySem.HandSPX.excO C hp.objs.size)).get? (hp.objs.size + 1) = some (PySem.HandSPX.excO C hp.objs.size) := by heap_get
  have I2 : Inv X pins σ (upd H1 (hp.objs.size + 1) (exo (hp.objs.size + 1) C none)) ⟨(hp.push (PySem.W.kdv_tup us)).push (PySem.HandSPX.excO C hp.objs.size), gn, dr, tk, os⟩ :=
    I1.laid (t' := tk) (a := hp.objs.size + 1) (o := exo (hp.objs.size + 1) C none) (h' := (hp.push (PySem.W.kdv_tup us)).push (PySem.HandSPX.excO C hp.objs.size)) kk hsz (exo_ok hget)
  have hus : us.length ≤ sizeLine := by
    rw [← Paired.length r1, sizeLine_eq]
    exact Nat.le_of_ble_eq_true rfl
  have r2 : Vals (V.ref (hp.objs.size + 1) :: [v]) (Value.ref (hp.objs.size + 1) :: us) := .cons rfl r1
  have hq : spKeep X.K C f [V.ref (hp.objs.size + 1), v] (upd H1 (hp.objs.size + 1) (exo (hp.objs.size + 1) C none))
      (fun u H2 => u = .non ∧ ∃ d, H1 d = none ∧ d ≠ hp.objs.size + 1 ∧ H2 = upd (upd (upd H1 (hp.objs.size + 1) (exo (hp.objs.size + 1) C none)) d (exd d [(f, v)])) (hp.objs.size + 1) (exo (hp.objs.size + 1) C (some d))) (fun _ _ _ => False) :=
    ⟨_, v, rfl, upd_same, fun dx n1 n2 => ⟨rfl, dx, by rwa [upd_ne n2] at n1, n2, rfl⟩⟩
  have hl : (Value.ref (hp.objs.size + 1) :: us ++ ([] : List Value)).length = ps.length := by
    rw [List.append_nil, ← r2.length]
    exact F1.len _ _ _ _ hq
  have hb2 := hb ⟨(hp.push (PySem.W.kdv_tup us)).push (PySem.HandSPX.excO C hp.objs.size), gn, dr, tk, os⟩ (Value.ref (hp.objs.size + 1) :: us) I2.kIn hl
  rw [List.append_nil] at hb2
  refine wpAny_call (PySem.HandSPX.call_own PySem.F.excBase_ValueError (fun Y => PySem.HandSPX.refsVE_contains Y bm hbm) (I1.kIn _ _ hC) (PySem.W.looks_findIn I1.kIn iC) (fun self => PySem.W.bind_fn I1.kIn self tI) hus
    (codeAny_mono (F1.run _ X.stack _ _ ⟨Value.ref (hp.objs.size + 1) :: us, []⟩ (Value.ref (hp.objs.size + 1) :: us) _ _ (fun _ _ _ => False) (hr.make C us []) (I2.env0.make C us []) hb2 r2 hq) fun r s' hq' => ?_))
  cases r with
  | error er =>
    obtain ⟨_, _, _, _, _, _, _, _, _, _, _, _, hE⟩ := hq'
    exact hE.elim
  | ok fl =>
    cases fl with
    | ret u =>
      obtain ⟨v2, H2, os2, bare2, un2, hok2, rv, ev, d, hd1, hne, eH⟩ := hq'
      subst ev
      obtain ⟨h2, g2, d2, t2, os'⟩ := s'
      have ea : H2 (hp.objs.size + 1) = some (exo (hp.objs.size + 1) C (some d)) := by rw [eH, upd_same]
      have ed : H2 d = some (exd d [(f, v)]) := by rw [eH, upd_ne hne, upd_same]
      obtain ⟨t0, Gp, J, kG, ge, hoe, na⟩ := mk_end0 (d2 := d2) (t2 := t2) I1 hsz kk un2 hok2 os2 bare2 ea ed hd1
      have eq : upd (del H2 (hp.objs.size + 1)) d (.xd [(f, v)]) = upd H1 d (.xd [(f, v)]) := by
        funext z
        by_cases z1 : z = d
        · rw [z1, upd_same, upd_same]
        · rw [upd_ne z1, upd_ne z1]
          by_cases z2 : z = hp.objs.size + 1
          · rw [z2, del_same, hn]
          · rw [del_ne z2, eH, upd_ne z2, upd_ne z1, upd_ne z2]
      rw [eq] at J na
      exact ⟨rv, _, _, _, ⟨Gp, g2, d2, t2, os'⟩, _, .ref C, some d, rfl, J, kG, ge, hoe, ⟨rfl, rfl, fun vs z => by cases z; rfl⟩, rfl, rfl, na, rfl, bare2, raises_own T.exC T.tyC, q1 d hd1⟩
    | next => exact False.elim hq'
    | brk => exact False.elim hq'
    | cont => exact False.elim hq'
def sRaise1 (c : Nat) (f : EE) : SS := sBy f fun d ρ S => .ex ⟨c, [d]⟩ ρ S
theorem vs_raise1 {x f : Str} {c : Nat} {p p3 : Pos} (Kz : KeepZ g x c f) (hg : glB F x = true) (he : VE g F e fa) (hk : 2 ≤ F.lvl) (hot : F.hot = false := by rfl) (hs : ∀ env, starEach [e] env = (false, eval e env) :: starEach [] env := by intro _; rfl) :
    VS g F (.Raise (some (.Call (.Name x p) [e] [] p3)) none pos) (sRaise1 c fa) := fun X W cx fr tk => by
  obtain ⟨C, fI, fd, ps, h1, h2, h3, h4, h5, h6, h7, h8⟩ := Kz.ex
  obtain ⟨g1, g2, _⟩ := gl_of cx hg
  have h7' : FnOk X.prog X.w X.K X.mg X.base (L2N.CX X.prog X.w) 1 fI fd ps (spKeep X.K C f) := by
    rw [cx.P, cx.w, cx.K, cx.mg, cx.base]
    exact h7
  refine (L2N.ps_raise (cx.calm hot) tk (pmk_keep (by rw [cx.K]; exact h3) (by rw [cx.K]; exact h5) (by rw [cx.K]; exact h6) h7' ((cx.room hot).mono hk) (by rw [cx.K]; exact h8) g1 (by rw [cx.mg]; exact h1) (he X W cx tk) g2 (hs _))).mono fun D σ H q => ?_
  refine (rd_by (rel := Rep g) mon_true q).imp fun u H1 q2 => ?_
  obtain ⟨d, G, m, ρ, S, rs, re, x, p⟩ := q2
  intro dx hdx
  have sm := same_upd (o := .xd [(f, u)]) (rs.free hdx)
  refine p _ m _ σ _ _ (.new hdx (rs.free hdx)) (rs.new hdx) (re.mono sm (List.prefix_refl _)) ⟨C, h2, rfl, fun ad => .exn1 (fs := [(f, u)]) (vs := [u]) upd_same (by show [d].length = (g.fld c).length; rw [Kz.fl]; rfl) (fun i f' v k1 k2 => ?_) (.one (x.2.mono sm (List.prefix_refl _)))⟩
  dsimp only at k1
  rw [Kz.fl] at k1
  cases i with
  | zero =>
    simp at k1 k2
    subst k1 k2
    simp [List.lookup]
  | succ i => simp at k1
end
end Z
set_option Elab.async false
set_option linter.all false
set_option maxRecDepth 100000
set_option maxHeartbeats 4000000
/-! Z9: try .. except x as e; isinstance of e, a field of e. -/
namespace Z
open PySem L2
namespace Ka
open PySem PySem.Spec PySem.W PySem.Calls PyProof.Rows
section
variable {prog : Program} {w : World} {A : Around} {E : Value → Shared → Prop} {s : Shared} {K : Frag} {x D : Addr} {ox : Obj} {od : Option Obj}
theorem fo_data {C : Addr} {nm : Str} {v k : Value} (c1 : (clsIn K C).isSome = true) (c2 : findIn K (.ref C) nm = some (some v)) (c3 : specialIn K v "__get__" = some (some k)) (c4 : takesIn K v = some true) : findObj K C od nm = some (.bind k v) := by
  obtain ⟨cd, c5⟩ := Option.isSome_iff_exists.mp c1
  rw [findObj, c5, Option.bind_some, c2, Option.bind_some]
  simp [c3, c4]
/-- what a class over BaseException says, so that __class__ of its instances is itself -/
theorem cls_of_exc {Q : Option Value → Shared → Prop} (T : ExcC K D) (KI : K.In s.heap) (J : InstAt s.heap x ox D od) (fin : Q (some (.ref D)) { s with toks := s.toks + 1 }) : wpAny (model prog w) A (getAttr? (.ref x) "__class__") Q E s := by
  have e0 : findObj K D od "__class__" = some (.bind (.builtin "getset_descriptor.__get__") (.builtin "object.__class__")) := fo_data (by obtain ⟨cd, z, _⟩ := any_some T.hd; rw [z]; rfl) T.ha T.hn T.ht
  obtain ⟨hh, gs, dw, tk, os⟩ := s
  have M0 := J.type (M := model prog w)
  have M1 := looks_findIn (M := model prog w) KI T.hg
  have M2 := looks_findIn (M := model prog w) KI T.hk
  have M3 := looks_find (M := model prog w) KI J e0
  have below : Looks (model prog w) hh (isInstance (.ref x) (.type "BaseException")) true := M0.andThen (looks_subIn KI T.hs)
  have n0 : (false && onTheHeap (Value.builtin "BaseException.__getattribute__")) = false := rfl
  have n1 : (Value.builtin "BaseException.__getattribute__" == Value.builtin "object.__getattribute__") = false := by decide +kernel
  have n2 : (onTheHeap (Value.ref D) && Value.builtin "BaseException.__getattribute__" == Value.builtin "object.__getattribute__") = false := by rw [n1]; rfl
  unfold getAttr? getAttrBy? getAttrBy
  refine wpAny_bind (wpAny_mkText (wpAny_bind (wpAny_attempt (wpAny_holding (wpAny_bind (M0.at (wpAny_bind (M1.at ?_))))))))
  show wpAny _ _ (if (onTheHeap (Value.ref D) && Value.builtin "BaseException.__getattribute__" == Value.builtin "object.__getattribute__") = true then _ else _) _ _ _
  rw [n2, if_neg Bool.false_ne_true, getAttrByItsOwn, hookBefore]
  refine wpAny_bind ?_
  rw [if_pos (show onTheHeap (Value.ref D) = true from rfl)]
  refine M2.at ?_
  refine wpAny_bind (wpAny_attempt (wpAny_holding ?_))
  rw [callGetattribute, n0, if_neg Bool.false_ne_true, boundAndCalled, PySem.F.excAttr_ValueError.ga.bind (.ref x)]
  refine wpAny_bind (wpAny_pure ?_)
  show wpAny _ _ (call (.builtin "BaseException.__getattribute__") [.ref x, .str "__class__" tk]) _ _ _
  refine wpAny_call (codeAny_call_builtin PySem.F.excAttr_ValueError.ga.plain PySem.F.entry_bexc_ga ?_)
  refine @check_slot (model prog w) _ _ ⟨hh, gs, dw, tk + 1, os⟩ "BaseException.__getattribute__" "BaseException" "__getattribute__" (.ref x) [.str "__class__" tk] [] _ (by decide +kernel) (by decide +kernel) below (PySem.F.args_bexc_ga (.ref x) (.str "__class__" tk)) ?_
  rw [Builtin.«object.__getattribute__»]
  refine wpAny_bind (wpAny_of_eq (a := ((Value.ref x : Value), [Value.str "__class__" tk])) (by first | rfl | (simp only [slotArgs]; rfl)) ?_)
  refine wpAny_bind (wpAny_pure (wpAny_bind (M0.at (wpAny_bind (M3.at ?_)))))
  show wpAny _ _ (holding [Value.builtin "object.__class__"] (call (.builtin "getset_descriptor.__get__") [.builtin "object.__class__", .ref x, .ref D]) >>= ret) _ _ _
  refine wpAny_bind (wpAny_holding (wpAny_call (class_get (s := ⟨hh, gs, dw, tk + 1, os⟩) (ox := ox) (od := od) KI J T.hm ?_)))
  refine wpAny_pure ?_
  show wpAny _ _ (handedOut (.ref D)) _ _ _
  rw [handedOut_of (v := .ref D) rfl]
  first
    | exact wpAny_pure (wpAny_pure fin)
    | exact wpAny_pure fin
    | exact wpAny_pure (wpAny_bind (wpAny_pure (wpAny_pure fin)))
theorem kit_exc (T : ExcC K D) : KitX K (.ref x) (.ref D) (fun h => InstAt h x ox D od) where
  ty := fun _ _ _ J => J.type
  it := fun _ _ KI _ => by
    obtain ⟨c0, z, _⟩ := any_some T.hd
    unfold clsIn at z
    split at z
    · rename_i z1
      intro A' Q' E' s' keep q
      rw [isType, loadHead]
      exact wpAny_bind (wpAny_loadPart (keep _ _ (KI _ _ z1)) (wpAny_pure q))
    · cases z
  ne := fun h tp dd its n sl KI htp => by
    obtain ⟨c0, z, _⟩ := any_some T.hd
    refine Bool.eq_false_iff.mpr fun q => ?_
    obtain rfl : D = tp := Value.ref.inj (beq_iff_eq.mp q)
    unfold clsIn at z
    split at z
    · rename_i z1
      cases (KI _ _ z1).symm.trans htp
    · cases z
  ca := fun KI J k => cls_of_exc T KI J k
end
end Ka

/-- a class as a value, by its name -/
structure NamC (g : GC) (x : Str) (v : V) (u : Value) : Prop where
  cv : ClsV v u
  at_ : g.mg x = some u ∨ (g.mg x = none ∧ bootBuiltins x = some u)
theorem _root_.L2.ClsV.rel {v : V} {u : Value} (h : ClsV v u) : RelV v u := by
  cases h <;> rfl
section
variable {g : GC} {F : Fm} {e a b c : Expr} {es : List Expr} {pos : Pos} {fa fb fc : EE} {ka kk : AA} {G G' H H' : Hp} {m m' : List Addr} {S : Store} {ds dd : List D} {Fs : FSem} {st : Stmt} {sts : List Stmt}
theorem namC_pe {X : Cx} {x : Str} {v : V} {u : Value} (cx : CxOk g F X) (hg : glB F x = true) (n : NamC g x v u) : PE X (.Name x pos) (tC v) := by
  obtain ⟨g1, g2, g3⟩ := gl_of cx hg
  rcases n.at_ with h | ⟨h1, h2⟩
  · exact pe_glob g1 (by rw [cx.mg]; exact h) n.cv.rel g2
  · exact pe_bltn g1 (by rw [cx.mg]; exact h1) h2 n.cv.rel g3 g2
theorem inst_at {X : Cx} {ad D : Addr} {d : Option Addr} {oe : Obj} {pins : List (Addr × Obj)} {s : Shared} {σ : St} (hp : (ad, oe) ∈ X.pn) (hz : Zc (.ref D) d oe) (hf : ∃ vs, oe.data = .fields vs) (I : Inv X pins σ H s) (hd : d = none ∨ ∃ dx fs, d = some dx ∧ H dx = some (.xd fs)) :
    ∃ od, PySem.W.InstAt s.heap ad oe D od := by
  obtain ⟨hget, _⟩ := I.pin (ad, oe) (List.mem_append.mpr (.inl hp))
  obtain ⟨vs, hv⟩ := hf
  rcases hd with rfl | ⟨dx, fs, rfl, hx⟩
  · exact ⟨none, hget, hz.1, by rw [PySem.W.notCls, hv] <;> rfl, by rw [hz.2] <;> trivial⟩
  · have o1 : ObjOk X.prog X.w H s.heap dx (.xd fs) := I.hok dx _ hx
    obtain ⟨mA, hns, _⟩ := o1
    obtain ⟨od, ho, _⟩ := lookIn_ns hns
    exact ⟨some od, hget, hz.1, by rw [PySem.W.notCls, hv] <;> rfl, by rw [hz.2]; exact ho⟩
theorem call_isX {X : Cx} {ad D : Addr} {d : Option Addr} {oe : Obj} {v : V} {u : Value} {bb : Bool} (T : ExcC X.K D) (hp : (ad, oe) ∈ X.pn) (hz : Zc (.ref D) d oe) (hf : ∃ vs, oe.data = .fields vs) (hv : ClsV v u) (hk : PySem.W.kitOne X.K (.ref D) u = some bb) :
    CallR X (.builtin "isinstance") (fun xs H Q => xs = [.ref ad, v] ∧ (d = none ∨ ∃ dx fs, d = some dx ∧ H dx = some (.xd fs)) ∧ Q (.bl bb) H) := by
  intro pins s σ H xs us Q I r h
  obtain ⟨rfl, hd, q⟩ := h
  obtain ⟨u1, u2, rfl, r1, r2⟩ := vals2 r
  obtain rfl : u1 = Value.ref ad := r1
  have ec := hv.eq r2
  subst ec
  obtain ⟨od, J⟩ := inst_at hp hz hf I hd
  exact PySem.W.kia_one (Ka.kit_exc T) I.kIn J hk (fun z => nomatch z) fun tk => ⟨.bl bb, H, I.tok tk, rfl, q⟩
/-- isinstance(e, x), e the caught exception -/
def eIsX (q : Addr × Option Addr × Nat) (i : Nat) (t : List (Nat × Bool)) : EE := fun ρ S => match ρ[i]? with
  | some (some (.exn ad d c _)) => if (ad, d, c) = q then match t.lookup c with
    | some b => .ok (.bl b) S
    | none => .no
    else .no
  | _ => .no
structure IsX (g : GC) (u : Value) (c : Nat) (b : Bool) : Prop where
  ex : ∃ C, g.cad c = some C ∧ ExcC g.K C ∧ PySem.W.kitOne g.K (.ref C) u = some b
theorem xd_at {ad : Addr} {d : Option Addr} {c : Nat} {v : V} (rs : RS g G m S H) (r : Rep g G m v (.exn ad d c ds)) : v = .ref ad ∧ (d = none ∨ ∃ dx fs, d = some dx ∧ H dx = some (.xd fs)) := by
  cases r with
  | exn0 => exact ⟨rfl, .inl rfl⟩
  | exn1 h hl hf r => exact ⟨rfl, .inr ⟨_, _, rfl, rs.sub _ _ h⟩⟩
theorem ve_isX {ad : Addr} {d : Option Addr} {c i : Nat} {x y : Str} {v : V} {u : Value} {t : List (Nat × Bool)} {p1 p2 p3 : Pos} (hF : F.exn = some (ad, d, c)) (hy : varB F i y = true) (hx : glB F x = true) (n : NamC g x v u) (ht : ∀ p ∈ t, IsX g u p.1 p.2) (hm : g.mg "isinstance" = none) (hi : glB F "isinstance" = true) :
    VE g F (.Call (.Name "isinstance" p1) [.Name y p2, .Name x p3] [] pos) (eIsX (ad, d, c) i t) := fun X W cx tk => by
  obtain ⟨oe, D, h1, h2, h3, h4⟩ := cx.exn ad d c hF
  obtain ⟨i1, i2, i3⟩ := gl_of cx hi
  by_cases hb : ∃ b, t.lookup c = some b
  · obtain ⟨b, hb⟩ := hb
    obtain ⟨D', k1, k2, k3⟩ := (ht _ (mem_of_lkZ hb)).ex
    dsimp only at k1 k3
    rw [h2] at k1
    cases k1
    have hv : PE X (.Name y p2) (rdE g W (eVar i)) := ve_var hy X W cx tk
    refine (pe_callB (call_isX (by rw [cx.K]; exact k2) h1 h3 h4 n.cv (by rw [cx.K]; exact k3)) i1 (by rw [cx.mg]; exact hm) PyProof.Rows.Boot.«isinstance» (pa_cons hv (pa_cons (namC_pe cx hx n) pa_nil))).mono fun σ H Q q => ?_
    obtain ⟨G, m, ρ, S, rs, re, _, p⟩ := q
    unfold eIsX at p
    split at p
    · rename_i ad' d' c' ds' hρ
      split at p
      · rename_i he
        cases he
        rw [hb] at p
        refine ⟨G, m, ρ, S, rs, re, True.intro, ?_⟩
        show Po g (Rep g) W G m H σ _ (eVar i ρ S)
        rw [show eVar i ρ S = .ok (.exn ad d c ds') S by unfold eVar; rw [hρ]]
        intro G' m' H' u' e2 rs2 ru
        obtain ⟨eu, hd⟩ := xd_at rs2 ru
        subst eu
        exact ⟨rfl, hd, p G' m' H' _ e2 rs2 (.bl b)⟩
      · exact p.elim
    · exact p.elim
  · refine ⟨fun pins s σ H Q I q => ?_⟩
    obtain ⟨G, m, ρ, S, rs, re, _, p⟩ := q
    unfold eIsX at p
    split at p
    · split at p
      · rename_i he
        cases he
        split at p
        · rename_i b' hb'
          exact absurd ⟨b', hb'⟩ hb
        · exact p.elim
      · exact p.elim
    · exact p.elim
/-- e.f -/
def eXF (q : Addr × Option Addr × Nat) (i j : Nat) : EE := fun ρ S => match ρ[i]? with
  | some (some (.exn ad d c ds)) => if (ad, d, c) = q then match ds[j]? with
    | some x => .ok x S
    | none => .no
    else .no
  | _ => .no
structure XfZ (g : GC) (c j : Nat) (f : Str) : Prop where
  ex : ∃ C, g.cad c = some C ∧ XfC g.K C ∧ PySem.W.findIn g.K (.ref C) f = some none
  fl : (g.fld c)[j]? = some f
theorem Reps.has {vs : List V} {j : Nat} {x : D} (r : Reps g G m vs ds) (h : ds[j]? = some x) : ∃ v, vs[j]? = some v ∧ Rep g G m v x := r.get h
theorem ve_xf {ad : Addr} {d : Option Addr} {c i j : Nat} {f y : Str} {p1 : Pos} (hF : F.exn = some (ad, d, c)) (hy : varB F i y = true) (hx : XfZ g c j f) (hb : ∀ env, attributeBase (.Name y p1) f env (eval (.Name y p1) env) = eval (.Name y p1) env := by intro _; rfl) :
    VE g F (.Attribute (.Name y p1) f pos) (eXF (ad, d, c) i j) := fun X W cx tk => ⟨fun pins s σ H Q I q => by
  obtain ⟨oe, D, h1, h2, h3, h4⟩ := cx.exn ad d c hF
  obtain ⟨D', k1, k2, k3⟩ := hx.ex
  rw [h2] at k1
  cases k1
  obtain ⟨G, m, ρ, S, rs, re, _, p⟩ := q
  unfold eXF at p
  split at p
  · rename_i ad' d' c' ds' hρ
    split at p
    · rename_i he
      cases he
      split at p
      · rename_i z hz
        have hv : PE X (.Name y p1) (rdE g W (eVar i)) := ve_var hy X W cx tk
        refine attr_of (hb _) (thn (hv.run pins s σ H (fun u H1 => u = .ref ad ∧ ∃ dx fs v, d = some dx ∧ H1 dx = some (.xd fs) ∧ fs.lookup f = some v ∧ Q v H1) I ?_) fun u s1 hh => ?_)
        · refine ⟨G, m, ρ, S, rs, re, True.intro, ?_⟩
          show Po g (Rep g) W G m H σ _ (eVar i ρ S)
          rw [show eVar i ρ S = .ok (.exn ad d c ds') S by unfold eVar; rw [hρ]]
          intro G' m' H' u' e2 rs2 ru
          cases ru with
          | exn0 => simp at hz
          | @exn1 _ dx _ fs vs _ r1 r2 r3 r4 =>
            obtain ⟨v, hv1, rv⟩ := r4.get hz
            exact ⟨rfl, dx, fs, v, rfl, rs2.sub _ _ r1, r3 j f v hx.fl hv1, p G' m' H' v e2 rs2 rv⟩
        · obtain ⟨x', H1, I1, rx, ex, dx, fs, v, ed, hxd, hl, q⟩ := hh
          subst ex ed
          obtain rfl : u = Value.ref ad := rx
          obtain ⟨hget, _⟩ := I1.pin (ad, oe) (List.mem_append.mpr (.inl h1))
          obtain ⟨vs, hvs⟩ := h4
          have o1 : ObjOk X.prog X.w H1 s1.heap dx (.xd fs) := I1.hok dx _ hxd
          obtain ⟨mA, hns, hr⟩ := o1
          obtain ⟨od, ho, hlk⟩ := lookIn_ns hns
          obtain ⟨u', hu, ru⟩ := RelO.some_of (v := v) (o := mA f) (by rw [← hl]; exact hr f)
          have J : PySem.W.InstAt s1.heap ad oe D (some od) := ⟨hget, h3.1, by rw [PySem.W.notCls, hvs] <;> rfl, by rw [h3.2]; exact ho⟩
          have k2' : XfC X.K D := by
            rw [cx.K]
            exact k2
          exact PySem.HandSPX.exc_get I1.kIn J k2'.ga k2'.gg k2'.exC (PySem.W.findObj_own k2'.hdC (by rw [cx.K]; exact k3) rfl (by rw [hlk, hu])) (handed_of ru) ⟨v, H1, I1.tok _, ru, q⟩
      · exact p.elim
    · exact p.elim
  · exact p.elim⟩

/-! ### try .. except x as n -/
def offI (i : Nat) : Out → Out
  | .next ρ S => .next (ρ.set i none) S
  | .brk ρ S => .brk (ρ.set i none) S
  | .cont ρ S => .cont (ρ.set i none) S
  | .ret d S => .ret d S
  | _ => .no
abbrev HH := Addr → Option Addr → Nat → SS
open Classical in
noncomputable def hdl (i : Nat) (h : HH) (x : Exn) (ρ : Env) (S : Store) : Out :=
  if ∀ ad d, h ad d x.c (ρ.set i (some (.exn ad d x.c x.ds))) S = h 0 none x.c (ρ.set i (some (.exn 0 none x.c x.ds))) S then offI i (h 0 none x.c (ρ.set i (some (.exn 0 none x.c x.ds))) S) else .no
noncomputable def sTryAs (t : List (Nat × Bool)) (i : Nat) (bd : SS) (h : HH) : SS := fun ρ S => match bd ρ S with
  | .ex x ρ' S' => match t.lookup x.c with
    | some true => hdl i h x ρ' S'
    | some false => .ex x ρ' S'
    | none => .no
  | o => o
structure ExM (g : GC) (u : Value) (c : Nat) (b : Bool) : Prop where
  ex : ∃ C, g.cad c = some C ∧ PySem.W.exmOne g.K (.ref C) u = some b
theorem RE.unset {ρ : Env} {σ : St} (r : RE g G m ρ σ) (i : Nat) : RE g G m (ρ.set i none) (σ.set i none) := ⟨by simp [r.1], fun j d hj => by
  by_cases q : j = i
  · subst q
    by_cases hl : j < ρ.length
    · rw [List.getElem?_set_self hl] at hj
      cases hj
    · rw [List.getElem?_eq_none (by simpa using hl)] at hj
      cases hj
  · rw [List.getElem?_set_ne (Ne.symm q)] at hj ⊢
    exact r.2 j d hj⟩
theorem vs_tryAs {body suite : List Stmt} {b₀ : Stmt} {n x : Str} {i : Nat} {v : V} {u : Value} {t : List (Nat × Bool)} {bd : SS} {h : HH} {np pos' : Pos} (hi : F.N[i]? = some n) (hln : F.sc.names.lookup n = some .local) (hx : glB F x = true) (nc : NamC g x v u) (ht : ∀ p ∈ t, ExM g u p.1 p.2)
    (hb : VB g F body bd) (hs : ∀ ad d c, VB g { F with hot := true, exn := some (ad, d, c) } (b₀ :: suite) (h ad d c)) (hot : F.exn = none := by rfl) :
    VS g F (.Try body [.ExceptHandler (some (.Name x np)) (some n) (b₀ :: suite) pos'] [] [] pos) (sTryAs t i bd h) := fun X W cx fr tk => by
  obtain ⟨g1, g2, g3⟩ := gl_of cx hx
  have hc : Names X x u := ⟨g1, g2, by
    rcases nc.at_ with z | ⟨z1, z2⟩
    · exact .inl (by rw [cx.mg]; exact z)
    · exact .inr ⟨by rw [cx.mg]; exact z1, z2, g3⟩⟩
  let ts : Addr → Value → Option Addr → TS := fun ad cls d => fun D σ H => ∃ c C, g.cad c = some C ∧ cls = .ref C ∧ rdS g (fun _ _ _ _ => False) (h ad d c) D σ H
  refine (L2N.ps_try_as (i := i) (tb := fun W => rdS g W bd) (ts := ts) (Wout := W) fr.hs fr.hf cx.nd' (by rw [cx.N]; exact hi) (by show X.env.scope.names.lookup n = _; rw [cx.sc]; exact hln) hc tk
    (fun W' pn xe tk' hp => hb (X.tr pn xe) W' ⟨cx.P, cx.w, cx.K, cx.mg, cx.base, cx.N, cx.sc, cx.nd, cx.room, cx.calm, cx.un, cx.fn, fun _ _ _ z => by rw [hot] at z; cases z⟩ ⟨fr.hs, fr.hf, hp⟩ tk')
    (fun ad oe cls d pn hz hf => ⟨fun pins s σ H D I q => ?_⟩)).mono fun D σ H q => ?_
  · obtain ⟨c, C, hcad, rfl, q⟩ := q
    exact (hs ad d c (X.suite ad ((ad, oe) :: pn)) (fun _ _ _ _ => False) ⟨cx.P, cx.w, cx.K, cx.mg, cx.base, cx.N, cx.sc, cx.nd, (fun z => by cases z), (fun z => by cases z), cx.un, cx.fn, fun a1 d1 c1 z => by cases z; exact ⟨oe, C, List.mem_cons_self, hcad, hz.zc, hf⟩⟩
      ⟨fr.hs, fr.hf, PassesOwn.never⟩ takesN).run pins s σ H D I q
  · obtain ⟨G, m, ρ, S, rs, re, x0, p⟩ := q
    refine ⟨G, m, ρ, S, rs, re, x0, ?_⟩
    unfold sTryAs at p
    cases eo : bd ρ S with
    | next ρ' S' => rw [eo] at p; exact p
    | ret d S' => rw [eo] at p; exact p
    | brk ρ' S' => rw [eo] at p; exact p
    | cont ρ' S' => rw [eo] at p; exact p
    | no => rw [eo] at p; exact p
    | ex xx ρ' S' =>
      rw [eo] at p
      dsimp only at p
      intro G' m' H' σ' cls dx e2 rs2 re2 rx
      obtain ⟨C, hcad, rfl, hrep⟩ := id rx
      split at p
      · rename_i hb1
        obtain ⟨C', z1, z2⟩ := (ht _ (mem_of_lkZ hb1)).ex
        dsimp only at z1 z2
        rw [hcad] at z1
        cases z1
        refine ⟨true, by rw [cx.K]; exact z2, fun _ ad na => ⟨xx.c, C, hcad, rfl, G', m', ρ'.set i (some (.exn ad dx xx.c xx.ds)), S', rs2, re2.set i (hrep ad), True.intro, ?_⟩, fun z => by cases z⟩
        unfold hdl at p
        split at p
        · rename_i hall
          rw [hall ad dx]
          have p2 := p.up e2
          cases eh : h 0 none xx.c (ρ'.set i (some (.exn 0 none xx.c xx.ds))) S' with
          | next ρ2 S2 =>
            rw [eh] at p2
            exact fun G3 m3 H3 σ3 e3 s3 t3 => p2 G3 m3 H3 _ e3 s3 (t3.unset i)
          | brk ρ2 S2 =>
            rw [eh] at p2
            exact fun G3 m3 H3 σ3 e3 s3 t3 => p2 G3 m3 H3 _ e3 s3 (t3.unset i)
          | cont ρ2 S2 =>
            rw [eh] at p2
            exact fun G3 m3 H3 σ3 e3 s3 t3 => p2 G3 m3 H3 _ e3 s3 (t3.unset i)
          | ret d2 S2 =>
            rw [eh] at p2
            exact p2
          | ex x2 ρ2 S2 =>
            rw [eh] at p2
            exact p2.elim
          | no =>
            rw [eh] at p2
            exact p2.elim
        · exact p.elim
      · rename_i hb1
        obtain ⟨C', z1, z2⟩ := (ht _ (mem_of_lkZ hb1)).ex
        dsimp only at z1 z2
        rw [hcad] at z1
        cases z1
        exact ⟨false, by rw [cx.K]; exact z2, (fun z => by cases z), fun _ => p G' m' H' σ' _ dx e2 rs2 re2 rx⟩
      · exact p.elim
end
end Z
set_option Elab.async false
set_option linter.all false
set_option maxRecDepth 100000
set_option maxHeartbeats 2000000
/-! Z10: a value's truth; what the head tells; the law's end. -/
namespace Z
open PySem L2
section
variable {g : GC} {F : Fm} {e a b c : Expr} {es : List Expr} {pos : Pos} {fa fb fc : EE} {ka kk : AA} {G G' H H' : Hp} {m m' : List Addr} {S : Store} {ds dd : List D}
/-- a value's truth -/
def truZ (S : Store) : D → Option Bool
  | .non => some false
  | .bl b => some b
  | .int i => some (i != 0)
  | .str y => if y.length ≤ sizeLine then some ((y.length : Int) != 0) else none
  | d => (seqOf S d).map fun ds => !ds.isEmpty
theorem isEmpty_len {α β : Type} {xs : List α} {ys : List β} (h : xs.length = ys.length) : xs.isEmpty = ys.isEmpty := by
  cases xs <;> cases ys <;> simp at h ⊢
def eTru (f : EE) : TT' := fun ρ S => (f ρ S).bind fun d S1 => match truZ S1 d with
  | some b => .ok b S1
  | none => .no
theorem truZ_ok {v : V} {d : D} {k : Bool} (rs : RS g G m S H) (r : Rep g G m v d) (h : truZ S d = some k) : TruV g.K v H k := by
  have sq : ∀ {ds : List D}, seqOf S d = some ds → (!ds.isEmpty) = k → TruV g.K v H k := fun {ds} h1 h2 => by
    obtain ⟨ad, vs, rfl, hh, rr⟩ := seq_at rs r h1
    have el : (!vs.isEmpty) = k := by rw [isEmpty_len rr.length, h2]
    rcases hh with hh | hh
    · exact .inl ⟨vs, hh, el.symm⟩
    · exact .inr (.inl ⟨vs, hh, el.symm⟩)
  unfold truZ at h
  split at h
  · cases h
    cases r
    rfl
  · cases h
    cases r
    rfl
  · cases h
    cases r
    rfl
  · split at h
    · rename_i hl
      cases h
      cases r
      exact ⟨hl, rfl⟩
    · cases h
  · cases hs : seqOf S d with
    | none =>
      rw [hs] at h
      cases h
    | some ds =>
      rw [hs] at h
      exact sq hs (by simpa using h)
theorem vt_tru {f : EE} (h : VE g F e f) (he : ∀ (env : PySem.Env) (whole : Sem Value), isTrue e env whole = (do let v ← whole; standAt e.pos; holding [v] (truthy v)) := by intro _ _; rfl) : VT g F e (eTru f) := fun X W cx tk => (pt_truth (h X W cx tk) (he _)).mono fun σ H Q q => by
  refine (rdX_bind (relα := Rep g) mon_true q).imp fun u H1 q2 => ?_
  obtain ⟨d, G, m, ρ, S, rs, re, x, p⟩ := q2
  dsimp only at p
  split at p
  · rename_i k hk
    exact ⟨k, by rw [cx.K]; exact truZ_ok rs x.2 hk, p G m H1 _ .refl rs rfl⟩
  · exact p.elim
end

/-! ### the head -/
open PySem.W
/-- a def as it stands: where, by the written part -/
structure DefZ where
  ad : Frag → Addr
  name : Str
  qual : Str
  params : Arguments
  body : List Stmt
  scope : Scope
  dfl : List He.Dv := []
  kwd : List (Str × He.Dv) := []
abbrev SeenZ : Type := Option (Str × Str × Arguments × FuncBody × Scope × Addr × List (Str × Addr) × Addr)
def seenZ (K : Frag) (f : Addr) : SeenZ := match K.lookup f with
  | some ⟨_, _, .func z, _⟩ => some (z.name, z.qualname, z.params, z.body, z.scope, z.globals, z.closure, z.builtins)
  | _ => none
def DefZ.val (d : DefZ) : SeenZ := some (d.name, d.qual, d.params, .stmts d.body, d.scope, mainGlobals, [], builtinsNs)
def DefZ.dvs (K : Frag) (d : DefZ) : List V := d.dfl.map (He.Dv.v K)
def DefZ.kws (K : Frag) (d : DefZ) : List (Str × V) := d.kwd.map fun q => (q.1, q.2.v K)
def DefZ.ok (K : Frag) (d : DefZ) : Bool := keepIn K (.ref (d.ad K)) && (match K.lookup (d.ad K) with
  | some ⟨_, _, .func z, _⟩ => codeIn K z.code d.qual && (He.dflB K z.defaults (d.dvs K) && He.kwdB K z.kwdefaults (d.kws K))
  | _ => false)
theorem DefZ.funD {K : Frag} {d : DefZ} (e : seenZ K (d.ad K) = d.val) (c : d.ok K = true) : ∃ fd, FunD K d.name d.qual d.params d.body d.scope (d.dvs K) (d.kws K) (d.ad K) fd := by
  obtain ⟨kp, c2⟩ := He.ba c
  unfold seenZ at e
  cases q : K.lookup (d.ad K) with
  | none =>
    rw [q] at c2
    cases c2
  | some o =>
    obtain ⟨o1, o2, o3, o4⟩ := o
    rw [q] at c2 e
    cases o3 with
    | func z =>
      obtain ⟨z1, z2, z3, z4, z5, z6, z7, z8, z9, z10, z11, z12, z13, z14, z15⟩ := z
      have e3 : (some (z1, z2, z3, z4, z5, z6, z7, z15) : SeenZ) = some (d.name, d.qual, d.params, .stmts d.body, d.scope, mainGlobals, [], builtinsNs) := e
      simp only [Option.some.injEq, Prod.mk.injEq] at e3
      obtain ⟨i1, i2, i3, i4, i5, i6, i7, i8⟩ := e3
      subst i1 i2 i3 i4 i5 i6 i7 i8
      have c4 : (codeIn K z13 d.qual && (He.dflB K z8 (d.dvs K) && He.kwdB K z9 (d.kws K))) = true := c2
      obtain ⟨y1, y2⟩ := He.ba c4
      obtain ⟨y3, y4⟩ := He.ba y2
      exact ⟨_, ⟨o1, o2, z8, z9, z10, z11, z12, z13, z14, o4, rfl, q, y1, He.dflB_ok y3, He.kwdB_ok y4⟩, kp⟩
    | _ => cases c2
abbrev AlZ : Type := Bool × List SeenZ
def obsK (fa : List (Frag → Bool)) (fn : List DefZ) (K : Frag) : AlZ := ((fa.all fun f => f K) && fn.all fun d => d.ok K, fn.map fun d => seenZ K (d.ad K))
def valZ (fn : List DefZ) : AlZ := (true, fn.map DefZ.val)
def SaysZ (fa : List (Frag → Bool)) (fn : List DefZ) (K : Frag) : Prop := obsK fa fn K = valZ fn
def obsZ (n : Nat) (fa : List (Frag → Bool)) (fn : List DefZ) (h : Addr → Option Obj) : AlZ := obsK fa fn (He.frG h (He.asD h n))
def hookZ (n : Nat) (fa : List (Frag → Bool)) (fn : List DefZ) : Hook where
  α := AlZ
  obs := fun s => obsZ n fa fn s.heap.get?
  val := fun _ => valZ fn
  says := fun _ h => ∃ K : Frag, K.In h ∧ SaysZ fa fn K
  of := fun _ _ e => ⟨_, He.frG_in, e⟩
  keeps := fun _ _ _ ⟨K, hK, c⟩ k => ⟨K, Frag.In.keeps hK k, c⟩
theorem obsZ_eq {n : Nat} {fa : List (Frag → Bool)} {fn : List DefZ} {h : Addr → Option Obj} {s : Shared} (e : ∀ a, h a = s.heap.get? a) : obsZ n fa fn h = (hookZ n fa fn).obs s := by
  obtain rfl : h = s.heap.get? := funext e
  rfl
section
variable {fa : List (Frag → Bool)} {fn : List DefZ} {K : Frag}
theorem SaysZ.fact (c : SaysZ fa fn K) (i : Nat) {f : Frag → Bool} (h : fa[i]? = some f := by rfl) : f K = true := by
  have z : ((fa.all fun f => f K) && fn.all fun d => d.ok K) = true := congrArg (fun z : AlZ => z.1) c
  exact List.all_eq_true.mp (He.ba z).1 f (List.mem_of_getElem? h)
theorem SaysZ.def_ (c : SaysZ fa fn K) (i : Nat) {d : DefZ} (h : fn[i]? = some d := by rfl) : ∃ fd, FunD K d.name d.qual d.params d.body d.scope (d.dvs K) (d.kws K) (d.ad K) fd := by
  have z : ((fa.all fun f => f K) && fn.all fun d => d.ok K) = true := congrArg (fun z : AlZ => z.1) c
  have e : fn.map (fun d => seenZ K (d.ad K)) = fn.map DefZ.val := congrArg (fun z : AlZ => z.2) c
  have e1 : (fn.map fun d => seenZ K (d.ad K))[i]? = (fn.map DefZ.val)[i]? := by rw [e]
  rw [List.getElem?_map, List.getElem?_map, h] at e1
  exact DefZ.funD (Option.some.inj e1) (List.all_eq_true.mp (He.ba z).2 d (List.mem_of_getElem? h))
end
/-- a property's getter -/
def pa (K : Frag) (C : Addr) (m : Str) : Addr := match findIn K (.ref C) m with
  | some (some (.ref p)) => match recIn K p "property" with
    | some (.ref f :: _) => f
    | _ => 0
  | _ => 0
def propB (K : Frag) (C : Addr) (m : Str) : Bool := match findIn K (.ref C) m with
  | some (some (.ref p)) => He.eqO (specialIn K (.ref p) "__get__") (some (some (.builtin "property.__get__"))) && (decide (takesIn K (.ref p) = some true) && (match recIn K p "property" with
    | some (.ref _ :: _) => true
    | _ => false))
  | _ => false
theorem propB_ok {K : Frag} {C : Addr} {m : Str} (h : propB K C m = true) : ∃ p, PropOf K C m p (pa K C m) := by
  unfold propB at h
  cases e : findIn K (.ref C) m with
  | none =>
    rw [e] at h
    cases h
  | some o =>
    rw [e] at h
    cases o with
    | none => cases h
    | some v =>
      cases v with
      | ref p =>
        obtain ⟨h1, h2⟩ := He.ba h
        obtain ⟨h3, h4⟩ := He.ba h2
        refine ⟨p, e, He.eqO_ok h1, of_decide_eq_true h3, ?_⟩
        unfold pa
        rw [e]
        dsimp only
        split at h4
        · rename_i f r hr
          rw [hr]
          exact ⟨r, rfl⟩
        · cases h4
      | _ => cases h
/-- facts of an own class over ValueError -/
def excB (K : Frag) (C : Addr) : Bool := excIn K C He.veBase "ValueError.__new__" && (keepIn K (.ref C) && (decide (subIn K (.ref C) (.type "BaseException") = some true) && decide (typeIn K (.ref C) = some (.type "type"))))
def isB (K : Frag) (C : Addr) : Bool := He.eqO (findIn K (.ref C) "__getattribute__") (some (some (.builtin "BaseException.__getattribute__"))) && (He.eqO (findIn K (.ref C) "__getattr__") (some none) && (decide (subIn K (.ref C) (.type "BaseException") = some true) && (hasDictIn K C &&
  (He.eqO (findIn K (.ref C) "__class__") (some (some (.builtin "object.__class__"))) && (He.eqO (specialIn K (.builtin "object.__class__") "__get__") (some (some (.builtin "getset_descriptor.__get__"))) && (decide (takesIn K (.builtin "object.__class__") = some true) && decide (mroIn K C (.type "object") = some true)))))))
theorem isB_ok {K : Frag} {C : Addr} (h : isB K C = true) : ExcC K C := by
  obtain ⟨h1, h⟩ := He.ba h
  obtain ⟨h2, h⟩ := He.ba h
  obtain ⟨h3, h⟩ := He.ba h
  obtain ⟨h4, h⟩ := He.ba h
  obtain ⟨h5, h⟩ := He.ba h
  obtain ⟨h6, h⟩ := He.ba h
  obtain ⟨h7, h8⟩ := He.ba h
  exact ⟨He.eqO_ok h1, He.eqO_ok h2, of_decide_eq_true h3, h4, He.eqO_ok h5, He.eqO_ok h6, of_decide_eq_true h7, of_decide_eq_true h8⟩
def oexB (K : Frag) (C : Addr) : Bool := (match K.lookup C with
  | some ⟨.type "type", _, .cls cd, sl⟩ => (match cd.mro, sl.toList with
    | .ref C' :: bm, [_, _, _, _, some (.builtin n), _] => decide (C' = C) && (decide (n = "ValueError.__new__") && (!cd.hasDel && (cd.hasDict && PySem.HandSPX.refsVE bm)))
    | _, _ => false)
  | _ => false) && (He.eqO (findIn K (.ref C) "__setattr__") (some (some (.builtin "object.__setattr__"))) && (decide (subIn K (.ref C) (.type "BaseException") = some true) && (decide (typeIn K (.ref C) = some (.type "type")) && keepIn K (.ref C))))
theorem oexB_ok {K : Frag} {C : Addr} (h : oexB K C = true) : OexC K C := by
  obtain ⟨h0, h⟩ := He.ba h
  obtain ⟨h1, h⟩ := He.ba h
  obtain ⟨h2, h⟩ := He.ba h
  obtain ⟨h3, h4⟩ := He.ba h
  refine ⟨?_, He.eqO_ok h1, of_decide_eq_true h2, of_decide_eq_true h3, h4⟩
  split at h0
  · rename_i dd cd sl ho
    split at h0
    · rename_i C' bm k0 k1 k2 k3 n k5 hm hs
      obtain ⟨i1, i⟩ := He.ba h0
      obtain ⟨i2, i⟩ := He.ba i
      obtain ⟨i3, i⟩ := He.ba i
      obtain ⟨i4, i5⟩ := He.ba i
      have i1 := of_decide_eq_true i1
      have i2 := of_decide_eq_true i2
      subst i1 i2
      obtain ⟨nm, bs, mro, ns, qn, hd, sn, sb, ab, col, del⟩ := cd
      dsimp only at hm i3 i4
      subst hm i4
      have i3 : del = false := by simpa using i3
      subst i3
      have hsl : sl = #[k0, k1, k2, k3, some (.builtin "ValueError.__new__"), k5] := by
        obtain ⟨l⟩ := sl
        dsimp only at hs
        rw [hs]
      subst hsl
      exact ⟨nm, qn, ns, bs, bm, sn, sb, ab, col, dd, k0, k1, k2, k3, k5, ho, i5⟩
    · cases h0
  · cases h0
def kindB (K : Frag) (C : Addr) (u : Value) (b : Bool) : Bool := decide (kitOne K (.ref C) u = some b)
def exmB (K : Frag) (C : Addr) (u : Value) (b : Bool) : Bool := decide (exmOne K (.ref C) u = some b)

/-! ### the end -/
theorem walk_z {l : OpenLaw} {n k : Nat} {q : Program} {loose : List Str} {XP : (Str → Option Value) → Heap → Prop} {YP : World → Heap → Prop} {d : DefRec} {x : Str} (hn : l.most = some n) (hn2 : n ≤ sizeLine) (hdf : d.params.defaults = []) (hr : Room k callerA)
    (hF : ∀ (w : World) (mg : Str → Option Value) (ad : Addr) (h : Heap), YP w h → h.Ns mainGlobals mg → mg d.name = some (.ref ad) →
      ∃ (K : Frag) (fd : FuncData) (Fs : FSem) (gg : Heap → GC), K.In h ∧ (∀ (s : Shared) (u : Value), BindsTo s fd ⟨[u], []⟩ [(x, u)]) ∧ (∀ base, (gg base).P = l.prog ∧ (gg base).w = w ∧ (gg base).K = K ∧ (gg base).mg = mg ∧ (gg base).base = base) ∧
        (∀ ns : List Int, ns.length ≤ n → (∀ z ∈ ns, Builtin.Int.intBits z ≤ 1048576) → ∃ S, Fs [.seq (ns.map D.int)] [] = .ok (.bl true) S) ∧
        ∀ base : Heap, K.In base → base.Ns mainGlobals mg → FnZ (gg base) k ad fd [x] Fs) :
    WalkO q loose XP YP l.row.toRowW d [] (fun f vs => PySem.call f vs) := by
  refine Att.attach_callB hn hdf fun w s₀ s₁ mg mb ad o pm cd doc a vs ns G Y ho hd hcd hmg hobj hints hlen hbits hg => ?_
  obtain ⟨K, fd, Fs, gg, KX, hb, hgg, hlaw, hFn⟩ := hF w mg ad _ Y G.T.g hmg
  obtain ⟨S', hS'⟩ := hlaw ns hlen hbits
  let sp : Sp := fun vs H Q _ => ∃ a, vs = [.ref a] ∧ SqL K H a (ns.map V.int) ∧ ∀ H', Q (.bl true) H'
  refine law_call (sp := sp) (CX := L2N.CX l.prog w) (k := k) KX G.T.g G.T.b G.T.builtins G.T.nolimit hg hobj hints (Nat.le_trans hlen hn2) hr (fun base hK hN => ?_) hb (fun H hO hS => ⟨a, rfl, hS, fun _ => rfl⟩) fun H e s' z => ?_
  · obtain ⟨e1, e2, e3, e4, e5⟩ := hgg base
    have Fn := (hFn base hK hN).ok
    rw [e1, e2, e3, e4, e5] at Fn
    refine Fn.imp fun vs H Q E hsp => ?_
    obtain ⟨a', rfl, hS, hQ⟩ := hsp
    refine ⟨rfl, H, [], [], [.seq (ns.map D.int)], ⟨Same.refl _, rfl, .nil, (fun _ z => absurd z (by simp)), (fun k c a h => absurd h (by simp))⟩, .cons (.seq (vs := ns.map V.int) (by rw [e3]; exact hS) ?_) .nil, ?_⟩
    · clear hlen hbits hlaw hS' hS sp hints
      induction ns with
      | nil => exact .nil
      | cons z zs ih => exact .cons (.int z) ih
    · rw [hS']
      intro G' m' H' u ev rs ru
      cases ru
      exact hQ H'
  · obtain ⟨_, _, _, _, _, _, _, _, _, _, _, _, hE⟩ := z
    exact hE
end Z
set_option Elab.async false
set_option linter.all false
set_option maxRecDepth 100000
set_option maxHeartbeats 2000000
/-! Z11: small things for printed derivations. -/
namespace Z
open PySem L2
theorem all0 {α : Type} {P : α → Prop} : ∀ p ∈ ([] : List α), P p := fun _ h => by cases h
theorem all1 {α : Type} {P : α → Prop} {a : α} {l : List α} (h : P a) (k : ∀ p ∈ l, P p) : ∀ p ∈ a :: l, P p := fun p hp => by
  rcases List.mem_cons.mp hp with rfl | hp
  · exact h
  · exact k p hp
section
variable {g : GC} {F : Fm} {e a b c d : Expr} {es : List Expr} {pos : Pos} {fa fb fc fd : EE}
theorem MetZ.up {j k c : Nat} {mn : Str} {dd : List D} {Fs : FSem} (M : MetZ g j c mn dd Fs) (h : j ≤ k) : MetZ g k c mn dd Fs := ⟨by
  obtain ⟨f, fd, ps, C, h1, h2, h3, h4, h5⟩ := M.ex
  exact ⟨f, fd, ps, C, h1, h2, h3, h4.up h, h5⟩, M.no⟩
theorem PropZ.up {j k c : Nat} {f : Str} {Fs : FSem} (M : PropZ g j c f Fs) (h : j ≤ k) : PropZ g k c f Fs := ⟨by
  obtain ⟨f, pa, fd, ps, C, h1, h2, h3, h4, h5⟩ := M.ex
  exact ⟨f, pa, fd, ps, C, h1, h2, h3, h4.up h, h5⟩⟩
/-- e.f where the exception's class is told ahead -/
def eXFc (c0 : Nat) (q : Addr × Option Addr × Nat) (i j : Nat) : EE := fun ρ S => if q.2.2 = c0 then eXF q i j ρ S else .no
theorem ve_xfc {ad : Addr} {dx : Option Addr} {c c0 i j : Nat} {f y : Str} {p1 : Pos} (hF : F.exn = some (ad, dx, c)) (hy : varB F i y = true) (hx : XfZ g c0 j f) (hb : ∀ env, attributeBase (.Name y p1) f env (eval (.Name y p1) env) = eval (.Name y p1) env := by intro _; rfl) :
    VE g F (.Attribute (.Name y p1) f pos) (eXFc c0 (ad, dx, c) i j) := fun X W cx tk => by
  by_cases h : c = c0
  · subst h
    refine (ve_xf hF hy hx hb X W cx tk).mono fun σ H Q q => ?_
    obtain ⟨G, m, ρ, S, rs, re, x, p⟩ := q
    unfold eXFc at p
    rw [if_pos rfl] at p
    exact ⟨G, m, ρ, S, rs, re, x, p⟩
  · refine ⟨fun pins s σ H Q I q => ?_⟩
    obtain ⟨G, m, ρ, S, rs, re, x, p⟩ := q
    unfold eXFc at p
    rw [if_neg h] at p
    exact p.elim
end
theorem con_int {g : GC} {x : Str} {i : Int} (h : ∃ t, g.mg x = some (.int i t)) : Con g x (.int i) := by
  obtain ⟨t, h⟩ := h
  exact ⟨_, .int i, h, ⟨t, rfl⟩, fun _ _ => .int i⟩
theorem con_str {g : GC} {x : Str} {i : Str} (h : ∃ t, g.mg x = some (.str i t)) : Con g x (.str i) := by
  obtain ⟨t, h⟩ := h
  exact ⟨_, .str i, h, ⟨t, rfl⟩, fun _ _ => .str i⟩
section
variable {g : GC} {x qual : Str} {params : Arguments} {body : List Stmt} {scope : Scope} {dvs : List V} {f : Addr} {fd : FuncData} {ps : List Str}
theorem bnd_n {kws : List (Str × V)} (hk : kws = []) (Fd : FunD g.K x qual params body scope [] kws f fd)
    (h : ∀ (kV doc pm : Value) (an : Option Addr) (cdv ct : Value) (us : List Value), us.length = ps.length → bindArgs (PySem.W.fnOf x qual params body scope .none kV doc pm an cdv ct) ⟨us, []⟩ = pure (ps.zip us)) : BndZ g fd ps [] := by
  subst hk
  exact bnd0 (Fd.bindsN h)
theorem bnd_d {dd : List D} {kws : List (Str × V)} (Fd : FunD g.K x qual params body scope dvs kws f fd) (n j : Nat) (hd : dvs ≠ []) (hn : n + (dvs.length - j) = ps.length) (hr : ∀ G m, Reps g G m (dvs.drop j) dd)
    (h : ∀ (T : Addr) (kV doc pm : Value) (an : Option Addr) (cdv ct : Value) (us its : List Value), us.length = n → its.length = dvs.length →
      ∃ k, bindArgs (PySem.W.fnOf x qual params body scope (.ref T) kV doc pm an cdv ct) ⟨us, []⟩ = seqItems? (.ref T) >>= k ∧ k (some its.toArray) = pure (ps.zip (us ++ its.drop j))) : BndZ g fd ps dd := by
  obtain ⟨ds, h1, h2⟩ := FunD.binds1 (ps := ps) Fd n j hd hn h
  exact ⟨ds, _, h2, h1, hr⟩
end
end Z
namespace L2
open PySem PySem.Spec PyProof.Rows
theorem funD_fd {K : PySem.W.Frag} {x qual : Str} {params : Arguments} {body : List Stmt} {scope : Scope} {dvs : List V} {kws : List (Str × V)} {f : Addr} {fd fd' : FuncData} (F : FunD K x qual params body scope dvs kws f fd) (F' : FunD K x qual params body scope dvs kws f fd') : fd = fd' := by
  obtain ⟨o1, o2, o3, o4, o5, o6, o7, o8, o9, o10, r1, r2, _⟩ := F.ex
  obtain ⟨p1, p2, p3, p4, p5, p6, p7, p8, p9, p10, q1, q2, _⟩ := F'.ex
  rw [r2] at q2
  cases q2
  rfl
end L2
set_option Elab.async false
set_option linter.all false
set_option maxRecDepth 100000
set_option maxHeartbeats 2000000
/-! Z12: how the functions over data are reckoned: rules for simp, from the outside in. -/
namespace Z
open PySem L2
theorem Res.bind_first {α β : Type} {r r' : Res α} {f : α → Store → Res β} (h : r = r') : r.bind f = r'.bind f := by rw [h]
theorem Out.bind_first {o o' : Out} {f : Env → Store → Out} (h : o = o') : o.bind f = o'.bind f := by rw [h]
/-- a statement goes by an answer -/
def Res.go {α : Type} (r : Res α) (ρ : Env) (k : α → Store → Out) : Out := match r with
  | .ok a S => k a S
  | .ex x S => .ex x ρ S
  | .no => .no
theorem Res.go_first {α : Type} {r r' : Res α} {ρ : Env} {k : α → Store → Out} (h : r = r') : r.go ρ k = r'.go ρ k := by rw [h]
@[simp] theorem Res.go_ok {α : Type} (a : α) (S : Store) (ρ : Env) (k : α → Store → Out) : (Res.ok a S).go ρ k = k a S := (rfl)
@[simp] theorem Res.go_ex {α : Type} (x : Exn) (S : Store) (ρ : Env) (k : α → Store → Out) : (Res.ex x S : Res α).go ρ k = .ex x ρ S := (rfl)
@[simp] theorem Res.go_no {α : Type} (ρ : Env) (k : α → Store → Out) : (Res.no : Res α).go ρ k = .no := (rfl)
/-- by the items of a choice -/
def orNo {α β : Type} (o : Option α) (k : α → Res β) : Res β := match o with
  | some a => k a
  | none => .no
theorem orNo_first {α β : Type} {o o' : Option α} {k : α → Res β} (h : o = o') : orNo o k = orNo o' k := by rw [h]
@[simp] theorem orNo_some {α β : Type} (a : α) (k : α → Res β) : orNo (some a) k = k a := (rfl)
@[simp] theorem orNo_none {α β : Type} (k : α → Res β) : orNo (none : Option α) k = .no := (rfl)
section
variable {ρ : Env} {S : Store} {fa fb fc f : EE} {ka kk : AA} {ta tb : TT'} {s k : SS} {o o' : Op2}
@[simp] theorem sBy_run {α : Type} {f : Env → Store → Res α} {k : α → SS} : sBy f k ρ S = (f ρ S).go ρ fun a S1 => k a ρ S1 := by
  unfold sBy
  cases f ρ S <;> rfl
@[simp] theorem sSeq_run : sSeq s k ρ S = (s ρ S).bind k := (rfl)
@[simp] theorem sNil_run : sNil ρ S = .next ρ S := (rfl)
@[simp] theorem sExpr_run : sExpr f ρ S = (f ρ S).go ρ fun _ S1 => .next ρ S1 := sBy_run
@[simp] theorem sRet_run : sRet f ρ S = (f ρ S).go ρ fun d S1 => .ret d S1 := sBy_run
@[simp] theorem sRetN_run : sRetN ρ S = .ret .non S := (rfl)
@[simp] theorem sIf_run : sIf ta s k ρ S = (ta ρ S).go ρ fun b S1 => (if b = true then s else k) ρ S1 := sBy_run
def setN (o : Option Env) (S : Store) : Out := match o with
  | some ρ' => .next ρ' S
  | none => .no
@[simp] theorem setN_some {ρ' : Env} : setN (some ρ') S = .next ρ' S := (rfl)
@[simp] theorem sSet_run {t : Tg} : sSet t f ρ S = (f ρ S).go ρ fun d S1 => setN (setT t d ρ) S1 := sBy_run
@[simp] theorem setT_nm {i : Nat} {d : D} : setT (.nm i) d ρ = some (ρ.set i (some d)) := (rfl)
@[simp] theorem setT_tup {ts : List Tg} {ds : List D} : setT (.tup ts) (.tup ds) ρ = setTs ts ds ρ := (rfl)
@[simp] theorem setTs_nil : setTs [] [] ρ = some ρ := (rfl)
@[simp] theorem setTs_cons {t : Tg} {ts : List Tg} {d : D} {ds : List D} : setTs (t :: ts) (d :: ds) ρ = (setT t d ρ).bind fun ρ' => setTs ts ds ρ' := (rfl)
@[simp] theorem eVar_0 {d : D} {r : Env} : eVar 0 (some d :: r) S = .ok d S := (rfl)
@[simp] theorem eVar_s {i : Nat} {x : Option D} {r : Env} : eVar (i + 1) (x :: r) S = eVar i r S := (rfl)
@[simp] theorem eC_run {d : D} : eC d ρ S = .ok d S := (rfl)
@[simp] theorem eOp_run : eOp o fa fb ρ S = (fa ρ S).bind fun x S1 => (fb ρ S1).bind fun y S2 => o x y S2 := (rfl)
@[simp] theorem eNeg_run : eNeg fa ρ S = (fa ρ S).bind fun x S1 => match x with
  | .int i => .ok (.int (-i)) S1
  | _ => .no := (rfl)
@[simp] theorem eT_run : eT fa ρ S = (fa ρ S).bind fun d S1 => match d with
  | .bl b => .ok b S1
  | _ => .no := (rfl)
@[simp] theorem eTru_run : eTru fa ρ S = (fa ρ S).bind fun d S1 => match truZ S1 d with
  | some b => .ok b S1
  | none => .no := (rfl)
@[simp] theorem truZ_bl {b : Bool} : truZ S (.bl b) = some b := (rfl)
@[simp] theorem truZ_non : truZ S .non = some false := (rfl)
@[simp] theorem truZ_lst {ds : List D} : truZ S (.lst ds) = some (!ds.isEmpty) := (rfl)
@[simp] theorem truZ_ref {j : Nat} : truZ S (.ref j) = (seqOf S (.ref j)).map fun ds => !ds.isEmpty := (rfl)
@[simp] theorem seqOf_ref {j : Nat} : seqOf S (.ref j) = match S[j]? with
  | some (some (.lst ds)) => some ds
  | _ => none := (rfl)
@[simp] theorem seqOf_lst {ds : List D} : seqOf S (.lst ds) = some ds := (rfl)
@[simp] theorem seqOf_tup {ds : List D} : seqOf S (.tup ds) = some ds := (rfl)
@[simp] theorem seqOf_seq {ds : List D} : seqOf S (.seq ds) = some ds := (rfl)
@[simp] theorem lstOf_ref {j : Nat} : lstOf S (.ref j) = match S[j]? with
  | some (some (.lst ds)) => some ds
  | _ => none := (rfl)
@[simp] theorem lstOf_lst {ds : List D} : lstOf S (.lst ds) = some ds := (rfl)
@[simp] theorem eChain_run : eChain o o' fa fb fc ρ S = (fa ρ S).bind fun x S1 => (fb ρ S1).bind fun y S2 => (o x y S2).bind fun z S3 => match z with
  | .bl true => (fc ρ S3).bind fun w S4 => o' y w S4
  | .bl false => .ok (.bl false) S3
  | _ => .no := (rfl)
@[simp] theorem eAnd_run : eAnd fa fb ρ S = (fa ρ S).bind fun x S1 => match x with
  | .bl true => fb ρ S1
  | .bl false => .ok (.bl false) S1
  | _ => .no := (rfl)
@[simp] theorem eOr_run : eOr fa fb ρ S = (fa ρ S).bind fun x S1 => match x with
  | .bl true => .ok (.bl true) S1
  | .bl false => fb ρ S1
  | _ => .no := (rfl)
@[simp] theorem eNot_run : eNot fa ρ S = (fa ρ S).bind fun x S1 => match x with
  | .bl b => .ok (.bl (!b)) S1
  | _ => .no := (rfl)
@[simp] theorem qAnd_run : qAnd ta tb ρ S = (ta ρ S).bind fun x S1 => if x = true then tb ρ S1 else .ok false S1 := (rfl)
@[simp] theorem qOr_run : qOr ta tb ρ S = (ta ρ S).bind fun x S1 => if x = true then .ok true S1 else tb ρ S1 := (rfl)
@[simp] theorem qNot_run : qNot ta ρ S = (ta ρ S).bind fun x S1 => .ok (!x) S1 := (rfl)
@[simp] theorem qYes_run : qYes ρ S = .ok true S := (rfl)
@[simp] theorem eIf_run : eIf ta fa fb ρ S = (ta ρ S).bind fun x S1 => if x = true then fa ρ S1 else fb ρ S1 := (rfl)
@[simp] theorem aNil_run : aNil ρ S = .ok [] S := (rfl)
@[simp] theorem aCons_run : aCons fa ka ρ S = (fa ρ S).bind fun d S1 => (ka ρ S1).bind fun ds S2 => .ok (d :: ds) S2 := (rfl)
def mkT (ds : List D) (S : Store) : Res D := if ds.length ≤ sizeLine then .ok (.tup ds) S else .no
def mkL (ds : List D) (S : Store) : Res D := if ds.length ≤ sizeLine then .ok (.lst ds) S else .no
def mkC (ds : List D) (S : Store) : Res D := if ds.length ≤ sizeLine then .ok (.ref S.length) (S ++ [some (.lst ds)]) else .no
theorem fits {n : Nat} (h : n ≤ 1000000) : n ≤ sizeLine := Nat.le_trans h (by rw [sizeLine_eq]; exact Nat.le_of_ble_eq_true rfl)
theorem fitsL {n : Nat} (h : n ≤ 1000000) : n < sizeLine := Nat.lt_of_le_of_lt h (by rw [sizeLine_eq]; exact Nat.le_of_ble_eq_true rfl)
@[simp] theorem mkT_ok {ds : List D} (h : ds.length ≤ 1000000) : mkT ds S = .ok (.tup ds) S := if_pos (fits h)
@[simp] theorem mkL_ok {ds : List D} (h : ds.length ≤ 1000000) : mkL ds S = .ok (.lst ds) S := if_pos (fits h)
@[simp] theorem mkC_ok {ds : List D} (h : ds.length ≤ 1000000) : mkC ds S = .ok (.ref S.length) (S ++ [some (.lst ds)]) := if_pos (fits h)
@[simp] theorem eTup_run : eTup ka ρ S = (ka ρ S).bind mkT := (rfl)
@[simp] theorem eLst_run : eLst ka ρ S = (ka ρ S).bind mkL := (rfl)
@[simp] theorem eCel_run : eCel ka ρ S = (ka ρ S).bind mkC := (rfl)
@[simp] theorem eB_run {b : Bl} : eB b ka ρ S = (ka ρ S).bind fun ds S1 => b ds S1 := (rfl)
@[simp] theorem eM_run {ty : Store → D → Bool} {m : Mt} : eM ty m fa ka ρ S = (fa ρ S).bind fun x S1 => if ty S1 x = true then (ka ρ S1).bind fun ds S2 => m x ds S2 else .no := (rfl)
@[simp] theorem eCall_run {Fs : FSem} {dd : List D} : eCall Fs dd ka ρ S = (ka ρ S).bind fun ds S1 => Fs (ds ++ dd) S1 := (rfl)
@[simp] theorem eMeth_run {t : List (Nat × MT)} : eMeth t fa ka ρ S = (fa ρ S).bind fun x S1 => orNo (objOf S1 x) fun p => orNo (t.lookup p.1) fun M => (ka ρ S1).bind fun ds S2 => M.F (x :: (ds ++ M.dd)) S2 := by
  unfold eMeth
  congr 1
  funext x S1
  cases objOf S1 x with
  | none => rfl
  | some p =>
    obtain ⟨c, cs⟩ := p
    show (match t.lookup c with | some M => _ | none => _) = orNo (t.lookup c) _
    cases t.lookup c <;> rfl
@[simp] theorem eProp_run {t : List (Nat × FSem)} : eProp t fa ρ S = (fa ρ S).bind fun x S1 => orNo (objOf S1 x) fun p => orNo (t.lookup p.1) fun Fs => onlyOk (Fs [x] S1) := by
  unfold eProp
  congr 1
  funext x S1
  cases objOf S1 x with
  | none => rfl
  | some p =>
    obtain ⟨c, cs⟩ := p
    show (match t.lookup c with | some M => _ | none => _) = orNo (t.lookup c) _
    cases t.lookup c <;> rfl
@[simp] theorem onlyOk_ok {d : D} : onlyOk (.ok d S) = .ok d S := (rfl)
@[simp] theorem eFld_run {t : List (Nat × Nat)} : eFld t fa ρ S = (fa ρ S).bind fun x S1 => orNo (objOf S1 x) fun p => orNo (t.lookup p.1) fun i => orNo p.2[i]? fun d => .ok d S1 := by
  unfold eFld
  congr 1
  funext x S1
  cases objOf S1 x with
  | none => rfl
  | some p =>
    obtain ⟨c, cs⟩ := p
    show (match t.lookup c with | some i => _ | none => _) = orNo (t.lookup c) _
    cases t.lookup c with
    | none => rfl
    | some i =>
      show (match cs[i]? with | some d => _ | none => _) = orNo cs[i]? _
      cases cs[i]? <;> rfl
@[simp] theorem objOf_ref {j : Nat} : objOf S (.ref j) = match S[j]? with
  | some (some (.obj c ds)) => some (c, ds)
  | _ => none := (rfl)
@[simp] theorem objOf_obj {c : Nat} {ds : List D} : objOf S (.obj c ds) = some (c, ds) := (rfl)
theorem lookup_one {β : Type} {c : Nat} {b : β} {l : List (Nat × β)} : List.lookup c ((c, b) :: l) = some b := by simp [List.lookup]
@[simp] theorem sFldZ_run {c i : Nat} : sFldZ c i fa fb ρ S = ((fb ρ S).bind fun y S1 => (fa ρ S1).bind fun x S2 => orNo (oPut c i x y S2) fun S3 => .ok () S3).go ρ fun _ S1 => .next ρ S1 := by
  unfold sFldZ
  rw [sBy_run]
  congr 2
  funext y S1
  congr 1
  funext x S2
  cases oPut c i x y S2 <;> rfl
@[simp] theorem sFldAugZ_run {c i : Nat} : sFldAugZ c i o fa fb ρ S = ((fa ρ S).bind fun x S1 => orNo (objOf S1 x) fun p => if p.1 = c then orNo p.2[i]? fun v => (fb ρ S1).bind fun y S2 => (o v y S2).bind fun z S3 => orNo (oPut c i x z S3) fun S4 => .ok () S4 else .no).go ρ fun _ S1 => .next ρ S1 := by
  unfold sFldAugZ
  rw [sBy_run]
  congr 2
  funext x S1
  cases objOf S1 x with
  | none => rfl
  | some p =>
    obtain ⟨c', cs⟩ := p
    show (if c' = c then _ else _) = (if c' = c then _ else _)
    split
    · show (match cs[i]? with | some d => _ | none => _) = orNo cs[i]? _
      cases cs[i]? with
      | none => rfl
      | some v =>
        show (fb ρ S1).bind _ = (fb ρ S1).bind _
        congr 1
        funext y S2
        show (o v y S2).bind _ = (o v y S2).bind _
        congr 1
        funext z S3
        cases oPut c i x z S3 <;> rfl
    · rfl
@[simp] theorem sAug_run {i : Nat} : sAug i o f ρ S = (eVar i ρ S).go ρ fun x S0 => ((f ρ S0).bind fun y S1 => o x y S1).go ρ fun z S1 => .next (ρ.set i (some z)) S1 := by
  unfold sAug eVar
  cases ρ[i]? with
  | none => rfl
  | some x =>
    cases x with
    | none => rfl
    | some x =>
      show sBy _ _ ρ S = _
      rw [sBy_run]
      rfl
@[simp] theorem eFrz_run {fl : Nat → Nat} : eFrz fl f ρ S = (f ρ S).bind fun d S1 => frz1 fl d S1 := (rfl)
@[simp] theorem frz1_ref {fl : Nat → Nat} {j : Nat} : frz1 fl (.ref j) S = match S[j]? with
  | some (some (.lst ds)) => .ok (.lst ds) (S.set j none)
  | some (some (.obj c ds)) => if ds.length = fl c then .ok (.obj c ds) (S.set j none) else .no
  | _ => .no := (rfl)
@[simp] theorem eTrim_run : eTrim f ρ S = trimR S.length (f ρ S) := (rfl)
@[simp] theorem outR_next : outR (.next ρ S) = .ok .non S := (rfl)
@[simp] theorem outR_ret {d : D} : outR (.ret d S) = .ok d S := (rfl)
@[simp] theorem outR_ex {x : Exn} : outR (.ex x ρ S) = .ex x S := (rfl)
/-! operators -/
@[simp] theorem oB_run {g : Int → Int → Bool} {i j : Int} : oB g (.int i) (.int j) S = .ok (.bl (g i j)) S := (rfl)
@[simp] theorem oI_run {g : Int → Int → Int} {i j : Int} : oI g (.int i) (.int j) S = .ok (.int (g i j)) S := (rfl)
@[simp] theorem oSub_int {i j : Int} : oSub (.int i) (.int j) S = .ok (.int (i - j)) S := (rfl)
@[simp] theorem oAdd_int {i j : Int} : oAdd (.int i) (.int j) S = .ok (.int (i + j)) S := (rfl)
@[simp] theorem oAdd_str {i j : Str} (h : i.length + j.length ≤ 1000000) : oAdd (.str i) (.str j) S = .ok (.str (i ++ j)) S := if_pos (fits h)
@[simp] theorem oAdd_lst {i j : List D} (h : i.length + j.length ≤ 1000000) : oAdd (.lst i) (.lst j) S = .ok (.lst (i ++ j)) S := if_pos (fits h)
@[simp] theorem oAdd_tup {i j : List D} (h : i.length + j.length ≤ 1000000) : oAdd (.tup i) (.tup j) S = .ok (.tup (i ++ j)) S := if_pos (fits h)
@[simp] theorem oMod_run {i j : Int} (h : 0 < j) : oMod (.int i) (.int j) S = .ok (.int (i % j)) S := if_pos h
theorem oMul_run {i j : Int} (h : CMulX i j) : oMul (.int i) (.int j) S = .ok (.int (i * j)) S := if_pos h
theorem oDiv_run {i j : Int} (h : CDivW i j) : oDiv (.int i) (.int j) S = .ok (.int (i / j)) S := if_pos h
@[simp] theorem oIs_nn : oIs .non .non S = .ok (.bl true) S := (rfl)
@[simp] theorem oIs_in {i : Int} : oIs (.int i) .non S = .ok (.bl false) S := (rfl)
@[simp] theorem oIs_sn {x : Str} : oIs (.str x) .non S = .ok (.bl false) S := (rfl)
@[simp] theorem oIs_tn {x : List D} : oIs (.tup x) .non S = .ok (.bl false) S := (rfl)
@[simp] theorem oIs_rn {j : Nat} : oIs (.ref j) .non S = .ok (.bl false) S := (rfl)
@[simp] theorem oIs_ln {x : List D} : oIs (.lst x) .non S = .ok (.bl false) S := (rfl)
@[simp] theorem oIsN_nn : oIsN .non .non S = .ok (.bl false) S := (rfl)
@[simp] theorem oIsN_in {i : Int} : oIsN (.int i) .non S = .ok (.bl true) S := (rfl)
@[simp] theorem oIsN_rn {j : Nat} : oIsN (.ref j) .non S = .ok (.bl true) S := (rfl)
theorem oEq_of {x y : D} {b : Bool} (h : eqZ S x y = some b) : oEq x y S = .ok (.bl b) S := by
  unfold oEq
  rw [h]
theorem oNe_of {x y : D} {b : Bool} (h : eqZ S x y = some b) : oNe x y S = .ok (.bl (!b)) S := by
  unfold oNe
  rw [h]
@[simp] theorem oEq_int {i j : Int} : oEq (.int i) (.int j) S = .ok (.bl (decide (i = j))) S := (rfl)
@[simp] theorem oEq_str {i j : Str} : oEq (.str i) (.str j) S = .ok (.bl (decide (i = j))) S := (rfl)
@[simp] theorem oEq_bl {i j : Bool} : oEq (.bl i) (.bl j) S = .ok (.bl (decide (i = j))) S := (rfl)
@[simp] theorem oNe_int {i j : Int} : oNe (.int i) (.int j) S = .ok (.bl (!decide (i = j))) S := (rfl)
@[simp] theorem oNe_str {i j : Str} : oNe (.str i) (.str j) S = .ok (.bl (!decide (i = j))) S := (rfl)
@[simp] theorem oNe_bl {i j : Bool} : oNe (.bl i) (.bl j) S = .ok (.bl (!decide (i = j))) S := (rfl)
@[simp] theorem oNe_nn : oNe .non .non S = .ok (.bl false) S := (rfl)
@[simp] theorem oNe_ni {i : Int} : oNe .non (.int i) S = .ok (.bl true) S := (rfl)
@[simp] theorem oNe_in {i : Int} : oNe (.int i) .non S = .ok (.bl true) S := (rfl)
theorem oIx_seqOf {x : D} {i : Int} {ds : List D} (h : seqOf S x = some ds) : oIx x (.int i) S = orNo (atI ds i) fun d => .ok d S := by
  have e : oIx x (.int i) S = match seqOf S x with
      | some ds => match atI ds i with
        | some d => .ok d S
        | none => .no
      | none => .no := by
    cases x with
    | str z => cases h
    | _ => rfl
  rw [e, h]
  dsimp only
  cases atI ds i <;> rfl
@[simp] theorem oIx_lst {i : Int} {ds : List D} : oIx (.lst ds) (.int i) S = orNo (atI ds i) fun d => .ok d S := by
  show (match atI ds i with | some d => _ | none => _) = _
  cases atI ds i <;> rfl
@[simp] theorem oIx_tup {i : Int} {ds : List D} : oIx (.tup ds) (.int i) S = orNo (atI ds i) fun d => .ok d S := by
  show (match atI ds i with | some d => _ | none => _) = _
  cases atI ds i <;> rfl
@[simp] theorem oIx_seq {i : Int} {ds : List D} : oIx (.seq ds) (.int i) S = orNo (atI ds i) fun d => .ok d S := by
  show (match atI ds i with | some d => _ | none => _) = _
  cases atI ds i <;> rfl
/-! built-ins -/
@[simp] theorem oInt_int {i : Int} : oInt [.int i] S = .ok (.int i) S := (rfl)
theorem oInt_str {z : Str} {n : Int} (h : PySem.intText? z = some n) (hl : z.length ≤ 640) : oInt [.str z] S = .ok (.int n) S := by
  show (match PySem.intText? z with
    | some n => if z.length ≤ 640 then Res.ok (D.int n) S else Res.no
    | none => Res.no) = _
  rw [h]
  exact if_pos hl
theorem oStr_int {i : Int} (h : i.natAbs.log2 < 1920) : oStr [.int i] S = .ok (.str (toString i)) S := if_pos h
@[simp] theorem oLen_lst {ds : List D} : oLen [.lst ds] S = .ok (.int ds.length) S := (rfl)
@[simp] theorem oLen_tup {ds : List D} : oLen [.tup ds] S = .ok (.int ds.length) S := (rfl)
@[simp] theorem oLen_seq {ds : List D} : oLen [.seq ds] S = .ok (.int ds.length) S := (rfl)
@[simp] theorem oLen_str {z : Str} (h : z.length ≤ 1000000) : oLen [.str z] S = .ok (.int z.length) S := by
  have e : lenZ S (.str z) = some z.length := if_pos (fits h)
  unfold oLen
  dsimp only
  rw [e]
@[simp] theorem oI1_run {g : Int → D} {i : Int} : oI1 g [.int i] S = .ok (g i) S := (rfl)
@[simp] theorem isStr_str {z : Str} : isStr S (.str z) = true := (rfl)
@[simp] theorem isCell_ref {j : Nat} : isCell S (.ref j) = match S[j]? with
  | some (some (.lst _)) => true
  | _ => false := (rfl)
@[simp] theorem oStarts_run {x y : Str} : oStarts (.str x) [.str y] S = .ok (.bl (Txt.startswith x y)) S := (rfl)
def appC (xs : List D) (d : D) (j : Nat) (S : Store) : Res D := if xs.length < sizeLine then .ok .non (S.set j (some (.lst (xs ++ [d])))) else .no
@[simp] theorem appC_ok {xs : List D} {d : D} {j : Nat} (h : xs.length ≤ 1000000) : appC xs d j S = .ok .non (S.set j (some (.lst (xs ++ [d])))) := if_pos (fitsL h)
@[simp] theorem oAppend_run {j : Nat} {d : D} : oAppend (.ref j) [d] S = match S[j]? with
  | some (some (.lst xs)) => appC xs d j S
  | _ => .no := by
  unfold oAppend oCell zAppend
  dsimp only
  cases e : S[j]? with
  | none => rfl
  | some c =>
    cases c with
    | none => rfl
    | some c =>
      cases c with
      | lst xs =>
        dsimp only
        unfold appC
        by_cases hl : xs.length < sizeLine
        · rw [if_pos hl, if_pos hl]
        · rw [if_neg hl, if_neg hl]
      | obj c ds => rfl
      | dct kvs => rfl
@[simp] theorem pNone_run : pNone ρ S = .ok none S := (rfl)
@[simp] theorem eSl_run {lo hi : OO} : eSl f lo hi ρ S = (f ρ S).bind fun x S1 => (lo ρ S1).bind fun l S2 => (hi ρ S2).bind fun h S3 => orNo (slZ S3 x l h) fun d => .ok d S3 := by
  unfold eSl
  congr 1
  funext x S1
  congr 1
  funext l S2
  congr 1
  funext h S3
  cases slZ S3 x l h <;> rfl
@[simp] theorem pSome_run : pSome f ρ S = (f ρ S).bind fun d S1 => match d with
  | .int i => .ok (some i) S1
  | _ => .no := (rfl)
@[simp] theorem slZ_str {z : Str} {lo hi : Option Int} (h : z.length ≤ 1000000) : slZ S (.str z) lo hi = some (.str (cutS z lo hi)) := if_pos (fits h)
@[simp] theorem slZ_lst {ds : List D} {lo hi : Option Int} : slZ S (.lst ds) lo hi = some (.lst (cutD ds lo hi)) := (rfl)
@[simp] theorem slZ_tup {ds : List D} {lo hi : Option Int} : slZ S (.tup ds) lo hi = some (.tup (cutD ds lo hi)) := (rfl)
@[simp] theorem slZ_seq {ds : List D} {lo hi : Option Int} : slZ S (.seq ds) lo hi = some (.lst (cutD ds lo hi)) := (rfl)
/-! functions -/
theorem trimR_ok {n : Nat} {d : D} (h : S.length = n) : trimR n (.ok d S) = .ok d S := by
  rw [trimR, ← h, List.take_length]
  split <;> rfl
theorem trimR_ex {n : Nat} {x : Exn} (h : S.length = n) : trimR n (.ex x S) = .ex x S := by
  rw [trimR, ← h, List.take_length]
  split <;> rfl
theorem trimR_cut {S0 T : Store} {d : D} (h : belowD S0.length d = true) (hS : belowS S0.length S0 = true) : trimR S0.length (.ok d (S0 ++ T)) = .ok d S0 := by
  rw [trimR, List.take_left' rfl, if_pos (by rw [h, hS]; rfl)]
end
end Z
set_option Elab.async false
set_option linter.all false
set_option maxRecDepth 100000
set_option maxHeartbeats 2000000
/-! Z13: loops and comprehensions reckoned; the rows that every law makes of its script. -/
namespace Z
open PySem L2
/-- a loop, by what holds ahead of each turn -/
theorem forL_rule {h : Hold} {b : D → SS} (I : Nat → Env → Store → Prop) (R : Out → Prop) (hh : ∀ i ρ S, I i ρ S → holds S h) : ∀ (ds : List D) (i : Nat) (ρ : Env) (S : Store),
    (∀ j d ρ S, ds[j]? = some d → I (i + j) ρ S → (∃ ρ' S', (b d ρ S = .next ρ' S' ∨ b d ρ S = .cont ρ' S') ∧ I (i + j + 1) ρ' S') ∨ (∃ ρ' S', b d ρ S = .brk ρ' S' ∧ R (.next ρ' S')) ∨ (∃ e S', b d ρ S = .ret e S' ∧ R (.ret e S')) ∨ (∃ x ρ' S', b d ρ S = .ex x ρ' S' ∧ R (.ex x ρ' S'))) →
    (∀ ρ S, I (i + ds.length) ρ S → R (.next ρ S)) → I i ρ S → R (forL h b ds ρ S)
  | [], i, ρ, S, _, he, hI => by
    unfold forL
    rw [if_pos (hh _ _ _ hI)]
    exact he ρ S hI
  | d :: ds, i, ρ, S, hs, he, hI => by
    unfold forL
    rw [if_pos (hh _ _ _ hI)]
    have ih := fun ρ' S' hI' => forL_rule I R hh ds (i + 1) ρ' S' (fun j d' ρ S hj hi => by
      have z := hs (j + 1) d' ρ S (by simpa using hj) (by rw [show i + (j + 1) = i + 1 + j by omega]; exact hi)
      rw [show i + (j + 1) = i + 1 + j by omega] at z
      exact z) (fun ρ S hi => he ρ S (by rw [List.length_cons, show i + (ds.length + 1) = i + 1 + ds.length by omega]; exact hi)) hI'
    rcases hs 0 d ρ S rfl hI with ⟨ρ', S', hb | hb, hI'⟩ | ⟨ρ', S', hb, hr⟩ | ⟨e, S', hb, hr⟩ | ⟨x, ρ', S', hb, hr⟩
    · rw [hb]
      exact ih ρ' S' hI'
    · rw [hb]
      exact ih ρ' S' hI'
    · rw [hb]
      exact hr
    · rw [hb]
      exact hr
    · rw [hb]
      exact hr
/-- .. where each turn goes on -/
theorem forL_next {h : Hold} {b : D → SS} (I : Nat → Env → Store → Prop) (hh : ∀ i ρ S, I i ρ S → holds S h) (ds : List D) (ρ : Env) (S : Store)
    (hs : ∀ j d ρ S, ds[j]? = some d → I j ρ S → ∃ ρ' S', (b d ρ S = .next ρ' S' ∨ b d ρ S = .cont ρ' S') ∧ I (j + 1) ρ' S') (hI : I 0 ρ S) : ∃ ρ' S', forL h b ds ρ S = .next ρ' S' ∧ I ds.length ρ' S' := by
  refine forL_rule I (fun o => ∃ ρ' S', o = .next ρ' S' ∧ I ds.length ρ' S') hh ds 0 ρ S (fun j d ρ S hj hi => .inl ?_) (fun ρ S hi => ⟨ρ, S, rfl, by rw [Nat.zero_add] at hi; exact hi⟩) hI
  rw [Nat.zero_add] at hi ⊢
  exact hs j d ρ S hj hi
@[simp] theorem sFor_run {ρ : Env} {S : Store} {i : II} {t : Tg} {f : SS} : sFor i t f ρ S = (i ρ S).go ρ fun p S1 => forL p.2 (turnZ t f) p.1 ρ S1 := sBy_run
@[simp] theorem turnZ_nm {ρ : Env} {S : Store} {i : Nat} {f : SS} {d : D} : turnZ (.nm i) f d ρ S = f (ρ.set i (some d)) S := (rfl)
def rng1 (ds : List D) (S : Store) : Res (List D × Hold) := match ds with
  | [.int j] => if inR j then .ok (rngD 0 j.toNat, none) S else .no
  | _ => .no
def rng2 (ds : List D) (S : Store) : Res (List D × Hold) := match ds with
  | [.int i, .int j] => if inR i ∧ inR j then .ok (rngD i (j - i).toNat, none) S else .no
  | _ => .no
@[simp] theorem iRange1_run {ρ : Env} {S : Store} {k : AA} : iRange1 k ρ S = (k ρ S).bind rng1 := (rfl)
@[simp] theorem iRange2_run {ρ : Env} {S : Store} {k : AA} : iRange2 k ρ S = (k ρ S).bind rng2 := (rfl)
theorem rng1_ok {S : Store} {j : Int} (h : inR j) : rng1 [.int j] S = .ok (rngD 0 j.toNat, none) S := if_pos h
theorem rng1_nat {S : Store} {n : Nat} (h : n < 2 ^ 62) : rng1 [.int (n : Int)] S = .ok (rngD 0 n, none) S := by
  have hr : inR (n : Int) := by
    unfold inR
    omega
  rw [rng1_ok hr, Int.toNat_natCast]
theorem rng2_ok {S : Store} {i j : Int} (hi : inR i) (hj : inR j) : rng2 [.int i, .int j] S = .ok (rngD i (j - i).toNat, none) S := if_pos ⟨hi, hj⟩
@[simp] theorem iSeq_run {ρ : Env} {S : Store} {f : EE} : iSeq f ρ S = (f ρ S).bind fun x S1 => orNo (itemsOf S1 x) fun p => .ok p S1 := by
  unfold iSeq
  congr 1
  funext x S1
  cases itemsOf S1 x <;> rfl
@[simp] theorem itemsOf_lst {S : Store} {ds : List D} : itemsOf S (.lst ds) = some (ds, none) := (rfl)
@[simp] theorem itemsOf_tup {S : Store} {ds : List D} : itemsOf S (.tup ds) = some (ds, none) := (rfl)
@[simp] theorem itemsOf_seq {S : Store} {ds : List D} : itemsOf S (.seq ds) = some (ds, none) := (rfl)
@[simp] theorem itemsOf_ref {S : Store} {j : Nat} : itemsOf S (.ref j) = match S[j]? with
  | some (some (.lst ds)) => some (ds, some (j, ds))
  | _ => none := (rfl)
@[simp] theorem iStrZ_run {ρ : Env} {S : Store} {f : EE} : iStrZ f ρ S = (f ρ S).bind fun x S1 => match x with
  | .str z => .ok (z.cps.toList.map fun c => .str ⟨#[c]⟩, none) S1
  | _ => .no := (rfl)
theorem rngD_len (a : Int) (n : Nat) : (rngD a n).length = n := by simp [rngD]
theorem rngD_get {a : Int} {n j : Nat} {d : D} (h : (rngD a n)[j]? = some d) : d = .int (a + j) ∧ j < n := by
  have hj : j < n := by
    have z := (List.getElem?_eq_some_iff.mp h).1
    rwa [rngD_len] at z
  refine ⟨?_, hj⟩
  simp [rngD, hj] at h
  exact h.symm
/-! comprehensions -/
/-- each item's answer by itself, nothing changed -/
theorem compL_filter {h : Hold} {t : Tg} {c : TT'} {e : EE} {ρ : Env} {S : Store} (hh : holds S h) (p : D → Bool) (f : D → D) : ∀ (ds : List D) (acc : List D),
    (∀ d ∈ ds, ∃ ρ', setT t d ρ = some ρ' ∧ c ρ' S = .ok (p d) S ∧ (p d = true → e ρ' S = .ok (f d) S)) → acc.length + ds.length ≤ sizeLine → compL h t c e ds ρ S acc = .ok (acc ++ (ds.filter p).map f) S
  | [], acc, _, _ => by
    unfold compL
    rw [if_pos hh]
    simp
  | d :: ds, acc, hd, hl => by
    obtain ⟨ρ', h1, h2, h3⟩ := hd d List.mem_cons_self
    rw [List.length_cons] at hl
    unfold compL
    rw [if_pos hh, h1]
    dsimp only
    rw [h2, noEx_ok, Res.bind_ok]
    cases hp : p d with
    | true =>
      rw [if_pos rfl, h3 hp, noEx_ok, Res.bind_ok, if_pos (by omega), compL_filter hh p f ds _ (fun d' hm => hd d' (List.mem_cons_of_mem _ hm)) (by rw [List.length_append, List.length_singleton]; omega)]
      simp [hp]
    | false =>
      rw [if_neg (by simp), compL_filter hh p f ds _ (fun d' hm => hd d' (List.mem_cons_of_mem _ hm)) (by omega)]
      simp [hp]
theorem compL_map {h : Hold} {t : Tg} {e : EE} {ρ : Env} {S : Store} (hh : holds S h) (f : D → D) (ds : List D) (acc : List D) (hd : ∀ d ∈ ds, ∃ ρ', setT t d ρ = some ρ' ∧ e ρ' S = .ok (f d) S) (hl : acc.length + ds.length ≤ sizeLine) :
    compL h t qYes e ds ρ S acc = .ok (acc ++ ds.map f) S := by
  rw [compL_filter hh (fun _ => true) f ds acc (fun d hm => ?_) hl]
  · rw [List.filter_eq_self.mpr fun _ _ => rfl]
  · obtain ⟨ρ', h1, h2⟩ := hd d hm
    exact ⟨ρ', h1, rfl, fun _ => h2⟩
@[simp] theorem aComp_run {ρ : Env} {S : Store} {i : II} {t : Tg} {c : TT'} {e : EE} {own : List Nat} : aComp i t c e own ρ S = (i ρ S).bind fun p S1 => compL p.2 t c e p.1 (wipeZ ρ own) S1 [] := (rfl)
@[simp] theorem eComp_run {ρ : Env} {S : Store} {i : II} {t : Tg} {c : TT'} {e : EE} {own : List Nat} : eComp i t c e own ρ S = (aComp i t c e own ρ S).bind fun ds S1 => .ok (.lst ds) S1 := (rfl)
@[simp] theorem wipeZ_nil {ρ : Env} : wipeZ ρ [] = ρ := (rfl)
@[simp] theorem wipeZ_cons {ρ : Env} {v : Nat} {vs : List Nat} : wipeZ ρ (v :: vs) = (wipeZ ρ vs).set v none := (rfl)

theorem cmul_of {i j : Int} {m n : Nat} (hi : Builtin.Int.intBits i ≤ m) (hj : Builtin.Int.intBits j ≤ n) (h : m + n ≤ 134217728) : CMulX i j := by
  unfold CMulX
  omega
theorem atI_nat {α : Type} {xs : List α} {k : Nat} (h : k < xs.length) : atI xs (k : Int) = xs[k]? := by
  unfold atI ixN
  first
    | (simp [h]; done)
    | (simp; omega)
end Z
set_option Elab.async false
set_option linter.all false
set_option maxRecDepth 100000
set_option maxHeartbeats 2000000
/-! Z14: the rows that every law makes of its script. -/
namespace Z
open PySem L2
noncomputable def rowsB : SS := (sSeq (sSet (.nm 4) (eC (.int 0))) (sSeq (sIf (eT (eOp (oB fun i j => decide (j < i)) (eB oLen (aCons (eVar 0) aNil)) (eC (.int 0)))) (sSet (.nm 4) (eB oInt (aCons (eOp oIx (eVar 0) (eOp oMod (eB oInt (aCons (eVar 3) aNil)) (eB oLen (aCons (eVar 0) aNil)))) aNil))) sNil) (sSeq (sIf (eT (eOp (oB fun i j => decide (i < j)) (eVar 4) (eC (.int 0)))) (sSet (.nm 4) (eOp oSub (eC (.int 1)) (eOp oMul (eC (.int 2)) (eVar 4)))) sNil) (sSeq (sIf (qOr (eT (eOp (oB fun i j => decide (j ≤ i)) (eVar 3) (eB oLen (aCons (eVar 0) aNil)))) (eT (eOp (oB fun i j => decide (i < j)) (eVar 4) (eC (.int 1000000000))))) (sSeq (sSet (.nm 4) (eOp oMod (eB oInt (aCons (eOp oAdd (eOp oMul (eOp oAdd (eOp oAdd (eVar 4) (eOp oMul (eC (.int 131)) (eVar 3))) (eC (.int 7))) (eC (.int 48271))) (eOp oMul (eOp oMul (eVar 3) (eVar 3)) (eC (.int 69621)))) aNil)) (eC (.int 1000000007)))) (sSet (.nm 4) (eOp oMod (eB oInt (aCons (eOp oMul (eOp oAdd (eOp oAdd (eVar 4) (eOp oMul (eC (.int 17)) (eVar 3))) (eC (.int 3))) (eC (.int 2862933555777941757))) aNil)) (eC (.int 18446744073709551557))))) sNil) (sExpr (eM isCell oAppend (eVar 2) (aCons (eVar 4) aNil)))))))
noncomputable def rowsS (fl : Nat → Nat) : SS := (sSeq (sSet (.nm 2) (eCel aNil)) (sSeq (sFor (iRange1 (aCons (eVar 1) aNil)) (.nm 3) rowsB) (sRet (eFrz fl (eVar 2)))))
def cell0 (ns : List Int) (k : Nat) : Int := ns.getD (k % ns.length) 0
def cell1 (c : Int) : Int := if c < 0 then 1 - 2 * c else c
def mixA (k : Nat) (c : Int) : Int := ((c + 131 * k + 7) * 48271 + k * k * 69621) % 1000000007
def mixB (k : Nat) (c : Int) : Int := ((c + 17 * k + 3) * 2862933555777941757) % 18446744073709551557
def cell2 (ns : List Int) (k : Nat) : Int := if ns.length ≤ k ∨ cell1 (cell0 ns k) < 1000000000 then mixB k (mixA k (cell1 (cell0 ns k))) else cell1 (cell0 ns k)
open Builtin.Int in
theorem bits_nat {k m : Nat} (h : k < 2 ^ m) : intBits (k : Int) ≤ m := intBits_le_iff.mpr (by rw [Int.natAbs_natCast]; exact h)
open Builtin.Int in
theorem bits_cell1 {c : Int} (h : intBits c ≤ 1048576) : intBits (cell1 c) ≤ 1048579 := by
  unfold cell1
  split
  · have h1 : intBits (2 * c) ≤ 2 + 1048576 := intBits_mul_le (bits_nat (k := 2) (by decide)) h
    have h2 : intBits (1 : Int) ≤ 1 := bits_nat (k := 1) (by decide)
    exact Nat.le_trans (intBits_sub_le h2 h1) (by decide)
  · omega
theorem cell1_nn (c : Int) : 0 ≤ cell1 c := by
  unfold cell1
  split <;> omega
open Builtin.Int in
theorem bits_cell0 {ns : List Int} (hb : ∀ z ∈ ns, intBits z ≤ 1048576) (k : Nat) : intBits (cell0 ns k) ≤ 1048576 := by
  unfold cell0
  rw [List.getD_eq_getElem?_getD]
  cases e : ns[k % ns.length]? with
  | none => exact Nat.le_trans (bits_nat (k := 0) (m := 1) (by decide)) (by decide)
  | some z => exact hb z (List.mem_of_getElem? e)
open Builtin.Int in
theorem bits_small {x : Int} {m : Nat} (h0 : 0 ≤ x) (h1 : x < ((2 ^ m : Nat) : Int)) : intBits x ≤ m := intBits_le_iff.mpr (by omega)
theorem mixA_b (k : Nat) (c : Int) : 0 ≤ mixA k c ∧ mixA k c < 1000000007 := ⟨Int.emod_nonneg _ (by decide), Int.emod_lt_of_pos _ (by decide)⟩
theorem mixB_b (k : Nat) (c : Int) : 0 ≤ mixB k c ∧ mixB k c < 18446744073709551557 := ⟨Int.emod_nonneg _ (by decide), Int.emod_lt_of_pos _ (by decide)⟩
open Builtin.Int in
/-- a row: not negative, not too long -/
theorem cell2_ok {ns : List Int} (hb : ∀ z ∈ ns, intBits z ≤ 1048576) (k : Nat) : 0 ≤ cell2 ns k ∧ intBits (cell2 ns k) ≤ 1048579 := by
  unfold cell2
  split
  · have z := mixB_b k (mixA k (cell1 (cell0 ns k)))
    exact ⟨z.1, Nat.le_trans (bits_small (m := 64) z.1 (by have := z.2; omega)) (by decide)⟩
  · exact ⟨cell1_nn _, bits_cell1 (bits_cell0 hb k)⟩
theorem len_map {ns : List Int} : (ns.map D.int).length = ns.length := List.length_map _
open Builtin.Int in
theorem rowsB_ok {ns : List Int} (hb : ∀ z ∈ ns, intBits z ≤ 1048576) {n : Int} {k q : Nat} (hk : k < 1000) {x : Option D} {S : Store} {acc : List D} (hS : S[q]? = some (some (.lst acc))) (ha : acc.length ≤ 1000) :
    rowsB [some (.seq (ns.map .int)), some (.int n), some (.ref q), some (.int (k : Int)), x] S = .next [some (.seq (ns.map .int)), some (.int n), some (.ref q), some (.int (k : Int)), some (.int (cell2 ns k))] (S.set q (some (.lst (acc ++ [.int (cell2 ns k)])))) := by
  have bc := bits_cell0 hb k
  have bc1 := bits_cell1 bc
  have bk : intBits (k : Int) ≤ 10 := bits_nat (by omega)
  have m1 : CMulX 2 (cell0 ns k) := cmul_of (bits_nat (k := 2) (m := 2) (by decide)) bc (by decide)
  have m2 : CMulX 131 (k : Int) := cmul_of (bits_nat (k := 131) (m := 8) (by decide)) bk (by decide)
  have b2 : intBits (131 * (k : Int)) ≤ 18 := intBits_mul_le (bits_nat (k := 131) (m := 8) (by decide)) bk
  have b3 : intBits (cell1 (cell0 ns k) + 131 * k + 7) ≤ 1048581 := Nat.le_trans (intBits_add_le (intBits_add_le bc1 b2) (bits_nat (k := 7) (m := 3) (by decide))) (by decide)
  have m3 : CMulX (cell1 (cell0 ns k) + 131 * k + 7) 48271 := cmul_of b3 (bits_nat (k := 48271) (m := 16) (by decide)) (by decide)
  have m4 : CMulX (k : Int) k := cmul_of bk bk (by decide)
  have m5 : CMulX ((k : Int) * k) 69621 := cmul_of (intBits_mul_le bk bk) (bits_nat (k := 69621) (m := 17) (by decide)) (by decide)
  have za := mixA_b k (cell1 (cell0 ns k))
  have b6 : intBits (mixA k (cell1 (cell0 ns k))) ≤ 30 := bits_small za.1 (by have := za.2; omega)
  have m6 : CMulX 17 (k : Int) := cmul_of (bits_nat (k := 17) (m := 5) (by decide)) bk (by decide)
  have b7 : intBits (mixA k (cell1 (cell0 ns k)) + 17 * k + 3) ≤ 64 := Nat.le_trans (intBits_add_le (intBits_add_le b6 (intBits_mul_le (bits_nat (k := 17) (m := 5) (by decide)) bk)) (bits_nat (k := 3) (m := 2) (by decide))) (by decide)
  have m7 : CMulX (mixA k (cell1 (cell0 ns k)) + 17 * k + 3) 2862933555777941757 := cmul_of b7 (bits_nat (k := 2862933555777941757) (m := 64) (by decide)) (by decide)
  have hq : q < S.length := (List.getElem?_eq_some_iff.mp hS).1
  have hl : acc.length ≤ 1000000 := by omega
  have hA : (sIf (eT (eOp (oB fun i j => decide (j < i)) (eB oLen (aCons (eVar 0) aNil)) (eC (.int 0)))) (sSet (.nm 4) (eB oInt (aCons (eOp oIx (eVar 0) (eOp oMod (eB oInt (aCons (eVar 3) aNil)) (eB oLen (aCons (eVar 0) aNil)))) aNil))) sNil) [some (.seq (ns.map .int)), some (.int n), some (.ref q), some (.int (k : Int)), some (.int 0)] S = .next [some (.seq (ns.map .int)), some (.int n), some (.ref q), some (.int (k : Int)), some (.int (cell0 ns k))] S := by
    by_cases hn : 0 < ns.length
    · have e : ((k : Int) % (ns.length : Int)) = ((k % ns.length : Nat) : Int) := (Int.natCast_emod k _).symm
      have hm : k % ns.length < ns.length := Nat.mod_lt _ hn
      have e2 : atI (ns.map D.int) ((k % ns.length : Nat) : Int) = some (.int (cell0 ns k)) := by
        rw [atI_nat (by rw [len_map]; exact hm), List.getElem?_map]
        unfold cell0
        rw [List.getD_eq_getElem?_getD, List.getElem?_eq_getElem hm]
        rfl
      have hn' : (0 : Int) < (ns.length : Int) := by omega
      have e3 : atI (ns.map D.int) ((k : Int) % (ns.length : Int)) = some (.int (cell0 ns k)) := by rw [e, e2]
      simp only [sIf_run, eT_run, eOp_run, eVar_0, eVar_s, eB_run, eC_run, aCons_run, aNil_run, Res.bind_ok, oLen_seq, oB_run, len_map, hn', decide_true, if_true, Res.go_ok, sSet_run, oInt_int, oMod_run hn', oIx_seq, e3, orNo_some, setT_nm, setN_some]
      rfl
    · have hn' : ¬ (0 : Int) < (ns.length : Int) := by omega
      have hz : ns = [] := List.length_eq_zero_iff.mp (by omega)
      subst hz
      simp [cell0]
  have hB : (sIf (eT (eOp (oB fun i j => decide (i < j)) (eVar 4) (eC (.int 0)))) (sSet (.nm 4) (eOp oSub (eC (.int 1)) (eOp oMul (eC (.int 2)) (eVar 4)))) sNil) [some (.seq (ns.map .int)), some (.int n), some (.ref q), some (.int (k : Int)), some (.int (cell0 ns k))] S = .next [some (.seq (ns.map .int)), some (.int n), some (.ref q), some (.int (k : Int)), some (.int (cell1 (cell0 ns k)))] S := by
    by_cases hc : cell0 ns k < 0
    · simp [hc, oMul_run m1, cell1]
    · simp [hc, cell1]
  have hC : ∀ c, c = cell1 (cell0 ns k) → (sIf (qOr (eT (eOp (oB fun i j => decide (j ≤ i)) (eVar 3) (eB oLen (aCons (eVar 0) aNil)))) (eT (eOp (oB fun i j => decide (i < j)) (eVar 4) (eC (.int 1000000000))))) (sSeq (sSet (.nm 4) (eOp oMod (eB oInt (aCons (eOp oAdd (eOp oMul (eOp oAdd (eOp oAdd (eVar 4) (eOp oMul (eC (.int 131)) (eVar 3))) (eC (.int 7))) (eC (.int 48271))) (eOp oMul (eOp oMul (eVar 3) (eVar 3)) (eC (.int 69621)))) aNil)) (eC (.int 1000000007)))) (sSet (.nm 4) (eOp oMod (eB oInt (aCons (eOp oMul (eOp oAdd (eOp oAdd (eVar 4) (eOp oMul (eC (.int 17)) (eVar 3))) (eC (.int 3))) (eC (.int 2862933555777941757))) aNil)) (eC (.int 18446744073709551557))))) sNil) [some (.seq (ns.map .int)), some (.int n), some (.ref q), some (.int (k : Int)), some (.int c)] S = .next [some (.seq (ns.map .int)), some (.int n), some (.ref q), some (.int (k : Int)), some (.int (if ns.length ≤ k ∨ c < 1000000000 then mixB k (mixA k c) else c))] S := by
    intro c ec
    rw [← ec] at m3 m7
    have hmix : (sSeq (sSet (.nm 4) (eOp oMod (eB oInt (aCons (eOp oAdd (eOp oMul (eOp oAdd (eOp oAdd (eVar 4) (eOp oMul (eC (.int 131)) (eVar 3))) (eC (.int 7))) (eC (.int 48271))) (eOp oMul (eOp oMul (eVar 3) (eVar 3)) (eC (.int 69621)))) aNil)) (eC (.int 1000000007)))) (sSet (.nm 4) (eOp oMod (eB oInt (aCons (eOp oMul (eOp oAdd (eOp oAdd (eVar 4) (eOp oMul (eC (.int 17)) (eVar 3))) (eC (.int 3))) (eC (.int 2862933555777941757))) aNil)) (eC (.int 18446744073709551557))))) [some (.seq (ns.map .int)), some (.int n), some (.ref q), some (.int (k : Int)), some (.int c)] S = .next [some (.seq (ns.map .int)), some (.int n), some (.ref q), some (.int (k : Int)), some (.int (mixB k (mixA k c)))] S := by
      have m7' : CMulX (((c + 131 * k + 7) * 48271 + k * k * 69621) % 1000000007 + 17 * k + 3) 2862933555777941757 := m7
      simp [oMul_run m2, oMul_run m3, oMul_run m4, oMul_run m5, oMul_run m6, oMul_run m7', mixA, mixB]
    by_cases h1 : ns.length ≤ k
    · have h1' : (ns.length : Int) ≤ (k : Int) := by omega
      simp only [sIf_run, qOr_run, eT_run, eOp_run, eVar_0, eVar_s, eB_run, aCons_run, aNil_run, Res.bind_ok, oLen_seq, oB_run, len_map, h1', decide_true, if_true, Res.go_ok]
      rw [hmix, if_pos (Or.inl h1)]
    · have h1' : ¬ (ns.length : Int) ≤ (k : Int) := by omega
      by_cases h2 : c < 1000000000
      · simp only [sIf_run, qOr_run, eT_run, eOp_run, eVar_0, eVar_s, eB_run, eC_run, aCons_run, aNil_run, Res.bind_ok, oLen_seq, oB_run, len_map, h1', h2, decide_true, decide_false, if_true, Bool.false_eq_true, if_false, Res.go_ok]
        rw [hmix]
        simp
      · simp [h1', h2, h1]
  unfold rowsB
  rw [sSeq_run, sSet_run, eC_run, Res.go_ok, setT_nm, setN_some, Out.bind_next, sSeq_run]
  show Out.bind (sIf _ _ _ [some (.seq (ns.map .int)), some (.int n), some (.ref q), some (.int (k : Int)), some (.int 0)] S) _ = _
  rw [hA, Out.bind_next, sSeq_run, hB, Out.bind_next, sSeq_run, hC _ rfl, Out.bind_next]
  simp [hS, hl, cell2]
theorem append_S {S : Store} {c c' : Option Cell} : (S ++ [c]).set S.length c' = S ++ [c'] := by
  rw [List.set_append_right _ _ (Nat.le_refl _), Nat.sub_self]
  rfl
theorem append_at {S : Store} {c : Option Cell} : (S ++ [c])[S.length]? = some c := by simp
/-- the rows -/
noncomputable def rowsF (fl : Nat → Nat) : FSem := semZ 5 2 (rowsS fl)
def rowsOf (ns : List Int) (n : Nat) : List Int := (List.range n).map (cell2 ns)
theorem rows_loop {ns : List Int} (hb : ∀ z ∈ ns, Builtin.Int.intBits z ≤ 1048576) {n : Nat} (hn : n < 1000) {S : Store} : ∃ x y, forL none (turnZ (.nm 3) rowsB) (rngD 0 n) [some (.seq (ns.map .int)), some (.int n), some (.ref S.length), none, none] (S ++ [some (.lst [])]) = .next [some (.seq (ns.map .int)), some (.int n), some (.ref S.length), x, y] (S ++ [some (.lst ((rowsOf ns n).map .int))]) := by
  have key : ∃ ρ' S', forL none (turnZ (.nm 3) rowsB) (rngD 0 n) [some (.seq (ns.map .int)), some (.int n), some (.ref S.length), none, none] (S ++ [some (.lst [])]) = .next ρ' S' ∧
      (∃ x y, ρ' = [some (.seq (ns.map .int)), some (.int n), some (.ref S.length), x, y] ∧ S' = S ++ [some (.lst ((rowsOf ns (rngD 0 n).length).map .int))]) := by
    refine forL_next (h := none) (fun i ρ S' => ∃ x y, ρ = [some (.seq (ns.map .int)), some (.int n), some (.ref S.length), x, y] ∧ S' = S ++ [some (.lst ((rowsOf ns i).map .int))]) (fun _ _ _ _ => True.intro) (rngD 0 n) _ _ (fun j d ρ S' hj hi => ?_) ⟨none, none, rfl, rfl⟩
    obtain ⟨x, y, rfl, rfl⟩ := hi
    obtain ⟨rfl, hlt⟩ := rngD_get hj
    have e : turnZ (.nm 3) rowsB (.int (0 + (j : Int))) [some (.seq (ns.map .int)), some (.int n), some (.ref S.length), x, y] (S ++ [some (.lst ((rowsOf ns j).map .int))]) =
        rowsB [some (.seq (ns.map .int)), some (.int n), some (.ref S.length), some (.int (j : Int)), y] (S ++ [some (.lst ((rowsOf ns j).map .int))]) := by
      rw [Int.zero_add, turnZ_nm]
      rfl
    rw [e, rowsB_ok hb (by omega) append_at (by rw [List.length_map, rowsOf, List.length_map, List.length_range]; omega), append_S]
    refine ⟨_, _, .inl rfl, _, _, rfl, ?_⟩
    rw [rowsOf, rowsOf, List.range_succ, List.map_append, List.map_append]
    rfl
  obtain ⟨ρ', S', h1, x, y, rfl, rfl⟩ := key
  rw [rngD_len] at h1
  exact ⟨x, y, h1⟩
theorem below_ints {n : Nat} : ∀ l : List Int, belowDs n (l.map D.int) = true
  | [] => rfl
  | z :: zs => by
    rw [List.map_cons, belowDs, below_ints zs]
    rfl
theorem rowsS_ok {fl : Nat → Nat} {ns : List Int} (hb : ∀ z ∈ ns, Builtin.Int.intBits z ≤ 1048576) {n : Nat} (hn : n < 1000) {S : Store} : rowsS fl [some (.seq (ns.map .int)), some (.int n), none, none, none] S = .ret (.lst ((rowsOf ns n).map .int)) (S ++ [none]) := by
  have h0 : ([] : List D).length ≤ 1000000 := Nat.zero_le _
  obtain ⟨x, y, h1⟩ := rows_loop (S := S) hb hn
  have hn2 : n < 2 ^ 62 := Nat.lt_trans hn (by decide)
  unfold rowsS
  simp only [sSeq_run, sSet_run, eCel_run, aNil_run, Res.bind_ok, mkC_ok h0, Res.go_ok, setT_nm, setN_some, Out.bind_next, sFor_run, iRange1_run, aCons_run]
  simp only [List.set_cons_succ, List.set_cons_zero, eVar_0, eVar_s, Res.bind_ok, rng1_nat hn2, Res.go_ok]
  rw [h1, Out.bind_next]
  simp only [sRet_run, eFrz_run, eVar_s, eVar_0, Res.bind_ok, frz1_ref, append_at, append_S, Res.go_ok]
theorem rowsF_ok {fl : Nat → Nat} {ns : List Int} (hb : ∀ z ∈ ns, Builtin.Int.intBits z ≤ 1048576) {n : Nat} (hn : n < 1000) {S : Store} (hS : belowS S.length S = true) : rowsF fl [.seq (ns.map .int), .int n] S = .ok (.lst ((rowsOf ns n).map .int)) S := by
  unfold rowsF semZ
  rw [if_pos (show [D.seq (ns.map D.int), D.int (n : Int)].length = 2 from rfl)]
  show trimR S.length (outR (rowsS fl [some (.seq (ns.map .int)), some (.int n), none, none, none] S)) = _
  rw [rowsS_ok hb hn, outR_ret]
  exact trimR_cut (below_ints _) hS
theorem rowsOf_len (ns : List Int) (n : Nat) : (rowsOf ns n).length = n := by simp [rowsOf]
open Builtin.Int in
theorem rowsOf_ok {ns : List Int} (hb : ∀ z ∈ ns, intBits z ≤ 1048576) {n : Nat} : ∀ r ∈ rowsOf ns n, 0 ≤ r ∧ intBits r ≤ 1048579 := fun r hr => by
  obtain ⟨k, _, rfl⟩ := List.mem_map.mp hr
  exact cell2_ok hb k
end Z
set_option Elab.async false
set_option linter.all false
set_option maxRecDepth 100000
set_option maxHeartbeats 2000000
/-! Z15: texts reckoned: signs, digits, int of a text and back. -/
namespace Z
open PySem L2 NumText TL
theorem compL_of {α : Type} {h : Hold} {t : Tg} {c : TT'} {e : EE} {ρ : Env} {S : Store} (hh : holds S h) (g : α → D) (p : α → Bool) (f : α → D) : ∀ (xs : List α) (acc : List D),
    (∀ x ∈ xs, ∃ ρ', setT t (g x) ρ = some ρ' ∧ c ρ' S = .ok (p x) S ∧ (p x = true → e ρ' S = .ok (f x) S)) → acc.length + xs.length ≤ 1000000 → compL h t c e (xs.map g) ρ S acc = .ok (acc ++ (xs.filter p).map f) S
  | [], acc, _, _ => by
    rw [List.map_nil, compL, if_pos hh]
    simp
  | x :: xs, acc, hd, hl => by
    obtain ⟨ρ', h1, h2, h3⟩ := hd x List.mem_cons_self
    rw [List.length_cons] at hl
    rw [List.map_cons, compL, if_pos hh, h1]
    dsimp only
    rw [h2, noEx_ok, Res.bind_ok]
    cases hp : p x with
    | true =>
      rw [if_pos rfl, h3 hp, noEx_ok, Res.bind_ok, if_pos (fitsL (show acc.length ≤ 1000000 by omega)), compL_of hh g p f xs _ (fun y hm => hd y (List.mem_cons_of_mem _ hm)) (by rw [List.length_append, List.length_singleton]; omega)]
      simp [hp]
    | false =>
      rw [if_neg (by simp), compL_of hh g p f xs _ (fun y hm => hd y (List.mem_cons_of_mem _ hm)) (by omega)]
      simp [hp]
theorem compL_all {α : Type} {h : Hold} {t : Tg} {e : EE} {ρ : Env} {S : Store} (hh : holds S h) (g : α → D) (f : α → D) (xs : List α) (acc : List D) (hd : ∀ x ∈ xs, ∃ ρ', setT t (g x) ρ = some ρ' ∧ e ρ' S = .ok (f x) S) (hl : acc.length + xs.length ≤ 1000000) :
    compL h t qYes e (xs.map g) ρ S acc = .ok (acc ++ xs.map f) S := by
  rw [compL_of hh g (fun _ => true) f xs acc (fun x hm => ?_) hl, List.filter_eq_self.mpr fun _ _ => rfl]
  obtain ⟨ρ', h1, h2⟩ := hd x hm
  exact ⟨ρ', h1, rfl, fun _ => h2⟩
def sg (c : Nat) : D := .str ⟨#[c]⟩
@[simp] theorem oIn_sign {S : Store} {c : Nat} {z : Str} : oIn (sg c) (.str z) S = .ok (.bl (decide (c ∈ z.cps.toList))) S := (rfl)
@[simp] theorem oNotIn_sign {S : Store} {c : Nat} {z : Str} : oNotIn (sg c) (.str z) S = .ok (.bl (!decide (c ∈ z.cps.toList))) S := (rfl)
theorem blsOf_map {α : Type} (f : α → Bool) : ∀ xs : List α, blsOf (xs.map fun x => .bl (f x)) = some (xs.map f)
  | [] => rfl
  | x :: xs => by
    rw [List.map_cons, List.map_cons, blsOf, blsOf_map f xs]
    rfl
theorem oL_of {f : List D → Option D} {xs : List D} {d : D} {S : Store} (h : f xs = some d) : oL f [.lst xs] S = .ok d S := by
  show (match f xs with | some d => Res.ok d S | none => Res.no) = _
  rw [h]
section
variable {ρ : Z.Env} {S S1 : Store} {fa fb : EE} {ta tb : TT'} {b1 b2 : Bool}
theorem eAnd_bl (h1 : fa ρ S = .ok (.bl b1) S1) (h2 : b1 = true → fb ρ S1 = .ok (.bl b2) S1) : eAnd fa fb ρ S = .ok (.bl (b1 && b2)) S1 := by
  rw [eAnd_run, h1, Res.bind_ok]
  cases b1
  · rfl
  · exact h2 rfl
theorem eOr_bl (h1 : fa ρ S = .ok (.bl b1) S1) (h2 : b1 = false → fb ρ S1 = .ok (.bl b2) S1) : eOr fa fb ρ S = .ok (.bl (b1 || b2)) S1 := by
  rw [eOr_run, h1, Res.bind_ok]
  cases b1
  · exact h2 rfl
  · rfl
theorem eNot_bl (h1 : fa ρ S = .ok (.bl b1) S1) : eNot fa ρ S = .ok (.bl (!b1)) S1 := by
  rw [eNot_run, h1, Res.bind_ok]
theorem qAnd_of (h1 : ta ρ S = .ok b1 S1) (h2 : b1 = true → tb ρ S1 = .ok b2 S1) : qAnd ta tb ρ S = .ok (b1 && b2) S1 := by
  rw [qAnd_run, h1, Res.bind_ok]
  cases b1
  · rfl
  · exact h2 rfl
theorem qOr_of (h1 : ta ρ S = .ok b1 S1) (h2 : b1 = false → tb ρ S1 = .ok b2 S1) : qOr ta tb ρ S = .ok (b1 || b2) S1 := by
  rw [qOr_run, h1, Res.bind_ok]
  cases b1
  · exact h2 rfl
  · rfl
theorem qNot_of (h1 : ta ρ S = .ok b1 S1) : qNot ta ρ S = .ok (!b1) S1 := by
  rw [qNot_run, h1, Res.bind_ok]
theorem eT_of (h1 : fa ρ S = .ok (.bl b1) S1) : eT fa ρ S = .ok b1 S1 := by
  rw [eT_run, h1, Res.bind_ok]
theorem eTru_of (h1 : fa ρ S = .ok (.bl b1) S1) : eTru fa ρ S = .ok b1 S1 := by
  rw [eTru_run, h1, Res.bind_ok, truZ_bl]
theorem sIf_of {s k : SS} (h : ta ρ S = .ok b1 S1) : sIf ta s k ρ S = (if b1 = true then s else k) ρ S1 := by
  rw [sIf_run, h, Res.go_ok]
theorem eChain_bl {o o' : Op2} {fc : EE} {x y z : D} (ha : fa ρ S = .ok x S) (hb : fb ρ S = .ok y S) (hc : fc ρ S = .ok z S) (h1 : o x y S = .ok (.bl b1) S) (h2 : o' y z S = .ok (.bl b2) S) : eChain o o' fa fb fc ρ S = .ok (.bl (b1 && b2)) S := by
  rw [eChain_run, ha, Res.bind_ok, hb, Res.bind_ok, h1, Res.bind_ok]
  cases b1
  · rfl
  · show Res.bind _ _ = _
    rw [hc, Res.bind_ok, h2]
    rfl
end
/-! signs -/
def hd45 (l : List Nat) : Bool := match l with
  | 45 :: _ => true
  | _ => false
def dgs (l : List Nat) : List Nat := if hd45 l = true then l.drop 1 else l
theorem hd45_cons {l : List Nat} (h : hd45 l = true) : l = 45 :: l.drop 1 := by
  unfold hd45 at h
  split at h
  · rfl
  · cases h
theorem tl_len (w : Str) : (tl w).length = w.length := Array.length_toList
theorem starts_minus (w : Str) : Txt.startswith w "-" = hd45 (tl w) := by
  unfold Txt.startswith
  rw [StrLaws.subAt_eq]
  have e1 : ("-" : Str).cps.toList = [45] := by decide +kernel
  have e2 : ("-" : Str).length = 1 := by decide +kernel
  rw [e1, e2, ← tl_len]
  show (decide (0 + 1 ≤ (tl w).length) && (((tl w).drop 0).take 1 == [45])) = hd45 (tl w)
  generalize tl w = l
  cases l with
  | nil => rfl
  | cons c r =>
    have e3 : decide (0 + 1 ≤ (c :: r).length) = true := decide_eq_true (by rw [List.length_cons]; omega)
    rw [e3, Bool.true_and]
    show ([c] == [45]) = hd45 (c :: r)
    by_cases hc : c = 45
    · subst hc
      rfl
    · have e4 : ([c] == [45]) = false := by simp [hc]
      rw [e4]
      unfold hd45
      split
      · rename_i z
        cases z
        exact absurd rfl hc
      · rfl
theorem tl_cut1 (w : Str) : tl (cutS w (some 1) none) = (tl w).drop 1 := by
  show (List.toArray _).toList = _
  have hl := tl_len w
  have e1 : HT.sIx w.length w.length none = w.length := rfl
  have e2 : HT.sIx w.length 0 (some 1) = min 1 w.length := HT.sIx_nat w.length 0 1
  rw [e1, e2, ← hl]
  show ((tl w).drop (min 1 (tl w).length)).take ((tl w).length - min 1 (tl w).length) = _
  generalize tl w = l
  cases l with
  | nil => rfl
  | cons c r =>
    have e3 : min 1 (c :: r).length = 1 := by rw [List.length_cons]; omega
    rw [e3]
    show r.take (r.length + 1 - 1) = r
    rw [Nat.add_sub_cancel, List.take_length]
theorem tl_cutF (w : Str) : tl (cutS w none (some 1)) = (tl w).take 1 := by
  show (List.toArray _).toList = _
  have hl := tl_len w
  have e1 : HT.sIx w.length 0 none = 0 := rfl
  have e2 : HT.sIx w.length w.length (some 1) = min 1 w.length := HT.sIx_nat w.length w.length 1
  rw [e1, e2, ← hl]
  show ((tl w).drop 0).take (min 1 (tl w).length - 0) = _
  generalize tl w = l
  cases l with
  | nil => rfl
  | cons c r =>
    have e3 : min 1 (c :: r).length = 1 := by rw [List.length_cons]; omega
    rw [e3]
    rfl
theorem mem_digits {c : Nat} : c ∈ ("0123456789" : Str).cps.toList ↔ (48 ≤ c ∧ c ≤ 57) := by
  have e : ("0123456789" : Str).cps.toList = [48, 49, 50, 51, 52, 53, 54, 55, 56, 57] := by decide +kernel
  rw [e]
  simp only [List.mem_cons, List.not_mem_nil, or_false]
  omega
/-! the int behind a text, and back -/
def valI (l : List Nat) : Int := if hd45 l = true then -((digitsVal (dgs l) : Nat) : Int) else ((digitsVal (dgs l) : Nat) : Int)
theorem intText_dg {w : Str} (h : AllDigits (dgs (tl w))) (hn : dgs (tl w) ≠ []) (hl : w.length ≤ 4300) : intText? w = some (valI (tl w)) := by
  unfold valI
  by_cases hm : hd45 (tl w) = true
  · rw [if_pos hm]
    have e := hd45_cons hm
    unfold dgs at h hn ⊢
    rw [if_pos hm] at h hn ⊢
    exact intText_neg e h hn hl
  · rw [if_neg hm]
    unfold dgs at h hn ⊢
    rw [if_neg hm] at h hn ⊢
    exact intText_digits h hn hl
theorem numL_back {l : List Nat} (h : AllDigits l) (hn : l ≠ []) : numL (digitsVal l) = l ↔ (l = [48] ∨ l.head? ≠ some 48) := by
  constructor
  · intro e
    by_cases hd : l.head? = some 48
    · left
      cases l with
      | nil => exact absurd rfl hn
      | cons c r =>
        have hc : c = 48 := by simpa using hd
        subst hc
        by_cases hr : digitsVal (48 :: r) = 0
        · rw [hr] at e
          have e0 : numL 0 = [48] := numL_lt (by decide)
          rw [e0] at e
          exact e.symm
        · exfalso
          have hz : ∀ n : Nat, 0 < n → (numL n).head? ≠ some 48 := by
            intro n
            induction n using Nat.strongRecOn with
            | _ n ih =>
              intro hp
              by_cases h10 : n < 10
              · rw [numL_lt h10]
                simp
                omega
              · rw [numL_step (by omega)]
                have := ih (n / 10) (by omega) (by omega)
                cases hq : numL (n / 10) with
                | nil => exact absurd hq (numL_ne _)
                | cons a b =>
                  rw [hq] at this
                  simpa using this
          exact hz _ (Nat.pos_of_ne_zero hr) (by rw [e]; rfl)
    · exact .inr hd
  · intro hc
    have hcs : l.length = (l.length - 1) + 1 := by
      cases l with
      | nil => exact absurd rfl hn
      | cons c r => simp
    have z := toDigits_digitsVal (l.length - 1) l hcs h (by
      rcases hc with rfl | hd
      · exact .inl rfl
      · cases l with
        | nil => exact absurd rfl hn
        | cons c r =>
          have hc := h.head
          right
          refine ⟨c, r, rfl, ?_⟩
          have : c ≠ 48 := fun q => hd (by rw [q]; rfl)
          omega)
    unfold numL
    rw [z, List.map_map]
    have : ∀ c ∈ l, (Char.toNat ∘ Char.ofNat) c = c := fun c hm => by
      have hc := h c hm
      show (Char.ofNat c).toNat = c
      have : ∀ k : Nat, k < 58 → (Char.ofNat k).toNat = k := by decide
      exact this c (by omega)
    rw [List.map_congr_left this]
    simp
theorem tl_negnum (n : Nat) (h : 0 < n) : tl (Str.ofString (toString (-(n : Int)))) = 45 :: numL n := by
  obtain ⟨k, rfl⟩ : ∃ k, n = k + 1 := ⟨n - 1, by omega⟩
  have e : toString (-((k + 1 : Nat) : Int)) = "-" ++ toString ((k + 1 : Nat) : Int) := rfl
  rw [e, tl_ofString, String.toList_append, List.map_append, ← tl_ofString (toString ((k + 1 : Nat) : Int)), tl_num]
  rfl
theorem digits_zero : ∀ {l : List Nat}, AllDigits l → digitsVal l = 0 → l ≠ [] → l.head? = some 48
  | [], _, _, hn => absurd rfl hn
  | c :: r, h, h0, _ => by
    have hc := h.head
    by_cases e : c = 48
    · rw [e]
      rfl
    · have := digitsVal_pos (c := c) (cs := r) (by omega)
      omega
/-- as it is written -/
def canonB (l : List Nat) : Bool := (decide (dgs l = [48]) && decide (l = [48])) || decide ((dgs l).head? ≠ some 48)
theorem back_iff {w : Str} (h : AllDigits (dgs (tl w))) (hn : dgs (tl w) ≠ []) : (w = Str.ofString (toString (valI (tl w)))) ↔ canonB (tl w) = true := by
  have ext : ∀ a b : Str, a = b ↔ tl a = tl b := fun a b => ⟨fun e => by rw [e], fun e => ext_tl e⟩
  rw [ext]
  generalize tl w = l at *
  unfold valI canonB
  by_cases hm : hd45 l = true
  · rw [if_pos hm]
    have e := hd45_cons hm
    have ed : dgs l = l.drop 1 := if_pos hm
    rw [ed] at h hn ⊢
    have hne : ¬ (l = [48]) := fun q => by
      rw [q] at hm
      cases hm
    by_cases h0 : digitsVal (l.drop 1) = 0
    · have e0 : tl (Str.ofString (toString (-((digitsVal (l.drop 1) : Nat) : Int)))) = [48] := by
        rw [h0]
        decide +kernel
      rw [e0]
      have hd := digits_zero h h0 hn
      have hd' : decide ((l.drop 1).head? ≠ some 48) = false := decide_eq_false fun q => q hd
      rw [hd', decide_eq_false hne, Bool.and_false, Bool.or_false]
      exact ⟨fun q => absurd q hne, fun q => by cases q⟩
    · rw [tl_negnum _ (Nat.pos_of_ne_zero h0)]
      have e1 : (l = 45 :: numL (digitsVal (l.drop 1))) ↔ (numL (digitsVal (l.drop 1)) = l.drop 1) := by
        constructor
        · intro q
          rw [e] at q
          injection q with _ q
          exact q.symm
        · intro q
          rw [q]
          exact e
      rw [e1, numL_back h hn]
      have hz : ¬ (l.drop 1 = [48]) := fun q => h0 (by rw [q]; decide)
      rw [decide_eq_false hz, Bool.false_and, Bool.false_or, decide_eq_true_eq]
      exact ⟨fun q => q.resolve_left hz, .inr⟩
  · rw [if_neg hm]
    have ed : dgs l = l := if_neg hm
    rw [ed] at h hn ⊢
    rw [tl_num]
    have e1 : (l = numL (digitsVal l)) ↔ (numL (digitsVal l) = l) := ⟨fun q => q.symm, fun q => q.symm⟩
    rw [e1, numL_back h hn]
    by_cases hq : l = [48]
    · simp [hq]
    · simp [hq]
theorem digits_lt : ∀ {l : List Nat}, AllDigits l → digitsVal l < 10 ^ l.length := by
  have key : ∀ (l : List Nat) (a : Nat), AllDigits l → l.foldl (fun acc c => acc * 10 + (c - 48)) a < (a + 1) * 10 ^ l.length := by
    intro l
    induction l with
    | nil =>
      intro a _
      simp
    | cons c r ih =>
      intro a h
      have hc := h.head
      rw [List.foldl_cons, List.length_cons, Nat.pow_succ]
      have z := ih (a * 10 + (c - 48)) h.tail
      have z2 : (a * 10 + (c - 48) + 1) * 10 ^ r.length ≤ (a * 10 + 10) * 10 ^ r.length := Nat.mul_le_mul_right _ (by omega)
      have z3 : (a + 1) * (10 ^ r.length * 10) = (a * 10 + 10) * 10 ^ r.length := by
        rw [Nat.mul_comm (10 ^ r.length) 10, ← Nat.mul_assoc, Nat.add_mul]
      omega
  intro l h
  have z := key l 0 h
  unfold digitsVal
  omega
theorem valI_log {l : List Nat} (h : AllDigits (dgs l)) (hl : (dgs l).length ≤ 20) : (valI l).natAbs.log2 < 1920 := by
  have h1 := digits_lt h
  have h2 : 10 ^ (dgs l).length ≤ 10 ^ 20 := Nat.pow_le_pow_right (by decide) hl
  have h3 : (valI l).natAbs = digitsVal (dgs l) := by
    unfold valI
    split <;> omega
  rw [h3]
  by_cases h0 : digitsVal (dgs l) = 0
  · rw [h0]
    decide
  · rw [Nat.log2_lt h0]
    have h4 : (10 : Nat) ^ 20 < 2 ^ 70 := by decide
    have h5 : (2 : Nat) ^ 70 ≤ 2 ^ 1920 := Nat.pow_le_pow_right (by decide) (by decide)
    exact Nat.lt_of_lt_of_le (Nat.lt_of_lt_of_le h1 h2) (Nat.le_trans (Nat.le_of_lt h4) h5)
end Z
set_option Elab.async false
set_option linter.all false
set_option maxRecDepth 100000
set_option maxHeartbeats 0
namespace K79
open PySem L2 Z PySem.W
def top (i : Nat) : Stmt := PySem.Challenge.pw_sureplace_k79_words.main.body.getD i (.Pass ⟨0, 0, 0, 0⟩)
def cadT (K : Frag) : Nat → Option Addr
  | 0 => some (He.ga K "SurePlaceError")
  | 1 => some (He.ga K "InvalidText")
  | 2 => some (He.ga K "Words")
  | _ => none
def fldT : Nat → List Str
  | 0 => []
  | 1 => ["place"]
  | 2 => ["_words", "place"]
  | _ => []
abbrev gz (w : World) (K : Frag) (mg : Str → Option Value) (base : Heap) : GC := ⟨PySem.Challenge.pw_sureplace_k79_words, w, K, mg, base, cadT K, fldT⟩
abbrev flN : Nat → Nat := fun c => (fldT c).length
abbrev c_DIGITS : D := .str "0123456789"
abbrev c_MOST_COUNT : D := .int 1000000
abbrev c_MOST_SIGNS : D := .int 64
abbrev c_SIGNS : D := .str "abcdefghijklmnopqrstuvwxyz0123456789_-"
abbrev s__law_rows : Stmt := top 15
def dz__law_rows : DefZ := { ad := fun K => He.ga K "_law_rows", name := "_law_rows", qual := "_law_rows", params := defArgs s__law_rows, body := defBody s__law_rows, scope := defScope s__law_rows, dfl := [], kwd := [] }
abbrev s__law_word : Stmt := top 16
def dz__law_word : DefZ := { ad := fun K => He.ga K "_law_word", name := "_law_word", qual := "_law_word", params := defArgs s__law_word, body := defBody s__law_word, scope := defScope s__law_word, dfl := [], kwd := [] }
abbrev s_Words___init__ : Stmt := inClass (top 13) 0
def dz_Words___init__ : DefZ := { ad := fun K => He.ma K (He.ga K "Words") "__init__", name := "__init__", qual := "Words.__init__", params := defArgs s_Words___init__, body := defBody s_Words___init__, scope := defScope s_Words___init__, dfl := [], kwd := [] }
abbrev s__law_due : Stmt := top 17
def dz__law_due : DefZ := { ad := fun K => He.ga K "_law_due", name := "_law_due", qual := "_law_due", params := defArgs s__law_due, body := defBody s__law_due, scope := defScope s__law_due, dfl := [], kwd := [] }
abbrev s_is_integer : Stmt := top 12
def dz_is_integer : DefZ := { ad := fun K => He.ga K "is_integer", name := "is_integer", qual := "is_integer", params := defArgs s_is_integer, body := defBody s_is_integer, scope := defScope s_is_integer, dfl := [], kwd := [] }
abbrev s_Words_ended : Stmt := inClass (top 13) 3
def dz_Words_ended : DefZ := { ad := fun K => He.ma K (He.ga K "Words") "ended", name := "ended", qual := "Words.ended", params := defArgs s_Words_ended, body := defBody s_Words_ended, scope := defScope s_Words_ended, dfl := [], kwd := [] }
abbrev s_InvalidText___init__ : Stmt := inClass (top 3) 0
def dz_InvalidText___init__ : DefZ := { ad := fun K => He.ma K (He.ga K "InvalidText") "__init__", name := "__init__", qual := "InvalidText.__init__", params := defArgs s_InvalidText___init__, body := defBody s_InvalidText___init__, scope := defScope s_InvalidText___init__, dfl := [], kwd := [] }
abbrev s_Words_peek : Stmt := inClass (top 13) 4
def dz_Words_peek : DefZ := { ad := fun K => He.ma K (He.ga K "Words") "peek", name := "peek", qual := "Words.peek", params := defArgs s_Words_peek, body := defBody s_Words_peek, scope := defScope s_Words_peek, dfl := [], kwd := [] }
abbrev s_Words_check : Stmt := inClass (top 13) 2
def dz_Words_check : DefZ := { ad := fun K => He.ma K (He.ga K "Words") "check", name := "check", qual := "Words.check", params := defArgs s_Words_check, body := defBody s_Words_check, scope := defScope s_Words_check, dfl := [], kwd := [] }
abbrev s_Words_number : Stmt := inClass (top 13) 6
def dz_Words_number : DefZ := { ad := fun K => He.ma K (He.ga K "Words") "number", name := "number", qual := "Words.number", params := defArgs s_Words_number, body := defBody s_Words_number, scope := defScope s_Words_number, dfl := [.int (-1000000000000000000), .int 1000000000000000000], kwd := [] }
abbrev s_Words_length : Stmt := inClass (top 13) 7
def dz_Words_length : DefZ := { ad := fun K => He.ma K (He.ga K "Words") "length", name := "length", qual := "Words.length", params := defArgs s_Words_length, body := defBody s_Words_length, scope := defScope s_Words_length, dfl := [], kwd := [] }
abbrev s_is_name : Stmt := top 7
def dz_is_name : DefZ := { ad := fun K => He.ga K "is_name", name := "is_name", qual := "is_name", params := defArgs s_is_name, body := defBody s_is_name, scope := defScope s_is_name, dfl := [], kwd := [] }
abbrev s_Words_name : Stmt := inClass (top 13) 8
def dz_Words_name : DefZ := { ad := fun K => He.ma K (He.ga K "Words") "name", name := "name", qual := "Words.name", params := defArgs s_Words_name, body := defBody s_Words_name, scope := defScope s_Words_name, dfl := [], kwd := [] }
abbrev s_Words_word : Stmt := inClass (top 13) 5
def dz_Words_word : DefZ := { ad := fun K => He.ma K (He.ga K "Words") "word", name := "word", qual := "Words.word", params := defArgs s_Words_word, body := defBody s_Words_word, scope := defScope s_Words_word, dfl := [], kwd := [] }
abbrev s__law_read : Stmt := top 18
def dz__law_read : DefZ := { ad := fun K => He.ga K "_law_read", name := "_law_read", qual := "_law_read", params := defArgs s__law_read, body := defBody s__law_read, scope := defScope s__law_read, dfl := [], kwd := [] }
abbrev s_law : Stmt := top 19
def dz_law : DefZ := { ad := fun K => He.ga K "law", name := "law", qual := "law", params := defArgs s_law, body := defBody s_law, scope := defScope s_law, dfl := [], kwd := [] }
def fa : List (Frag → Bool) := [fun K => (He.Fa.free "range").ok K, fun K => (He.Fa.free "len").ok K, fun K => (He.Fa.free "int").ok K, fun K => (He.Fa.free "str").ok K, fun K => (He.Fa.free "abs").ok K, fun K => (He.Fa.free "all").ok K, fun K => exmB K (He.ga K "SurePlaceError") (.ref (He.ga K "SurePlaceError")) true, fun K => exmB K (He.ga K "InvalidText") (.ref (He.ga K "SurePlaceError")) true, fun K => isB K (He.ga K "SurePlaceError"), fun K => kindB K (He.ga K "SurePlaceError") (.ref (He.ga K "InvalidText")) false, fun K => isB K (He.ga K "InvalidText"), fun K => kindB K (He.ga K "InvalidText") (.ref (He.ga K "InvalidText")) true, fun K => (He.Fa.free "isinstance").ok K, fun K => kindB K (He.ga K "SurePlaceError") (.type "ValueError") true, fun K => kindB K (He.ga K "InvalidText") (.type "ValueError") true, fun K => (He.Fa.free "ValueError").ok K, fun K => (He.Fa.str "DIGITS" "0123456789").ok K, fun K => (He.Fa.int "MOST_COUNT" (1000000)).ok K, fun K => (He.Fa.int "MOST_SIGNS" (64)).ok K, fun K => (He.Fa.str "SIGNS" "abcdefghijklmnopqrstuvwxyz0123456789_-").ok K, fun K => (He.Fa.noat "Words" "_words").ok K, fun K => (He.Fa.noat "Words" "place").ok K, fun K => (He.Fa.cls "Words").ok K, fun K => (He.Fa.glo "InvalidText").ok K, fun K => (He.Fa.glo "SurePlaceError").ok K, fun K => (He.Fa.glo "_law_rows").ok K, fun K => (He.Fa.glo "_law_word").ok K, fun K => (He.Fa.mkr "Words").ok K, fun K => (He.Fa.glo "Words").ok K, fun K => (He.Fa.glo "_law_due").ok K, fun K => (He.Fa.glo "is_integer").ok K, fun K => (He.Fa.meth "Words" "ended").ok K, fun K => oexB K (He.ga K "InvalidText"), fun K => (He.Fa.noat "InvalidText" "place").ok K, fun K => He.eqO (findIn K (.ref (He.ga K "InvalidText")) "__init__") (some (some (.ref (He.ma K (He.ga K "InvalidText") "__init__")))), fun K => decide (typeIn K (.ref (He.ma K (He.ga K "InvalidText") "__init__")) = some (.type "function")), fun K => xfB K (He.ga K "InvalidText"), fun K => (He.Fa.meth "Words" "peek").ok K, fun K => (He.Fa.meth "Words" "check").ok K, fun K => (He.Fa.meth "Words" "number").ok K, fun K => (He.Fa.meth "Words" "length").ok K, fun K => (He.Fa.glo "is_name").ok K, fun K => (He.Fa.meth "Words" "name").ok K, fun K => (He.Fa.meth "Words" "word").ok K, fun K => (He.Fa.glo "_law_read").ok K, fun K => (He.Fa.glo "law").ok K]
def fn : List DefZ := [dz__law_rows, dz__law_word, dz_Words___init__, dz__law_due, dz_is_integer, dz_Words_ended, dz_InvalidText___init__, dz_Words_peek, dz_Words_check, dz_Words_number, dz_Words_length, dz_is_name, dz_Words_name, dz_Words_word, dz__law_read, dz_law]
structure Bs (K : Frag) (mg : Str → Option Value) (h : Heap) : Prop where
  says : SaysZ fa fn K
  kx : K.In h
  ns : h.Ns mainGlobals mg
theorem flN_ok {w : World} {K : Frag} {mg : Str → Option Value} {base : Heap} : ∀ c, flN c = ((gz w K mg base).fld c).length := fun _ => rfl
section
variable {w : World} {K : Frag} {mg : Str → Option Value} {base h : Heap}
theorem con_DIGITS (B : Bs K mg h) : Con (gz w K mg base) "DIGITS" c_DIGITS := con_str (He.str_ok B.kx B.ns (B.says.fact 16))
theorem con_MOST_COUNT (B : Bs K mg h) : Con (gz w K mg base) "MOST_COUNT" c_MOST_COUNT := con_int (He.int_ok B.kx B.ns (B.says.fact 17))
theorem con_MOST_SIGNS (B : Bs K mg h) : Con (gz w K mg base) "MOST_SIGNS" c_MOST_SIGNS := con_int (He.int_ok B.kx B.ns (B.says.fact 18))
theorem con_SIGNS (B : Bs K mg h) : Con (gz w K mg base) "SIGNS" c_SIGNS := con_str (He.str_ok B.kx B.ns (B.says.fact 19))
theorem z_Words (B : Bs K mg h) : ClsZ (gz w K mg base) 2 := ⟨⟨_, rfl, (He.cls_ok (B.says.fact 22)), (all1 ((He.noat_ok (B.says.fact 20))) (all1 ((He.noat_ok (B.says.fact 21))) all0))⟩, show List.Nodup (["_words", "place"] : List Str) by decide +kernel, show (["_words", "place"] : List Str).length ≤ 900 by decide⟩
theorem nam_InvalidText (B : Bs K mg h) : NamC (gz w K mg base) "InvalidText" (.ref (He.ga K "InvalidText")) (.ref (He.ga K "InvalidText")) := ⟨.own _, .inl (He.glo_ok B.kx B.ns (B.says.fact 23))⟩
theorem nam_SurePlaceError (B : Bs K mg h) : NamC (gz w K mg base) "SurePlaceError" (.ref (He.ga K "SurePlaceError")) (.ref (He.ga K "SurePlaceError")) := ⟨.own _, .inl (He.glo_ok B.kx B.ns (B.says.fact 24))⟩
theorem nam_ValueError (B : Bs K mg h) : NamC (gz w K mg base) "ValueError" (.ty "ValueError") (.type "ValueError") := ⟨.ty _, .inr ⟨(He.free_ok B.kx B.ns (B.says.fact 15)), PyProof.Rows.Boot.«ValueError»⟩⟩
theorem sc__law_rows : FnScope ["_law_script", "_law_count", "_law_rows_here", "_law_k", "_law_cell"] ["_law_script", "_law_count"] (defScope s__law_rows) := ⟨rfl, rfl, rfl, by decide +kernel, rfl, by decide +kernel, by decide +kernel⟩
theorem fz__law_rows (B : Bs K mg h) : ∃ fd, FunD K "_law_rows" "_law_rows" (defArgs s__law_rows) (defBody s__law_rows) (defScope s__law_rows) [] [] (He.ga K "_law_rows") fd := B.says.def_ 0 (d := dz__law_rows)
def Fm__law_rows : Fm := { N := ["_law_script", "_law_count", "_law_rows_here", "_law_k", "_law_cell"], sc := defScope s__law_rows, lvl := 0 }
theorem vv__law_rows_0 : varB Fm__law_rows 0 "_law_script" = true := by decide +kernel
theorem vv__law_rows_1 : varB Fm__law_rows 1 "_law_count" = true := by decide +kernel
theorem vv__law_rows_2 : varB Fm__law_rows 2 "_law_rows_here" = true := by decide +kernel
theorem vv__law_rows_3 : varB Fm__law_rows 3 "_law_k" = true := by decide +kernel
theorem vv__law_rows_4 : varB Fm__law_rows 4 "_law_cell" = true := by decide +kernel
theorem ll__law_rows_2 : locB Fm__law_rows 2 "_law_rows_here" = true := by decide +kernel
theorem ll__law_rows_3 : locB Fm__law_rows 3 "_law_k" = true := by decide +kernel
theorem ll__law_rows_4 : locB Fm__law_rows 4 "_law_cell" = true := by decide +kernel
theorem gg__law_rows_int : glB Fm__law_rows "int" = true := by decide +kernel
theorem gg__law_rows_len : glB Fm__law_rows "len" = true := by decide +kernel
theorem gg__law_rows_range : glB Fm__law_rows "range" = true := by decide +kernel
noncomputable def f__law_rows : SS := (sSeq (sSet (.nm 2) (eCel aNil)) (sSeq (sFor (iRange1 (aCons (eVar 1) aNil)) (.nm 3) (sSeq (sSet (.nm 4) (eC (.int 0))) (sSeq (sIf (eT (eOp (oB fun i j => decide (j < i)) (eB oLen (aCons (eVar 0) aNil)) (eC (.int 0)))) (sSet (.nm 4) (eB oInt (aCons (eOp oIx (eVar 0) (eOp oMod (eB oInt (aCons (eVar 3) aNil)) (eB oLen (aCons (eVar 0) aNil)))) aNil))) sNil) (sSeq (sIf (eT (eOp (oB fun i j => decide (i < j)) (eVar 4) (eC (.int 0)))) (sSet (.nm 4) (eOp oSub (eC (.int 1)) (eOp oMul (eC (.int 2)) (eVar 4)))) sNil) (sSeq (sIf (qOr (eT (eOp (oB fun i j => decide (j ≤ i)) (eVar 3) (eB oLen (aCons (eVar 0) aNil)))) (eT (eOp (oB fun i j => decide (i < j)) (eVar 4) (eC (.int 1000000000))))) (sSeq (sSet (.nm 4) (eOp oMod (eB oInt (aCons (eOp oAdd (eOp oMul (eOp oAdd (eOp oAdd (eVar 4) (eOp oMul (eC (.int 131)) (eVar 3))) (eC (.int 7))) (eC (.int 48271))) (eOp oMul (eOp oMul (eVar 3) (eVar 3)) (eC (.int 69621)))) aNil)) (eC (.int 1000000007)))) (sSet (.nm 4) (eOp oMod (eB oInt (aCons (eOp oMul (eOp oAdd (eOp oAdd (eVar 4) (eOp oMul (eC (.int 17)) (eVar 3))) (eC (.int 3))) (eC (.int 2862933555777941757))) aNil)) (eC (.int 18446744073709551557))))) sNil) (sExpr (eM isCell oAppend (eVar 2) (aCons (eVar 4) aNil)))))))) (sRet (eFrz flN (eVar 2)))))
noncomputable def F__law_rows : FSem := semZ 5 2 f__law_rows
theorem ok__law_rows (B : Bs K mg h) : VB (gz w K mg base) Fm__law_rows (defBody s__law_rows) f__law_rows := (vb_cons (vs_set (ve_cel va_nil) (vg_name ll__law_rows_2)) (vb_cons (vs_for (vi_range1 gg__law_rows_range (He.free_ok B.kx B.ns (B.says.fact 0)) (va_cons (ve_var vv__law_rows_1) va_nil)) (vg_name ll__law_rows_3) (vb_cons (vs_set ve_int (vg_name ll__law_rows_4)) (vb_cons (vs_if (vt_cmp cGt (ve_callB bLen gg__law_rows_len (He.free_ok B.kx B.ns (B.says.fact 1)) PyProof.Rows.Boot.«len» (va_cons (ve_var vv__law_rows_0) va_nil)) ve_int) (vb_one (vs_set (ve_callT bInt gg__law_rows_int (He.free_ok B.kx B.ns (B.says.fact 2)) PyProof.Rows.Boot.«int» (va_cons (ve_ix (ve_var vv__law_rows_0) (ve_mod (ve_callT bInt gg__law_rows_int (He.free_ok B.kx B.ns (B.says.fact 2)) PyProof.Rows.Boot.«int» (va_cons (ve_var vv__law_rows_3) va_nil)) (ve_callB bLen gg__law_rows_len (He.free_ok B.kx B.ns (B.says.fact 1)) PyProof.Rows.Boot.«len» (va_cons (ve_var vv__law_rows_0) va_nil)))) va_nil)) (vg_name ll__law_rows_4))) vb_nil) (vb_cons (vs_if (vt_cmp cLt (ve_var vv__law_rows_4) ve_int) (vb_one (vs_set (ve_sub ve_int (ve_mul ve_int (ve_var vv__law_rows_4))) (vg_name ll__law_rows_4))) vb_nil) (vb_cons (vs_if (vw_t (vw_or (vt_cmp cGe (ve_var vv__law_rows_3) (ve_callB bLen gg__law_rows_len (He.free_ok B.kx B.ns (B.says.fact 1)) PyProof.Rows.Boot.«len» (va_cons (ve_var vv__law_rows_0) va_nil))) (vw_or1 (vt_cmp cLt (ve_var vv__law_rows_4) ve_int)))) (vb_cons (vs_set (ve_mod (ve_callT bInt gg__law_rows_int (He.free_ok B.kx B.ns (B.says.fact 2)) PyProof.Rows.Boot.«int» (va_cons (ve_add (ve_mul (ve_add (ve_add (ve_var vv__law_rows_4) (ve_mul ve_int (ve_var vv__law_rows_3))) ve_int) ve_int) (ve_mul (ve_mul (ve_var vv__law_rows_3) (ve_var vv__law_rows_3)) ve_int)) va_nil)) ve_int) (vg_name ll__law_rows_4)) (vb_one (vs_set (ve_mod (ve_callT bInt gg__law_rows_int (He.free_ok B.kx B.ns (B.says.fact 2)) PyProof.Rows.Boot.«int» (va_cons (ve_mul (ve_add (ve_add (ve_var vv__law_rows_4) (ve_mul ve_int (ve_var vv__law_rows_3))) ve_int) ve_int) va_nil)) ve_int) (vg_name ll__law_rows_4)))) vb_nil) (vb_one (vs_expr (ve_m mAppend (ve_var vv__law_rows_2) (va_cons (ve_var vv__law_rows_4) va_nil))))))))) (vb_one (vs_ret (ve_frz flN_ok (ve_var vv__law_rows_2))))))
theorem fn__law_rows (B : Bs K mg h) : ∃ fd, (FunD K "_law_rows" "_law_rows" (defArgs s__law_rows) (defBody s__law_rows) (defScope s__law_rows) [] [] (He.ga K "_law_rows") fd) ∧ FnZ (gz w K mg base) 1 (He.ga K "_law_rows") fd ["_law_script", "_law_count"] F__law_rows := by
  obtain ⟨fd, Fd⟩ := fz__law_rows B
  exact ⟨fd, Fd, fnz_of (g := gz w K mg base) Fd sc__law_rows (ok__law_rows B)⟩
theorem gl__law_rows_2 (B : Bs K mg h) : GlF (gz w K mg base) 1 "_law_rows" [] F__law_rows := by
  obtain ⟨fd, Fd, Fn⟩ := fn__law_rows (w := w) (base := base) B
  exact ⟨_, fd, _, (He.glo_ok B.kx B.ns (B.says.fact 25)), Fd.kp, Fn, bnd_n rfl Fd fun _ _ _ _ _ _ us hl => match us, hl with | [_, _], _ => rfl⟩
theorem sc__law_word : FnScope ["_law_row", "_law_number", "_law_rows_here"] ["_law_row"] (defScope s__law_word) := ⟨rfl, rfl, rfl, by decide +kernel, rfl, by decide +kernel, by decide +kernel⟩
theorem fz__law_word (B : Bs K mg h) : ∃ fd, FunD K "_law_word" "_law_word" (defArgs s__law_word) (defBody s__law_word) (defScope s__law_word) [] [] (He.ga K "_law_word") fd := B.says.def_ 1 (d := dz__law_word)
def Fm__law_word : Fm := { N := ["_law_row", "_law_number", "_law_rows_here"], sc := defScope s__law_word, lvl := 0 }
theorem vv__law_word_0 : varB Fm__law_word 0 "_law_row" = true := by decide +kernel
theorem vv__law_word_1 : varB Fm__law_word 1 "_law_number" = true := by decide +kernel
theorem vv__law_word_2 : varB Fm__law_word 2 "_law_rows_here" = true := by decide +kernel
theorem ll__law_word_1 : locB Fm__law_word 1 "_law_number" = true := by decide +kernel
theorem ll__law_word_2 : locB Fm__law_word 2 "_law_rows_here" = true := by decide +kernel
theorem gg__law_word_abs : glB Fm__law_word "abs" = true := by decide +kernel
theorem gg__law_word_int : glB Fm__law_word "int" = true := by decide +kernel
theorem gg__law_word_str : glB Fm__law_word "str" = true := by decide +kernel
noncomputable def f__law_word : SS := (sSeq (sSet (.nm 1) (eOp oSub (eOp oMod (eB oInt (aCons (eOp oDiv (eVar 0) (eC (.int 9))) aNil)) (eC (.int 2000))) (eC (.int 1000)))) (sSeq (sIf (eT (eOp oEq (eOp oMod (eOp oDiv (eVar 0) (eC (.int 18000))) (eC (.int 4))) (eC (.int 1)))) (sSet (.nm 1) (eOp oIx (eLst (aCons (eC (.int 1000000)) (aCons (eC (.int 1000001)) (aCons (eC (.int 1000000000000000000)) (aCons (eC (.int 1000000000000000001)) aNil))))) (eOp oMod (eB oInt (aCons (eOp oDiv (eVar 0) (eC (.int 72000))) aNil)) (eC (.int 4))))) sNil) (sSeq (sIf (eT (eOp oEq (eOp oMod (eOp oDiv (eVar 0) (eC (.int 18000))) (eC (.int 4))) (eC (.int 2)))) (sSet (.nm 1) (eOp oSub (eC (.int 0)) (eVar 1))) sNil) (sSeq (sSet (.nm 2) (eLst (aCons (eB oStr (aCons (eVar 1) aNil)) (aCons (eOp oAdd (eC (.str "0")) (eB oStr (aCons (eVar 1) aNil))) (aCons (eOp oAdd (eC (.str "+")) (eB oStr (aCons (eB (oI1 fun i => .int (if i < 0 then -i else i)) (aCons (eVar 1) aNil)) aNil))) (aCons (eC (.str "-0")) (aCons (eC (.str "")) (aCons (eOp oAdd (eC (.str "s")) (eB oStr (aCons (eVar 1) aNil))) (aCons (eC (.str "A")) (aCons (eC (.str "--1")) (aCons (eC (.str "99999999999999999999999")) aNil))))))))))) (sRet (eOp oIx (eVar 2) (eOp oMod (eB oInt (aCons (eVar 0) aNil)) (eC (.int 9)))))))))
noncomputable def F__law_word : FSem := semZ 3 1 f__law_word
theorem ok__law_word (B : Bs K mg h) : VB (gz w K mg base) Fm__law_word (defBody s__law_word) f__law_word := (vb_cons (vs_set (ve_sub (ve_mod (ve_callT bInt gg__law_word_int (He.free_ok B.kx B.ns (B.says.fact 2)) PyProof.Rows.Boot.«int» (va_cons (ve_div (ve_var vv__law_word_0) ve_int) va_nil)) ve_int) ve_int) (vg_name ll__law_word_1)) (vb_cons (vs_if (vt_cmp cEq (ve_mod (ve_div (ve_var vv__law_word_0) ve_int) ve_int) ve_int) (vb_one (vs_set (ve_ix (ve_lst (va_cons ve_int (va_cons ve_int (va_cons ve_int (va_cons ve_int va_nil))))) (ve_mod (ve_callT bInt gg__law_word_int (He.free_ok B.kx B.ns (B.says.fact 2)) PyProof.Rows.Boot.«int» (va_cons (ve_div (ve_var vv__law_word_0) ve_int) va_nil)) ve_int)) (vg_name ll__law_word_1))) vb_nil) (vb_cons (vs_if (vt_cmp cEq (ve_mod (ve_div (ve_var vv__law_word_0) ve_int) ve_int) ve_int) (vb_one (vs_set (ve_sub ve_int (ve_var vv__law_word_1)) (vg_name ll__law_word_1))) vb_nil) (vb_cons (vs_set (ve_lst (va_cons (ve_callT bStr gg__law_word_str (He.free_ok B.kx B.ns (B.says.fact 3)) PyProof.Rows.Boot.«str» (va_cons (ve_var vv__law_word_1) va_nil)) (va_cons (ve_add ve_str (ve_callT bStr gg__law_word_str (He.free_ok B.kx B.ns (B.says.fact 3)) PyProof.Rows.Boot.«str» (va_cons (ve_var vv__law_word_1) va_nil))) (va_cons (ve_add ve_str (ve_callT bStr gg__law_word_str (He.free_ok B.kx B.ns (B.says.fact 3)) PyProof.Rows.Boot.«str» (va_cons (ve_callB bAbs gg__law_word_abs (He.free_ok B.kx B.ns (B.says.fact 4)) PyProof.Rows.Boot.«abs» (va_cons (ve_var vv__law_word_1) va_nil)) va_nil))) (va_cons ve_str (va_cons ve_str (va_cons (ve_add ve_str (ve_callT bStr gg__law_word_str (He.free_ok B.kx B.ns (B.says.fact 3)) PyProof.Rows.Boot.«str» (va_cons (ve_var vv__law_word_1) va_nil))) (va_cons ve_str (va_cons ve_str (va_cons ve_str va_nil)))))))))) (vg_name ll__law_word_2)) (vb_one (vs_ret (ve_ix (ve_var vv__law_word_2) (ve_mod (ve_callT bInt gg__law_word_int (He.free_ok B.kx B.ns (B.says.fact 2)) PyProof.Rows.Boot.«int» (va_cons (ve_var vv__law_word_0) va_nil)) ve_int))))))))
theorem fn__law_word (B : Bs K mg h) : ∃ fd, (FunD K "_law_word" "_law_word" (defArgs s__law_word) (defBody s__law_word) (defScope s__law_word) [] [] (He.ga K "_law_word") fd) ∧ FnZ (gz w K mg base) 1 (He.ga K "_law_word") fd ["_law_row"] F__law_word := by
  obtain ⟨fd, Fd⟩ := fz__law_word B
  exact ⟨fd, Fd, fnz_of (g := gz w K mg base) Fd sc__law_word (ok__law_word B)⟩
theorem gl__law_word_1 (B : Bs K mg h) : GlF (gz w K mg base) 1 "_law_word" [] F__law_word := by
  obtain ⟨fd, Fd, Fn⟩ := fn__law_word (w := w) (base := base) B
  exact ⟨_, fd, _, (He.glo_ok B.kx B.ns (B.says.fact 26)), Fd.kp, Fn, bnd_n rfl Fd fun _ _ _ _ _ _ us hl => match us, hl with | [_], _ => rfl⟩
theorem sc_Words___init__ : FnScope ["self", "text"] ["self", "text"] (defScope s_Words___init__) := ⟨rfl, rfl, rfl, by decide +kernel, rfl, by decide +kernel, by decide +kernel⟩
theorem fz_Words___init__ (B : Bs K mg h) : ∃ fd, FunD K "__init__" "Words.__init__" (defArgs s_Words___init__) (defBody s_Words___init__) (defScope s_Words___init__) [] [] (He.ma K (He.ga K "Words") "__init__") fd := B.says.def_ 2 (d := dz_Words___init__)
def Fm_Words___init__ : Fm := { N := ["self", "text"], sc := defScope s_Words___init__, lvl := 0 }
theorem vv_Words___init___0 : varB Fm_Words___init__ 0 "self" = true := by decide +kernel
theorem vv_Words___init___1 : varB Fm_Words___init__ 1 "text" = true := by decide +kernel
noncomputable def f_Words___init__ : SS := (sSeq (sFldZ 2 0 (eVar 0) (eM isStr oSplit (eVar 1) (aCons (eC (.str " ")) aNil))) (sFldZ 2 1 (eVar 0) (eC (.int 0))))
noncomputable def F_Words___init__ : FSem := semZ 2 2 f_Words___init__
theorem ok_Words___init__ (B : Bs K mg h) : VB (gz w K mg base) Fm_Words___init__ (defBody s_Words___init__) f_Words___init__ := (vb_cons (vs_fld (z_Words B) rfl (ve_var vv_Words___init___0) (ve_m mSplit (ve_var vv_Words___init___1) (va_cons ve_str va_nil))) (vb_one (vs_fld (z_Words B) rfl (ve_var vv_Words___init___0) ve_int)))
theorem fn_Words___init__ (B : Bs K mg h) : ∃ fd, (FunD K "__init__" "Words.__init__" (defArgs s_Words___init__) (defBody s_Words___init__) (defScope s_Words___init__) [] [] (He.ma K (He.ga K "Words") "__init__") fd) ∧ FnZ (gz w K mg base) 1 (He.ma K (He.ga K "Words") "__init__") fd ["self", "text"] F_Words___init__ := by
  obtain ⟨fd, Fd⟩ := fz_Words___init__ B
  exact ⟨fd, Fd, fnz_of (g := gz w K mg base) Fd sc_Words___init__ (ok_Words___init__ B)⟩
theorem mk_Words_1 (B : Bs K mg h) : MkZ (gz w K mg base) 1 "Words" 2 [] F_Words___init__ := by
  obtain ⟨fd, Fd, Fn⟩ := fn_Words___init__ (w := w) (base := base) B
  exact ⟨_, fd, _, _, (He.glo_ok B.kx B.ns (B.says.fact 28)), rfl, He.mkr_ok (B.says.fact 27), Fn, bnd_n rfl Fd fun _ _ _ _ _ _ us hl => match us, hl with | [_, _], _ => rfl⟩
theorem sc__law_due : FnScope ["_law_word_here", "_law_kind", "_law_digits", "_law_plain", "_law_sign", "_law_signs"] ["_law_word_here", "_law_kind"] (defScope s__law_due) := ⟨rfl, rfl, rfl, by decide +kernel, rfl, by decide +kernel, by decide +kernel⟩
theorem fz__law_due (B : Bs K mg h) : ∃ fd, FunD K "_law_due" "_law_due" (defArgs s__law_due) (defBody s__law_due) (defScope s__law_due) [] [] (He.ga K "_law_due") fd := B.says.def_ 3 (d := dz__law_due)
def Fm__law_due : Fm := { N := ["_law_word_here", "_law_kind", "_law_digits", "_law_plain", "_law_sign", "_law_signs"], sc := defScope s__law_due, lvl := 0 }
theorem vv__law_due_0 : varB Fm__law_due 0 "_law_word_here" = true := by decide +kernel
theorem vv__law_due_1 : varB Fm__law_due 1 "_law_kind" = true := by decide +kernel
theorem vv__law_due_2 : varB Fm__law_due 2 "_law_digits" = true := by decide +kernel
theorem vv__law_due_3 : varB Fm__law_due 3 "_law_plain" = true := by decide +kernel
theorem ll__law_due_2 : locB Fm__law_due 2 "_law_digits" = true := by decide +kernel
theorem ll__law_due_3 : locB Fm__law_due 3 "_law_plain" = true := by decide +kernel
theorem ll__law_due_5 : locB Fm__law_due 5 "_law_signs" = true := by decide +kernel
theorem gg__law_due_int : glB Fm__law_due "int" = true := by decide +kernel
theorem gg__law_due_len : glB Fm__law_due "len" = true := by decide +kernel
noncomputable def f__law_due : SS := (sSeq (sSet (.nm 2) (eVar 0)) (sSeq (sIf (eTru (eM isStr oStarts (eVar 0) (aCons (eC (.str "-")) aNil))) (sSet (.nm 2) (eSl (eVar 0) (pSome (eC (.int 1))) pNone)) sNil) (sSeq (sSet (.nm 3) (eAnd (eOp (oB fun i j => decide (j < i)) (eB oLen (aCons (eVar 2) aNil)) (eC (.int 0))) (eAnd (eOp (oB fun i j => decide (i < j)) (eB oLen (aCons (eVar 2) aNil)) (eC (.int 21))) (eOp oEq (eB oLen (aCons (eComp (iStrZ (eVar 2)) (.nm 4) (eT (eOp oNotIn (eVar 4) (eC (.str "0123456789")))) (eVar 4) [4]) aNil)) (eC (.int 0)))))) (sSeq (sSet (.nm 3) (eAnd (eVar 3) (eOr (eAnd (eOp oEq (eVar 2) (eC (.str "0"))) (eOp oEq (eVar 0) (eC (.str "0")))) (eOp oNe (eSl (eVar 2) pNone (pSome (eC (.int 1)))) (eC (.str "0")))))) (sSeq (sIf (eT (eOp oEq (eVar 1) (eC (.int 0)))) (sIf (qAnd (eTru (eVar 3)) (eT (eChain (oB fun i j => decide (i ≤ j)) (oB fun i j => decide (i ≤ j)) (eNeg (eC (.int 1000000000000000000))) (eB oInt (aCons (eVar 0) aNil)) (eC (.int 1000000000000000000))))) (sRet (eB oInt (aCons (eVar 0) aNil))) sNil) (sIf (eT (eOp oEq (eVar 1) (eC (.int 1)))) (sIf (qAnd (eTru (eVar 3)) (eT (eChain (oB fun i j => decide (i ≤ j)) (oB fun i j => decide (i ≤ j)) (eC (.int 0)) (eB oInt (aCons (eVar 0) aNil)) (eC (.int 1000000))))) (sRet (eB oInt (aCons (eVar 0) aNil))) sNil) (sIf (eT (eOp oEq (eVar 1) (eC (.int 2)))) (sIf (qAnd (eTru (eVar 3)) (eT (eChain (oB fun i j => decide (i ≤ j)) (oB fun i j => decide (i ≤ j)) (eNeg (eC (.int 5))) (eB oInt (aCons (eVar 0) aNil)) (eC (.int 300))))) (sRet (eB oInt (aCons (eVar 0) aNil))) sNil) (sIf (eT (eOp oEq (eVar 1) (eC (.int 3)))) (sSeq (sSet (.nm 5) (eC (.str "abcdefghijklmnopqrstuvwxyz0123456789_-"))) (sIf (qAnd (eT (eOp (oB fun i j => decide (j < i)) (eB oLen (aCons (eVar 0) aNil)) (eC (.int 0)))) (eT (eOp oEq (eB oLen (aCons (eComp (iStrZ (eVar 0)) (.nm 4) (eT (eOp oNotIn (eVar 4) (eVar 5))) (eVar 4) [4]) aNil)) (eC (.int 0))))) (sRet (eVar 0)) sNil)) (sIf (qOr (eT (eOp oEq (eVar 0) (eC (.str "A")))) (eT (eOp oEq (eVar 0) (eC (.str "0"))))) (sRet (eVar 0)) sNil))))) (sRet (eC .non)))))))
noncomputable def F__law_due : FSem := semZ 6 2 f__law_due
theorem ok__law_due (B : Bs K mg h) : VB (gz w K mg base) Fm__law_due (defBody s__law_due) f__law_due := (vb_cons (vs_set (ve_var vv__law_due_0) (vg_name ll__law_due_2)) (vb_cons (vs_if (vt_tru (ve_m mStarts (ve_var vv__law_due_0) (va_cons ve_str va_nil))) (vb_one (vs_set (ve_sl (ve_var vv__law_due_0) (vo_some ve_int) vo_none) (vg_name ll__law_due_2))) vb_nil) (vb_cons (vs_set (ve_and (ve_cmp cGt (ve_callB bLen gg__law_due_len (He.free_ok B.kx B.ns (B.says.fact 1)) PyProof.Rows.Boot.«len» (va_cons (ve_var vv__law_due_2) va_nil)) ve_int) (ve_and (ve_cmp cLt (ve_callB bLen gg__law_due_len (He.free_ok B.kx B.ns (B.says.fact 1)) PyProof.Rows.Boot.«len» (va_cons (ve_var vv__law_due_2) va_nil)) ve_int) (ve_one (ve_cmp cEq (ve_callB bLen gg__law_due_len (He.free_ok B.kx B.ns (B.says.fact 1)) PyProof.Rows.Boot.«len» (va_cons (ve_comp (own := [("_law_sign", 4)]) (by decide +kernel) (vi_str (ve_var vv__law_due_2)) (vg_name (by decide +kernel)) (vts_one (vt_cmp cNotIn (ve_var (by decide +kernel)) ve_str)) (ve_var (by decide +kernel))) va_nil)) ve_int)))) (vg_name ll__law_due_3)) (vb_cons (vs_set (ve_and (ve_var vv__law_due_3) (ve_one (ve_or (ve_and (ve_cmp cEq (ve_var vv__law_due_2) ve_str) (ve_one (ve_cmp cEq (ve_var vv__law_due_0) ve_str))) (ve_one (ve_cmp cNe (ve_sl (ve_var vv__law_due_2) vo_none (vo_some ve_int)) ve_str))))) (vg_name ll__law_due_3)) (vb_cons (vs_if (vt_cmp cEq (ve_var vv__law_due_1) ve_int) (vb_one (vs_if (vw_t (vw_and (vt_tru (ve_var vv__law_due_3)) (vw_and1 (vt_chain cLe cLe (ve_neg ve_int) (ve_callT bInt gg__law_due_int (He.free_ok B.kx B.ns (B.says.fact 2)) PyProof.Rows.Boot.«int» (va_cons (ve_var vv__law_due_0) va_nil)) ve_int)))) (vb_one (vs_ret (ve_callT bInt gg__law_due_int (He.free_ok B.kx B.ns (B.says.fact 2)) PyProof.Rows.Boot.«int» (va_cons (ve_var vv__law_due_0) va_nil)))) vb_nil)) (vb_one (vs_if (vt_cmp cEq (ve_var vv__law_due_1) ve_int) (vb_one (vs_if (vw_t (vw_and (vt_tru (ve_var vv__law_due_3)) (vw_and1 (vt_chain cLe cLe ve_int (ve_callT bInt gg__law_due_int (He.free_ok B.kx B.ns (B.says.fact 2)) PyProof.Rows.Boot.«int» (va_cons (ve_var vv__law_due_0) va_nil)) ve_int)))) (vb_one (vs_ret (ve_callT bInt gg__law_due_int (He.free_ok B.kx B.ns (B.says.fact 2)) PyProof.Rows.Boot.«int» (va_cons (ve_var vv__law_due_0) va_nil)))) vb_nil)) (vb_one (vs_if (vt_cmp cEq (ve_var vv__law_due_1) ve_int) (vb_one (vs_if (vw_t (vw_and (vt_tru (ve_var vv__law_due_3)) (vw_and1 (vt_chain cLe cLe (ve_neg ve_int) (ve_callT bInt gg__law_due_int (He.free_ok B.kx B.ns (B.says.fact 2)) PyProof.Rows.Boot.«int» (va_cons (ve_var vv__law_due_0) va_nil)) ve_int)))) (vb_one (vs_ret (ve_callT bInt gg__law_due_int (He.free_ok B.kx B.ns (B.says.fact 2)) PyProof.Rows.Boot.«int» (va_cons (ve_var vv__law_due_0) va_nil)))) vb_nil)) (vb_one (vs_if (vt_cmp cEq (ve_var vv__law_due_1) ve_int) (vb_cons (vs_set ve_str (vg_name ll__law_due_5)) (vb_one (vs_if (vw_t (vw_and (vt_cmp cGt (ve_callB bLen gg__law_due_len (He.free_ok B.kx B.ns (B.says.fact 1)) PyProof.Rows.Boot.«len» (va_cons (ve_var vv__law_due_0) va_nil)) ve_int) (vw_and1 (vt_cmp cEq (ve_callB bLen gg__law_due_len (He.free_ok B.kx B.ns (B.says.fact 1)) PyProof.Rows.Boot.«len» (va_cons (ve_comp (own := [("_law_sign", 4)]) (by decide +kernel) (vi_str (ve_var vv__law_due_0)) (vg_name (by decide +kernel)) (vts_one (vt_cmp cNotIn (ve_var (by decide +kernel)) (ve_var (by decide +kernel)))) (ve_var (by decide +kernel))) va_nil)) ve_int)))) (vb_one (vs_ret (ve_var vv__law_due_0))) vb_nil))) (vb_one (vs_if (vw_t (vw_or (vt_cmp cEq (ve_var vv__law_due_0) ve_str) (vw_or1 (vt_cmp cEq (ve_var vv__law_due_0) ve_str)))) (vb_one (vs_ret (ve_var vv__law_due_0))) vb_nil))))))))) (vb_one (vs_ret ve_non)))))))
theorem fn__law_due (B : Bs K mg h) : ∃ fd, (FunD K "_law_due" "_law_due" (defArgs s__law_due) (defBody s__law_due) (defScope s__law_due) [] [] (He.ga K "_law_due") fd) ∧ FnZ (gz w K mg base) 1 (He.ga K "_law_due") fd ["_law_word_here", "_law_kind"] F__law_due := by
  obtain ⟨fd, Fd⟩ := fz__law_due B
  exact ⟨fd, Fd, fnz_of (g := gz w K mg base) Fd sc__law_due (ok__law_due B)⟩
theorem gl__law_due_2 (B : Bs K mg h) : GlF (gz w K mg base) 1 "_law_due" [] F__law_due := by
  obtain ⟨fd, Fd, Fn⟩ := fn__law_due (w := w) (base := base) B
  exact ⟨_, fd, _, (He.glo_ok B.kx B.ns (B.says.fact 29)), Fd.kp, Fn, bnd_n rfl Fd fun _ _ _ _ _ _ us hl => match us, hl with | [_, _], _ => rfl⟩
theorem sc_is_integer : FnScope ["word", "digits", "sign"] ["word"] (defScope s_is_integer) := ⟨rfl, rfl, rfl, by decide +kernel, rfl, by decide +kernel, by decide +kernel⟩
theorem fz_is_integer (B : Bs K mg h) : ∃ fd, FunD K "is_integer" "is_integer" (defArgs s_is_integer) (defBody s_is_integer) (defScope s_is_integer) [] [] (He.ga K "is_integer") fd := B.says.def_ 4 (d := dz_is_integer)
def Fm_is_integer : Fm := { N := ["word", "digits", "sign"], sc := defScope s_is_integer, lvl := 0 }
theorem vv_is_integer_0 : varB Fm_is_integer 0 "word" = true := by decide +kernel
theorem vv_is_integer_1 : varB Fm_is_integer 1 "digits" = true := by decide +kernel
theorem ll_is_integer_1 : locB Fm_is_integer 1 "digits" = true := by decide +kernel
theorem gg_is_integer_all : glB Fm_is_integer "all" = true := by decide +kernel
theorem gg_is_integer_int : glB Fm_is_integer "int" = true := by decide +kernel
theorem gg_is_integer_len : glB Fm_is_integer "len" = true := by decide +kernel
theorem gg_is_integer_str : glB Fm_is_integer "str" = true := by decide +kernel
noncomputable def f_is_integer : SS := (sSeq (sSet (.nm 1) (eIf (eTru (eM isStr oStarts (eVar 0) (aCons (eC (.str "-")) aNil))) (eSl (eVar 0) (pSome (eC (.int 1))) pNone) (eVar 0))) (sSeq (sIf (qOr (eT (eOp oEq (eVar 1) (eC (.str "")))) (qOr (eT (eOp (oB fun i j => decide (j < i)) (eB oLen (aCons (eVar 1) aNil)) (eC (.int 20)))) (qNot (eTru (eB (oL fun xs => (blsOf xs).map fun ns => .bl (ns.all id)) (aCons (eComp (iStrZ (eVar 1)) (.nm 2) qYes (eOp oIn (eVar 2) (eC c_DIGITS)) [2]) aNil)))))) (sRet (eC (.bl false))) sNil) (sRet (eOp oEq (eVar 0) (eB oStr (aCons (eB oInt (aCons (eVar 0) aNil)) aNil))))))
noncomputable def F_is_integer : FSem := semZ 3 1 f_is_integer
theorem ok_is_integer (B : Bs K mg h) : VB (gz w K mg base) Fm_is_integer (defBody s_is_integer) f_is_integer := (vb_cons (vs_set (ve_if (vt_tru (ve_m mStarts (ve_var vv_is_integer_0) (va_cons ve_str va_nil))) (ve_sl (ve_var vv_is_integer_0) (vo_some ve_int) vo_none) (ve_var vv_is_integer_0)) (vg_name ll_is_integer_1)) (vb_cons (vs_if (vw_t (vw_or (vt_cmp cEq (ve_var vv_is_integer_1) ve_str) (vw_or (vt_cmp cGt (ve_callB bLen gg_is_integer_len (He.free_ok B.kx B.ns (B.says.fact 1)) PyProof.Rows.Boot.«len» (va_cons (ve_var vv_is_integer_1) va_nil)) ve_int) (vw_or1 (vt_not (vt_tru (ve_callB bAll gg_is_integer_all (He.free_ok B.kx B.ns (B.says.fact 5)) PyProof.Rows.Boot.«all» (va_cons (ve_comp (own := [("sign", 2)]) (by decide +kernel) (vi_str (ve_var vv_is_integer_1)) (vg_name (by decide +kernel)) vts_nil (ve_cmp cIn (ve_var (by decide +kernel)) (ve_con (by decide +kernel) (con_DIGITS B)))) va_nil)))))))) (vb_one (vs_ret ve_bl)) vb_nil) (vb_one (vs_ret (ve_cmp cEq (ve_var vv_is_integer_0) (ve_callT bStr gg_is_integer_str (He.free_ok B.kx B.ns (B.says.fact 3)) PyProof.Rows.Boot.«str» (va_cons (ve_callT bInt gg_is_integer_int (He.free_ok B.kx B.ns (B.says.fact 2)) PyProof.Rows.Boot.«int» (va_cons (ve_var vv_is_integer_0) va_nil)) va_nil)))))))
theorem fn_is_integer (B : Bs K mg h) : ∃ fd, (FunD K "is_integer" "is_integer" (defArgs s_is_integer) (defBody s_is_integer) (defScope s_is_integer) [] [] (He.ga K "is_integer") fd) ∧ FnZ (gz w K mg base) 1 (He.ga K "is_integer") fd ["word"] F_is_integer := by
  obtain ⟨fd, Fd⟩ := fz_is_integer B
  exact ⟨fd, Fd, fnz_of (g := gz w K mg base) Fd sc_is_integer (ok_is_integer B)⟩
theorem gl_is_integer_1 (B : Bs K mg h) : GlF (gz w K mg base) 1 "is_integer" [] F_is_integer := by
  obtain ⟨fd, Fd, Fn⟩ := fn_is_integer (w := w) (base := base) B
  exact ⟨_, fd, _, (He.glo_ok B.kx B.ns (B.says.fact 30)), Fd.kp, Fn, bnd_n rfl Fd fun _ _ _ _ _ _ us hl => match us, hl with | [_], _ => rfl⟩
theorem sc_Words_ended : FnScope ["self"] ["self"] (defScope s_Words_ended) := ⟨rfl, rfl, rfl, by decide +kernel, rfl, by decide +kernel, by decide +kernel⟩
theorem fz_Words_ended (B : Bs K mg h) : ∃ fd, FunD K "ended" "Words.ended" (defArgs s_Words_ended) (defBody s_Words_ended) (defScope s_Words_ended) [] [] (He.ma K (He.ga K "Words") "ended") fd := B.says.def_ 5 (d := dz_Words_ended)
def Fm_Words_ended : Fm := { N := ["self"], sc := defScope s_Words_ended, lvl := 0 }
theorem vv_Words_ended_0 : varB Fm_Words_ended 0 "self" = true := by decide +kernel
theorem gg_Words_ended_len : glB Fm_Words_ended "len" = true := by decide +kernel
noncomputable def f_Words_ended : SS := (sRet (eOp oEq (eFld [(2, 1)] (eVar 0)) (eB oLen (aCons (eFld [(2, 0)] (eVar 0)) aNil))))
noncomputable def F_Words_ended : FSem := semZ 1 1 f_Words_ended
theorem ok_Words_ended (B : Bs K mg h) : VB (gz w K mg base) Fm_Words_ended (defBody s_Words_ended) f_Words_ended := (vb_one (vs_ret (ve_cmp cEq (ve_fld (all1 (⟨z_Words B, rfl⟩) all0) (ve_var vv_Words_ended_0)) (ve_callB bLen gg_Words_ended_len (He.free_ok B.kx B.ns (B.says.fact 1)) PyProof.Rows.Boot.«len» (va_cons (ve_fld (all1 (⟨z_Words B, rfl⟩) all0) (ve_var vv_Words_ended_0)) va_nil)))))
theorem fn_Words_ended (B : Bs K mg h) : ∃ fd, (FunD K "ended" "Words.ended" (defArgs s_Words_ended) (defBody s_Words_ended) (defScope s_Words_ended) [] [] (He.ma K (He.ga K "Words") "ended") fd) ∧ FnZ (gz w K mg base) 1 (He.ma K (He.ga K "Words") "ended") fd ["self"] F_Words_ended := by
  obtain ⟨fd, Fd⟩ := fz_Words_ended B
  exact ⟨fd, Fd, fnz_of (g := gz w K mg base) Fd sc_Words_ended (ok_Words_ended B)⟩
theorem me_Words_ended_1 (B : Bs K mg h) : MetZ (gz w K mg base) 1 2 "ended" [] F_Words_ended := by
  obtain ⟨fd, Fd, Fn⟩ := fn_Words_ended (w := w) (base := base) B
  exact ⟨⟨_, fd, _, _, rfl, (He.cls_ok (B.says.fact 22)), He.meth_ok (B.says.fact 31), Fn, bnd_n rfl Fd fun _ _ _ _ _ _ us hl => match us, hl with | [_], _ => rfl⟩, show ¬ (("ended" : Str) ∈ (["_words", "place"] : List Str)) by decide +kernel⟩
theorem sc_InvalidText___init__ : FnScope ["self", "place"] ["self", "place"] (defScope s_InvalidText___init__) := ⟨rfl, rfl, rfl, by decide +kernel, rfl, by decide +kernel, by decide +kernel⟩
theorem fz_InvalidText___init__ (B : Bs K mg h) : ∃ fd, FunD K "__init__" "InvalidText.__init__" (defArgs s_InvalidText___init__) (defBody s_InvalidText___init__) (defScope s_InvalidText___init__) [] [] (He.ma K (He.ga K "InvalidText") "__init__") fd := B.says.def_ 6 (d := dz_InvalidText___init__)
theorem k_InvalidText (B : Bs K mg h) : KeepZ (gz w K mg base) "InvalidText" 1 "place" := by
  obtain ⟨fd, Fd⟩ := fz_InvalidText___init__ B
  have T : OexC K (He.ga K "InvalidText") := oexB_ok (B.says.fact 32)
  have nf : findIn K (.ref (He.ga K "InvalidText")) "place" = some none := (He.noat_ok (B.says.fact 33))
  exact ⟨⟨_, _, fd, ["self", "place"], (He.glo_ok B.kx B.ns (B.says.fact 23)), rfl, T, nf, He.eqO_ok (B.says.fact 34), of_decide_eq_true (B.says.fact 35), keep_ok (g := gz w K mg base) Fd sc_InvalidText___init__ T nf rfl rfl rfl rfl, Fd.bindsN fun _ _ _ _ _ _ us hl => match us, hl with | [_, _], _ => rfl⟩, rfl⟩
theorem xf_InvalidText_place (B : Bs K mg h) : XfZ (gz w K mg base) 1 0 "place" := ⟨⟨_, rfl, xfB_ok (B.says.fact 36), (He.noat_ok (B.says.fact 33))⟩, rfl⟩
theorem sc_Words_peek : FnScope ["self"] ["self"] (defScope s_Words_peek) := ⟨rfl, rfl, rfl, by decide +kernel, rfl, by decide +kernel, by decide +kernel⟩
theorem fz_Words_peek (B : Bs K mg h) : ∃ fd, FunD K "peek" "Words.peek" (defArgs s_Words_peek) (defBody s_Words_peek) (defScope s_Words_peek) [] [] (He.ma K (He.ga K "Words") "peek") fd := B.says.def_ 7 (d := dz_Words_peek)
def Fm_Words_peek : Fm := { N := ["self"], sc := defScope s_Words_peek, lvl := 2 }
theorem vv_Words_peek_0 : varB Fm_Words_peek 0 "self" = true := by decide +kernel
theorem gg_Words_peek_InvalidText : glB Fm_Words_peek "InvalidText" = true := by decide +kernel
noncomputable def f_Words_peek : SS := (sSeq (sIf (eTru (eMeth [(2, { F := F_Words_ended, dd := [] })] (eVar 0) aNil)) (sRaise1 1 (eFld [(2, 1)] (eVar 0))) sNil) (sRet (eOp oIx (eFld [(2, 0)] (eVar 0)) (eFld [(2, 1)] (eVar 0)))))
noncomputable def F_Words_peek : FSem := semZ 1 1 f_Words_peek
theorem ok_Words_peek (B : Bs K mg h) : VB (gz w K mg base) Fm_Words_peek (defBody s_Words_peek) f_Words_peek := (vb_cons (vs_if (vt_tru (ve_meth0 (k := 1) (all1 ((me_Words_ended_1 B).up (by decide)) all0) (ve_var vv_Words_peek_0) (by decide))) (vb_one (vs_raise1 (k_InvalidText B) gg_Words_peek_InvalidText (ve_fld (all1 (⟨z_Words B, rfl⟩) all0) (ve_var vv_Words_peek_0)) (by decide))) vb_nil) (vb_one (vs_ret (ve_ix (ve_fld (all1 (⟨z_Words B, rfl⟩) all0) (ve_var vv_Words_peek_0)) (ve_fld (all1 (⟨z_Words B, rfl⟩) all0) (ve_var vv_Words_peek_0))))))
theorem fn_Words_peek (B : Bs K mg h) : ∃ fd, (FunD K "peek" "Words.peek" (defArgs s_Words_peek) (defBody s_Words_peek) (defScope s_Words_peek) [] [] (He.ma K (He.ga K "Words") "peek") fd) ∧ FnZ (gz w K mg base) 3 (He.ma K (He.ga K "Words") "peek") fd ["self"] F_Words_peek := by
  obtain ⟨fd, Fd⟩ := fz_Words_peek B
  exact ⟨fd, Fd, fnz_of (g := gz w K mg base) Fd sc_Words_peek (ok_Words_peek B)⟩
theorem me_Words_peek_1 (B : Bs K mg h) : MetZ (gz w K mg base) 3 2 "peek" [] F_Words_peek := by
  obtain ⟨fd, Fd, Fn⟩ := fn_Words_peek (w := w) (base := base) B
  exact ⟨⟨_, fd, _, _, rfl, (He.cls_ok (B.says.fact 22)), He.meth_ok (B.says.fact 37), Fn, bnd_n rfl Fd fun _ _ _ _ _ _ us hl => match us, hl with | [_], _ => rfl⟩, show ¬ (("peek" : Str) ∈ (["_words", "place"] : List Str)) by decide +kernel⟩
theorem sc_Words_check : FnScope ["self", "right"] ["self", "right"] (defScope s_Words_check) := ⟨rfl, rfl, rfl, by decide +kernel, rfl, by decide +kernel, by decide +kernel⟩
theorem fz_Words_check (B : Bs K mg h) : ∃ fd, FunD K "check" "Words.check" (defArgs s_Words_check) (defBody s_Words_check) (defScope s_Words_check) [] [] (He.ma K (He.ga K "Words") "check") fd := B.says.def_ 8 (d := dz_Words_check)
def Fm_Words_check : Fm := { N := ["self", "right"], sc := defScope s_Words_check, lvl := 2 }
theorem vv_Words_check_0 : varB Fm_Words_check 0 "self" = true := by decide +kernel
theorem vv_Words_check_1 : varB Fm_Words_check 1 "right" = true := by decide +kernel
theorem gg_Words_check_InvalidText : glB Fm_Words_check "InvalidText" = true := by decide +kernel
noncomputable def f_Words_check : SS := (sIf (qNot (eTru (eVar 1))) (sRaise1 1 (eFld [(2, 1)] (eVar 0))) sNil)
noncomputable def F_Words_check : FSem := semZ 2 2 f_Words_check
theorem ok_Words_check (B : Bs K mg h) : VB (gz w K mg base) Fm_Words_check (defBody s_Words_check) f_Words_check := (vb_one (vs_if (vt_not (vt_tru (ve_var vv_Words_check_1))) (vb_one (vs_raise1 (k_InvalidText B) gg_Words_check_InvalidText (ve_fld (all1 (⟨z_Words B, rfl⟩) all0) (ve_var vv_Words_check_0)) (by decide))) vb_nil))
theorem fn_Words_check (B : Bs K mg h) : ∃ fd, (FunD K "check" "Words.check" (defArgs s_Words_check) (defBody s_Words_check) (defScope s_Words_check) [] [] (He.ma K (He.ga K "Words") "check") fd) ∧ FnZ (gz w K mg base) 3 (He.ma K (He.ga K "Words") "check") fd ["self", "right"] F_Words_check := by
  obtain ⟨fd, Fd⟩ := fz_Words_check B
  exact ⟨fd, Fd, fnz_of (g := gz w K mg base) Fd sc_Words_check (ok_Words_check B)⟩
theorem me_Words_check_2 (B : Bs K mg h) : MetZ (gz w K mg base) 3 2 "check" [] F_Words_check := by
  obtain ⟨fd, Fd, Fn⟩ := fn_Words_check (w := w) (base := base) B
  exact ⟨⟨_, fd, _, _, rfl, (He.cls_ok (B.says.fact 22)), He.meth_ok (B.says.fact 38), Fn, bnd_n rfl Fd fun _ _ _ _ _ _ us hl => match us, hl with | [_, _], _ => rfl⟩, show ¬ (("check" : Str) ∈ (["_words", "place"] : List Str)) by decide +kernel⟩
theorem sc_Words_number : FnScope ["self", "low", "high", "word"] ["self", "low", "high"] (defScope s_Words_number) := ⟨rfl, rfl, rfl, by decide +kernel, rfl, by decide +kernel, by decide +kernel⟩
theorem fz_Words_number (B : Bs K mg h) : ∃ fd, FunD K "number" "Words.number" (defArgs s_Words_number) (defBody s_Words_number) (defScope s_Words_number) [.int (-1000000000000000000), .int 1000000000000000000] [] (He.ma K (He.ga K "Words") "number") fd := B.says.def_ 9 (d := dz_Words_number)
def Fm_Words_number : Fm := { N := ["self", "low", "high", "word"], sc := defScope s_Words_number, lvl := 3 }
theorem vv_Words_number_0 : varB Fm_Words_number 0 "self" = true := by decide +kernel
theorem vv_Words_number_1 : varB Fm_Words_number 1 "low" = true := by decide +kernel
theorem vv_Words_number_2 : varB Fm_Words_number 2 "high" = true := by decide +kernel
theorem vv_Words_number_3 : varB Fm_Words_number 3 "word" = true := by decide +kernel
theorem ll_Words_number_3 : locB Fm_Words_number 3 "word" = true := by decide +kernel
theorem gg_Words_number_int : glB Fm_Words_number "int" = true := by decide +kernel
theorem gg_Words_number_is_integer : glB Fm_Words_number "is_integer" = true := by decide +kernel
noncomputable def f_Words_number : SS := (sSeq (sSet (.nm 3) (eMeth [(2, { F := F_Words_peek, dd := [] })] (eVar 0) aNil)) (sSeq (sExpr (eMeth [(2, { F := F_Words_check, dd := [] })] (eVar 0) (aCons (eAnd (eCall F_is_integer [] (aCons (eVar 3) aNil)) (eChain (oB fun i j => decide (i ≤ j)) (oB fun i j => decide (i ≤ j)) (eVar 1) (eB oInt (aCons (eVar 3) aNil)) (eVar 2))) aNil))) (sSeq (sFldAugZ 2 1 (oI fun i j => i + j) (eVar 0) (eC (.int 1))) (sRet (eB oInt (aCons (eVar 3) aNil))))))
noncomputable def F_Words_number : FSem := semZ 4 3 f_Words_number
theorem ok_Words_number (B : Bs K mg h) : VB (gz w K mg base) Fm_Words_number (defBody s_Words_number) f_Words_number := (vb_cons (vs_set (ve_meth0 (k := 3) (all1 ((me_Words_peek_1 B).up (by decide)) all0) (ve_var vv_Words_number_0) (by decide)) (vg_name ll_Words_number_3)) (vb_cons (vs_expr (ve_meth (k := 3) (all1 ((me_Words_check_2 B).up (by decide)) all0) (ve_var vv_Words_number_0) (va_cons (ve_and (ve_call (gl_is_integer_1 B) gg_Words_number_is_integer (va_cons (ve_var vv_Words_number_3) va_nil) (by decide)) (ve_one (ve_chain cLe cLe (ve_var vv_Words_number_1) (ve_callT bInt gg_Words_number_int (He.free_ok B.kx B.ns (B.says.fact 2)) PyProof.Rows.Boot.«int» (va_cons (ve_var vv_Words_number_3) va_nil)) (ve_var vv_Words_number_2)))) va_nil) (by decide))) (vb_cons (vs_fldAug inAdd (z_Words B) rfl (ve_var vv_Words_number_0) ve_int) (vb_one (vs_ret (ve_callT bInt gg_Words_number_int (He.free_ok B.kx B.ns (B.says.fact 2)) PyProof.Rows.Boot.«int» (va_cons (ve_var vv_Words_number_3) va_nil)))))))
theorem fn_Words_number (B : Bs K mg h) : ∃ fd, (FunD K "number" "Words.number" (defArgs s_Words_number) (defBody s_Words_number) (defScope s_Words_number) [.int (-1000000000000000000), .int 1000000000000000000] [] (He.ma K (He.ga K "Words") "number") fd) ∧ FnZ (gz w K mg base) 4 (He.ma K (He.ga K "Words") "number") fd ["self", "low", "high"] F_Words_number := by
  obtain ⟨fd, Fd⟩ := fz_Words_number B
  exact ⟨fd, Fd, fnz_of (g := gz w K mg base) Fd sc_Words_number (ok_Words_number B)⟩
theorem me_Words_number_1 (B : Bs K mg h) : MetZ (gz w K mg base) 4 2 "number" [.int (-1000000000000000000), .int 1000000000000000000] F_Words_number := by
  obtain ⟨fd, Fd, Fn⟩ := fn_Words_number (w := w) (base := base) B
  exact ⟨⟨_, fd, _, _, rfl, (He.cls_ok (B.says.fact 22)), He.meth_ok (B.says.fact 39), Fn, bnd_d Fd 1 0 (by simp) rfl (fun _ _ => .cons (.int _) (.cons (.int _) (.nil))) fun _ _ _ _ _ _ _ us its hl hi => match us, its, hl, hi with | [_], [_, _], _, _ => ⟨_, rfl, rfl⟩⟩, show ¬ (("number" : Str) ∈ (["_words", "place"] : List Str)) by decide +kernel⟩
theorem me_Words_number_3 (B : Bs K mg h) : MetZ (gz w K mg base) 4 2 "number" [] F_Words_number := by
  obtain ⟨fd, Fd, Fn⟩ := fn_Words_number (w := w) (base := base) B
  exact ⟨⟨_, fd, _, _, rfl, (He.cls_ok (B.says.fact 22)), He.meth_ok (B.says.fact 39), Fn, bnd_d Fd 3 2 (by simp) rfl (fun _ _ => .nil) fun _ _ _ _ _ _ _ us its hl hi => match us, its, hl, hi with | [_, _, _], [_, _], _, _ => ⟨_, rfl, rfl⟩⟩, show ¬ (("number" : Str) ∈ (["_words", "place"] : List Str)) by decide +kernel⟩
theorem sc_Words_length : FnScope ["self"] ["self"] (defScope s_Words_length) := ⟨rfl, rfl, rfl, by decide +kernel, rfl, by decide +kernel, by decide +kernel⟩
theorem fz_Words_length (B : Bs K mg h) : ∃ fd, FunD K "length" "Words.length" (defArgs s_Words_length) (defBody s_Words_length) (defScope s_Words_length) [] [] (He.ma K (He.ga K "Words") "length") fd := B.says.def_ 10 (d := dz_Words_length)
def Fm_Words_length : Fm := { N := ["self"], sc := defScope s_Words_length, lvl := 4 }
theorem vv_Words_length_0 : varB Fm_Words_length 0 "self" = true := by decide +kernel
theorem gg_Words_length_MOST_COUNT : glB Fm_Words_length "MOST_COUNT" = true := by decide +kernel
noncomputable def f_Words_length : SS := (sRet (eMeth [(2, { F := F_Words_number, dd := [] })] (eVar 0) (aCons (eC (.int 0)) (aCons (eC c_MOST_COUNT) aNil))))
noncomputable def F_Words_length : FSem := semZ 1 1 f_Words_length
theorem ok_Words_length (B : Bs K mg h) : VB (gz w K mg base) Fm_Words_length (defBody s_Words_length) f_Words_length := (vb_one (vs_ret (ve_meth (k := 4) (all1 ((me_Words_number_3 B).up (by decide)) all0) (ve_var vv_Words_length_0) (va_cons ve_int (va_cons (ve_con gg_Words_length_MOST_COUNT (con_MOST_COUNT B)) va_nil)) (by decide))))
theorem fn_Words_length (B : Bs K mg h) : ∃ fd, (FunD K "length" "Words.length" (defArgs s_Words_length) (defBody s_Words_length) (defScope s_Words_length) [] [] (He.ma K (He.ga K "Words") "length") fd) ∧ FnZ (gz w K mg base) 5 (He.ma K (He.ga K "Words") "length") fd ["self"] F_Words_length := by
  obtain ⟨fd, Fd⟩ := fz_Words_length B
  exact ⟨fd, Fd, fnz_of (g := gz w K mg base) Fd sc_Words_length (ok_Words_length B)⟩
theorem me_Words_length_1 (B : Bs K mg h) : MetZ (gz w K mg base) 5 2 "length" [] F_Words_length := by
  obtain ⟨fd, Fd, Fn⟩ := fn_Words_length (w := w) (base := base) B
  exact ⟨⟨_, fd, _, _, rfl, (He.cls_ok (B.says.fact 22)), He.meth_ok (B.says.fact 40), Fn, bnd_n rfl Fd fun _ _ _ _ _ _ us hl => match us, hl with | [_], _ => rfl⟩, show ¬ (("length" : Str) ∈ (["_words", "place"] : List Str)) by decide +kernel⟩
theorem sc_is_name : FnScope ["text", "sign"] ["text"] (defScope s_is_name) := ⟨rfl, rfl, rfl, by decide +kernel, rfl, by decide +kernel, by decide +kernel⟩
theorem fz_is_name (B : Bs K mg h) : ∃ fd, FunD K "is_name" "is_name" (defArgs s_is_name) (defBody s_is_name) (defScope s_is_name) [] [] (He.ga K "is_name") fd := B.says.def_ 11 (d := dz_is_name)
def Fm_is_name : Fm := { N := ["text", "sign"], sc := defScope s_is_name, lvl := 0 }
theorem vv_is_name_0 : varB Fm_is_name 0 "text" = true := by decide +kernel
theorem gg_is_name_MOST_SIGNS : glB Fm_is_name "MOST_SIGNS" = true := by decide +kernel
theorem gg_is_name_all : glB Fm_is_name "all" = true := by decide +kernel
theorem gg_is_name_len : glB Fm_is_name "len" = true := by decide +kernel
noncomputable def f_is_name : SS := (sRet (eAnd (eChain (oB fun i j => decide (i ≤ j)) (oB fun i j => decide (i ≤ j)) (eC (.int 1)) (eB oLen (aCons (eVar 0) aNil)) (eC c_MOST_SIGNS)) (eB (oL fun xs => (blsOf xs).map fun ns => .bl (ns.all id)) (aCons (eComp (iStrZ (eVar 0)) (.nm 1) qYes (eOp oIn (eVar 1) (eC c_SIGNS)) [1]) aNil))))
noncomputable def F_is_name : FSem := semZ 2 1 f_is_name
theorem ok_is_name (B : Bs K mg h) : VB (gz w K mg base) Fm_is_name (defBody s_is_name) f_is_name := (vb_one (vs_ret (ve_and (ve_chain cLe cLe ve_int (ve_callB bLen gg_is_name_len (He.free_ok B.kx B.ns (B.says.fact 1)) PyProof.Rows.Boot.«len» (va_cons (ve_var vv_is_name_0) va_nil)) (ve_con gg_is_name_MOST_SIGNS (con_MOST_SIGNS B))) (ve_one (ve_callB bAll gg_is_name_all (He.free_ok B.kx B.ns (B.says.fact 5)) PyProof.Rows.Boot.«all» (va_cons (ve_comp (own := [("sign", 1)]) (by decide +kernel) (vi_str (ve_var vv_is_name_0)) (vg_name (by decide +kernel)) vts_nil (ve_cmp cIn (ve_var (by decide +kernel)) (ve_con (by decide +kernel) (con_SIGNS B)))) va_nil))))))
theorem fn_is_name (B : Bs K mg h) : ∃ fd, (FunD K "is_name" "is_name" (defArgs s_is_name) (defBody s_is_name) (defScope s_is_name) [] [] (He.ga K "is_name") fd) ∧ FnZ (gz w K mg base) 1 (He.ga K "is_name") fd ["text"] F_is_name := by
  obtain ⟨fd, Fd⟩ := fz_is_name B
  exact ⟨fd, Fd, fnz_of (g := gz w K mg base) Fd sc_is_name (ok_is_name B)⟩
theorem gl_is_name_1 (B : Bs K mg h) : GlF (gz w K mg base) 1 "is_name" [] F_is_name := by
  obtain ⟨fd, Fd, Fn⟩ := fn_is_name (w := w) (base := base) B
  exact ⟨_, fd, _, (He.glo_ok B.kx B.ns (B.says.fact 41)), Fd.kp, Fn, bnd_n rfl Fd fun _ _ _ _ _ _ us hl => match us, hl with | [_], _ => rfl⟩
theorem sc_Words_name : FnScope ["self", "word"] ["self"] (defScope s_Words_name) := ⟨rfl, rfl, rfl, by decide +kernel, rfl, by decide +kernel, by decide +kernel⟩
theorem fz_Words_name (B : Bs K mg h) : ∃ fd, FunD K "name" "Words.name" (defArgs s_Words_name) (defBody s_Words_name) (defScope s_Words_name) [] [] (He.ma K (He.ga K "Words") "name") fd := B.says.def_ 12 (d := dz_Words_name)
def Fm_Words_name : Fm := { N := ["self", "word"], sc := defScope s_Words_name, lvl := 3 }
theorem vv_Words_name_0 : varB Fm_Words_name 0 "self" = true := by decide +kernel
theorem vv_Words_name_1 : varB Fm_Words_name 1 "word" = true := by decide +kernel
theorem ll_Words_name_1 : locB Fm_Words_name 1 "word" = true := by decide +kernel
theorem gg_Words_name_is_name : glB Fm_Words_name "is_name" = true := by decide +kernel
noncomputable def f_Words_name : SS := (sSeq (sSet (.nm 1) (eMeth [(2, { F := F_Words_peek, dd := [] })] (eVar 0) aNil)) (sSeq (sExpr (eMeth [(2, { F := F_Words_check, dd := [] })] (eVar 0) (aCons (eCall F_is_name [] (aCons (eVar 1) aNil)) aNil))) (sSeq (sFldAugZ 2 1 (oI fun i j => i + j) (eVar 0) (eC (.int 1))) (sRet (eVar 1)))))
noncomputable def F_Words_name : FSem := semZ 2 1 f_Words_name
theorem ok_Words_name (B : Bs K mg h) : VB (gz w K mg base) Fm_Words_name (defBody s_Words_name) f_Words_name := (vb_cons (vs_set (ve_meth0 (k := 3) (all1 ((me_Words_peek_1 B).up (by decide)) all0) (ve_var vv_Words_name_0) (by decide)) (vg_name ll_Words_name_1)) (vb_cons (vs_expr (ve_meth (k := 3) (all1 ((me_Words_check_2 B).up (by decide)) all0) (ve_var vv_Words_name_0) (va_cons (ve_call (gl_is_name_1 B) gg_Words_name_is_name (va_cons (ve_var vv_Words_name_1) va_nil) (by decide)) va_nil) (by decide))) (vb_cons (vs_fldAug inAdd (z_Words B) rfl (ve_var vv_Words_name_0) ve_int) (vb_one (vs_ret (ve_var vv_Words_name_1))))))
theorem fn_Words_name (B : Bs K mg h) : ∃ fd, (FunD K "name" "Words.name" (defArgs s_Words_name) (defBody s_Words_name) (defScope s_Words_name) [] [] (He.ma K (He.ga K "Words") "name") fd) ∧ FnZ (gz w K mg base) 4 (He.ma K (He.ga K "Words") "name") fd ["self"] F_Words_name := by
  obtain ⟨fd, Fd⟩ := fz_Words_name B
  exact ⟨fd, Fd, fnz_of (g := gz w K mg base) Fd sc_Words_name (ok_Words_name B)⟩
theorem me_Words_name_1 (B : Bs K mg h) : MetZ (gz w K mg base) 4 2 "name" [] F_Words_name := by
  obtain ⟨fd, Fd, Fn⟩ := fn_Words_name (w := w) (base := base) B
  exact ⟨⟨_, fd, _, _, rfl, (He.cls_ok (B.says.fact 22)), He.meth_ok (B.says.fact 42), Fn, bnd_n rfl Fd fun _ _ _ _ _ _ us hl => match us, hl with | [_], _ => rfl⟩, show ¬ (("name" : Str) ∈ (["_words", "place"] : List Str)) by decide +kernel⟩
theorem sc_Words_word : FnScope ["self", "words", "word"] ["self", "words"] (defScope s_Words_word) := ⟨rfl, rfl, rfl, by decide +kernel, rfl, by decide +kernel, by decide +kernel⟩
theorem fz_Words_word (B : Bs K mg h) : ∃ fd, FunD K "word" "Words.word" (defArgs s_Words_word) (defBody s_Words_word) (defScope s_Words_word) [] [] (He.ma K (He.ga K "Words") "word") fd := B.says.def_ 13 (d := dz_Words_word)
def Fm_Words_word : Fm := { N := ["self", "words", "word"], sc := defScope s_Words_word, lvl := 3 }
theorem vv_Words_word_0 : varB Fm_Words_word 0 "self" = true := by decide +kernel
theorem vv_Words_word_1 : varB Fm_Words_word 1 "words" = true := by decide +kernel
theorem vv_Words_word_2 : varB Fm_Words_word 2 "word" = true := by decide +kernel
theorem ll_Words_word_2 : locB Fm_Words_word 2 "word" = true := by decide +kernel
noncomputable def f_Words_word : SS := (sSeq (sSet (.nm 2) (eMeth [(2, { F := F_Words_peek, dd := [] })] (eVar 0) aNil)) (sSeq (sExpr (eMeth [(2, { F := F_Words_check, dd := [] })] (eVar 0) (aCons (eOp oIn (eVar 2) (eVar 1)) aNil))) (sSeq (sFldAugZ 2 1 (oI fun i j => i + j) (eVar 0) (eC (.int 1))) (sRet (eVar 2)))))
noncomputable def F_Words_word : FSem := semZ 3 2 f_Words_word
theorem ok_Words_word (B : Bs K mg h) : VB (gz w K mg base) Fm_Words_word (defBody s_Words_word) f_Words_word := (vb_cons (vs_set (ve_meth0 (k := 3) (all1 ((me_Words_peek_1 B).up (by decide)) all0) (ve_var vv_Words_word_0) (by decide)) (vg_name ll_Words_word_2)) (vb_cons (vs_expr (ve_meth (k := 3) (all1 ((me_Words_check_2 B).up (by decide)) all0) (ve_var vv_Words_word_0) (va_cons (ve_cmp cIn (ve_var vv_Words_word_2) (ve_var vv_Words_word_1)) va_nil) (by decide))) (vb_cons (vs_fldAug inAdd (z_Words B) rfl (ve_var vv_Words_word_0) ve_int) (vb_one (vs_ret (ve_var vv_Words_word_2))))))
theorem fn_Words_word (B : Bs K mg h) : ∃ fd, (FunD K "word" "Words.word" (defArgs s_Words_word) (defBody s_Words_word) (defScope s_Words_word) [] [] (He.ma K (He.ga K "Words") "word") fd) ∧ FnZ (gz w K mg base) 4 (He.ma K (He.ga K "Words") "word") fd ["self", "words"] F_Words_word := by
  obtain ⟨fd, Fd⟩ := fz_Words_word B
  exact ⟨fd, Fd, fnz_of (g := gz w K mg base) Fd sc_Words_word (ok_Words_word B)⟩
theorem me_Words_word_2 (B : Bs K mg h) : MetZ (gz w K mg base) 4 2 "word" [] F_Words_word := by
  obtain ⟨fd, Fd, Fn⟩ := fn_Words_word (w := w) (base := base) B
  exact ⟨⟨_, fd, _, _, rfl, (He.cls_ok (B.says.fact 22)), He.meth_ok (B.says.fact 43), Fn, bnd_n rfl Fd fun _ _ _ _ _ _ us hl => match us, hl with | [_, _], _ => rfl⟩, show ¬ (("word" : Str) ∈ (["_words", "place"] : List Str)) by decide +kernel⟩
theorem sc__law_read : FnScope ["_law_words", "_law_kind", "e"] ["_law_words", "_law_kind"] (defScope s__law_read) := ⟨rfl, rfl, rfl, by decide +kernel, rfl, by decide +kernel, by decide +kernel⟩
theorem fz__law_read (B : Bs K mg h) : ∃ fd, FunD K "_law_read" "_law_read" (defArgs s__law_read) (defBody s__law_read) (defScope s__law_read) [] [] (He.ga K "_law_read") fd := B.says.def_ 14 (d := dz__law_read)
def Fm__law_read : Fm := { N := ["_law_words", "_law_kind", "e"], sc := defScope s__law_read, lvl := 5 }
theorem vv__law_read_0 : varB Fm__law_read 0 "_law_words" = true := by decide +kernel
theorem vv__law_read_1 : varB Fm__law_read 1 "_law_kind" = true := by decide +kernel
theorem vv__law_read_2 : varB Fm__law_read 2 "e" = true := by decide +kernel
theorem gg__law_read_InvalidText : glB Fm__law_read "InvalidText" = true := by decide +kernel
theorem gg__law_read_SurePlaceError : glB Fm__law_read "SurePlaceError" = true := by decide +kernel
theorem gg__law_read_ValueError : glB Fm__law_read "ValueError" = true := by decide +kernel
theorem gg__law_read_isinstance : glB Fm__law_read "isinstance" = true := by decide +kernel
noncomputable def f__law_read : SS := (sTryAs [(0, true), (1, true)] 2 (sSeq (sIf (eT (eOp oEq (eVar 1) (eC (.int 0)))) (sRet (eMeth [(2, { F := F_Words_number, dd := [.int (-1000000000000000000), .int 1000000000000000000] })] (eVar 0) aNil)) sNil) (sSeq (sIf (eT (eOp oEq (eVar 1) (eC (.int 1)))) (sRet (eMeth [(2, { F := F_Words_length, dd := [] })] (eVar 0) aNil)) sNil) (sSeq (sIf (eT (eOp oEq (eVar 1) (eC (.int 2)))) (sRet (eMeth [(2, { F := F_Words_number, dd := [] })] (eVar 0) (aCons (eNeg (eC (.int 5))) (aCons (eC (.int 300)) aNil)))) sNil) (sSeq (sIf (eT (eOp oEq (eVar 1) (eC (.int 3)))) (sRet (eMeth [(2, { F := F_Words_name, dd := [] })] (eVar 0) aNil)) sNil) (sRet (eMeth [(2, { F := F_Words_word, dd := [] })] (eVar 0) (aCons (eTup (aCons (eC (.str "A")) (aCons (eC (.str "0")) aNil))) aNil))))))) (fun ad d c => (sSeq (sIf (qAnd (eTru (eIsX (ad, d, c) 2 [(0, false), (1, true)])) (qAnd (eTru (eIsX (ad, d, c) 2 [(0, true), (1, true)])) (eT (eOp oEq (eXFc 1 (ad, d, c) 2 0) (eFld [(2, 1)] (eVar 0)))))) (sRet (eC .non)) sNil) (sRet (eTup (aCons (eC (.str "refused")) aNil))))))
noncomputable def F__law_read : FSem := semZ 3 2 f__law_read
theorem ok__law_read (B : Bs K mg h) : VB (gz w K mg base) Fm__law_read (defBody s__law_read) f__law_read := (vb_one (vs_tryAs (i := 2) rfl (by rfl) gg__law_read_SurePlaceError (nam_SurePlaceError B) (all1 (⟨⟨_, rfl, of_decide_eq_true (B.says.fact 6)⟩⟩) (all1 (⟨⟨_, rfl, of_decide_eq_true (B.says.fact 7)⟩⟩) all0)) (vb_cons (vs_if (vt_cmp cEq (ve_var vv__law_read_1) ve_int) (vb_one (vs_ret (ve_meth0 (k := 4) (all1 ((me_Words_number_1 B).up (by decide)) all0) (ve_var vv__law_read_0) (by decide)))) vb_nil) (vb_cons (vs_if (vt_cmp cEq (ve_var vv__law_read_1) ve_int) (vb_one (vs_ret (ve_meth0 (k := 5) (all1 ((me_Words_length_1 B).up (by decide)) all0) (ve_var vv__law_read_0) (by decide)))) vb_nil) (vb_cons (vs_if (vt_cmp cEq (ve_var vv__law_read_1) ve_int) (vb_one (vs_ret (ve_meth (k := 4) (all1 ((me_Words_number_3 B).up (by decide)) all0) (ve_var vv__law_read_0) (va_cons (ve_neg ve_int) (va_cons ve_int va_nil)) (by decide)))) vb_nil) (vb_cons (vs_if (vt_cmp cEq (ve_var vv__law_read_1) ve_int) (vb_one (vs_ret (ve_meth0 (k := 4) (all1 ((me_Words_name_1 B).up (by decide)) all0) (ve_var vv__law_read_0) (by decide)))) vb_nil) (vb_one (vs_ret (ve_meth (k := 4) (all1 ((me_Words_word_2 B).up (by decide)) all0) (ve_var vv__law_read_0) (va_cons (ve_tup (va_cons ve_str (va_cons ve_str va_nil))) va_nil) (by decide)))))))) (fun ad d c => (vb_cons (vs_if (vw_t (vw_and (vt_tru (ve_isX rfl vv__law_read_2 gg__law_read_InvalidText (nam_InvalidText B) (all1 (⟨⟨_, rfl, isB_ok (B.says.fact 8), of_decide_eq_true (B.says.fact 9)⟩⟩) (all1 (⟨⟨_, rfl, isB_ok (B.says.fact 10), of_decide_eq_true (B.says.fact 11)⟩⟩) all0)) (He.free_ok B.kx B.ns (B.says.fact 12)) gg__law_read_isinstance)) (vw_and (vt_tru (ve_isX rfl vv__law_read_2 gg__law_read_ValueError (nam_ValueError B) (all1 (⟨⟨_, rfl, isB_ok (B.says.fact 8), of_decide_eq_true (B.says.fact 13)⟩⟩) (all1 (⟨⟨_, rfl, isB_ok (B.says.fact 10), of_decide_eq_true (B.says.fact 14)⟩⟩) all0)) (He.free_ok B.kx B.ns (B.says.fact 12)) gg__law_read_isinstance)) (vw_and1 (vt_cmp cEq (ve_xfc rfl vv__law_read_2 (xf_InvalidText_place B)) (ve_fld (all1 (⟨z_Words B, rfl⟩) all0) (ve_var vv__law_read_0))))))) (vb_one (vs_ret ve_non)) vb_nil) (vb_one (vs_ret (ve_tup (va_cons ve_str va_nil))))))))
theorem fn__law_read (B : Bs K mg h) : ∃ fd, (FunD K "_law_read" "_law_read" (defArgs s__law_read) (defBody s__law_read) (defScope s__law_read) [] [] (He.ga K "_law_read") fd) ∧ FnZ (gz w K mg base) 6 (He.ga K "_law_read") fd ["_law_words", "_law_kind"] F__law_read := by
  obtain ⟨fd, Fd⟩ := fz__law_read B
  exact ⟨fd, Fd, fnz_of (g := gz w K mg base) Fd sc__law_read (ok__law_read B)⟩
theorem gl__law_read_2 (B : Bs K mg h) : GlF (gz w K mg base) 6 "_law_read" [] F__law_read := by
  obtain ⟨fd, Fd, Fn⟩ := fn__law_read (w := w) (base := base) B
  exact ⟨_, fd, _, (He.glo_ok B.kx B.ns (B.says.fact 44)), Fd.kp, Fn, bnd_n rfl Fd fun _ _ _ _ _ _ us hl => match us, hl with | [_, _], _ => rfl⟩
theorem sc_law : FnScope ["_law_script", "_law_rows_here", "_law_texts", "_law_row", "_law_words", "_law_k", "_law_plain", "_law_turn", "_law_kind", "_law_due_here"] ["_law_script"] (defScope s_law) := ⟨rfl, rfl, rfl, by decide +kernel, rfl, by decide +kernel, by decide +kernel⟩
theorem fz_law (B : Bs K mg h) : ∃ fd, FunD K "law" "law" (defArgs s_law) (defBody s_law) (defScope s_law) [] [] (He.ga K "law") fd := B.says.def_ 15 (d := dz_law)
def Fm_law : Fm := { N := ["_law_script", "_law_rows_here", "_law_texts", "_law_row", "_law_words", "_law_k", "_law_plain", "_law_turn", "_law_kind", "_law_due_here"], sc := defScope s_law, lvl := 6 }
theorem vv_law_0 : varB Fm_law 0 "_law_script" = true := by decide +kernel
theorem vv_law_1 : varB Fm_law 1 "_law_rows_here" = true := by decide +kernel
theorem vv_law_2 : varB Fm_law 2 "_law_texts" = true := by decide +kernel
theorem vv_law_4 : varB Fm_law 4 "_law_words" = true := by decide +kernel
theorem vv_law_5 : varB Fm_law 5 "_law_k" = true := by decide +kernel
theorem vv_law_6 : varB Fm_law 6 "_law_plain" = true := by decide +kernel
theorem vv_law_7 : varB Fm_law 7 "_law_turn" = true := by decide +kernel
theorem vv_law_8 : varB Fm_law 8 "_law_kind" = true := by decide +kernel
theorem vv_law_9 : varB Fm_law 9 "_law_due_here" = true := by decide +kernel
theorem ll_law_1 : locB Fm_law 1 "_law_rows_here" = true := by decide +kernel
theorem ll_law_4 : locB Fm_law 4 "_law_words" = true := by decide +kernel
theorem ll_law_5 : locB Fm_law 5 "_law_k" = true := by decide +kernel
theorem ll_law_6 : locB Fm_law 6 "_law_plain" = true := by decide +kernel
theorem ll_law_7 : locB Fm_law 7 "_law_turn" = true := by decide +kernel
theorem ll_law_8 : locB Fm_law 8 "_law_kind" = true := by decide +kernel
theorem ll_law_9 : locB Fm_law 9 "_law_due_here" = true := by decide +kernel
theorem gg_law_Words : glB Fm_law "Words" = true := by decide +kernel
theorem gg_law__law_due : glB Fm_law "_law_due" = true := by decide +kernel
theorem gg_law__law_read : glB Fm_law "_law_read" = true := by decide +kernel
theorem gg_law__law_rows : glB Fm_law "_law_rows" = true := by decide +kernel
theorem gg_law_int : glB Fm_law "int" = true := by decide +kernel
theorem gg_law_is_integer : glB Fm_law "is_integer" = true := by decide +kernel
theorem gg_law_len : glB Fm_law "len" = true := by decide +kernel
theorem gg_law_range : glB Fm_law "range" = true := by decide +kernel
noncomputable def f_law : SS := (sSeq (sSet (.nm 1) (eCall F__law_rows [] (aCons (eVar 0) (aCons (eC (.int 11)) aNil)))) (sSeq (sSet (.nm 2) (fun ρ S => ((aComp (iSeq (eSl (eVar 1) (pSome (eC (.int 1))) (pSome (eOp oAdd (eC (.int 2)) (eOp oMod (eB oInt (aCons (eOp oIx (eVar 1) (eC (.int 0))) aNil)) (eC (.int 8))))))) (.nm 3) qYes (eCall F__law_word [] (aCons (eVar 3) aNil)) [3]) ρ S).bind (fun ds S => .ok (.lst ds) S))) (sSeq (sSet (.nm 4) (eNew 2 F_Words___init__ [] (aCons (eM isStr oJoin (eC (.str " ")) (aCons (eVar 2) aNil)) aNil))) (sSeq (sFor (iRange1 (aCons (eB oLen (aCons (eVar 2) aNil)) aNil)) (.nm 5) (sSeq (sSet (.nm 6) (eOr (eNot (eOp oIs (eCall F__law_due [] (aCons (eOp oIx (eVar 2) (eVar 5)) (aCons (eC (.int 0)) aNil))) (eC .non))) (eOr (eOp oEq (eOp oIx (eVar 2) (eVar 5)) (eC (.str "1000000000000000001"))) (eOp oEq (eOp oIx (eVar 2) (eVar 5)) (eC (.str "-1000000000000000001")))))) (sSeq (sIf (qOr (eT (eOp oNe (eCall F_is_integer [] (aCons (eOp oIx (eVar 2) (eVar 5)) aNil)) (eVar 6))) (qOr (eT (eOp oNe (eFld [(2, 1)] (eVar 4)) (eVar 5))) (qOr (eTru (eMeth [(2, { F := F_Words_ended, dd := [] })] (eVar 4) aNil)) (eT (eOp oNe (eMeth [(2, { F := F_Words_peek, dd := [] })] (eVar 4) aNil) (eOp oIx (eVar 2) (eVar 5))))))) (sRet (eC (.bl false))) sNil) (sSeq (sFor (iRange1 (aCons (eC (.int 5)) aNil)) (.nm 7) (sSeq (sSet (.nm 8) (eOp oMod (eB oInt (aCons (eOp oAdd (eOp oDiv (eOp oIx (eVar 1) (eC (.int 9))) (eOp oAdd (eC (.int 3)) (eVar 5))) (eVar 7)) aNil)) (eC (.int 5)))) (sSeq (sSet (.nm 9) (eCall F__law_due [] (aCons (eOp oIx (eVar 2) (eVar 5)) (aCons (eVar 8) aNil)))) (sSeq (sIf (qAnd (eT (eOp oEq (eFld [(2, 1)] (eVar 4)) (eVar 5))) (eT (eOp oNe (eCall F__law_read [] (aCons (eVar 4) (aCons (eVar 8) aNil))) (eVar 9)))) (sRet (eC (.bl false))) sNil) (sSeq (sIf (qAnd (qNot (eT (eOp oIs (eVar 9) (eC .non)))) (eT (eOp oEq (eFld [(2, 1)] (eVar 4)) (eVar 5)))) (sRet (eC (.bl false))) sNil) (sIf (qNot (eT (eOp oIs (eVar 9) (eC .non)))) (fun ρ S => .brk ρ S) sNil)))))) (sIf (eT (eOp oEq (eFld [(2, 1)] (eVar 4)) (eVar 5))) (sRet (eOr (eOp oIs (eCall F__law_read [] (aCons (eVar 4) (aCons (eC (.int 0)) aNil))) (eC .non)) (eOp oIs (eCall F__law_read [] (aCons (eVar 4) (aCons (eC (.int 3)) aNil))) (eC .non)))) sNil))))) (sRet (eAnd (eMeth [(2, { F := F_Words_ended, dd := [] })] (eVar 4) aNil) (eAnd (eOp oIs (eCall F__law_read [] (aCons (eVar 4) (aCons (eOp oMod (eB oInt (aCons (eOp oIx (eVar 1) (eC (.int 10))) aNil)) (eC (.int 5))) aNil))) (eC .non)) (eOp oEq (eFld [(2, 1)] (eVar 4)) (eB oLen (aCons (eVar 2) aNil))))))))))
noncomputable def F_law : FSem := semZ 10 1 f_law
theorem ok_law (B : Bs K mg h) : VB (gz w K mg base) Fm_law (defBody s_law) f_law := (vb_cons (vs_set (ve_call (gl__law_rows_2 B) gg_law__law_rows (va_cons (ve_var vv_law_0) (va_cons ve_int va_nil)) (by decide)) (vg_name ll_law_1)) (vb_cons (vs_setCompK (own := [("_law_row", 3)]) fin_lst (by decide +kernel) (by decide +kernel) (by decide +kernel) (vi_seq (ve_sl (ve_var vv_law_1) (vo_some ve_int) (vo_some (ve_add ve_int (ve_mod (ve_callT bInt gg_law_int (He.free_ok B.kx B.ns (B.says.fact 2)) PyProof.Rows.Boot.«int» (va_cons (ve_ix (ve_var vv_law_1) ve_int) va_nil)) ve_int))))) (vg_name (by decide +kernel)) vts_nil (ve_call (gl__law_word_1 B) (by decide +kernel) (va_cons (ve_var (by decide +kernel)) va_nil) (by decide)) (by decide +kernel) (by decide +kernel)) (vb_cons (vs_set (ve_new (mk_Words_1 B) gg_law_Words (va_cons (ve_m mJoin ve_str (va_cons (ve_var vv_law_2) va_nil)) va_nil) (by decide)) (vg_name ll_law_4)) (vb_cons (vs_for (vi_range1 gg_law_range (He.free_ok B.kx B.ns (B.says.fact 0)) (va_cons (ve_callB bLen gg_law_len (He.free_ok B.kx B.ns (B.says.fact 1)) PyProof.Rows.Boot.«len» (va_cons (ve_var vv_law_2) va_nil)) va_nil)) (vg_name ll_law_5) (vb_cons (vs_set (ve_or (ve_not (ve_cmp cIs (ve_call (gl__law_due_2 B) gg_law__law_due (va_cons (ve_ix (ve_var vv_law_2) (ve_var vv_law_5)) (va_cons ve_int va_nil)) (by decide)) ve_non)) (ve_or (ve_cmp cEq (ve_ix (ve_var vv_law_2) (ve_var vv_law_5)) ve_str) (ve_one (ve_cmp cEq (ve_ix (ve_var vv_law_2) (ve_var vv_law_5)) ve_str)))) (vg_name ll_law_6)) (vb_cons (vs_if (vw_t (vw_or (vt_cmp cNe (ve_call (gl_is_integer_1 B) gg_law_is_integer (va_cons (ve_ix (ve_var vv_law_2) (ve_var vv_law_5)) va_nil) (by decide)) (ve_var vv_law_6)) (vw_or (vt_cmp cNe (ve_fld (all1 (⟨z_Words B, rfl⟩) all0) (ve_var vv_law_4)) (ve_var vv_law_5)) (vw_or (vt_tru (ve_meth0 (k := 1) (all1 ((me_Words_ended_1 B).up (by decide)) all0) (ve_var vv_law_4) (by decide))) (vw_or1 (vt_cmp cNe (ve_meth0 (k := 3) (all1 ((me_Words_peek_1 B).up (by decide)) all0) (ve_var vv_law_4) (by decide)) (ve_ix (ve_var vv_law_2) (ve_var vv_law_5)))))))) (vb_one (vs_ret ve_bl)) vb_nil) (vb_cons (vs_for (vi_range1 gg_law_range (He.free_ok B.kx B.ns (B.says.fact 0)) (va_cons ve_int va_nil)) (vg_name ll_law_7) (vb_cons (vs_set (ve_mod (ve_callT bInt gg_law_int (He.free_ok B.kx B.ns (B.says.fact 2)) PyProof.Rows.Boot.«int» (va_cons (ve_add (ve_div (ve_ix (ve_var vv_law_1) ve_int) (ve_add ve_int (ve_var vv_law_5))) (ve_var vv_law_7)) va_nil)) ve_int) (vg_name ll_law_8)) (vb_cons (vs_set (ve_call (gl__law_due_2 B) gg_law__law_due (va_cons (ve_ix (ve_var vv_law_2) (ve_var vv_law_5)) (va_cons (ve_var vv_law_8) va_nil)) (by decide)) (vg_name ll_law_9)) (vb_cons (vs_if (vw_t (vw_and (vt_cmp cEq (ve_fld (all1 (⟨z_Words B, rfl⟩) all0) (ve_var vv_law_4)) (ve_var vv_law_5)) (vw_and1 (vt_cmp cNe (ve_call (gl__law_read_2 B) gg_law__law_read (va_cons (ve_var vv_law_4) (va_cons (ve_var vv_law_8) va_nil)) (by decide)) (ve_var vv_law_9))))) (vb_one (vs_ret ve_bl)) vb_nil) (vb_cons (vs_if (vw_t (vw_and (vt_not (vt_cmp cIs (ve_var vv_law_9) ve_non)) (vw_and1 (vt_cmp cEq (ve_fld (all1 (⟨z_Words B, rfl⟩) all0) (ve_var vv_law_4)) (ve_var vv_law_5))))) (vb_one (vs_ret ve_bl)) vb_nil) (vb_one (vs_if (vt_not (vt_cmp cIs (ve_var vv_law_9) ve_non)) (vb_one vs_break) vb_nil))))))) (vb_one (vs_if (vt_cmp cEq (ve_fld (all1 (⟨z_Words B, rfl⟩) all0) (ve_var vv_law_4)) (ve_var vv_law_5)) (vb_one (vs_ret (ve_or (ve_cmp cIs (ve_call (gl__law_read_2 B) gg_law__law_read (va_cons (ve_var vv_law_4) (va_cons ve_int va_nil)) (by decide)) ve_non) (ve_one (ve_cmp cIs (ve_call (gl__law_read_2 B) gg_law__law_read (va_cons (ve_var vv_law_4) (va_cons ve_int va_nil)) (by decide)) ve_non))))) vb_nil)))))) (vb_one (vs_ret (ve_and (ve_meth0 (k := 1) (all1 ((me_Words_ended_1 B).up (by decide)) all0) (ve_var vv_law_4) (by decide)) (ve_and (ve_cmp cIs (ve_call (gl__law_read_2 B) gg_law__law_read (va_cons (ve_var vv_law_4) (va_cons (ve_mod (ve_callT bInt gg_law_int (He.free_ok B.kx B.ns (B.says.fact 2)) PyProof.Rows.Boot.«int» (va_cons (ve_ix (ve_var vv_law_1) ve_int) va_nil)) ve_int) va_nil)) (by decide)) ve_non) (ve_one (ve_cmp cEq (ve_fld (all1 (⟨z_Words B, rfl⟩) all0) (ve_var vv_law_4)) (ve_callB bLen gg_law_len (He.free_ok B.kx B.ns (B.says.fact 1)) PyProof.Rows.Boot.«len» (va_cons (ve_var vv_law_2) va_nil))))))))))))
theorem fn_law (B : Bs K mg h) : ∃ fd, (FunD K "law" "law" (defArgs s_law) (defBody s_law) (defScope s_law) [] [] (He.ga K "law") fd) ∧ FnZ (gz w K mg base) 7 (He.ga K "law") fd ["_law_script"] F_law := by
  obtain ⟨fd, Fd⟩ := fz_law B
  exact ⟨fd, Fd, fnz_of (g := gz w K mg base) Fd sc_law (ok_law B)⟩
end
abbrev R : OpenRow := OpenLaw.row PySem.Challenge.rw_sureplace_k79_words
def loose : List PySem.Str := ["_wall", "SurePlaceError", "InvalidText", "SIGNS", "MOST_SIGNS", "is_name", "MOST", "MOST_COUNT", "DIGITS", "is_integer", "Words", "_law_rows", "_law_word", "_law_due", "_law_read"]
abbrev hk : Hook := hookZ 7 fa fn
def ob (s : SharedT) : AlZ := obsZ 7 fa fn (HandSHeadRun.getT s)
theorem ob_eq (s : SharedT) : ob s = hk.obs s.abs := obsZ_eq (HandSHeadRun.getT_eq s)
theorem run (w : World) : HandSHeadRun.RunEq R (view R.prog [19]) hk ob 4000 loose w := by
  intro os
  kernel_rfl
end K79
set_option Elab.async false
set_option linter.all false
set_option maxRecDepth 100000
set_option maxHeartbeats 1000000
namespace K79
open PySem L2 Z TL NumText
theorem rows_eq : F__law_rows = rowsF flN := rfl
/-- the words at k: ws, the place i -/
def Wd (S : Store) (k : Nat) (ws : List D) (i : Int) : Prop := S[k]? = some (some (.obj 2 [.lst ws, .int i]))
theorem ended_ok {S : Store} {k : Nat} {ws : List D} {i : Int} (h : Wd S k ws i) : F_Words_ended [.ref k] S = .ok (.bl (decide (i = ws.length))) S := by
  unfold Wd at h
  simp [F_Words_ended, semZ, f_Words_ended, h, lookup_one, trimR_ok]
theorem peek_end {S : Store} {k : Nat} {ws : List D} {i : Int} (h : Wd S k ws i) (hi : i = ws.length) : F_Words_peek [.ref k] S = .ex ⟨1, [.int i]⟩ S := by
  have he := ended_ok h
  unfold Wd at h
  simp [F_Words_peek, semZ, f_Words_peek, h, lookup_one, trimR_ex, he, hi, sRaise1]
theorem peek_at {S : Store} {k j : Nat} {ws : List D} {d : D} (h : Wd S k ws j) (hd : ws[j]? = some d) : F_Words_peek [.ref k] S = .ok d S := by
  have he := ended_ok h
  have hj : j < ws.length := (List.getElem?_eq_some_iff.mp hd).1
  have hne : ¬ ((j : Int) = (ws.length : Int)) := by omega
  have ha : atI ws (j : Int) = some d := by rw [atI_nat hj, hd]
  unfold Wd at h
  have hne' : ¬ (j = ws.length) := by omega
  simp [F_Words_peek, semZ, f_Words_peek, h, lookup_one, trimR_ok, he, hne, hne', ha]
theorem check_ok {S : Store} {k : Nat} {ws : List D} {i : Int} {b : Bool} (h : Wd S k ws i) : F_Words_check [.ref k, .bl b] S = if b = true then .ok .non S else .ex ⟨1, [.int i]⟩ S := by
  unfold Wd at h
  cases b <;> simp [F_Words_check, semZ, f_Words_check, h, lookup_one, trimR_ok, trimR_ex, sRaise1]

/-! words as integers -/
def dig (c : Nat) : Bool := decide (48 ≤ c ∧ c ≤ 57)
def isI (l : List Nat) : Bool := (!(dgs l).isEmpty && (decide ((dgs l).length ≤ 20) && (dgs l).all dig)) && canonB l
def dgS (w : Str) : Str := if hd45 (tl w) = true then cutS w (some 1) none else w
theorem tl_dgS (w : Str) : tl (dgS w) = dgs (tl w) := by
  unfold dgS dgs
  split
  · exact tl_cut1 w
  · rfl
theorem dgS_len (w : Str) : (dgS w).length ≤ w.length := by
  rw [← tl_len, ← tl_len, tl_dgS]
  unfold dgs
  split
  · rw [List.length_drop]
    omega
  · omega
theorem all_dig {l : List Nat} (h : l.all dig = true) : AllDigits l := fun c hc => by
  have := List.all_eq_true.mp h c hc
  simpa [dig] using this
theorem dig_in (c : Nat) : decide (c ∈ ("0123456789" : Str).cps.toList) = dig c := by
  unfold dig
  rw [Bool.eq_iff_iff, decide_eq_true_eq, decide_eq_true_eq]
  exact mem_digits
theorem all_digits_ok {S : Store} {x : D} {w : Str} (hw : w.length ≤ 1000) : eB (oL fun xs => (blsOf xs).map fun ns => .bl (ns.all id)) (aCons (eComp (iStrZ (eVar 1)) (.nm 2) qYes (eOp oIn (eVar 2) (eC c_DIGITS)) [2]) aNil) [some x, some (.str w), none] S = .ok (.bl ((tl w).all dig)) S := by
  have hc : compL none (.nm 2) qYes (eOp oIn (eVar 2) (eC c_DIGITS)) ((tl w).map sg) [some x, some (.str w), none] S [] = .ok ([] ++ (tl w).map fun c => .bl (dig c)) S := by
    refine compL_all (h := none) True.intro sg (fun c => .bl (dig c)) (tl w) [] (fun c _ => ⟨[some x, some (.str w), some (sg c)], rfl, ?_⟩) (by rw [tl_len]; simp; omega)
    simp only [eOp_run, eVar_s, eVar_0, Res.bind_ok, eC_run, c_DIGITS, oIn_sign, dig_in]
  simp only [eB_run, aCons_run, eComp_run, aComp_run, iStrZ_run, eVar_s, eVar_0, Res.bind_ok, wipeZ_cons, wipeZ_nil, aNil_run, List.set_cons_succ, List.set_cons_zero]
  have e : (tl w).map (fun c => D.str ⟨#[c]⟩) = (tl w).map sg := rfl
  show Res.bind (Res.bind (Res.bind (compL none _ _ _ ((tl w).map sg) _ S []) _) _) _ = _
  rw [hc, Res.bind_ok, Res.bind_ok, Res.bind_ok]
  refine oL_of ?_
  rw [List.nil_append, blsOf_map]
  simp
theorem is_integer_ok {S : Store} {w : Str} (hw : w.length ≤ 1000) : F_is_integer [.str w] S = .ok (.bl (isI (tl w))) S := by
  have hd := dgS_len w
  have h1 : (sSet (.nm 1) (eIf (eTru (eM isStr oStarts (eVar 0) (aCons (eC (.str "-")) aNil))) (eSl (eVar 0) (pSome (eC (.int 1))) pNone) (eVar 0))) [some (.str w), none, none] S = .next [some (.str w), some (.str (dgS w)), none] S := by
    unfold dgS
    cases hm : hd45 (tl w)
    · simp [starts_minus, hm]
    · simp [starts_minus, hm, show w.length ≤ 1000000 by omega]
  have h2 : f_is_integer [some (.str w), none, none] S = .ret (.bl (isI (tl w))) S := by
    unfold f_is_integer
    have ha := all_digits_ok (S := S) (x := .str w) (w := dgS w) (by omega)
    have hlen : ((dgS w).length : Int) = ((dgs (tl w)).length : Int) := by rw [← tl_len, tl_dgS]
    have hL : (dgS w).length ≤ 1000000 := by omega
    have hE : decide (dgS w = ("" : Str)) = (dgs (tl w)).isEmpty := by
      rw [← tl_dgS, Bool.eq_iff_iff, decide_eq_true_eq, List.isEmpty_iff]
      exact ⟨fun q => by rw [q]; rfl, fun q => ext_tl (by rw [q]; rfl)⟩
    rw [tl_dgS] at ha
    have hT1 : eT (eOp (oB fun i j => decide (j < i)) (eB oLen (aCons (eVar 1) aNil)) (eC (.int 20))) [some (.str w), some (.str (dgS w)), none] S = .ok (decide (20 < ((dgs (tl w)).length : Int))) S := by
      simp only [eT_run, eOp_run, eB_run, aCons_run, aNil_run, eVar_s, eVar_0, Res.bind_ok, oLen_str hL, eC_run, oB_run, hlen]
    have hT2 : qNot (eTru (eB (oL fun xs => (blsOf xs).map fun ns => .bl (ns.all id)) (aCons (eComp (iStrZ (eVar 1)) (.nm 2) qYes (eOp oIn (eVar 2) (eC c_DIGITS)) [2]) aNil))) [some (.str w), some (.str (dgS w)), none] S = .ok (!(dgs (tl w)).all dig) S := by
      rw [qNot_run, eTru_run, ha, Res.bind_ok, truZ_bl]
      rfl
    have hcond : (qOr (eT (eOp oEq (eVar 1) (eC (.str "")))) (qOr (eT (eOp (oB fun i j => decide (j < i)) (eB oLen (aCons (eVar 1) aNil)) (eC (.int 20)))) (qNot (eTru (eB (oL fun xs => (blsOf xs).map fun ns => .bl (ns.all id)) (aCons (eComp (iStrZ (eVar 1)) (.nm 2) qYes (eOp oIn (eVar 2) (eC c_DIGITS)) [2]) aNil)))))) [some (.str w), some (.str (dgS w)), none] S =
        .ok ((dgs (tl w)).isEmpty || (decide (20 < ((dgs (tl w)).length : Int)) || !(dgs (tl w)).all dig)) S := by
      rw [qOr_run, eT_run, eOp_run, eVar_s, eVar_0, Res.bind_ok, eC_run, Res.bind_ok, oEq_str, Res.bind_ok, hE]
      dsimp only
      rw [Res.bind_ok, qOr_run, hT1, Res.bind_ok, hT2]
      cases (dgs (tl w)).isEmpty <;> cases decide (20 < ((dgs (tl w)).length : Int)) <;> rfl
    rw [sSeq_run, h1, Out.bind_next, sSeq_run, sIf_run, hcond, Res.go_ok]
    unfold isI
    have h20 : decide (20 < ((dgs (tl w)).length : Int)) = !decide ((dgs (tl w)).length ≤ 20) := by
      rw [Bool.eq_iff_iff]
      simp
      omega
    rw [h20]
    by_cases hall : ((!(dgs (tl w)).isEmpty && (decide ((dgs (tl w)).length ≤ 20) && (dgs (tl w)).all dig)) = true)
    · rw [hall, Bool.true_and]
      rw [Bool.and_eq_true, Bool.and_eq_true] at hall
      obtain ⟨h3, h4, h5⟩ := hall
      have hall := all_dig h5
      have hne : dgs (tl w) ≠ [] := fun q => by
        rw [q] at h3
        cases h3
      have h4' := of_decide_eq_true h4
      have hi := intText_dg hall hne (show w.length ≤ 4300 by omega)
      have hl21 : w.length ≤ 640 := by
        rw [← tl_len]
        have : (tl w).length ≤ (dgs (tl w)).length + 1 := by
          unfold dgs
          split
          · rw [List.length_drop]
            omega
          · omega
        omega
      have hb := back_iff hall hne
      have hbd : decide (w = Str.ofString (toString (valI (tl w)))) = canonB (tl w) := by
        rw [Bool.eq_iff_iff, decide_eq_true_eq]
        exact hb
      have hs := oStr_int (S := S) (valI_log hall h4')
      have hi2 := oInt_str (S := S) hi hl21
      have h3' : (dgs (tl w)).isEmpty = false := by simpa using h3
      rw [h5, h4, h3']
      rw [if_neg (by decide), sNil_run, Out.bind_next]
      simp only [sRet_run, eOp_run, eB_run, aCons_run, aNil_run, eVar_0, Res.bind_ok, hi2, hs, oEq_str, Res.go_ok]
      rw [hbd]
    · have hc : ((dgs (tl w)).isEmpty || (!decide ((dgs (tl w)).length ≤ 20) || !(dgs (tl w)).all dig)) = true := by
        revert hall
        cases (dgs (tl w)).isEmpty <;> cases decide ((dgs (tl w)).length ≤ 20) <;> cases (dgs (tl w)).all dig <;> simp
      rw [hc, if_pos rfl, Bool.eq_false_iff.mpr hall]
      rfl
  unfold F_is_integer semZ
  rw [if_pos (show [D.str w].length = 1 from rfl)]
  show trimR S.length (outR (f_is_integer [some (.str w), none, none] S)) = _
  rw [h2, outR_ret, trimR_ok rfl]

/-! what is due -/
def inB (a b : Int) (l : List Nat) : Bool := isI l && (decide (a ≤ valI l) && decide (valI l ≤ b))
def sgnS : Str := "abcdefghijklmnopqrstuvwxyz0123456789_-"
def allS (l : List Nat) : Bool := !l.isEmpty && l.all fun c => decide (c ∈ sgnS.cps.toList)
def duP (w : Str) : Nat → D
  | 0 => if inB (-1000000000000000000) 1000000000000000000 (tl w) = true then .int (valI (tl w)) else .non
  | 1 => if inB 0 1000000 (tl w) = true then .int (valI (tl w)) else .non
  | 2 => if inB (-5) 300 (tl w) = true then .int (valI (tl w)) else .non
  | 3 => if allS (tl w) = true then .str w else .non
  | _ => if (decide (w = ("A" : Str)) || decide (w = ("0" : Str))) = true then .str w else .non
theorem filter_len {l : List Nat} (p : Nat → Bool) : (((l.filter fun c => !p c).length : Int) = 0) ↔ l.all p = true := by
  rw [List.all_eq_true]
  constructor
  · intro h c hc
    have h0 : (l.filter fun c => !p c) = [] := List.length_eq_zero_iff.mp (by omega)
    have := List.filter_eq_nil_iff.mp h0 c hc
    simpa using this
  · intro h
    have h0 : (l.filter fun c => !p c) = [] := List.filter_eq_nil_iff.mpr fun c hc => by simp [h c hc]
    rw [h0]
    rfl
/-- a count of the signs that are not among z -/
theorem count_ok {S : Store} {ρ : Z.Env} {w z : Str} {ew ez : EE} {p : Nat → Bool} (hl : w.length ≤ 1000) (hw : ew ρ S = .ok (.str w) S) (h4 : ρ.length = 6) (hz : ∀ d, ez ((ρ.set 4 none).set 4 (some d)) S = .ok (.str z) S) (hp : ∀ c, decide (c ∈ z.cps.toList) = p c) :
    eOp oEq (eB oLen (aCons (eComp (iStrZ ew) (.nm 4) (eT (eOp oNotIn (eVar 4) ez)) (eVar 4) [4]) aNil)) (eC (.int 0)) ρ S = .ok (.bl ((tl w).all p)) S := by
  have e4 : ∀ d, eVar 4 ((ρ.set 4 none).set 4 (some d)) S = .ok d S := fun d => by
    unfold eVar
    rw [List.getElem?_set_self (by rw [List.length_set]; omega)]
  have hc : compL none (.nm 4) (eT (eOp oNotIn (eVar 4) ez)) (eVar 4) ((tl w).map sg) (ρ.set 4 none) S [] = .ok ([] ++ ((tl w).filter fun c => !p c).map sg) S := by
    refine compL_of (h := none) True.intro sg (fun c => !p c) sg (tl w) [] (fun c _ => ⟨(ρ.set 4 none).set 4 (some (sg c)), rfl, ?_, fun _ => e4 _⟩) (by rw [tl_len]; simp; omega)
    rw [eT_run, eOp_run, e4, Res.bind_ok, hz, Res.bind_ok, oNotIn_sign, Res.bind_ok, hp]
  simp only [eOp_run, eB_run, aCons_run, eComp_run, aComp_run, iStrZ_run, hw, Res.bind_ok, wipeZ_cons, wipeZ_nil, aNil_run, eC_run]
  show Res.bind (Res.bind (Res.bind (Res.bind (compL none _ _ _ ((tl w).map sg) _ S []) _) _) _) _ = _
  rw [hc, Res.bind_ok, Res.bind_ok, Res.bind_ok, oLen_lst, Res.bind_ok, oEq_int]
  congr 2
  rw [Bool.eq_iff_iff, decide_eq_true_eq, ← filter_len p, List.nil_append, List.length_map]
theorem due_head {S : Store} {w : Str} {k : Int} (hw : w.length ≤ 1000) {rest : SS} : (sSeq (sSet (.nm 2) (eVar 0)) (sSeq (sIf (eTru (eM isStr oStarts (eVar 0) (aCons (eC (.str "-")) aNil))) (sSet (.nm 2) (eSl (eVar 0) (pSome (eC (.int 1))) pNone)) sNil) rest)) [some (.str w), some (.int k), none, none, none, none] S =
    rest [some (.str w), some (.int k), some (.str (dgS w)), none, none, none] S := by
  unfold dgS
  cases hm : hd45 (tl w)
  · simp [starts_minus, hm]
  · simp [starts_minus, hm, show w.length ≤ 1000000 by omega]
theorem due_plain {S : Store} {w : Str} {k : Int} (hw : w.length ≤ 1000) {rest : SS} : (sSeq (sSet (.nm 3) (eAnd (eOp (oB fun i j => decide (j < i)) (eB oLen (aCons (eVar 2) aNil)) (eC (.int 0))) (eAnd (eOp (oB fun i j => decide (i < j)) (eB oLen (aCons (eVar 2) aNil)) (eC (.int 21))) (eOp oEq (eB oLen (aCons (eComp (iStrZ (eVar 2)) (.nm 4) (eT (eOp oNotIn (eVar 4) (eC (.str "0123456789")))) (eVar 4) [4]) aNil)) (eC (.int 0)))))) (sSeq (sSet (.nm 3) (eAnd (eVar 3) (eOr (eAnd (eOp oEq (eVar 2) (eC (.str "0"))) (eOp oEq (eVar 0) (eC (.str "0")))) (eOp oNe (eSl (eVar 2) pNone (pSome (eC (.int 1)))) (eC (.str "0")))))) rest)) [some (.str w), some (.int k), some (.str (dgS w)), none, none, none] S =
    rest [some (.str w), some (.int k), some (.str (dgS w)), some (.bl (isI (tl w))), none, none] S := by
  have hd := dgS_len w
  have hL : (dgS w).length ≤ 1000000 := by omega
  have hlen : ((dgS w).length : Int) = ((dgs (tl w)).length : Int) := by rw [← tl_len, tl_dgS]
  have hc : eOp oEq (eB oLen (aCons (eComp (iStrZ (eVar 2)) (.nm 4) (eT (eOp oNotIn (eVar 4) (eC (.str "0123456789")))) (eVar 4) [4]) aNil)) (eC (.int 0)) [some (.str w), some (.int k), some (.str (dgS w)), none, none, none] S = .ok (.bl ((dgs (tl w)).all dig)) S := by
    rw [← tl_dgS]
    exact count_ok (w := dgS w) (z := "0123456789") (by omega) (by rw [eVar_s, eVar_s, eVar_0]) rfl (fun d => rfl) dig_in
  have h1 : (eAnd (eOp (oB fun i j => decide (j < i)) (eB oLen (aCons (eVar 2) aNil)) (eC (.int 0))) (eAnd (eOp (oB fun i j => decide (i < j)) (eB oLen (aCons (eVar 2) aNil)) (eC (.int 21))) (eOp oEq (eB oLen (aCons (eComp (iStrZ (eVar 2)) (.nm 4) (eT (eOp oNotIn (eVar 4) (eC (.str "0123456789")))) (eVar 4) [4]) aNil)) (eC (.int 0))))) [some (.str w), some (.int k), some (.str (dgS w)), none, none, none] S =
      .ok (.bl (!(dgs (tl w)).isEmpty && (decide ((dgs (tl w)).length ≤ 20) && (dgs (tl w)).all dig))) S := by
    have a1 : eOp (oB fun i j => decide (j < i)) (eB oLen (aCons (eVar 2) aNil)) (eC (.int 0)) [some (.str w), some (.int k), some (.str (dgS w)), none, none, none] S = .ok (.bl (!(dgs (tl w)).isEmpty)) S := by
      simp only [eOp_run, eB_run, aCons_run, aNil_run, eVar_s, eVar_0, Res.bind_ok, oLen_str hL, eC_run, oB_run, hlen]
      congr 2
      cases dgs (tl w) with
      | nil => rfl
      | cons c r => exact decide_eq_true (by rw [List.length_cons]; omega)
    have a2 : eOp (oB fun i j => decide (i < j)) (eB oLen (aCons (eVar 2) aNil)) (eC (.int 21)) [some (.str w), some (.int k), some (.str (dgS w)), none, none, none] S = .ok (.bl (decide ((dgs (tl w)).length ≤ 20))) S := by
      simp only [eOp_run, eB_run, aCons_run, aNil_run, eVar_s, eVar_0, Res.bind_ok, oLen_str hL, eC_run, oB_run, hlen]
      congr 2
      rw [Bool.eq_iff_iff, decide_eq_true_eq, decide_eq_true_eq]
      omega
    exact eAnd_bl a1 fun _ => eAnd_bl a2 fun _ => hc
  have h2 : (eOr (eAnd (eOp oEq (eVar 2) (eC (.str "0"))) (eOp oEq (eVar 0) (eC (.str "0")))) (eOp oNe (eSl (eVar 2) pNone (pSome (eC (.int 1)))) (eC (.str "0")))) [some (.str w), some (.int k), some (.str (dgS w)), some (.bl (!(dgs (tl w)).isEmpty && (decide ((dgs (tl w)).length ≤ 20) && (dgs (tl w)).all dig))), none, none] S = .ok (.bl (canonB (tl w))) S := by
    have e0 : tl ("0" : Str) = [48] := by decide +kernel
    have b1 : decide (dgS w = ("0" : Str)) = decide (dgs (tl w) = [48]) := by
      rw [Bool.eq_iff_iff, decide_eq_true_eq, decide_eq_true_eq, ← tl_dgS]
      exact ⟨fun q => by rw [q]; exact e0, fun q => ext_tl (q.trans e0.symm)⟩
    have b2 : decide (w = ("0" : Str)) = decide (tl w = [48]) := by
      rw [Bool.eq_iff_iff, decide_eq_true_eq, decide_eq_true_eq]
      exact ⟨fun q => by rw [q]; exact e0, fun q => ext_tl (q.trans e0.symm)⟩
    have b3 : (!decide (cutS (dgS w) none (some 1) = ("0" : Str))) = decide ((dgs (tl w)).head? ≠ some 48) := by
      rw [Bool.eq_iff_iff, Bool.not_eq_true', decide_eq_false_iff_not, decide_eq_true_eq, ← tl_dgS]
      have : (cutS (dgS w) none (some 1) = ("0" : Str)) ↔ (tl (dgS w)).head? = some 48 := by
        constructor
        · intro q
          have z : (tl (dgS w)).take 1 = [48] := by rw [← tl_cutF, q]; exact e0
          cases hq : tl (dgS w) with
          | nil => rw [hq] at z; cases z
          | cons c r =>
            rw [hq] at z
            simpa using z
        · intro q
          refine ext_tl ?_
          rw [tl_cutF, e0]
          cases hq : tl (dgS w) with
          | nil => rw [hq] at q; cases q
          | cons c r =>
            rw [hq] at q
            simpa using q
      rw [this]
    have h3 : ∀ b : Bool, (eSl (eVar 2) pNone (pSome (eC (.int 1)))) [some (.str w), some (.int k), some (.str (dgS w)), some (.bl b), none, none] S = .ok (.str (cutS (dgS w) none (some 1))) S := fun b => by
      simp only [eSl_run, eVar_s, eVar_0, Res.bind_ok, pNone_run, pSome_run, eC_run, slZ_str hL, orNo_some]
    unfold canonB
    refine eOr_bl (eAnd_bl (b1 := decide (dgs (tl w) = [48])) (b2 := decide (tl w = [48])) ?_ fun _ => ?_) fun _ => ?_
    · rw [eOp_run, eVar_s, eVar_s, eVar_0, Res.bind_ok, eC_run, Res.bind_ok, oEq_str, b1]
    · rw [eOp_run, eVar_0, Res.bind_ok, eC_run, Res.bind_ok, oEq_str, b2]
    · rw [eOp_run, h3, Res.bind_ok, eC_run, Res.bind_ok, oNe_str, b3]
  rw [sSeq_run, sSet_run, h1, Res.go_ok, setT_nm, setN_some, Out.bind_next, sSeq_run, sSet_run]
  show Out.bind (Res.go (eAnd _ _ [some (.str w), some (.int k), some (.str (dgS w)), some (.bl (!(dgs (tl w)).isEmpty && (decide ((dgs (tl w)).length ≤ 20) && (dgs (tl w)).all dig))), none, none] S) _ _) _ = _
  rw [eAnd_bl (b1 := (!(dgs (tl w)).isEmpty && (decide ((dgs (tl w)).length ≤ 20) && (dgs (tl w)).all dig))) (b2 := canonB (tl w)) (by rw [eVar_s, eVar_s, eVar_s, eVar_0]) (fun _ => h2), Res.go_ok, setT_nm, setN_some, Out.bind_next]
  rfl
theorem due_tail {S : Store} {w : Str} {k : Nat} (hk : k < 5) (hw : w.length ≤ 1000) :
    (sSeq (sIf (eT (eOp oEq (eVar 1) (eC (.int 0)))) (sIf (qAnd (eTru (eVar 3)) (eT (eChain (oB fun i j => decide (i ≤ j)) (oB fun i j => decide (i ≤ j)) (eNeg (eC (.int 1000000000000000000))) (eB oInt (aCons (eVar 0) aNil)) (eC (.int 1000000000000000000))))) (sRet (eB oInt (aCons (eVar 0) aNil))) sNil) (sIf (eT (eOp oEq (eVar 1) (eC (.int 1)))) (sIf (qAnd (eTru (eVar 3)) (eT (eChain (oB fun i j => decide (i ≤ j)) (oB fun i j => decide (i ≤ j)) (eC (.int 0)) (eB oInt (aCons (eVar 0) aNil)) (eC (.int 1000000))))) (sRet (eB oInt (aCons (eVar 0) aNil))) sNil) (sIf (eT (eOp oEq (eVar 1) (eC (.int 2)))) (sIf (qAnd (eTru (eVar 3)) (eT (eChain (oB fun i j => decide (i ≤ j)) (oB fun i j => decide (i ≤ j)) (eNeg (eC (.int 5))) (eB oInt (aCons (eVar 0) aNil)) (eC (.int 300))))) (sRet (eB oInt (aCons (eVar 0) aNil))) sNil) (sIf (eT (eOp oEq (eVar 1) (eC (.int 3)))) (sSeq (sSet (.nm 5) (eC (.str "abcdefghijklmnopqrstuvwxyz0123456789_-"))) (sIf (qAnd (eT (eOp (oB fun i j => decide (j < i)) (eB oLen (aCons (eVar 0) aNil)) (eC (.int 0)))) (eT (eOp oEq (eB oLen (aCons (eComp (iStrZ (eVar 0)) (.nm 4) (eT (eOp oNotIn (eVar 4) (eVar 5))) (eVar 4) [4]) aNil)) (eC (.int 0))))) (sRet (eVar 0)) sNil)) (sIf (qOr (eT (eOp oEq (eVar 0) (eC (.str "A")))) (eT (eOp oEq (eVar 0) (eC (.str "0"))))) (sRet (eVar 0)) sNil))))) (sRet (eC .non)))
      [some (.str w), some (.int (k : Int)), some (.str (dgS w)), some (.bl (isI (tl w))), none, none] S = .ret (duP w k) S := by
  have hi : isI (tl w) = true → oInt [.str w] S = .ok (.int (valI (tl w))) S := fun h => by
    unfold isI at h
    simp only [Bool.and_eq_true, decide_eq_true_eq] at h
    obtain ⟨⟨h3, h4, h5⟩, _⟩ := h
    have hne : dgs (tl w) ≠ [] := fun q => by
      rw [q] at h3
      cases h3
    refine oInt_str (intText_dg (all_dig h5) hne (by omega)) ?_
    rw [← tl_len]
    have : (tl w).length ≤ (dgs (tl w)).length + 1 := by
      unfold dgs
      split
      · rw [List.length_drop]
        omega
      · omega
    omega
  have hin : ∀ (a b : Int) (ea eb : EE) (ρ : Z.Env), ρ = [some (.str w), some (.int (k : Int)), some (.str (dgS w)), some (.bl (isI (tl w))), none, none] → ea ρ S = .ok (.int a) S → eb ρ S = .ok (.int b) S →
      (sIf (qAnd (eTru (eVar 3)) (eT (eChain (oB fun i j => decide (i ≤ j)) (oB fun i j => decide (i ≤ j)) ea (eB oInt (aCons (eVar 0) aNil)) eb))) (sRet (eB oInt (aCons (eVar 0) aNil))) sNil) ρ S = if inB a b (tl w) = true then .ret (.int (valI (tl w))) S else .next ρ S := by
    intro a b ea eb ρ hρ h1 h2
    have h0 : ∀ hb : isI (tl w) = true, eB oInt (aCons (eVar 0) aNil) ρ S = .ok (.int (valI (tl w))) S := fun hb => by
      rw [hρ, eB_run, aCons_run, eVar_0, Res.bind_ok, aNil_run, Res.bind_ok, Res.bind_ok, hi hb]
    have hc : qAnd (eTru (eVar 3)) (eT (eChain (oB fun i j => decide (i ≤ j)) (oB fun i j => decide (i ≤ j)) ea (eB oInt (aCons (eVar 0) aNil)) eb)) ρ S = .ok (inB a b (tl w)) S := by
      refine qAnd_of (eTru_of ?_) fun hb => eT_of (eChain_bl h1 (h0 hb) h2 rfl rfl)
      rw [hρ, eVar_s, eVar_s, eVar_s, eVar_0]
    rw [sIf_of hc]
    cases hb : inB a b (tl w)
    · rfl
    · have : isI (tl w) = true := by
        unfold inB at hb
        exact (Bool.and_eq_true_iff.mp hb).1
      rw [if_pos rfl, sRet_run, h0 this]
      rfl
  have hlen : (w.length : Int) = ((tl w).length : Int) := by rw [← tl_len]
  have hL : w.length ≤ 1000000 := by omega
  have kT : ∀ j : Int, eT (eOp oEq (eVar 1) (eC (.int j))) [some (.str w), some (.int (k : Int)), some (.str (dgS w)), some (.bl (isI (tl w))), none, none] S = .ok (decide ((k : Int) = j)) S := fun j => by
    rw [eT_run, eOp_run, eVar_s, eVar_0, Res.bind_ok, eC_run, Res.bind_ok, oEq_int, Res.bind_ok]
  match k, hk, hin, kT with
  | 0, _, hin, kT =>
    rw [sSeq_run, sIf_of (kT 0), if_pos (by decide), hin _ _ _ _ _ rfl (by rw [eNeg_run, eC_run, Res.bind_ok]) rfl]
    rw [show duP w 0 = (if inB (-1000000000000000000) 1000000000000000000 (tl w) = true then .int (valI (tl w)) else .non) from rfl]
    cases inB (-1000000000000000000) 1000000000000000000 (tl w) <;> rfl
  | 1, _, hin, kT =>
    rw [sSeq_run, sIf_of (kT 0), if_neg (by decide), sIf_of (kT 1), if_pos (by decide), hin _ _ _ _ _ rfl rfl rfl]
    rw [show duP w 1 = (if inB 0 1000000 (tl w) = true then .int (valI (tl w)) else .non) from rfl]
    cases inB 0 1000000 (tl w) <;> rfl
  | 2, _, hin, kT =>
    rw [sSeq_run, sIf_of (kT 0), if_neg (by decide), sIf_of (kT 1), if_neg (by decide), sIf_of (kT 2), if_pos (by decide), hin _ _ _ _ _ rfl (by rw [eNeg_run, eC_run, Res.bind_ok]) rfl]
    rw [show duP w 2 = (if inB (-5) 300 (tl w) = true then .int (valI (tl w)) else .non) from rfl]
    cases inB (-5) 300 (tl w) <;> rfl
  | 3, _, hin, kT =>
    rw [sSeq_run, sIf_of (kT 0), if_neg (by decide), sIf_of (kT 1), if_neg (by decide), sIf_of (kT 2), if_neg (by decide), sIf_of (kT 3), if_pos (by decide), sSeq_run, sSet_run, eC_run, Res.go_ok, setT_nm, setN_some, Out.bind_next]
    show Out.bind (sIf _ _ _ [some (.str w), some (.int ((3 : Nat) : Int)), some (.str (dgS w)), some (.bl (isI (tl w))), none, some (.str sgnS)] S) _ = _
    have hc : qAnd (eT (eOp (oB fun i j => decide (j < i)) (eB oLen (aCons (eVar 0) aNil)) (eC (.int 0)))) (eT (eOp oEq (eB oLen (aCons (eComp (iStrZ (eVar 0)) (.nm 4) (eT (eOp oNotIn (eVar 4) (eVar 5))) (eVar 4) [4]) aNil)) (eC (.int 0)))) [some (.str w), some (.int ((3 : Nat) : Int)), some (.str (dgS w)), some (.bl (isI (tl w))), none, some (.str sgnS)] S = .ok (allS (tl w)) S := by
      refine qAnd_of (b1 := !(tl w).isEmpty) (eT_of ?_) fun _ => eT_of (count_ok (w := w) (z := sgnS) hw (by rw [eVar_0]) rfl (fun d => rfl) fun c => rfl)
      simp only [eOp_run, eB_run, aCons_run, aNil_run, eVar_0, Res.bind_ok, oLen_str hL, eC_run, oB_run, hlen]
      congr 2
      cases tl w with
      | nil => rfl
      | cons c r => exact decide_eq_true (by rw [List.length_cons]; omega)
    rw [sIf_of hc]
    rw [show duP w 3 = (if allS (tl w) = true then .str w else .non) from rfl]
    cases allS (tl w) <;> rfl
  | 4, _, hin, kT =>
    rw [sSeq_run, sIf_of (kT 0), if_neg (by decide), sIf_of (kT 1), if_neg (by decide), sIf_of (kT 2), if_neg (by decide), sIf_of (kT 3), if_neg (by decide)]
    rw [sIf_of (qOr_of (b1 := decide (w = ("A" : Str))) (b2 := decide (w = ("0" : Str))) (by rw [eT_run, eOp_run, eVar_0, Res.bind_ok, eC_run, Res.bind_ok, oEq_str, Res.bind_ok]) fun _ => by rw [eT_run, eOp_run, eVar_0, Res.bind_ok, eC_run, Res.bind_ok, oEq_str, Res.bind_ok])]
    rw [show duP w 4 = (if (decide (w = ("A" : Str)) || decide (w = ("0" : Str))) = true then .str w else .non) from rfl]
    cases (decide (w = ("A" : Str)) || decide (w = ("0" : Str))) <;> rfl
theorem due_ok {S : Store} {w : Str} {k : Nat} (hk : k < 5) (hw : w.length ≤ 1000) : F__law_due [.str w, .int (k : Int)] S = .ok (duP w k) S := by
  have h : f__law_due [some (.str w), some (.int (k : Int)), none, none, none, none] S = .ret (duP w k) S := by
    unfold f__law_due
    rw [due_head hw, due_plain hw, due_tail hk hw]
  unfold F__law_due semZ
  rw [if_pos (show [D.str w, D.int (k : Int)].length = 2 from rfl)]
  show trimR S.length (outR (f__law_due [some (.str w), some (.int (k : Int)), none, none, none, none] S)) = _
  rw [h, outR_ret, trimR_ok rfl]

/-! the reader's methods -/
theorem meth_at {S : Store} {k c : Nat} {cs : List D} {M : MT} {fo : EE} {ka : AA} {ρ : Z.Env} (h : S[k]? = some (some (.obj c cs))) (e0 : fo ρ S = .ok (.ref k) S) : eMeth [(c, M)] fo ka ρ S = (ka ρ S).bind fun ds S2 => M.F (.ref k :: (ds ++ M.dd)) S2 := by
  rw [eMeth_run, e0, Res.bind_ok, objOf_ref, h]
  dsimp only
  rw [orNo_some, lookup_one, orNo_some]
theorem fld_at {S : Store} {k c i : Nat} {cs : List D} {d : D} {fo : EE} {ρ : Z.Env} (h : S[k]? = some (some (.obj c cs))) (e0 : fo ρ S = .ok (.ref k) S) (hd : cs[i]? = some d) : eFld [(c, i)] fo ρ S = .ok d S := by
  rw [eFld_run, e0, Res.bind_ok, objOf_ref, h]
  dsimp only
  rw [orNo_some, lookup_one, orNo_some, hd, orNo_some]
/-- the place goes on by one -/
def Sn (S : Store) (k : Nat) (ws : List D) (i : Int) : Store := S.set k (some (.obj 2 [.lst ws, .int (i + 1)]))
theorem Sn_len {S : Store} {k : Nat} {ws : List D} {i : Int} : (Sn S k ws i).length = S.length := List.length_set
theorem Sn_wd {S : Store} {k : Nat} {ws : List D} {i : Int} (h : Wd S k ws i) : Wd (Sn S k ws i) k ws (i + 1) := by
  unfold Wd Sn
  rw [List.getElem?_set_self (List.getElem?_eq_some_iff.mp h).1]
theorem step_ok {S : Store} {k : Nat} {ws : List D} {i : Int} {ρ : Z.Env} (h : Wd S k ws i) (e0 : ∀ S, eVar 0 ρ S = .ok (.ref k) S) : (sFldAugZ 2 1 (oI fun i j => i + j) (eVar 0) (eC (.int 1))) ρ S = .next ρ (Sn S k ws i) := by
  rw [sFldAugZ_run, e0, Res.bind_ok, objOf_ref, h]
  dsimp only
  rw [orNo_some, if_pos rfl]
  rw [show ((2, [D.lst ws, D.int i]) : Nat × List D).2[1]? = some (D.int i) from rfl, orNo_some, eC_run, Res.bind_ok, oI_run, Res.bind_ok]
  have e : oPut 2 1 (.ref k) (.int (i + 1)) S = some (Sn S k ws i) := by
    unfold oPut
    dsimp only
    rw [h]
    rfl
  rw [e, orNo_some, Res.go_ok]
theorem peek_m {S : Store} {k j : Nat} {ws : List D} {d : D} {ρ : Z.Env} (h : Wd S k ws j) (hd : ws[j]? = some d) (e0 : ∀ S, eVar 0 ρ S = .ok (.ref k) S) : eMeth [(2, { F := F_Words_peek, dd := [] })] (eVar 0) aNil ρ S = .ok d S := by
  rw [meth_at h (e0 S), aNil_run, Res.bind_ok]
  exact peek_at h hd
theorem peek_x {S : Store} {k : Nat} {ws : List D} {i : Int} {ρ : Z.Env} (h : Wd S k ws i) (hi : i = ws.length) (e0 : ∀ S, eVar 0 ρ S = .ok (.ref k) S) : eMeth [(2, { F := F_Words_peek, dd := [] })] (eVar 0) aNil ρ S = .ex ⟨1, [.int i]⟩ S := by
  rw [meth_at h (e0 S), aNil_run, Res.bind_ok]
  exact peek_end h hi
theorem check_m {S : Store} {k : Nat} {ws : List D} {i : Int} {b : Bool} {ρ : Z.Env} {fa : EE} (h : Wd S k ws i) (ha : fa ρ S = .ok (.bl b) S) (e0 : ∀ S, eVar 0 ρ S = .ok (.ref k) S) : eMeth [(2, { F := F_Words_check, dd := [] })] (eVar 0) (aCons fa aNil) ρ S = if b = true then .ok .non S else .ex ⟨1, [.int i]⟩ S := by
  rw [meth_at h (e0 S), aCons_run, ha, Res.bind_ok, aNil_run, Res.bind_ok, Res.bind_ok]
  exact check_ok h
theorem int_of {S : Store} {w : Str} (hw : w.length ≤ 1000) (h : isI (tl w) = true) : oInt [.str w] S = .ok (.int (valI (tl w))) S := by
  unfold isI at h
  simp only [Bool.and_eq_true, decide_eq_true_eq] at h
  obtain ⟨⟨h3, h4, h5⟩, _⟩ := h
  have hne : dgs (tl w) ≠ [] := fun q => by
    rw [q] at h3
    cases h3
  refine oInt_str (intText_dg (all_dig h5) hne (by omega)) ?_
  rw [← tl_len]
  have : (tl w).length ≤ (dgs (tl w)).length + 1 := by
    unfold dgs
    split
    · rw [List.length_drop]
      omega
    · omega
  omega
theorem number_ok {S : Store} {k j : Nat} {ws : List D} {w : Str} {lo hi : Int} (h : Wd S k ws j) (hd : ws[j]? = some (.str w)) (hw : w.length ≤ 1000) :
    F_Words_number [.ref k, .int lo, .int hi] S = if inB lo hi (tl w) = true then .ok (.int (valI (tl w))) (Sn S k ws j) else .ex ⟨1, [.int j]⟩ S := by
  have hf : f_Words_number [some (.ref k), some (.int lo), some (.int hi), none] S = if inB lo hi (tl w) = true then .ret (.int (valI (tl w))) (Sn S k ws j) else .ex ⟨1, [.int j]⟩ [some (.ref k), some (.int lo), some (.int hi), some (.str w)] S := by
    unfold f_Words_number
    rw [sSeq_run, sSet_run, peek_m h hd (fun _ => by rw [eVar_0]), Res.go_ok, setT_nm, setN_some, Out.bind_next, sSeq_run]
    show Out.bind (sExpr _ [some (.ref k), some (.int lo), some (.int hi), some (.str w)] S) _ = _
    have h0 : isI (tl w) = true → eB oInt (aCons (eVar 3) aNil) [some (.ref k), some (.int lo), some (.int hi), some (.str w)] S = .ok (.int (valI (tl w))) S := fun hb => by
      rw [eB_run, aCons_run, eVar_s, eVar_s, eVar_s, eVar_0, Res.bind_ok, aNil_run, Res.bind_ok, Res.bind_ok, int_of hw hb]
    rw [sExpr_run, check_m (b := inB lo hi (tl w)) h (eAnd_bl (b1 := isI (tl w)) (by
      rw [eCall_run, aCons_run, eVar_s, eVar_s, eVar_s, eVar_0, Res.bind_ok, aNil_run, Res.bind_ok, Res.bind_ok]
      exact is_integer_ok hw) fun hb => eChain_bl (by rw [eVar_s, eVar_0]) (h0 hb) (by rw [eVar_s, eVar_s, eVar_0]) (oB_run) (oB_run)) (fun _ => by rw [eVar_0])]
    cases hb : inB lo hi (tl w)
    · rfl
    · have hI : isI (tl w) = true := by
        unfold inB at hb
        exact (Bool.and_eq_true_iff.mp hb).1
      rw [if_pos rfl, if_pos rfl, Res.go_ok, Out.bind_next, sSeq_run, step_ok h (fun _ => by rw [eVar_0]), Out.bind_next, sRet_run, eB_run, aCons_run, eVar_s, eVar_s, eVar_s, eVar_0, Res.bind_ok, aNil_run, Res.bind_ok, Res.bind_ok, int_of hw hI, Res.go_ok]
  unfold F_Words_number semZ
  rw [if_pos (show [D.ref k, D.int lo, D.int hi].length = 3 from rfl)]
  show trimR S.length (outR (f_Words_number [some (.ref k), some (.int lo), some (.int hi), none] S)) = _
  rw [hf]
  cases inB lo hi (tl w)
  · exact trimR_ex rfl
  · exact trimR_ok Sn_len
theorem number_x {S : Store} {k : Nat} {ws : List D} {i lo hi : Int} (h : Wd S k ws i) (hi' : i = ws.length) : F_Words_number [.ref k, .int lo, .int hi] S = .ex ⟨1, [.int i]⟩ S := by
  have hf : f_Words_number [some (.ref k), some (.int lo), some (.int hi), none] S = .ex ⟨1, [.int i]⟩ [some (.ref k), some (.int lo), some (.int hi), none] S := by
    unfold f_Words_number
    rw [sSeq_run, sSet_run, peek_x h hi' (fun _ => by rw [eVar_0]), Res.go_ex, Out.bind_ex]
  unfold F_Words_number semZ
  rw [if_pos (show [D.ref k, D.int lo, D.int hi].length = 3 from rfl)]
  show trimR S.length (outR (f_Words_number [some (.ref k), some (.int lo), some (.int hi), none] S)) = _
  rw [hf]
  exact trimR_ex rfl
theorem length_eq {S : Store} {k : Nat} {ws : List D} {i : Int} (h : Wd S k ws i) {r : Res D} (hr : F_Words_number [.ref k, .int 0, .int 1000000] S = r) (ht : (∃ d S', r = .ok d S' ∧ S'.length = S.length) ∨ ∃ x, r = .ex x S) : F_Words_length [.ref k] S = r := by
  have hf : eMeth [(2, { F := F_Words_number, dd := [] })] (eVar 0) (aCons (eC (.int 0)) (aCons (eC c_MOST_COUNT) aNil)) [some (.ref k)] S = r := by
    rw [meth_at h (by rw [eVar_0]), aCons_run, eC_run, Res.bind_ok, aCons_run, eC_run, Res.bind_ok, aNil_run, Res.bind_ok, Res.bind_ok, Res.bind_ok]
    exact hr
  unfold F_Words_length semZ
  rw [if_pos (show [D.ref k].length = 1 from rfl)]
  show trimR S.length (outR (f_Words_length [some (.ref k)] S)) = _
  unfold f_Words_length
  rw [sRet_run, hf]
  rcases ht with ⟨d, S', rfl, hl⟩ | ⟨x, rfl⟩
  · rw [Res.go_ok, outR_ret]
    exact trimR_ok hl
  · rw [Res.go_ex, outR_ex]
    exact trimR_ex rfl
/-! names -/
def isN (l : List Nat) : Bool := (decide (1 ≤ (l.length : Int)) && decide ((l.length : Int) ≤ 64)) && l.all fun c => decide (c ∈ sgnS.cps.toList)
theorem is_name_ok {S : Store} {w : Str} (hw : w.length ≤ 1000) : F_is_name [.str w] S = .ok (.bl (isN (tl w))) S := by
  have hL : w.length ≤ 1000000 := by omega
  have hlen : (w.length : Int) = ((tl w).length : Int) := by rw [← tl_len]
  have hc : compL none (.nm 1) qYes (eOp oIn (eVar 1) (eC c_SIGNS)) ((tl w).map sg) [some (.str w), none] S [] = .ok ([] ++ (tl w).map fun c => .bl (decide (c ∈ sgnS.cps.toList))) S := by
    refine compL_all (h := none) True.intro sg (fun c => .bl (decide (c ∈ sgnS.cps.toList))) (tl w) [] (fun c _ => ⟨[some (.str w), some (sg c)], rfl, ?_⟩) (by rw [tl_len]; simp; omega)
    rw [eOp_run, eVar_s, eVar_0, Res.bind_ok, eC_run, Res.bind_ok]
    exact oIn_sign
  have ha : eB (oL fun xs => (blsOf xs).map fun ns => .bl (ns.all id)) (aCons (eComp (iStrZ (eVar 0)) (.nm 1) qYes (eOp oIn (eVar 1) (eC c_SIGNS)) [1]) aNil) [some (.str w), none] S = .ok (.bl ((tl w).all fun c => decide (c ∈ sgnS.cps.toList))) S := by
    simp only [eB_run, aCons_run, eComp_run, aComp_run, iStrZ_run, eVar_s, eVar_0, Res.bind_ok, wipeZ_cons, wipeZ_nil, aNil_run, List.set_cons_succ, List.set_cons_zero]
    show Res.bind (Res.bind (Res.bind (compL none _ _ _ ((tl w).map sg) _ S []) _) _) _ = _
    rw [hc, Res.bind_ok, Res.bind_ok, Res.bind_ok]
    refine oL_of ?_
    rw [List.nil_append, blsOf_map]
    simp
  have hf : f_is_name [some (.str w), none] S = .ret (.bl (isN (tl w))) S := by
    unfold f_is_name
    rw [sRet_run, eAnd_bl (b1 := decide (1 ≤ ((tl w).length : Int)) && decide (((tl w).length : Int) ≤ 64)) (eChain_bl (y := .int ((tl w).length : Int)) (by rw [eC_run]) (by rw [eB_run, aCons_run, eVar_0, Res.bind_ok, aNil_run, Res.bind_ok, Res.bind_ok, oLen_str hL, hlen]) (by rw [eC_run]) oB_run oB_run) (fun _ => ha), Res.go_ok]
    rfl
  unfold F_is_name semZ
  rw [if_pos (show [D.str w].length = 1 from rfl)]
  show trimR S.length (outR (f_is_name [some (.str w), none] S)) = _
  rw [hf, outR_ret, trimR_ok rfl]
theorem isN_allS {l : List Nat} (h : l.length ≤ 64) : isN l = allS l := by
  unfold isN allS
  have e2 : decide ((l.length : Int) ≤ 64) = true := decide_eq_true (by omega)
  rw [e2, Bool.and_true]
  congr 1
  cases l with
  | nil => rfl
  | cons c r => exact decide_eq_true (by rw [List.length_cons]; omega)
theorem name_ok {S : Store} {k j : Nat} {ws : List D} {w : Str} (h : Wd S k ws j) (hd : ws[j]? = some (.str w)) (hw : w.length ≤ 64) :
    F_Words_name [.ref k] S = if allS (tl w) = true then .ok (.str w) (Sn S k ws j) else .ex ⟨1, [.int j]⟩ S := by
  have hf : f_Words_name [some (.ref k), none] S = if allS (tl w) = true then .ret (.str w) (Sn S k ws j) else .ex ⟨1, [.int j]⟩ [some (.ref k), some (.str w)] S := by
    unfold f_Words_name
    rw [sSeq_run, sSet_run, peek_m h hd (fun _ => by rw [eVar_0]), Res.go_ok, setT_nm, setN_some, Out.bind_next, sSeq_run]
    show Out.bind (sExpr _ [some (.ref k), some (.str w)] S) _ = _
    rw [sExpr_run, check_m (b := allS (tl w)) h (by
      rw [eCall_run, aCons_run, eVar_s, eVar_0, Res.bind_ok, aNil_run, Res.bind_ok, Res.bind_ok, ← isN_allS (by rw [tl_len]; exact hw)]
      exact is_name_ok (by omega)) (fun _ => by rw [eVar_0])]
    cases hb : allS (tl w)
    · rfl
    · rw [if_pos rfl, if_pos rfl, Res.go_ok, Out.bind_next, sSeq_run, step_ok h (fun _ => by rw [eVar_0]), Out.bind_next, sRet_run, eVar_s, eVar_0, Res.go_ok]
  unfold F_Words_name semZ
  rw [if_pos (show [D.ref k].length = 1 from rfl)]
  show trimR S.length (outR (f_Words_name [some (.ref k), none] S)) = _
  rw [hf]
  cases allS (tl w)
  · exact trimR_ex rfl
  · exact trimR_ok Sn_len
theorem nameW_x {S : Store} {k : Nat} {ws : List D} {i : Int} (h : Wd S k ws i) (hi' : i = ws.length) : F_Words_name [.ref k] S = .ex ⟨1, [.int i]⟩ S := by
  have hf : f_Words_name [some (.ref k), none] S = .ex ⟨1, [.int i]⟩ [some (.ref k), none] S := by
    unfold f_Words_name
    rw [sSeq_run, sSet_run, peek_x h hi' (fun _ => by rw [eVar_0]), Res.go_ex, Out.bind_ex]
  unfold F_Words_name semZ
  rw [if_pos (show [D.ref k].length = 1 from rfl)]
  show trimR S.length (outR (f_Words_name [some (.ref k), none] S)) = _
  rw [hf]
  exact trimR_ex rfl
def A0 : D := .tup [.str "A", .str "0"]
theorem word_ok {S : Store} {k j : Nat} {ws : List D} {w : Str} (h : Wd S k ws j) (hd : ws[j]? = some (.str w)) :
    F_Words_word [.ref k, A0] S = if (decide (w = ("A" : Str)) || decide (w = ("0" : Str))) = true then .ok (.str w) (Sn S k ws j) else .ex ⟨1, [.int j]⟩ S := by
  have hin : oIn (.str w) A0 S = .ok (.bl (decide (w = ("A" : Str)) || decide (w = ("0" : Str)))) S := by
    have e : inZ S (.str w) A0 = some (decide (w = ("A" : Str)) || decide (w = ("0" : Str))) := by
      unfold inZ
      split
      · rename_i z1 z2
        cases z2
      · have e1 : seqOf S A0 = some [.str "A", .str "0"] := rfl
        rw [e1]
        dsimp only
        rw [if_pos ⟨rfl, rfl⟩]
        congr 1
        show ((("A" : Str) == w) || ((("0" : Str) == w) || false)) = _
        rw [Bool.or_false]
        congr 1
        · rw [Bool.eq_iff_iff, beq_iff_eq, decide_eq_true_eq]
          exact ⟨fun q => q.symm, fun q => q.symm⟩
        · rw [Bool.eq_iff_iff, beq_iff_eq, decide_eq_true_eq]
          exact ⟨fun q => q.symm, fun q => q.symm⟩
    unfold oIn
    rw [e]
  have hf : f_Words_word [some (.ref k), some A0, none] S = if (decide (w = ("A" : Str)) || decide (w = ("0" : Str))) = true then .ret (.str w) (Sn S k ws j) else .ex ⟨1, [.int j]⟩ [some (.ref k), some A0, some (.str w)] S := by
    unfold f_Words_word
    rw [sSeq_run, sSet_run, peek_m h hd (fun _ => by rw [eVar_0]), Res.go_ok, setT_nm, setN_some, Out.bind_next, sSeq_run]
    show Out.bind (sExpr _ [some (.ref k), some A0, some (.str w)] S) _ = _
    rw [sExpr_run, check_m (b := decide (w = ("A" : Str)) || decide (w = ("0" : Str))) h (by
      rw [eOp_run, eVar_s, eVar_s, eVar_0, Res.bind_ok, eVar_s, eVar_0, Res.bind_ok]
      exact hin) (fun _ => by rw [eVar_0])]
    cases hb : (decide (w = ("A" : Str)) || decide (w = ("0" : Str)))
    · rfl
    · rw [if_pos rfl, if_pos rfl, Res.go_ok, Out.bind_next, sSeq_run, step_ok h (fun _ => by rw [eVar_0]), Out.bind_next, sRet_run, eVar_s, eVar_s, eVar_0, Res.go_ok]
  unfold F_Words_word semZ
  rw [if_pos (show [D.ref k, A0].length = 2 from rfl)]
  show trimR S.length (outR (f_Words_word [some (.ref k), some A0, none] S)) = _
  rw [hf]
  cases (decide (w = ("A" : Str)) || decide (w = ("0" : Str)))
  · exact trimR_ex rfl
  · exact trimR_ok Sn_len
theorem word_x {S : Store} {k : Nat} {ws : List D} {i : Int} (h : Wd S k ws i) (hi' : i = ws.length) : F_Words_word [.ref k, A0] S = .ex ⟨1, [.int i]⟩ S := by
  have hf : f_Words_word [some (.ref k), some A0, none] S = .ex ⟨1, [.int i]⟩ [some (.ref k), some A0, none] S := by
    unfold f_Words_word
    rw [sSeq_run, sSet_run, peek_x h hi' (fun _ => by rw [eVar_0]), Res.go_ex, Out.bind_ex]
  unfold F_Words_word semZ
  rw [if_pos (show [D.ref k, A0].length = 2 from rfl)]
  show trimR S.length (outR (f_Words_word [some (.ref k), some A0, none] S)) = _
  rw [hf]
  exact trimR_ex rfl

/-! one reading -/
def duB (w : Str) : Nat → Bool
  | 0 => inB (-1000000000000000000) 1000000000000000000 (tl w)
  | 1 => inB 0 1000000 (tl w)
  | 2 => inB (-5) 300 (tl w)
  | 3 => allS (tl w)
  | _ => decide (w = ("A" : Str)) || decide (w = ("0" : Str))
def duV (w : Str) : Nat → D
  | 0 => .int (valI (tl w))
  | 1 => .int (valI (tl w))
  | 2 => .int (valI (tl w))
  | _ => .str w
theorem duP_eq (w : Str) {k : Nat} (hk : k < 5) : duP w k = if duB w k = true then duV w k else .non := by
  match k, hk with
  | 0, _ => rfl
  | 1, _ => rfl
  | 2, _ => rfl
  | 3, _ => rfl
  | 4, _ => rfl
noncomputable def rdBody : SS := (sSeq (sIf (eT (eOp oEq (eVar 1) (eC (.int 0)))) (sRet (eMeth [(2, { F := F_Words_number, dd := [.int (-1000000000000000000), .int 1000000000000000000] })] (eVar 0) aNil)) sNil) (sSeq (sIf (eT (eOp oEq (eVar 1) (eC (.int 1)))) (sRet (eMeth [(2, { F := F_Words_length, dd := [] })] (eVar 0) aNil)) sNil) (sSeq (sIf (eT (eOp oEq (eVar 1) (eC (.int 2)))) (sRet (eMeth [(2, { F := F_Words_number, dd := [] })] (eVar 0) (aCons (eNeg (eC (.int 5))) (aCons (eC (.int 300)) aNil)))) sNil) (sSeq (sIf (eT (eOp oEq (eVar 1) (eC (.int 3)))) (sRet (eMeth [(2, { F := F_Words_name, dd := [] })] (eVar 0) aNil)) sNil) (sRet (eMeth [(2, { F := F_Words_word, dd := [] })] (eVar 0) (aCons (eTup (aCons (eC (.str "A")) (aCons (eC (.str "0")) aNil))) aNil)))))))
noncomputable def rdHand : HH := fun ad d c => (sSeq (sIf (qAnd (eTru (eIsX (ad, d, c) 2 [(0, false), (1, true)])) (qAnd (eTru (eIsX (ad, d, c) 2 [(0, true), (1, true)])) (eT (eOp oEq (eXFc 1 (ad, d, c) 2 0) (eFld [(2, 1)] (eVar 0)))))) (sRet (eC .non)) sNil) (sRet (eTup (aCons (eC (.str "refused")) aNil))))
theorem f_read_eq : f__law_read = sTryAs [(0, true), (1, true)] 2 rdBody rdHand := rfl
theorem hand_ok {S : Store} {k : Nat} {ws : List D} {i : Int} {q : D} (h : Wd S k ws i) (ad : Addr) (d : Option Addr) : rdHand ad d 1 [some (.ref k), some q, some (.exn ad d 1 [.int i])] S = .ret .non S := by
  have e0 : eVar 0 [some (.ref k), some q, some (.exn ad d 1 [.int i])] S = .ok (.ref k) S := by rw [eVar_0]
  have hx : ∀ t : List (Nat × Bool), t.lookup 1 = some true → eIsX (ad, d, 1) 2 t [some (.ref k), some q, some (.exn ad d 1 [.int i])] S = .ok (.bl true) S := fun t ht => by
    unfold eIsX
    show (if (ad, d, 1) = (ad, d, 1) then _ else _) = _
    rw [if_pos rfl, ht]
  have hf : eXFc 1 (ad, d, 1) 2 0 [some (.ref k), some q, some (.exn ad d 1 [.int i])] S = .ok (.int i) S := by
    unfold eXFc
    rw [if_pos rfl]
    unfold eXF
    show (if (ad, d, 1) = (ad, d, 1) then _ else _) = _
    rw [if_pos rfl]
    rfl
  unfold rdHand
  have hc : qAnd (eTru (eIsX (ad, d, 1) 2 [(0, false), (1, true)])) (qAnd (eTru (eIsX (ad, d, 1) 2 [(0, true), (1, true)])) (eT (eOp oEq (eXFc 1 (ad, d, 1) 2 0) (eFld [(2, 1)] (eVar 0))))) [some (.ref k), some q, some (.exn ad d 1 [.int i])] S = .ok (true && (true && true)) S := by
    refine qAnd_of (eTru_of (hx _ rfl)) fun _ => qAnd_of (eTru_of (hx _ rfl)) fun _ => eT_of ?_
    rw [eOp_run, hf, Res.bind_ok, fld_at h e0 rfl, Res.bind_ok, oEq_int, decide_eq_true rfl]
  rw [sSeq_run, sIf_of hc]
  rfl
theorem try_x {S : Store} {k : Nat} {ws : List D} {i : Int} {q : D} (h : Wd S k ws i) (hb : rdBody [some (.ref k), some q, none] S = .ex ⟨1, [.int i]⟩ [some (.ref k), some q, none] S) : F__law_read [.ref k, q] S = .ok .non S := by
  have hf : f__law_read [some (.ref k), some q, none] S = .ret .non S := by
    rw [f_read_eq]
    unfold sTryAs
    rw [hb]
    show hdl 2 rdHand ⟨1, [.int i]⟩ [some (.ref k), some q, none] S = _
    unfold hdl
    refine (if_pos (fun ad d => (hand_ok (q := q) h ad d).trans (hand_ok (q := q) h 0 none).symm)).trans ?_
    show offI 2 (rdHand 0 none 1 [some (.ref k), some q, some (.exn 0 none 1 [.int i])] S) = _
    rw [hand_ok h]
    rfl
  unfold F__law_read semZ
  rw [if_pos (show [D.ref k, q].length = 2 from rfl)]
  show trimR S.length (outR (f__law_read [some (.ref k), some q, none] S)) = _
  rw [hf, outR_ret, trimR_ok rfl]
theorem try_r {S S' : Store} {k : Nat} {q v : D} (hl : S'.length = S.length) (hb : rdBody [some (.ref k), some q, none] S = .ret v S') : F__law_read [.ref k, q] S = .ok v S' := by
  have hf : f__law_read [some (.ref k), some q, none] S = .ret v S' := by
    rw [f_read_eq]
    unfold sTryAs
    rw [hb]
  unfold F__law_read semZ
  rw [if_pos (show [D.ref k, q].length = 2 from rfl)]
  show trimR S.length (outR (f__law_read [some (.ref k), some q, none] S)) = _
  rw [hf, outR_ret, trimR_ok hl]
/-- the body, by what the method answers -/
theorem body_by {S : Store} {k : Nat} {ws : List D} {i : Int} {κ : Nat} (hκ : κ < 5) (h : Wd S k ws i) {r : Res D}
    (h0 : κ = 0 → F_Words_number [.ref k, .int (-1000000000000000000), .int 1000000000000000000] S = r) (h1 : κ = 1 → F_Words_length [.ref k] S = r) (h2 : κ = 2 → F_Words_number [.ref k, .int (-5), .int 300] S = r) (h3 : κ = 3 → F_Words_name [.ref k] S = r) (h4 : κ = 4 → F_Words_word [.ref k, A0] S = r)
    (hr : (∃ v S', r = .ok v S') ∨ ∃ x S', r = .ex x S') : rdBody [some (.ref k), some (.int (κ : Int)), none] S = r.go [some (.ref k), some (.int (κ : Int)), none] fun v S' => .ret v S' := by
  have kT : ∀ j : Int, eT (eOp oEq (eVar 1) (eC (.int j))) [some (.ref k), some (.int (κ : Int)), none] S = .ok (decide ((κ : Int) = j)) S := fun j => by
    rw [eT_run, eOp_run, eVar_s, eVar_0, Res.bind_ok, eC_run, Res.bind_ok, oEq_int, Res.bind_ok]
  have fin : ∀ m : EE, m [some (.ref k), some (.int (κ : Int)), none] S = r → ∀ rest : SS, Out.bind (sRet m [some (.ref k), some (.int (κ : Int)), none] S) rest = r.go [some (.ref k), some (.int (κ : Int)), none] fun v S' => .ret v S' := fun m hm rest => by
    rw [sRet_run, hm]
    rcases hr with ⟨v, S', rfl⟩ | ⟨x, S', rfl⟩ <;> rfl
  have e0 : eVar 0 [some (.ref k), some (.int (κ : Int)), none] S = .ok (.ref k) S := by rw [eVar_0]
  unfold rdBody
  match κ, hκ, h0, h1, h2, h3, h4, kT, fin, e0 with
  | 0, _, h0, _, _, _, _, kT, fin, e0 =>
    rw [sSeq_run, sIf_of (kT 0), if_pos (by decide)]
    exact fin _ (by rw [meth_at h e0, aNil_run, Res.bind_ok]; exact h0 rfl) _
  | 1, _, _, h1, _, _, _, kT, fin, e0 =>
    rw [sSeq_run, sIf_of (kT 0), if_neg (by decide), sNil_run, Out.bind_next, sSeq_run, sIf_of (kT 1), if_pos (by decide)]
    exact fin _ (by rw [meth_at h e0, aNil_run, Res.bind_ok]; exact h1 rfl) _
  | 2, _, _, _, h2, _, _, kT, fin, e0 =>
    rw [sSeq_run, sIf_of (kT 0), if_neg (by decide), sNil_run, Out.bind_next, sSeq_run, sIf_of (kT 1), if_neg (by decide), sNil_run, Out.bind_next, sSeq_run, sIf_of (kT 2), if_pos (by decide)]
    exact fin _ (by rw [meth_at h e0, aCons_run, eNeg_run, eC_run, Res.bind_ok, Res.bind_ok, aCons_run, eC_run, Res.bind_ok, aNil_run, Res.bind_ok, Res.bind_ok, Res.bind_ok]; exact h2 rfl) _
  | 3, _, _, _, _, h3, _, kT, fin, e0 =>
    rw [sSeq_run, sIf_of (kT 0), if_neg (by decide), sNil_run, Out.bind_next, sSeq_run, sIf_of (kT 1), if_neg (by decide), sNil_run, Out.bind_next, sSeq_run, sIf_of (kT 2), if_neg (by decide), sNil_run, Out.bind_next, sSeq_run, sIf_of (kT 3), if_pos (by decide)]
    exact fin _ (by rw [meth_at h e0, aNil_run, Res.bind_ok]; exact h3 rfl) _
  | 4, _, _, _, _, _, h4, kT, fin, e0 =>
    rw [sSeq_run, sIf_of (kT 0), if_neg (by decide), sNil_run, Out.bind_next, sSeq_run, sIf_of (kT 1), if_neg (by decide), sNil_run, Out.bind_next, sSeq_run, sIf_of (kT 2), if_neg (by decide), sNil_run, Out.bind_next, sSeq_run, sIf_of (kT 3), if_neg (by decide), sNil_run, Out.bind_next]
    rw [sRet_run, meth_at h e0, aCons_run, eTup_run, aCons_run, eC_run, Res.bind_ok, aCons_run, eC_run, Res.bind_ok, aNil_run, Res.bind_ok, Res.bind_ok, Res.bind_ok, mkT_ok (by decide), Res.bind_ok, aNil_run, Res.bind_ok, Res.bind_ok]
    show Res.go (F_Words_word [.ref k, A0] S) _ _ = _
    rw [h4 rfl]
theorem read_ok {S : Store} {k j : Nat} {ws : List D} {w : Str} {κ : Nat} (hκ : κ < 5) (h : Wd S k ws j) (hd : ws[j]? = some (.str w)) (hw : w.length ≤ 64) :
    F__law_read [.ref k, .int (κ : Int)] S = if duB w κ = true then .ok (duV w κ) (Sn S k ws j) else .ok .non S := by
  have hm : ∀ r : Res D, r = (if duB w κ = true then .ok (duV w κ) (Sn S k ws j) else .ex ⟨1, [.int j]⟩ S) → rdBody [some (.ref k), some (.int (κ : Int)), none] S = r.go [some (.ref k), some (.int (κ : Int)), none] fun v S' => .ret v S' := fun r hr => by
    refine body_by hκ h ?_ ?_ ?_ ?_ ?_ ?_
    · rintro rfl
      rw [hr]
      exact number_ok h hd (by omega)
    · rintro rfl
      refine length_eq h ?_ ?_
      · rw [hr]
        exact number_ok h hd (by omega)
      · rw [hr]
        cases duB w 1
        · exact .inr ⟨_, rfl⟩
        · exact .inl ⟨_, _, rfl, Sn_len⟩
    · rintro rfl
      rw [hr]
      exact number_ok h hd (by omega)
    · rintro rfl
      rw [hr]
      exact name_ok h hd hw
    · rintro rfl
      rw [hr]
      exact word_ok h hd
    · rw [hr]
      cases duB w κ
      · exact .inr ⟨_, _, rfl⟩
      · exact .inl ⟨_, _, rfl⟩
  have z := hm _ rfl
  cases hb : duB w κ
  · rw [hb] at z
    exact try_x h z
  · rw [hb] at z
    exact try_r Sn_len z
theorem read_x {S : Store} {k : Nat} {ws : List D} {i : Int} {κ : Nat} (hκ : κ < 5) (h : Wd S k ws i) (hi : i = ws.length) : F__law_read [.ref k, .int (κ : Int)] S = .ok .non S := by
  refine try_x h (body_by (r := .ex ⟨1, [.int i]⟩ S) hκ h (fun _ => number_x h hi) (fun _ => length_eq h (number_x h hi) (.inr ⟨_, rfl⟩)) (fun _ => number_x h hi) (fun _ => nameW_x h hi) (fun _ => word_x h hi) (.inr ⟨_, _, rfl⟩))

/-! the words of a text -/
/-- a word that a row makes -/
def Good (w : Str) : Prop := w.length ≤ 64 ∧ 32 ∉ tl w
def Inb (w : Str) : Prop := isI (tl w) = true → (-1000000000000000000 ≤ valI (tl w) ∧ valI (tl w) ≤ 1000000000000000000) ∨ w = "1000000000000000001" ∨ w = "-1000000000000000001"
theorem val_str (n : Int) : valI (tl (Str.ofString (toString n))) = n := by
  rcases Int.lt_or_le n 0 with hn | hn
  · obtain ⟨m, rfl⟩ : ∃ m : Nat, n = -(m : Int) := ⟨n.natAbs, by omega⟩
    rw [tl_negnum m (by omega)]
    unfold valI dgs
    have e : hd45 (45 :: numL m) = true := rfl
    rw [if_pos e, if_pos e]
    show -((digitsVal (numL m) : Nat) : Int) = _
    rw [numL_val]
  · obtain ⟨m, rfl⟩ := Int.eq_ofNat_of_zero_le hn
    rw [tl_num]
    have e : ¬ hd45 (numL m) = true := fun q => by
      have := hd45_cons q
      have h2 : (45 : Nat) ∈ numL m := by
        rw [this]
        exact List.mem_cons_self
      exact numL_free (by omega) h2
    unfold valI dgs
    rw [if_neg e, if_neg e, numL_val]
theorem isI_head {c : Nat} {r : List Nat} (h : c ≠ 45) (hd : dig c = false) : isI (c :: r) = false := by
  have e : ¬ hd45 (c :: r) = true := fun q => h (by
    have := hd45_cons q
    injection this)
  unfold isI dgs
  rw [if_neg e, List.all_cons, hd]
  simp
theorem isI_zero {r : List Nat} (h : r ≠ []) : isI (48 :: r) = false := by
  have e : ¬ hd45 (48 :: r) = true := fun q => by cases q
  have ed : dgs (48 :: r) = 48 :: r := if_neg e
  have hc : canonB (48 :: r) = false := by
    unfold canonB
    rw [ed]
    have : ¬ (48 :: r = [48]) := fun q => h (by injection q)
    simp [this, h]
  unfold isI
  rw [hc, Bool.and_false]
theorem inb_int {n : Int} (h : n.natAbs ≤ 1000000000000000001) : Inb (Str.ofString (toString n)) := fun _ => by
  rw [val_str]
  by_cases h1 : n = 1000000000000000001
  · right
    left
    rw [h1]
    decide +kernel
  · by_cases h2 : n = -1000000000000000001
    · right
      right
      rw [h2]
      decide +kernel
    · left
      omega
theorem inb_no {w : Str} (h : isI (tl w) = false) : Inb w := fun q => by
  rw [h] at q
  cases q
theorem str_ne (n : Int) : tl (Str.ofString (toString n)) ≠ [] := by
  rcases Int.lt_or_le n 0 with hn | hn
  · obtain ⟨m, rfl⟩ : ∃ m : Nat, n = -(m : Int) := ⟨n.natAbs, by omega⟩
    rw [tl_negnum m (by omega)]
    simp
  · obtain ⟨m, rfl⟩ := Int.eq_ofNat_of_zero_le hn
    rw [tl_num]
    exact numL_ne m
theorem good_int {n : Int} (h : n.natAbs ≤ 1000000000000000001) : (Str.ofString (toString n)).length ≤ 25 ∧ 32 ∉ tl (Str.ofString (toString n)) := by
  rcases Int.lt_or_le n 0 with hn | hn
  · obtain ⟨m, hm⟩ : ∃ m : Nat, n = -(m : Int) := ⟨n.natAbs, by omega⟩
    subst hm
    have e := tl_negnum m (by omega)
    refine ⟨?_, ?_⟩
    · rw [← tl_len, e, List.length_cons]
      have := numL_len (n := m) (k := 20) (by decide) (Nat.lt_of_le_of_lt (show m ≤ 1000000000000000001 by omega) (by decide))
      omega
    · rw [e]
      intro q
      rcases List.mem_cons.mp q with q | q
      · cases q
      · exact numL_free (by omega) q
  · obtain ⟨m, rfl⟩ := Int.eq_ofNat_of_zero_le hn
    have e := tl_num m
    refine ⟨?_, ?_⟩
    · rw [← tl_len, e]
      have := numL_len (n := m) (k := 20) (by decide) (Nat.lt_of_le_of_lt (show m ≤ 1000000000000000001 by omega) (by decide))
      omega
    · rw [e]
      exact numL_free (by omega)
theorem num_ok {r : Int} (hr : 0 ≤ r) : ∃ n : Int, n.natAbs ≤ 1000000000000000001 ∧ ∀ (S : Store) (rest : SS), (sSeq (sSet (.nm 1) (eOp oSub (eOp oMod (eB oInt (aCons (eOp oDiv (eVar 0) (eC (.int 9))) aNil)) (eC (.int 2000))) (eC (.int 1000)))) (sSeq (sIf (eT (eOp oEq (eOp oMod (eOp oDiv (eVar 0) (eC (.int 18000))) (eC (.int 4))) (eC (.int 1)))) (sSet (.nm 1) (eOp oIx (eLst (aCons (eC (.int 1000000)) (aCons (eC (.int 1000001)) (aCons (eC (.int 1000000000000000000)) (aCons (eC (.int 1000000000000000001)) aNil))))) (eOp oMod (eB oInt (aCons (eOp oDiv (eVar 0) (eC (.int 72000))) aNil)) (eC (.int 4))))) sNil) (sSeq (sIf (eT (eOp oEq (eOp oMod (eOp oDiv (eVar 0) (eC (.int 18000))) (eC (.int 4))) (eC (.int 2)))) (sSet (.nm 1) (eOp oSub (eC (.int 0)) (eVar 1))) sNil) rest))) [some (.int r), none, none] S = rest [some (.int r), some (.int n), none] S := by
  have d9 : CDivW r 9 := ⟨by decide, by decide⟩
  have d18 : CDivW r 18000 := ⟨by decide, by decide⟩
  have d72 : CDivW r 72000 := ⟨by decide, by decide⟩
  have hq : ∀ (S : Store) (x y : Option D) (j : Int), eT (eOp oEq (eOp oMod (eOp oDiv (eVar 0) (eC (.int 18000))) (eC (.int 4))) (eC (.int j))) [some (.int r), x, y] S = .ok (decide (r / 18000 % 4 = j)) S := fun S x y j => by
    rw [eT_run, eOp_run, eOp_run, eOp_run, eVar_0, Res.bind_ok, eC_run, Res.bind_ok, oDiv_run d18, Res.bind_ok, eC_run, Res.bind_ok, oMod_run (by decide), Res.bind_ok, eC_run, Res.bind_ok, oEq_int, Res.bind_ok]
  have h1 : ∀ S : Store, (sSet (.nm 1) (eOp oSub (eOp oMod (eB oInt (aCons (eOp oDiv (eVar 0) (eC (.int 9))) aNil)) (eC (.int 2000))) (eC (.int 1000)))) [some (.int r), none, none] S = .next [some (.int r), some (.int (r / 9 % 2000 - 1000)), none] S := fun S => by
    rw [sSet_run, eOp_run, eOp_run, eB_run, aCons_run, eOp_run, eVar_0, Res.bind_ok, eC_run, Res.bind_ok, oDiv_run d9, Res.bind_ok, aNil_run, Res.bind_ok, Res.bind_ok, oInt_int, Res.bind_ok, eC_run, Res.bind_ok, oMod_run (by decide), Res.bind_ok, eC_run, Res.bind_ok, oSub_int, Res.go_ok]
    rfl
  have h2 : ∃ n1 : Int, n1.natAbs ≤ 1000000000000000001 ∧ ∀ S : Store, (sIf (eT (eOp oEq (eOp oMod (eOp oDiv (eVar 0) (eC (.int 18000))) (eC (.int 4))) (eC (.int 1)))) (sSet (.nm 1) (eOp oIx (eLst (aCons (eC (.int 1000000)) (aCons (eC (.int 1000001)) (aCons (eC (.int 1000000000000000000)) (aCons (eC (.int 1000000000000000001)) aNil))))) (eOp oMod (eB oInt (aCons (eOp oDiv (eVar 0) (eC (.int 72000))) aNil)) (eC (.int 4))))) sNil) [some (.int r), some (.int (r / 9 % 2000 - 1000)), none] S = .next [some (.int r), some (.int n1), none] S := by
    by_cases hc : r / 18000 % 4 = 1
    · have hm : ∃ n1 : Int, n1.natAbs ≤ 1000000000000000001 ∧ atI [D.int 1000000, D.int 1000001, D.int 1000000000000000000, D.int 1000000000000000001] (r / 72000 % 4) = some (.int n1) := by
        have : r / 72000 % 4 = 0 ∨ r / 72000 % 4 = 1 ∨ r / 72000 % 4 = 2 ∨ r / 72000 % 4 = 3 := by omega
        rcases this with e | e | e | e <;> rw [e]
        · exact ⟨1000000, by decide, rfl⟩
        · exact ⟨1000001, by decide, rfl⟩
        · exact ⟨1000000000000000000, by decide, rfl⟩
        · exact ⟨1000000000000000001, by decide, rfl⟩
      obtain ⟨n1, hn, ha⟩ := hm
      refine ⟨n1, hn, fun S => ?_⟩
      rw [sIf_of (hq S _ _ 1), hc, if_pos (by decide), sSet_run, eOp_run, eLst_run, aCons_run, eC_run, Res.bind_ok, aCons_run, eC_run, Res.bind_ok, aCons_run, eC_run, Res.bind_ok, aCons_run, eC_run, Res.bind_ok, aNil_run, Res.bind_ok, Res.bind_ok, Res.bind_ok, Res.bind_ok, Res.bind_ok, mkL_ok (by decide), Res.bind_ok,
        eOp_run, eB_run, aCons_run, eOp_run, eVar_0, Res.bind_ok, eC_run, Res.bind_ok, oDiv_run d72, Res.bind_ok, aNil_run, Res.bind_ok, Res.bind_ok, oInt_int, Res.bind_ok, eC_run, Res.bind_ok, oMod_run (by decide), Res.bind_ok, oIx_lst, ha, orNo_some, Res.go_ok]
      rfl
    · refine ⟨r / 9 % 2000 - 1000, by omega, fun S => ?_⟩
      rw [sIf_of (hq S _ _ 1), if_neg (by simpa using hc), sNil_run]
  obtain ⟨n1, hn1, h2⟩ := h2
  by_cases hc : r / 18000 % 4 = 2
  · refine ⟨0 - n1, by omega, fun S rest => ?_⟩
    rw [sSeq_run, h1, Out.bind_next, sSeq_run, h2, Out.bind_next, sSeq_run, sIf_of (hq S _ _ 2), hc, if_pos (by decide), sSet_run, eOp_run, eC_run, Res.bind_ok, eVar_s, eVar_0, Res.bind_ok, oSub_int, Res.go_ok]
    rfl
  · refine ⟨n1, hn1, fun S rest => ?_⟩
    rw [sSeq_run, h1, Out.bind_next, sSeq_run, h2, Out.bind_next, sSeq_run, sIf_of (hq S _ _ 2), if_neg (by simpa using hc), sNil_run, Out.bind_next]
theorem log_small {n : Int} (h : n.natAbs ≤ 1000000000000000001) : n.natAbs.log2 < 1920 := by
  by_cases h0 : n.natAbs = 0
  · rw [h0]
    decide
  · rw [Nat.log2_lt h0]
    have h5 : (2 : Nat) ^ 70 ≤ 2 ^ 1920 := Nat.pow_le_pow_right (by decide) (by decide)
    exact Nat.lt_of_lt_of_le (Nat.lt_of_le_of_lt h (by decide)) h5
theorem good_app {p x : Str} (hp : p.length ≤ 2 ∧ 32 ∉ tl p) (hx : x.length ≤ 25 ∧ 32 ∉ tl x) : Good (p ++ x) := by
  refine ⟨?_, ?_⟩
  · rw [PySem.Str.length_append]
    omega
  · rw [tl_append, List.mem_append]
    exact fun q => q.elim hp.2 hx.2
theorem word_good {r : Int} (hr : 0 ≤ r) : ∃ w, (Good w ∧ Inb w) ∧ ∀ S, F__law_word [.int r] S = .ok (.str w) S := by
  obtain ⟨n, hn, hrun⟩ := num_ok hr
  have hs := log_small hn
  have hn' : (if n < 0 then -n else n).natAbs ≤ 1000000000000000001 := by split <;> omega
  have hs' := log_small hn'
  have g1 := good_int hn
  have g2 := good_int hn'
  have key : ∀ i : Nat, i < 9 → ∃ w, (Good w ∧ Inb w) ∧ [D.str (Str.ofString (toString n)), D.str ("0" ++ Str.ofString (toString n)), D.str ("+" ++ Str.ofString (toString (if n < 0 then -n else n))), D.str "-0", D.str "", D.str ("s" ++ Str.ofString (toString n)), D.str "A", D.str "--1", D.str "99999999999999999999999"][i]? = some (.str w) := by
    intro i hi
    match i, hi with
    | 0, _ => exact ⟨_, ⟨⟨by omega, g1.2⟩, inb_int hn⟩, rfl⟩
    | 1, _ => exact ⟨_, ⟨good_app ⟨by decide +kernel, by decide +kernel⟩ g1, inb_no (by rw [tl_append]; exact isI_zero (str_ne n))⟩, rfl⟩
    | 2, _ => exact ⟨_, ⟨good_app ⟨by decide +kernel, by decide +kernel⟩ g2, inb_no (by rw [tl_append]; exact isI_head (c := 43) (by decide) (by decide))⟩, rfl⟩
    | 3, _ => exact ⟨_, ⟨⟨by decide +kernel, by decide +kernel⟩, inb_no (by decide +kernel)⟩, rfl⟩
    | 4, _ => exact ⟨_, ⟨⟨by decide +kernel, by decide +kernel⟩, inb_no (by decide +kernel)⟩, rfl⟩
    | 5, _ => exact ⟨_, ⟨good_app ⟨by decide +kernel, by decide +kernel⟩ g1, inb_no (by rw [tl_append]; exact isI_head (c := 115) (by decide) (by decide))⟩, rfl⟩
    | 6, _ => exact ⟨_, ⟨⟨by decide +kernel, by decide +kernel⟩, inb_no (by decide +kernel)⟩, rfl⟩
    | 7, _ => exact ⟨_, ⟨⟨by decide +kernel, by decide +kernel⟩, inb_no (by decide +kernel)⟩, rfl⟩
    | 8, _ => exact ⟨_, ⟨⟨by decide +kernel, by decide +kernel⟩, inb_no (by decide +kernel)⟩, rfl⟩
  obtain ⟨w, hw, hg⟩ := key (r % 9).toNat (by omega)
  refine ⟨w, hw, fun S => ?_⟩
  have hix : (r % 9 : Int) = (((r % 9).toNat : Nat) : Int) := by omega
  have l0 : ("0" : Str).length = 1 := by decide +kernel
  have l1 : ("+" : Str).length = 1 := by decide +kernel
  have l2 : ("s" : Str).length = 1 := by decide +kernel
  have hf : f__law_word [some (.int r), none, none] S = .ret (.str w) S := by
    unfold f__law_word
    rw [hrun]
    have st : ∀ S : Store, eB oStr (aCons (eVar 1) aNil) [some (.int r), some (.int n), none] S = .ok (.str (Str.ofString (toString n))) S := fun S => by
      rw [eB_run, aCons_run, eVar_s, eVar_0, Res.bind_ok, aNil_run, Res.bind_ok, Res.bind_ok, oStr_int hs]
    have sa : eB oStr (aCons (eB (oI1 fun i => .int (if i < 0 then -i else i)) (aCons (eVar 1) aNil)) aNil) [some (.int r), some (.int n), none] S = .ok (.str (Str.ofString (toString (if n < 0 then -n else n)))) S := by
      rw [eB_run, aCons_run, eB_run, aCons_run, eVar_s, eVar_0, Res.bind_ok, aNil_run, Res.bind_ok, Res.bind_ok, oI1_run, Res.bind_ok, aNil_run, Res.bind_ok, Res.bind_ok, oStr_int hs']
    have pa : ∀ p x : Str, p.length = 1 → x.length ≤ 25 → oAdd (.str p) (.str x) S = .ok (.str (p ++ x)) S := fun p x h1 h2 => oAdd_str (by omega)
    have hl : (eLst (aCons (eB oStr (aCons (eVar 1) aNil)) (aCons (eOp oAdd (eC (.str "0")) (eB oStr (aCons (eVar 1) aNil))) (aCons (eOp oAdd (eC (.str "+")) (eB oStr (aCons (eB (oI1 fun i => .int (if i < 0 then -i else i)) (aCons (eVar 1) aNil)) aNil))) (aCons (eC (.str "-0")) (aCons (eC (.str "")) (aCons (eOp oAdd (eC (.str "s")) (eB oStr (aCons (eVar 1) aNil))) (aCons (eC (.str "A")) (aCons (eC (.str "--1")) (aCons (eC (.str "99999999999999999999999")) aNil)))))))))) [some (.int r), some (.int n), none] S =
        .ok (.lst [D.str (Str.ofString (toString n)), D.str ("0" ++ Str.ofString (toString n)), D.str ("+" ++ Str.ofString (toString (if n < 0 then -n else n))), D.str "-0", D.str "", D.str ("s" ++ Str.ofString (toString n)), D.str "A", D.str "--1", D.str "99999999999999999999999"]) S := by
      simp only [eLst_run, aCons_run, st, sa, eOp_run, eC_run, Res.bind_ok, pa _ _ l0 g1.1, pa _ _ l1 g2.1, pa _ _ l2 g1.1, aNil_run]
      exact mkL_ok (Nat.le_of_ble_eq_true rfl)
    rw [sSeq_run, sSet_run, hl, Res.go_ok, setT_nm, setN_some, Out.bind_next]
    show sRet _ [some (.int r), some (.int n), some (.lst _)] S = _
    rw [sRet_run, eOp_run, eVar_s, eVar_s, eVar_0, Res.bind_ok, eOp_run, eB_run, aCons_run, eVar_0, Res.bind_ok, aNil_run, Res.bind_ok, Res.bind_ok, oInt_int, Res.bind_ok, eC_run, Res.bind_ok, oMod_run (by decide), Res.bind_ok, oIx_lst, hix, Z.atI_nat (by show (r % 9).toNat < 9; omega), hg, orNo_some, Res.go_ok]
  unfold F__law_word semZ
  rw [if_pos (show [D.int r].length = 1 from rfl)]
  show trimR S.length (outR (f__law_word [some (.int r), none, none] S)) = _
  rw [hf, outR_ret, trimR_ok rfl]

/-! the law's loops -/
noncomputable def iBody : SS := (sSeq (sSet (.nm 8) (eOp oMod (eB oInt (aCons (eOp oAdd (eOp oDiv (eOp oIx (eVar 1) (eC (.int 9))) (eOp oAdd (eC (.int 3)) (eVar 5))) (eVar 7)) aNil)) (eC (.int 5)))) (sSeq (sSet (.nm 9) (eCall F__law_due [] (aCons (eOp oIx (eVar 2) (eVar 5)) (aCons (eVar 8) aNil)))) (sSeq (sIf (qAnd (eT (eOp oEq (eFld [(2, 1)] (eVar 4)) (eVar 5))) (eT (eOp oNe (eCall F__law_read [] (aCons (eVar 4) (aCons (eVar 8) aNil))) (eVar 9)))) (sRet (eC (.bl false))) sNil) (sSeq (sIf (qAnd (qNot (eT (eOp oIs (eVar 9) (eC .non)))) (eT (eOp oEq (eFld [(2, 1)] (eVar 4)) (eVar 5)))) (sRet (eC (.bl false))) sNil) (sIf (qNot (eT (eOp oIs (eVar 9) (eC .non)))) (fun ρ S => .brk ρ S) sNil)))))
noncomputable def oBody : SS := (sSeq (sSet (.nm 6) (eOr (eNot (eOp oIs (eCall F__law_due [] (aCons (eOp oIx (eVar 2) (eVar 5)) (aCons (eC (.int 0)) aNil))) (eC .non))) (eOr (eOp oEq (eOp oIx (eVar 2) (eVar 5)) (eC (.str "1000000000000000001"))) (eOp oEq (eOp oIx (eVar 2) (eVar 5)) (eC (.str "-1000000000000000001")))))) (sSeq (sIf (qOr (eT (eOp oNe (eCall F_is_integer [] (aCons (eOp oIx (eVar 2) (eVar 5)) aNil)) (eVar 6))) (qOr (eT (eOp oNe (eFld [(2, 1)] (eVar 4)) (eVar 5))) (qOr (eTru (eMeth [(2, { F := F_Words_ended, dd := [] })] (eVar 4) aNil)) (eT (eOp oNe (eMeth [(2, { F := F_Words_peek, dd := [] })] (eVar 4) aNil) (eOp oIx (eVar 2) (eVar 5))))))) (sRet (eC (.bl false))) sNil) (sSeq (sFor (iRange1 (aCons (eC (.int 5)) aNil)) (.nm 7) iBody) (sIf (eT (eOp oEq (eFld [(2, 1)] (eVar 4)) (eVar 5))) (sRet (eOr (eOp oIs (eCall F__law_read [] (aCons (eVar 4) (aCons (eC (.int 0)) aNil))) (eC .non)) (eOp oIs (eCall F__law_read [] (aCons (eVar 4) (aCons (eC (.int 3)) aNil))) (eC .non)))) sNil))))
def WS (ws : List D) (i : Int) : Store := [some (.obj 2 [.lst ws, .int i])]
theorem ws_wd (ws : List D) (i : Int) : Wd (WS ws i) 0 ws i := rfl
theorem ws_sn (ws : List D) (i : Int) : Sn (WS ws i) 0 ws i = WS ws (i + 1) := rfl
theorem qAnd_t {ρ : Z.Env} {S S1 : Store} {ta tb : TT'} (h1 : ta ρ S = .ok true S1) : qAnd ta tb ρ S = tb ρ S1 := by
  rw [qAnd_run, h1, Res.bind_ok, if_pos rfl]
theorem qAnd_f {ρ : Z.Env} {S S1 : Store} {ta tb : TT'} (h1 : ta ρ S = .ok false S1) : qAnd ta tb ρ S = .ok false S1 := by
  rw [qAnd_run, h1, Res.bind_ok, if_neg (by simp)]
theorem duV_ne (w : Str) (κ : Nat) (S : Store) : oNe (duV w κ) (duV w κ) S = .ok (.bl false) S := by
  match κ with
  | 0 => rw [duV, oNe_int, decide_eq_true rfl]; rfl
  | 1 => rw [duV, oNe_int, decide_eq_true rfl]; rfl
  | 2 => rw [duV, oNe_int, decide_eq_true rfl]; rfl
  | n + 3 =>
    show oNe (.str w) (.str w) S = _
    rw [oNe_str, decide_eq_true rfl]
    rfl
theorem duV_is (w : Str) (κ : Nat) (S : Store) : oIs (duV w κ) .non S = .ok (.bl false) S := by
  match κ with
  | 0 => rfl
  | 1 => rfl
  | 2 => rfl
  | n + 3 => rfl
section
variable {sc : D} {rs : List D} {tws : List Str} {x3 x6 x8 x9 : Option D} {k t : Nat} {w : Str} {r9 : Int}
theorem iBody_ok (h9 : rs[9]? = some (.int r9)) (hr : 0 ≤ r9) (hk : tws[k]? = some w) (hw : w.length ≤ 64) (hk8 : k ≤ 8) {κ : Nat} (hκ : κ < 5) (eκ : (r9 / (3 + (k : Int)) + (t : Int)) % 5 = (κ : Int)) :
    iBody [some sc, some (.lst rs), some (.lst (tws.map .str)), x3, some (.ref 0), some (.int (k : Int)), x6, some (.int (t : Int)), x8, x9] (WS (tws.map .str) k) =
      (if duB w κ = true then .brk [some sc, some (.lst rs), some (.lst (tws.map .str)), x3, some (.ref 0), some (.int (k : Int)), x6, some (.int (t : Int)), some (.int (κ : Int)), some (duP w κ)] (WS (tws.map .str) (k + 1))
      else .next [some sc, some (.lst rs), some (.lst (tws.map .str)), x3, some (.ref 0), some (.int (k : Int)), x6, some (.int (t : Int)), some (.int (κ : Int)), some (duP w κ)] (WS (tws.map .str) k)) := by
  have hl9 : 9 < rs.length := (List.getElem?_eq_some_iff.mp h9).1
  have hkl : k < (tws.map D.str).length := by rw [List.length_map]; exact (List.getElem?_eq_some_iff.mp hk).1
  have hwd : (tws.map D.str)[k]? = some (.str w) := by rw [List.getElem?_map, hk]; rfl
  have a9 : atI rs 9 = some (.int r9) := by
    rw [show (9 : Int) = ((9 : Nat) : Int) from rfl, Z.atI_nat hl9, h9]
  have ak : atI (tws.map D.str) (k : Int) = some (.str w) := by rw [Z.atI_nat hkl, hwd]
  have dv : CDivW r9 (3 + (k : Int)) := by
    refine ⟨by omega, ?_⟩
    have hn : (3 + (k : Int)).natAbs = 3 + k := by omega
    rw [hn, Nat.log2_lt (by omega)]
    exact Nat.lt_of_lt_of_le (show 3 + k < 2 ^ 10 by omega) (Nat.pow_le_pow_right (by decide) (by decide))
  unfold iBody
  rw [sSeq_run, sSet_run]
  rw [show (eOp oMod (eB oInt (aCons (eOp oAdd (eOp oDiv (eOp oIx (eVar 1) (eC (.int 9))) (eOp oAdd (eC (.int 3)) (eVar 5))) (eVar 7)) aNil)) (eC (.int 5))) [some sc, some (.lst rs), some (.lst (tws.map .str)), x3, some (.ref 0), some (.int (k : Int)), x6, some (.int (t : Int)), x8, x9] (WS (tws.map .str) k) = .ok (.int (κ : Int)) (WS (tws.map .str) k) by
    rw [eOp_run, eB_run, aCons_run, eOp_run, eOp_run, eOp_run, eVar_s, eVar_0, Res.bind_ok, eC_run, Res.bind_ok, oIx_lst, a9, orNo_some, Res.bind_ok, eOp_run, eC_run, Res.bind_ok, eVar_s, eVar_s, eVar_s, eVar_s, eVar_s, eVar_0, Res.bind_ok, oAdd_int, Res.bind_ok, oDiv_run dv, Res.bind_ok,
      eVar_s, eVar_s, eVar_s, eVar_s, eVar_s, eVar_s, eVar_s, eVar_0, Res.bind_ok, oAdd_int, Res.bind_ok, aNil_run, Res.bind_ok, Res.bind_ok, oInt_int, Res.bind_ok, eC_run, Res.bind_ok, oMod_run (by decide), eκ]]
  rw [Res.go_ok, setT_nm, setN_some, Out.bind_next]
  show sSeq _ _ [some sc, some (.lst rs), some (.lst (tws.map .str)), x3, some (.ref 0), some (.int (k : Int)), x6, some (.int (t : Int)), some (.int (κ : Int)), x9] _ = _
  rw [sSeq_run, sSet_run]
  rw [show (eCall F__law_due [] (aCons (eOp oIx (eVar 2) (eVar 5)) (aCons (eVar 8) aNil))) [some sc, some (.lst rs), some (.lst (tws.map .str)), x3, some (.ref 0), some (.int (k : Int)), x6, some (.int (t : Int)), some (.int (κ : Int)), x9] (WS (tws.map .str) k) = .ok (duP w κ) (WS (tws.map .str) k) by
    rw [eCall_run, aCons_run, eOp_run, eVar_s, eVar_s, eVar_0, Res.bind_ok, eVar_s, eVar_s, eVar_s, eVar_s, eVar_s, eVar_0, Res.bind_ok, oIx_lst, ak, orNo_some, Res.bind_ok, aCons_run, eVar_s, eVar_s, eVar_s, eVar_s, eVar_s, eVar_s, eVar_s, eVar_s, eVar_0, Res.bind_ok, aNil_run, Res.bind_ok, Res.bind_ok, Res.bind_ok]
    exact due_ok hκ (by omega)]
  rw [Res.go_ok, setT_nm, setN_some, Out.bind_next]
  show sSeq _ _ [some sc, some (.lst rs), some (.lst (tws.map .str)), x3, some (.ref 0), some (.int (k : Int)), x6, some (.int (t : Int)), some (.int (κ : Int)), some (duP w κ)] _ = _
  generalize hρ : ([some sc, some (.lst rs), some (.lst (tws.map .str)), x3, some (.ref 0), some (.int (k : Int)), x6, some (.int (t : Int)), some (.int (κ : Int)), some (duP w κ)] : Z.Env) = ρ
  have e4 : ∀ S, eVar 4 ρ S = .ok (.ref 0) S := fun S => by rw [← hρ]; rfl
  have e5 : ∀ S, eVar 5 ρ S = .ok (.int (k : Int)) S := fun S => by rw [← hρ]; rfl
  have e8 : ∀ S, eVar 8 ρ S = .ok (.int (κ : Int)) S := fun S => by rw [← hρ]; rfl
  have e9 : ∀ S, eVar 9 ρ S = .ok (duP w κ) S := fun S => by rw [← hρ]; rfl
  have hp : ∀ i : Int, eT (eOp oEq (eFld [(2, 1)] (eVar 4)) (eVar 5)) ρ (WS (tws.map .str) i) = .ok (decide (i = (k : Int))) (WS (tws.map .str) i) := fun i => by
    rw [eT_run, eOp_run, fld_at (ws_wd _ i) (e4 _) rfl, Res.bind_ok, e5, Res.bind_ok, oEq_int, Res.bind_ok]
  have hrd := read_ok (κ := κ) hκ (ws_wd (tws.map D.str) k) hwd hw
  rw [ws_sn] at hrd
  have hrc : (eCall F__law_read [] (aCons (eVar 4) (aCons (eVar 8) aNil))) ρ (WS (tws.map .str) k) = if duB w κ = true then .ok (duV w κ) (WS (tws.map .str) (k + 1)) else .ok .non (WS (tws.map .str) k) := by
    rw [eCall_run, aCons_run, e4, Res.bind_ok, aCons_run, e8, Res.bind_ok, aNil_run, Res.bind_ok, Res.bind_ok, Res.bind_ok]
    exact hrd
  have hdu := duP_eq w hκ
  cases hb : duB w κ with
  | true =>
    rw [hb, if_pos rfl] at hrc hdu
    have hni : ∀ S, qNot (eT (eOp oIs (eVar 9) (eC .non))) ρ S = .ok true S := fun S => by
      rw [qNot_run, eT_run, eOp_run, e9, Res.bind_ok, eC_run, Res.bind_ok, hdu, duV_is, Res.bind_ok, Res.bind_ok]
      rfl
    have c1 : qAnd (eT (eOp oEq (eFld [(2, 1)] (eVar 4)) (eVar 5))) (eT (eOp oNe (eCall F__law_read [] (aCons (eVar 4) (aCons (eVar 8) aNil))) (eVar 9))) ρ (WS (tws.map .str) k) = .ok false (WS (tws.map .str) (k + 1)) := by
      rw [qAnd_t ((hp _).trans (by rw [decide_eq_true rfl])), eT_run, eOp_run, hrc, Res.bind_ok, e9, Res.bind_ok, hdu, duV_ne, Res.bind_ok]
    have c2 : qAnd (qNot (eT (eOp oIs (eVar 9) (eC .non)))) (eT (eOp oEq (eFld [(2, 1)] (eVar 4)) (eVar 5))) ρ (WS (tws.map .str) (k + 1)) = .ok false (WS (tws.map .str) (k + 1)) := by
      rw [qAnd_t (hni _), hp, decide_eq_false (by omega)]
    rw [sSeq_run, sIf_of c1, if_neg (by simp), sNil_run, Out.bind_next, sSeq_run, sIf_of c2, if_neg (by simp), sNil_run, Out.bind_next, sIf_of (hni _), if_pos rfl, if_pos rfl]
  | false =>
    rw [hb, if_neg (by simp)] at hrc hdu
    have hni : ∀ S, qNot (eT (eOp oIs (eVar 9) (eC .non))) ρ S = .ok false S := fun S => by
      rw [qNot_run, eT_run, eOp_run, e9, Res.bind_ok, eC_run, Res.bind_ok, hdu, oIs_nn, Res.bind_ok, Res.bind_ok]
      rfl
    have c1 : qAnd (eT (eOp oEq (eFld [(2, 1)] (eVar 4)) (eVar 5))) (eT (eOp oNe (eCall F__law_read [] (aCons (eVar 4) (aCons (eVar 8) aNil))) (eVar 9))) ρ (WS (tws.map .str) k) = .ok false (WS (tws.map .str) k) := by
      rw [qAnd_t ((hp _).trans (by rw [decide_eq_true rfl])), eT_run, eOp_run, hrc, Res.bind_ok, e9, Res.bind_ok, hdu, oNe_nn, Res.bind_ok]
    rw [sSeq_run, sIf_of c1, if_neg (by simp), sNil_run, Out.bind_next, sSeq_run, sIf_of (qAnd_f (hni _)), if_neg (by simp), sNil_run, Out.bind_next, sIf_of (hni _), if_neg (by simp), if_neg (by simp), sNil_run]
theorem plain_eq {w : Str} (h : Inb w) : (duB w 0 || (decide (w = ("1000000000000000001" : Str)) || decide (w = ("-1000000000000000001" : Str)))) = isI (tl w) := by
  show (inB (-1000000000000000000) 1000000000000000000 (tl w) || _) = _
  unfold inB
  cases hi : isI (tl w) with
  | true =>
    rcases h hi with ⟨h1, h2⟩ | h1 | h1
    · rw [decide_eq_true h1, decide_eq_true h2]
      rfl
    · rw [decide_eq_true h1]
      simp
    · rw [decide_eq_true h1]
      simp
  | false =>
    have n1 : ¬ w = ("1000000000000000001" : Str) := fun q => by
      rw [q] at hi
      revert hi
      decide +kernel
    have n2 : ¬ w = ("-1000000000000000001" : Str) := fun q => by
      rw [q] at hi
      revert hi
      decide +kernel
    rw [decide_eq_false n1, decide_eq_false n2]
    rfl
theorem inner_ok (h9 : rs[9]? = some (.int r9)) (hr : 0 ≤ r9) (hk : tws[k]? = some w) (hw : w.length ≤ 64) (hk8 : k ≤ 8) {x7 : Option D} :
    ∃ y7 y8 y9, (forL none (turnZ (.nm 7) iBody) (rngD 0 5) [some sc, some (.lst rs), some (.lst (tws.map .str)), x3, some (.ref 0), some (.int (k : Int)), x6, x7, x8, x9] (WS (tws.map .str) k) = .next [some sc, some (.lst rs), some (.lst (tws.map .str)), x3, some (.ref 0), some (.int (k : Int)), x6, y7, y8, y9] (WS (tws.map .str) (k + 1))) ∨
      ((forL none (turnZ (.nm 7) iBody) (rngD 0 5) [some sc, some (.lst rs), some (.lst (tws.map .str)), x3, some (.ref 0), some (.int (k : Int)), x6, x7, x8, x9] (WS (tws.map .str) k) = .next [some sc, some (.lst rs), some (.lst (tws.map .str)), x3, some (.ref 0), some (.int (k : Int)), x6, y7, y8, y9] (WS (tws.map .str) k)) ∧ duB w 0 = false) := by
  let I : Nat → Z.Env → Store → Prop := fun i ρ S => S = WS (tws.map .str) k ∧ (∃ y7 y8 y9, ρ = [some sc, some (.lst rs), some (.lst (tws.map .str)), x3, some (.ref 0), some (.int (k : Int)), x6, y7, y8, y9]) ∧ ∀ t < i, ∀ κ : Nat, (r9 / (3 + (k : Int)) + (t : Int)) % 5 = (κ : Int) → duB w κ = false
  let R : Out → Prop := fun o => ∃ y7 y8 y9, o = .next [some sc, some (.lst rs), some (.lst (tws.map .str)), x3, some (.ref 0), some (.int (k : Int)), x6, y7, y8, y9] (WS (tws.map .str) (k + 1)) ∨ (o = .next [some sc, some (.lst rs), some (.lst (tws.map .str)), x3, some (.ref 0), some (.int (k : Int)), x6, y7, y8, y9] (WS (tws.map .str) k) ∧ duB w 0 = false)
  refine forL_rule (h := none) I R (fun _ _ _ _ => True.intro) (rngD 0 5) 0 _ _ (fun j d ρ S hj hi => ?_) (fun ρ S hi => ?_) ⟨rfl, ⟨_, _, _, rfl⟩, fun t ht => absurd ht (Nat.not_lt_zero _)⟩
  · rw [Nat.zero_add] at hi ⊢
    obtain ⟨rfl, ⟨y7, y8, y9, rfl⟩, hall⟩ := hi
    obtain ⟨rfl, hlt⟩ := rngD_get hj
    have hκ0 : 0 ≤ (r9 / (3 + (k : Int)) + (j : Int)) % 5 := Int.emod_nonneg _ (by decide)
    have hκ5 : (r9 / (3 + (k : Int)) + (j : Int)) % 5 < 5 := Int.emod_lt_of_pos _ (by decide)
    obtain ⟨κ, eκ⟩ := Int.eq_ofNat_of_zero_le hκ0
    have hκ : κ < 5 := by omega
    have e : turnZ (.nm 7) iBody (.int (0 + (j : Int))) [some sc, some (.lst rs), some (.lst (tws.map .str)), x3, some (.ref 0), some (.int (k : Int)), x6, y7, y8, y9] (WS (tws.map .str) k) =
        iBody [some sc, some (.lst rs), some (.lst (tws.map .str)), x3, some (.ref 0), some (.int (k : Int)), x6, some (.int (j : Int)), y8, y9] (WS (tws.map .str) k) := by
      rw [Int.zero_add, turnZ_nm]
      rfl
    have z := iBody_ok (sc := sc) (x3 := x3) (x6 := x6) (x8 := y8) (x9 := y9) (t := j) h9 hr hk hw hk8 hκ eκ
    cases hb : duB w κ with
    | true =>
      rw [hb, if_pos rfl] at z
      exact .inr (.inl ⟨_, _, e.trans z, _, _, _, .inl rfl⟩)
    | false =>
      rw [hb, if_neg (by simp)] at z
      refine .inl ⟨_, _, .inl (e.trans z), rfl, ⟨_, _, _, rfl⟩, fun t ht κ' hκ' => ?_⟩
      by_cases hlast : t = j
      · subst hlast
        have : κ' = κ := by omega
        rw [this]
        exact hb
      · exact hall t (by omega) κ' hκ'
  · rw [Nat.zero_add] at hi
    obtain ⟨rfl, ⟨y7, y8, y9, rfl⟩, hall⟩ := hi
    rw [rngD_len] at hall
    refine ⟨y7, y8, y9, .inr ⟨rfl, ?_⟩⟩
    have h0 : 0 ≤ r9 / (3 + (k : Int)) := Int.ediv_nonneg hr (by omega)
    generalize r9 / (3 + (k : Int)) = q at hall h0
    have h5 : q % 5 = 0 ∨ q % 5 = 1 ∨ q % 5 = 2 ∨ q % 5 = 3 ∨ q % 5 = 4 := by omega
    rcases h5 with h5 | h5 | h5 | h5 | h5
    · exact hall 0 (by omega) 0 (by omega)
    · exact hall 4 (by omega) 0 (by omega)
    · exact hall 3 (by omega) 0 (by omega)
    · exact hall 2 (by omega) 0 (by omega)
    · exact hall 1 (by omega) 0 (by omega)
theorem oBody_ok (h9 : rs[9]? = some (.int r9)) (hr : 0 ≤ r9) (hk : tws[k]? = some w) (hg : Good w ∧ Inb w) (hl8 : tws.length ≤ 8) {x5 x7 : Option D} :
    (∃ S', turnZ (.nm 5) oBody (.int (k : Int)) [some sc, some (.lst rs), some (.lst (tws.map .str)), x3, some (.ref 0), x5, x6, x7, x8, x9] (WS (tws.map .str) k) = .ret (.bl true) S') ∨
      ∃ y5 y6 y7 y8 y9, turnZ (.nm 5) oBody (.int (k : Int)) [some sc, some (.lst rs), some (.lst (tws.map .str)), x3, some (.ref 0), x5, x6, x7, x8, x9] (WS (tws.map .str) k) = .next [some sc, some (.lst rs), some (.lst (tws.map .str)), x3, some (.ref 0), y5, y6, y7, y8, y9] (WS (tws.map .str) (k + 1)) := by
  obtain ⟨⟨hw, hsp⟩, hin⟩ := hg
  have hkl' : k < tws.length := (List.getElem?_eq_some_iff.mp hk).1
  have hkl : k < (tws.map D.str).length := by rw [List.length_map]; exact hkl'
  have hwd : (tws.map D.str)[k]? = some (.str w) := by rw [List.getElem?_map, hk]; rfl
  have ak : atI (tws.map D.str) (k : Int) = some (.str w) := by rw [Z.atI_nat hkl, hwd]
  have hT : ∀ (x6 : Option D) (S : Store), eOp oIx (eVar 2) (eVar 5) [some sc, some (.lst rs), some (.lst (tws.map .str)), x3, some (.ref 0), some (.int (k : Int)), x6, x7, x8, x9] S = .ok (.str w) S := fun x6 S => by
    rw [eOp_run, eVar_s, eVar_s, eVar_0, Res.bind_ok, eVar_s, eVar_s, eVar_s, eVar_s, eVar_s, eVar_0, Res.bind_ok, oIx_lst, ak, orNo_some]
  rw [turnZ_nm]
  show (∃ S', oBody [some sc, some (.lst rs), some (.lst (tws.map .str)), x3, some (.ref 0), some (.int (k : Int)), x6, x7, x8, x9] (WS (tws.map .str) k) = .ret (.bl true) S') ∨
      ∃ y5 y6 y7 y8 y9, oBody [some sc, some (.lst rs), some (.lst (tws.map .str)), x3, some (.ref 0), some (.int (k : Int)), x6, x7, x8, x9] (WS (tws.map .str) k) = .next [some sc, some (.lst rs), some (.lst (tws.map .str)), x3, some (.ref 0), y5, y6, y7, y8, y9] (WS (tws.map .str) (k + 1))
  have h1 : (eOr (eNot (eOp oIs (eCall F__law_due [] (aCons (eOp oIx (eVar 2) (eVar 5)) (aCons (eC (.int 0)) aNil))) (eC .non))) (eOr (eOp oEq (eOp oIx (eVar 2) (eVar 5)) (eC (.str "1000000000000000001"))) (eOp oEq (eOp oIx (eVar 2) (eVar 5)) (eC (.str "-1000000000000000001"))))) [some sc, some (.lst rs), some (.lst (tws.map .str)), x3, some (.ref 0), some (.int (k : Int)), x6, x7, x8, x9] (WS (tws.map .str) k) = .ok (.bl (isI (tl w))) (WS (tws.map .str) k) := by
    rw [← plain_eq hin]
    refine eOr_bl (b1 := duB w 0) ?_ fun _ => eOr_bl (b1 := decide (w = ("1000000000000000001" : Str))) ?_ fun _ => ?_
    · have hd : eCall F__law_due [] (aCons (eOp oIx (eVar 2) (eVar 5)) (aCons (eC (.int 0)) aNil)) [some sc, some (.lst rs), some (.lst (tws.map .str)), x3, some (.ref 0), some (.int (k : Int)), x6, x7, x8, x9] (WS (tws.map .str) k) = .ok (duP w 0) (WS (tws.map .str) k) := by
        rw [eCall_run, aCons_run, hT, Res.bind_ok, aCons_run, eC_run, Res.bind_ok, aNil_run, Res.bind_ok, Res.bind_ok, Res.bind_ok]
        exact due_ok (k := 0) (by decide) (by omega)
      have hdu := duP_eq w (k := 0) (by decide)
      rw [eNot_bl (b1 := !duB w 0), Bool.not_not]
      rw [eOp_run, hd, Res.bind_ok, eC_run, Res.bind_ok, hdu]
      cases duB w 0
      · exact oIs_nn
      · exact duV_is w 0 _
    · rw [eOp_run, hT, Res.bind_ok, eC_run, Res.bind_ok, oEq_str]
    · rw [eOp_run, hT, Res.bind_ok, eC_run, Res.bind_ok, oEq_str]
  unfold oBody
  rw [sSeq_run, sSet_run, h1, Res.go_ok, setT_nm, setN_some, Out.bind_next]
  show (∃ S', sSeq _ _ [some sc, some (.lst rs), some (.lst (tws.map .str)), x3, some (.ref 0), some (.int (k : Int)), some (.bl (isI (tl w))), x7, x8, x9] (WS (tws.map .str) k) = .ret (.bl true) S') ∨
      ∃ y5 y6 y7 y8 y9, sSeq _ _ [some sc, some (.lst rs), some (.lst (tws.map .str)), x3, some (.ref 0), some (.int (k : Int)), some (.bl (isI (tl w))), x7, x8, x9] (WS (tws.map .str) k) = .next [some sc, some (.lst rs), some (.lst (tws.map .str)), x3, some (.ref 0), y5, y6, y7, y8, y9] (WS (tws.map .str) (k + 1))
  have hTT := hT (some (.bl (isI (tl w))))
  obtain ⟨y7, y8, y9, hin2⟩ := inner_ok (sc := sc) (x3 := x3) (x6 := some (.bl (isI (tl w)))) (x8 := x8) (x9 := x9) (x7 := x7) h9 hr hk hw (by omega)
  generalize hρ : ([some sc, some (.lst rs), some (.lst (tws.map .str)), x3, some (.ref 0), some (.int (k : Int)), some (.bl (isI (tl w))), x7, x8, x9] : Z.Env) = ρ at hTT hin2
  have e4 : ∀ S, eVar 4 ρ S = .ok (.ref 0) S := fun S => by rw [← hρ]; rfl
  have e5 : ∀ S, eVar 5 ρ S = .ok (.int (k : Int)) S := fun S => by rw [← hρ]; rfl
  have e6 : ∀ S, eVar 6 ρ S = .ok (.bl (isI (tl w))) S := fun S => by rw [← hρ]; rfl
  have c1 : qOr (eT (eOp oNe (eCall F_is_integer [] (aCons (eOp oIx (eVar 2) (eVar 5)) aNil)) (eVar 6))) (qOr (eT (eOp oNe (eFld [(2, 1)] (eVar 4)) (eVar 5))) (qOr (eTru (eMeth [(2, { F := F_Words_ended, dd := [] })] (eVar 4) aNil)) (eT (eOp oNe (eMeth [(2, { F := F_Words_peek, dd := [] })] (eVar 4) aNil) (eOp oIx (eVar 2) (eVar 5)))))) ρ (WS (tws.map .str) k) = .ok (false || (false || (false || false))) (WS (tws.map .str) k) := by
    refine qOr_of (eT_of ?_) fun _ => qOr_of (eT_of ?_) fun _ => qOr_of (eTru_of ?_) fun _ => eT_of ?_
    · rw [eOp_run, eCall_run, aCons_run, hTT, Res.bind_ok, aNil_run, Res.bind_ok, Res.bind_ok]
      show Res.bind (F_is_integer [.str w] _) _ = _
      rw [is_integer_ok (by omega), Res.bind_ok, e6, Res.bind_ok, oNe_bl, decide_eq_true rfl]
      rfl
    · rw [eOp_run, fld_at (ws_wd _ _) (e4 _) rfl, Res.bind_ok, e5, Res.bind_ok, oNe_int, decide_eq_true rfl]
      rfl
    · rw [meth_at (ws_wd _ _) (e4 _), aNil_run, Res.bind_ok]
      refine (ended_ok (ws_wd (tws.map D.str) (k : Int))).trans ?_
      rw [decide_eq_false (by omega)]
    · rw [eOp_run, meth_at (ws_wd _ _) (e4 _), aNil_run, Res.bind_ok]
      show Res.bind (F_Words_peek [.ref 0] _) _ = _
      rw [peek_at (ws_wd _ _) hwd, Res.bind_ok, hTT, Res.bind_ok, oNe_str, decide_eq_true rfl]
      rfl
  rw [sSeq_run, sIf_of c1, if_neg (by decide), sNil_run, Out.bind_next, sSeq_run]
  have hfor : sFor (iRange1 (aCons (eC (.int 5)) aNil)) (.nm 7) iBody ρ (WS (tws.map .str) k) = forL none (turnZ (.nm 7) iBody) (rngD 0 5) ρ (WS (tws.map .str) k) := by
    rw [sFor_run, iRange1_run, aCons_run, eC_run, Res.bind_ok, aNil_run, Res.bind_ok, Res.bind_ok, rng1_ok (by decide), Res.go_ok]
    rfl
  rw [hfor]
  have hp : ∀ (i : Int), eT (eOp oEq (eFld [(2, 1)] (eVar 4)) (eVar 5)) [some sc, some (.lst rs), some (.lst (tws.map .str)), x3, some (.ref 0), some (.int (k : Int)), some (.bl (isI (tl w))), y7, y8, y9] (WS (tws.map .str) i) = .ok (decide (i = (k : Int))) (WS (tws.map .str) i) := fun i => by
    rw [eT_run, eOp_run, fld_at (ws_wd _ i) (by rw [eVar_s, eVar_s, eVar_s, eVar_s, eVar_0]) rfl, Res.bind_ok, eVar_s, eVar_s, eVar_s, eVar_s, eVar_s, eVar_0, Res.bind_ok, oEq_int, Res.bind_ok]
  rcases hin2 with h2 | ⟨h2, h0⟩
  · right
    rw [h2, Out.bind_next, sIf_of (hp _), decide_eq_false (show ¬ ((k : Int) + 1 = (k : Int)) by omega), if_neg (by simp), sNil_run]
    exact ⟨_, _, _, _, _, rfl⟩
  · left
    rw [h2, Out.bind_next, sIf_of (hp _), decide_eq_true rfl, if_pos rfl, sRet_run]
    have hrd := read_ok (κ := 0) (by decide) (ws_wd (tws.map D.str) k) hwd hw
    rw [h0, if_neg (by simp)] at hrd
    have hrc : eOp oIs (eCall F__law_read [] (aCons (eVar 4) (aCons (eC (.int 0)) aNil))) (eC .non) [some sc, some (.lst rs), some (.lst (tws.map .str)), x3, some (.ref 0), some (.int (k : Int)), some (.bl (isI (tl w))), y7, y8, y9] (WS (tws.map .str) k) = .ok (.bl true) (WS (tws.map .str) k) := by
      rw [eOp_run, eCall_run, aCons_run, eVar_s, eVar_s, eVar_s, eVar_s, eVar_0, Res.bind_ok, aCons_run, eC_run, Res.bind_ok, aNil_run, Res.bind_ok, Res.bind_ok, Res.bind_ok]
      show Res.bind (F__law_read [.ref 0, .int ((0 : Nat) : Int)] _) _ = _
      rw [hrd, Res.bind_ok, eC_run, Res.bind_ok, oIs_nn]
    rw [eOr_bl (b1 := true) (b2 := true) hrc (fun q => by cases q), Res.go_ok]
    exact ⟨_, rfl⟩
theorem outer_ok (h9 : rs[9]? = some (.int r9)) (hr : 0 ≤ r9) (hg : ∀ w ∈ tws, Good w ∧ Inb w) (hl8 : tws.length ≤ 8) {x5 x7 : Option D} :
    (∃ S', forL none (turnZ (.nm 5) oBody) (rngD 0 tws.length) [some sc, some (.lst rs), some (.lst (tws.map .str)), x3, some (.ref 0), x5, x6, x7, x8, x9] (WS (tws.map .str) 0) = .ret (.bl true) S') ∨
      ∃ y5 y6 y7 y8 y9, forL none (turnZ (.nm 5) oBody) (rngD 0 tws.length) [some sc, some (.lst rs), some (.lst (tws.map .str)), x3, some (.ref 0), x5, x6, x7, x8, x9] (WS (tws.map .str) 0) = .next [some sc, some (.lst rs), some (.lst (tws.map .str)), x3, some (.ref 0), y5, y6, y7, y8, y9] (WS (tws.map .str) tws.length) := by
  let I : Nat → Z.Env → Store → Prop := fun i ρ S => S = WS (tws.map .str) i ∧ ∃ y5 y6 y7 y8 y9, ρ = [some sc, some (.lst rs), some (.lst (tws.map .str)), x3, some (.ref 0), y5, y6, y7, y8, y9]
  let R : Out → Prop := fun o => (∃ S', o = .ret (.bl true) S') ∨ ∃ y5 y6 y7 y8 y9, o = .next [some sc, some (.lst rs), some (.lst (tws.map .str)), x3, some (.ref 0), y5, y6, y7, y8, y9] (WS (tws.map .str) tws.length)
  refine forL_rule (h := none) I R (fun _ _ _ _ => True.intro) (rngD 0 tws.length) 0 _ _ (fun j d ρ S hj hi => ?_) (fun ρ S hi => ?_) ⟨rfl, _, _, _, _, _, rfl⟩
  · rw [Nat.zero_add] at hi ⊢
    obtain ⟨rfl, y5, y6, y7, y8, y9, rfl⟩ := hi
    obtain ⟨rfl, hlt⟩ := rngD_get hj
    have hk : tws[j]? = some tws[j] := List.getElem?_eq_getElem hlt
    rw [Int.zero_add]
    rcases oBody_ok (sc := sc) (x3 := x3) (x6 := y6) (x8 := y8) (x9 := y9) (x5 := y5) (x7 := y7) h9 hr hk (hg _ (List.getElem_mem hlt)) hl8 with ⟨S', z⟩ | ⟨a5, a6, a7, a8, a9, z⟩
    · exact .inr (.inr (.inl ⟨_, S', z, .inl ⟨S', rfl⟩⟩))
    · exact .inl ⟨_, _, .inl z, rfl, _, _, _, _, _, rfl⟩
  · rw [Nat.zero_add, rngD_len] at hi
    obtain ⟨rfl, y5, y6, y7, y8, y9, rfl⟩ := hi
    exact .inr ⟨_, _, _, _, _, rfl⟩
end
/-! the law -/
theorem init_ok {ws : Str} {parts : List Str} (hs : Txt.split ws " " = parts) (hl : ws.length + 2 ≤ sizeLine) : F_Words___init__ [.ref 0, .str ws] [some (.obj 2 [])] = .ok .non (WS (parts.map .str) 0) := by
  have e0 : (("  " : Str).length == 0) = false := by decide +kernel
  have sp : eM isStr oSplit (eVar 1) (aCons (eC (.str " ")) aNil) [some (.ref 0), some (.str ws)] [some (.obj 2 [])] = .ok (.lst (parts.map .str)) [some (.obj 2 [])] := by
    rw [eM_run, eVar_s, eVar_0, Res.bind_ok, isStr_str, if_pos rfl, aCons_run, eC_run, Res.bind_ok, aNil_run, Res.bind_ok, Res.bind_ok]
    show (if ((" " : Str).length == 0) = false ∧ ws.length + 2 ≤ sizeLine then _ else _) = _
    rw [if_pos ⟨by decide +kernel, hl⟩, hs]
  have hf : f_Words___init__ [some (.ref 0), some (.str ws)] [some (.obj 2 [])] = .next [some (.ref 0), some (.str ws)] (WS (parts.map .str) 0) := by
    unfold f_Words___init__
    rw [sSeq_run, sFldZ_run, sp, Res.bind_ok, eVar_0, Res.bind_ok]
    show Out.bind (Res.go (orNo (some ([some (Cell.obj 2 [.lst (parts.map .str)])] : Store)) _) _ _) _ = _
    rw [orNo_some, Res.go_ok, Out.bind_next, sFldZ_run, eC_run, Res.bind_ok, eVar_0, Res.bind_ok]
    rfl
  unfold F_Words___init__ semZ
  rw [if_pos (show [D.ref 0, D.str ws].length = 2 from rfl)]
  show trimR 1 (outR (f_Words___init__ [some (.ref 0), some (.str ws)] [some (.obj 2 [])])) = _
  rw [hf, outR_next]
  exact trimR_ok rfl
open Classical in
noncomputable def wordOf (r : Int) : Str := if h : 0 ≤ r then (word_good h).choose else ""
theorem wordOf_ok {r : Int} (h : 0 ≤ r) : (Good (wordOf r) ∧ Inb (wordOf r)) ∧ ∀ S, F__law_word [.int r] S = .ok (.str (wordOf r)) S := by
  unfold wordOf
  rw [dif_pos h]
  exact (word_good h).choose_spec
theorem cut_map {α β : Type} (f : α → β) (xs : List α) (lo hi : Option Int) : cutD (xs.map f) lo hi = (cutD xs lo hi).map f := by
  unfold cutD
  rw [List.length_map, List.map_take, List.map_drop]
theorem strsOf_map : ∀ l : List Str, strsOf (l.map .str) = some l
  | [] => rfl
  | x :: xs => by
    rw [List.map_cons, strsOf, strsOf_map xs]
    rfl
theorem joinL_len (S : List Nat) : ∀ l : List (List Nat), (∀ p ∈ l, p.length ≤ 64) → S.length = 1 → (joinL S l).length ≤ 65 * l.length := by
  intro l
  induction l with
  | nil =>
    intro _ _
    exact Nat.le_refl _
  | cons p r ih =>
    intro h hS
    have hp := h p List.mem_cons_self
    have z := ih (fun q hq => h q (List.mem_cons_of_mem _ hq)) hS
    cases r with
    | nil =>
      show p.length ≤ _
      simp
      omega
    | cons q r =>
      have e : joinL S (p :: q :: r) = p ++ (S ++ joinL S (q :: r)) := rfl
      rw [e, List.length_append, List.length_append, List.length_cons]
      omega
theorem sum_len : ∀ l : List Str, (∀ p ∈ l, p.length ≤ 64) → (l.map (·.length)).sum ≤ 64 * l.length
  | [], _ => Nat.le_refl _
  | p :: r, h => by
    have := sum_len r fun q hq => h q (List.mem_cons_of_mem _ hq)
    have := h p List.mem_cons_self
    rw [List.map_cons, List.sum_cons, List.length_cons]
    omega
theorem f_law_eq : f_law = (sSeq (sSet (.nm 1) (eCall F__law_rows [] (aCons (eVar 0) (aCons (eC (.int 11)) aNil)))) (sSeq (sSet (.nm 2) (fun ρ S => ((aComp (iSeq (eSl (eVar 1) (pSome (eC (.int 1))) (pSome (eOp oAdd (eC (.int 2)) (eOp oMod (eB oInt (aCons (eOp oIx (eVar 1) (eC (.int 0))) aNil)) (eC (.int 8))))))) (.nm 3) qYes (eCall F__law_word [] (aCons (eVar 3) aNil)) [3]) ρ S).bind (fun ds S => .ok (.lst ds) S))) (sSeq (sSet (.nm 4) (eNew 2 F_Words___init__ [] (aCons (eM isStr oJoin (eC (.str " ")) (aCons (eVar 2) aNil)) aNil))) (sSeq (sFor (iRange1 (aCons (eB oLen (aCons (eVar 2) aNil)) aNil)) (.nm 5) oBody) (sRet (eAnd (eMeth [(2, { F := F_Words_ended, dd := [] })] (eVar 4) aNil) (eAnd (eOp oIs (eCall F__law_read [] (aCons (eVar 4) (aCons (eOp oMod (eB oInt (aCons (eOp oIx (eVar 1) (eC (.int 10))) aNil)) (eC (.int 5))) aNil))) (eC .non)) (eOp oEq (eFld [(2, 1)] (eVar 4)) (eB oLen (aCons (eVar 2) aNil)))))))))) := rfl
theorem pure_law (ns : List Int) (hl : ns.length ≤ 63) (hb : ∀ z ∈ ns, Builtin.Int.intBits z ≤ 1048576) : ∃ S, F_law [.seq (ns.map D.int)] [] = .ok (.bl true) S := by
  have hlen := rowsOf_len ns 11
  have hnn : ∀ r ∈ rowsOf ns 11, 0 ≤ r := fun r h => (rowsOf_ok hb r h).1
  have hrows : ∀ S : Store, belowS S.length S = true → F__law_rows [.seq (ns.map D.int), .int ((11 : Nat) : Int)] S = .ok (.lst ((rowsOf ns 11).map .int)) S := fun S hS => by
    rw [rows_eq]
    exact rowsF_ok hb (by decide) hS
  generalize rowsOf ns 11 = rows at hlen hnn hrows
  have hget : ∀ i : Nat, i < 11 → ∃ r, rows[i]? = some r ∧ 0 ≤ r ∧ (rows.map D.int)[i]? = some (.int r) ∧ ∀ S : Store, oIx (.lst (rows.map D.int)) (.int (i : Int)) S = .ok (.int r) S := fun i hi => by
    have e : rows[i]? = some rows[i] := List.getElem?_eq_getElem (by omega)
    have e2 : (rows.map D.int)[i]? = some (.int rows[i]) := by rw [List.getElem?_map, e]; rfl
    refine ⟨rows[i], e, hnn _ (List.getElem_mem _), e2, fun S => ?_⟩
    rw [oIx_lst, Z.atI_nat (by rw [List.length_map]; omega), e2, orNo_some]
  obtain ⟨r0, _, h0n, _, ix0⟩ := hget 0 (by decide)
  obtain ⟨r9, _, h9n, h9, _⟩ := hget 9 (by decide)
  obtain ⟨r10, _, h10n, _, ix10⟩ := hget 10 (by decide)
  let cut := cutD rows (some 1) (some (2 + r0 % 8))
  have hcm : ∀ r ∈ cut, 0 ≤ r := fun r hr => hnn r (List.mem_of_mem_drop (List.mem_of_mem_take hr))
  have hcl : 1 ≤ cut.length ∧ cut.length ≤ 8 := by
    have hm0 : 0 ≤ r0 % 8 := Int.emod_nonneg _ (by decide)
    have hm8 : r0 % 8 < 8 := Int.emod_lt_of_pos _ (by decide)
    obtain ⟨m, hm⟩ := Int.eq_ofNat_of_zero_le hm0
    have e1 : HT.sIx rows.length 0 (some 1) = 1 := by
      rw [hlen]
      rfl
    have e2 : HT.sIx rows.length rows.length (some (2 + r0 % 8)) = 2 + m := by
      rw [hm, show (2 + (m : Int)) = ((2 + m : Nat) : Int) by omega, HT.sIx_nat, hlen]
      omega
    show 1 ≤ ((rows.drop _).take _).length ∧ ((rows.drop _).take _).length ≤ 8
    rw [e1, e2, List.length_take, List.length_drop, hlen]
    omega
  let tws := cut.map wordOf
  have htl : tws.length = cut.length := List.length_map _
  have htg : ∀ w ∈ tws, Good w ∧ Inb w := fun w hw => by
    obtain ⟨r, hr, rfl⟩ := List.mem_map.mp hw
    exact (wordOf_ok (hcm r hr)).1
  have hne : tws ≠ [] := fun q => by
    rw [q, List.length_nil] at htl
    omega
  have eS : tl (" " : Str) = [32] := by decide +kernel
  have hsplit : Txt.split (Txt.join " " tws) " " = tws := split_join eS (by decide +kernel) hne fun p hp => (htg p hp).1.2
  have hJ : (Txt.join " " tws).length ≤ 520 := by
    rw [← tl_len, join_eq, tl_join, eS]
    have z := joinL_len [32] (tws.map tl) (fun p hp => by
      obtain ⟨w, hw, rfl⟩ := List.mem_map.mp hp
      rw [tl_len]
      exact (htg w hw).1.1) rfl
    rw [List.length_map] at z
    omega
  have hsum := sum_len tws fun p hp => (htg p hp).1.1
  generalize hsc : D.seq (ns.map D.int) = sc at hrows
  have st1 : sSet (.nm 1) (eCall F__law_rows [] (aCons (eVar 0) (aCons (eC (.int 11)) aNil))) [some sc, none, none, none, none, none, none, none, none, none] [] = .next [some sc, some (.lst (rows.map .int)), none, none, none, none, none, none, none, none] [] := by
    rw [sSet_run, eCall_run, aCons_run, eVar_0, Res.bind_ok, aCons_run, eC_run, Res.bind_ok, aNil_run, Res.bind_ok, Res.bind_ok, Res.bind_ok]
    show Res.go (F__law_rows [sc, .int ((11 : Nat) : Int)] []) _ _ = _
    rw [hrows [] rfl, Res.go_ok]
    rfl
  have hsl : eSl (eVar 1) (pSome (eC (.int 1))) (pSome (eOp oAdd (eC (.int 2)) (eOp oMod (eB oInt (aCons (eOp oIx (eVar 1) (eC (.int 0))) aNil)) (eC (.int 8))))) [some sc, some (.lst (rows.map .int)), none, none, none, none, none, none, none, none] [] = .ok (.lst (cut.map .int)) [] := by
    rw [eSl_run, eVar_s, eVar_0, Res.bind_ok, pSome_run, eC_run, Res.bind_ok]
    show Res.bind (Res.ok (some 1) []) _ = _
    rw [Res.bind_ok, pSome_run, eOp_run, eC_run, Res.bind_ok, eOp_run, eB_run, aCons_run, eOp_run, eVar_s, eVar_0, Res.bind_ok, eC_run, Res.bind_ok]
    rw [show oIx (.lst (rows.map D.int)) (.int 0) [] = .ok (.int r0) [] from ix0 [], Res.bind_ok, aNil_run, Res.bind_ok, Res.bind_ok, oInt_int, Res.bind_ok, eC_run, Res.bind_ok, oMod_run (by decide), Res.bind_ok, oAdd_int, Res.bind_ok]
    show Res.bind (Res.ok (some (2 + r0 % 8)) []) _ = _
    rw [Res.bind_ok, slZ_lst, orNo_some, cut_map]
  have st2 : sSet (.nm 2) (fun ρ S => ((aComp (iSeq (eSl (eVar 1) (pSome (eC (.int 1))) (pSome (eOp oAdd (eC (.int 2)) (eOp oMod (eB oInt (aCons (eOp oIx (eVar 1) (eC (.int 0))) aNil)) (eC (.int 8))))))) (.nm 3) qYes (eCall F__law_word [] (aCons (eVar 3) aNil)) [3]) ρ S).bind (fun ds S => .ok (.lst ds) S)) [some sc, some (.lst (rows.map .int)), none, none, none, none, none, none, none, none] [] = .next [some sc, some (.lst (rows.map .int)), some (.lst (tws.map .str)), none, none, none, none, none, none, none] [] := by
    have hc : compL none (.nm 3) qYes (eCall F__law_word [] (aCons (eVar 3) aNil)) (cut.map D.int) [some sc, some (.lst (rows.map .int)), none, none, none, none, none, none, none, none] [] [] = .ok ([] ++ cut.map fun r => .str (wordOf r)) [] := by
      refine compL_all (h := none) True.intro D.int (fun r => .str (wordOf r)) cut [] (fun r hr => ⟨[some sc, some (.lst (rows.map .int)), none, some (.int r), none, none, none, none, none, none], rfl, ?_⟩) (by rw [List.length_nil]; omega)
      rw [eCall_run, aCons_run, eVar_s, eVar_s, eVar_s, eVar_0, Res.bind_ok, aNil_run, Res.bind_ok, Res.bind_ok]
      exact (wordOf_ok (hcm r hr)).2 []
    rw [sSet_run]
    show Res.go (Res.bind (aComp _ _ _ _ _ _ []) _) _ _ = _
    rw [aComp_run, iSeq_run, hsl, Res.bind_ok, itemsOf_lst, orNo_some, Res.bind_ok]
    show Res.go (Res.bind (compL none _ _ _ _ [some sc, some (.lst (rows.map .int)), none, none, none, none, none, none, none, none] [] []) _) _ _ = _
    rw [hc, Res.bind_ok, Res.go_ok, List.nil_append]
    show Out.next _ [] = _
    rw [show tws.map D.str = cut.map fun r => .str (wordOf r) from List.map_map]
    rfl
  have st3 : sSet (.nm 4) (eNew 2 F_Words___init__ [] (aCons (eM isStr oJoin (eC (.str " ")) (aCons (eVar 2) aNil)) aNil)) [some sc, some (.lst (rows.map .int)), some (.lst (tws.map .str)), none, none, none, none, none, none, none] [] = .next [some sc, some (.lst (rows.map .int)), some (.lst (tws.map .str)), none, some (.ref 0), none, none, none, none, none] (WS (tws.map .str) 0) := by
    have hj : eM isStr oJoin (eC (.str " ")) (aCons (eVar 2) aNil) [some sc, some (.lst (rows.map .int)), some (.lst (tws.map .str)), none, none, none, none, none, none, none] [] = .ok (.str (Txt.join " " tws)) [] := by
      rw [eM_run, eC_run, Res.bind_ok, isStr_str, if_pos rfl, aCons_run, eVar_s, eVar_s, eVar_0, Res.bind_ok, aNil_run, Res.bind_ok, Res.bind_ok]
      show (match (lstOf [] (.lst (tws.map D.str))).bind strsOf with
        | some (ys : List Str) => if (ys.map fun y : Str => y.length).sum + ys.length * (" " : Str).length ≤ 16777216 then Res.ok (D.str (Txt.join " " ys)) [] else Res.no
        | none => Res.no) = _
      rw [lstOf_lst, Option.bind_some, strsOf_map]
      dsimp only
      have e1 : (" " : Str).length = 1 := by decide +kernel
      rw [e1, if_pos (by omega)]
    rw [sSet_run]
    show Res.go (Res.bind (aCons _ _ _ _) fun ds S1 => newR 2 F_Words___init__ (ds ++ []) S1) _ _ = _
    rw [aCons_run, hj, Res.bind_ok, aNil_run, Res.bind_ok, Res.bind_ok]
    have hn : newR 2 F_Words___init__ ([.str (Txt.join " " tws)] ++ []) [] = .ok (.ref 0) (WS (tws.map .str) 0) := by
      unfold newR
      have z := init_ok hsplit (fits (show (Txt.join " " tws).length + 2 ≤ 1000000 by omega))
      show (match F_Words___init__ [.ref 0, .str (Txt.join " " tws)] [some (.obj 2 [])] with
        | .ok .non S' => Res.ok (D.ref 0) S'
        | .ex x S' => .ex x S'
        | _ => .no) = _
      rw [z]
    rw [hn, Res.go_ok]
    rfl
  have st4 : sFor (iRange1 (aCons (eB oLen (aCons (eVar 2) aNil)) aNil)) (.nm 5) oBody [some sc, some (.lst (rows.map .int)), some (.lst (tws.map .str)), none, some (.ref 0), none, none, none, none, none] (WS (tws.map .str) 0) = forL none (turnZ (.nm 5) oBody) (rngD 0 tws.length) [some sc, some (.lst (rows.map .int)), some (.lst (tws.map .str)), none, some (.ref 0), none, none, none, none, none] (WS (tws.map .str) 0) := by
    rw [sFor_run, iRange1_run, aCons_run, eB_run, aCons_run, eVar_s, eVar_s, eVar_0, Res.bind_ok, aNil_run, Res.bind_ok, Res.bind_ok, oLen_lst, Res.bind_ok, aNil_run, Res.bind_ok, Res.bind_ok, List.length_map, rng1_nat (Nat.lt_of_le_of_lt (show tws.length ≤ 8 by omega) (by decide)), Res.go_ok]
  have fin : ∀ S, ∃ S', trimR ([] : Store).length (outR (.ret (.bl true) S)) = .ok (.bl true) S' := fun S => by
    rw [outR_ret, trimR]
    split <;> exact ⟨_, rfl⟩
  unfold F_law semZ
  rw [if_pos (show [sc].length = 1 from rfl)]
  show ∃ S, trimR ([] : Store).length (outR (f_law [some sc, none, none, none, none, none, none, none, none, none] [])) = _
  rw [f_law_eq, sSeq_run, st1, Out.bind_next, sSeq_run, st2, Out.bind_next, sSeq_run, st3, Out.bind_next, sSeq_run, st4]
  rcases outer_ok (sc := sc) (x3 := none) (x6 := none) (x8 := none) (x9 := none) (x5 := none) (x7 := none) h9 h9n htg (by omega) with ⟨S', z⟩ | ⟨y5, y6, y7, y8, y9, z⟩
  · rw [z, Out.bind_ret]
    exact fin _
  · rw [z, Out.bind_next]
    have hκ0 : 0 ≤ r10 % 5 := Int.emod_nonneg _ (by decide)
    have hκ5 : r10 % 5 < 5 := Int.emod_lt_of_pos _ (by decide)
    obtain ⟨κ, eκ⟩ := Int.eq_ofNat_of_zero_le hκ0
    have hlenD : (tws.length : Int) = (((tws.map D.str).length : Nat) : Int) := by rw [show (tws.map D.str).length = tws.length from List.length_map _]
    have hrd := read_x (κ := κ) (by omega) (ws_wd (tws.map D.str) (tws.length : Int)) hlenD
    have c : (eAnd (eMeth [(2, { F := F_Words_ended, dd := [] })] (eVar 4) aNil) (eAnd (eOp oIs (eCall F__law_read [] (aCons (eVar 4) (aCons (eOp oMod (eB oInt (aCons (eOp oIx (eVar 1) (eC (.int 10))) aNil)) (eC (.int 5))) aNil))) (eC .non)) (eOp oEq (eFld [(2, 1)] (eVar 4)) (eB oLen (aCons (eVar 2) aNil))))) [some sc, some (.lst (rows.map .int)), some (.lst (tws.map .str)), none, some (.ref 0), y5, y6, y7, y8, y9] (WS (tws.map .str) tws.length) = .ok (.bl (true && (true && true))) (WS (tws.map .str) tws.length) := by
      have e4 : ∀ S, eVar 4 [some sc, some (.lst (rows.map .int)), some (.lst (tws.map .str)), none, some (.ref 0), y5, y6, y7, y8, y9] S = .ok (.ref 0) S := fun S => rfl
      refine eAnd_bl ?_ fun _ => eAnd_bl ?_ fun _ => ?_
      · rw [meth_at (ws_wd _ _) (e4 _), aNil_run, Res.bind_ok]
        refine (ended_ok (ws_wd (tws.map D.str) (tws.length : Int))).trans ?_
        rw [decide_eq_true hlenD]
      · rw [eOp_run, eCall_run, aCons_run, e4, Res.bind_ok, aCons_run, eOp_run, eB_run, aCons_run, eOp_run, eVar_s, eVar_0, Res.bind_ok, eC_run, Res.bind_ok]
        rw [show oIx (.lst (rows.map D.int)) (.int 10) (WS (tws.map .str) tws.length) = .ok (.int r10) (WS (tws.map .str) tws.length) from ix10 _, Res.bind_ok, aNil_run, Res.bind_ok, Res.bind_ok, oInt_int, Res.bind_ok, eC_run, Res.bind_ok, oMod_run (by decide), Res.bind_ok, aNil_run, Res.bind_ok, Res.bind_ok, Res.bind_ok, eκ]
        show Res.bind (F__law_read [.ref 0, .int (κ : Int)] _) _ = _
        rw [hrd, Res.bind_ok, eC_run, Res.bind_ok, oIs_nn]
      · rw [eOp_run, fld_at (ws_wd _ _) (e4 _) rfl, Res.bind_ok, eB_run, aCons_run, eVar_s, eVar_s, eVar_0, Res.bind_ok, aNil_run, Res.bind_ok, Res.bind_ok, oLen_lst, Res.bind_ok, oEq_int, decide_eq_true hlenD]
    rw [sRet_run, c, Res.go_ok]
    exact fin _
end K79
open PySem PySem.W PySem.Calls PyProof.Rows in
theorem PySem.Challenge.cw_sureplace_k79_words_holds : PySem.Challenge.rw_sureplace_k79_words.Holds := by
  w_on; o_law
  refine HandSHeadRun.head_any (r := K79.R) (q := view K79.R.prog [19]) (H := K79.hk) (ob := K79.ob) (M := 4000) (loose := K79.loose) (d := HandSHeadRun.topDef K79.R.prog 19) (kwd := []) K79.ob_eq
    (by kernel_rfl) (fun s => by kernel_rfl) K79.run (by kernel_rfl) (by kernel_rfl) (by kernel_rfl) (by rfl) (by first | assumption | decide +kernel) (by decide +kernel) ⟨rfl, rfl, rfl, rfl, rfl, by decide +kernel⟩ ?hw ?hc
  case hw => w_witness2
  case hc =>
    refine Z.walk_z (l := PySem.Challenge.rw_sureplace_k79_words) (n := 63) (k := 7) (x := "_law_script") rfl (by decide) (by kernel_rfl) ⟨rfl, by decide, by decide⟩ ?F
    intro w mg ad h Y G hmg0
    obtain ⟨K, KX, c⟩ := Y
    have B : K79.Bs K mg h := ⟨c, KX, G⟩
    have hmg : mg ("law" : PySem.Str) = some (.ref ad) := by
      have e : (HandSHeadRun.topDef K79.R.prog 19).name = ("law" : PySem.Str) := by kernel_rfl
      rw [← e]
      exact hmg0
    obtain ⟨fd, Fd⟩ := K79.fz_law B
    have e := hmg.symm.trans (He.glo_ok B.kx B.ns (B.says.fact 45))
    cases e
    refine ⟨K, fd, K79.F_law, fun base => K79.gz w K mg base, KX, fun s v => L2.FunD.bindsA (ps := ["_law_script"]) Fd (fun _ _ _ _ _ _ us hl => match us, hl with | [_], _ => rfl) s [v] rfl, fun _ => ⟨rfl, rfl, rfl, rfl, rfl⟩, K79.pure_law, fun base _ _ => ?_⟩
    obtain ⟨fd2, Fd2, Fn⟩ := K79.fn_law (w := w) (base := base) B
    have e2 : fd2 = fd := L2.funD_fd Fd2 Fd
    subst e2
    exact Fn
