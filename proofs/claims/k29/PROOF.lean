import PyProof.Rows.All
import Wide.All
import OpenK.AllK
import Wide.FinOn
import HandS.ForMost
import HandS.Star
import HandS.IsInst
import HandS.DictComp
import HandS.ListItems
import HandS.TupAny
import HandS.Walk
import HandS.Deep
import HandS.Wide
import HandS.SortInts
import HandS.Defaults
import HandS.Zip
import HandS.HeadHook4
import HandS.HeadEnd
import HandS.EndBits
import KE.GoesMore
import HandS.Style
import HandS.Zip0
import PySem.Challenge.RW_eithershown_k29_whole_no_row_down
import HandS.Head0
import HandS.Head1
import HandS.Head2
import HandS.HeadHook1
import HandS.HeadHook2
import HandS.HeadHook3
set_option Elab.async false
set_option maxRecDepth 100000
set_option maxHeartbeats 4000000
/-! A logic over data: what a Python value is worth (D), what a def's names hold (Sl), what expressions and statements make of it. -/
namespace DL
open PySem L2

inductive D where
  | non | bl (b : Bool) | int (i : Int) | str (x : Str)
  | lst (xs : List D) | tup (xs : List D)
  | dic (kvs : List (Key × D))
  | ins (C : Addr) (fs : List (Str × D))

mutual
inductive Rp (K : PySem.W.Frag) (S : Addr → Prop) (H : Hp) : V → D → Prop
  | non : Rp K S H .non .non
  | bl (b : Bool) : Rp K S H (.bl b) (.bl b)
  | int (i : Int) : Rp K S H (.int i) (.int i)
  | str (x : Str) : Rp K S H (.str x) (.str x)
  | lst {a : Addr} {xs : List V} {ds : List D} : ¬ S a → H a = some (.lst xs) → RpL K S H xs ds → Rp K S H (.ref a) (.lst ds)
  | tup {a : Addr} {xs : List V} {ds : List D} : SqT K H a xs → RpL K S H xs ds → Rp K S H (.ref a) (.tup ds)
  | dic {a : Addr} {kvs : List (Key × V)} {es : List (Key × D)} : ¬ S a → Rd H a (.dK kvs) → RpD K S H kvs es → Rp K S H (.ref a) (.dic es)
  | ins {a C dx : Addr} {fs : List (Str × V)} {es : List (Str × D)} : ¬ S a → H a = some (.ins C dx fs) → RpF K S H fs es → Rp K S H (.ref a) (.ins C es)
inductive RpL (K : PySem.W.Frag) (S : Addr → Prop) (H : Hp) : List V → List D → Prop
  | nil : RpL K S H [] []
  | cons {v : V} {vs : List V} {d : D} {ds : List D} : Rp K S H v d → RpL K S H vs ds → RpL K S H (v :: vs) (d :: ds)
inductive RpD (K : PySem.W.Frag) (S : Addr → Prop) (H : Hp) : List (Key × V) → List (Key × D) → Prop
  | nil : RpD K S H [] []
  | cons {k : Key} {v : V} {vs : List (Key × V)} {d : D} {ds : List (Key × D)} : Rp K S H v d → RpD K S H vs ds → RpD K S H ((k, v) :: vs) ((k, d) :: ds)
inductive RpF (K : PySem.W.Frag) (S : Addr → Prop) (H : Hp) : List (Str × V) → List (Str × D) → Prop
  | nil : RpF K S H [] []
  | cons {k : Str} {v : V} {vs : List (Str × V)} {d : D} {ds : List (Str × D)} : Rp K S H v d → RpF K S H vs ds → RpF K S H ((k, v) :: vs) ((k, d) :: ds)
end

/-! ### how heaps grow -/
def Ex (H H' : Hp) : Prop := ∀ a o, H a = some o → H' a = some o
theorem Ex.refl (H : Hp) : Ex H H := fun _ _ h => h
theorem Ex.trans {H H1 H2 : Hp} (a : Ex H H1) (b : Ex H1 H2) : Ex H H2 := fun x o h => b x o (a x o h)
theorem Ex.new {H : Hp} {p : Addr} {o : HO} (h : H p = none) : Ex H (upd H p o) := fun a u e => by
  rw [upd_ne (ne_of_none e h)]
  exact e
theorem Ex.mut {H H' : Hp} {p : Addr} {o : HO} (e : Ex H H') (h : H p = none) : Ex H (upd H' p o) := fun a u ha => by
  rw [upd_ne (ne_of_none ha h)]
  exact e a u ha
theorem Ex.back {H H' : Hp} {p : Addr} (e : Ex H H') (h : H' p = none) : H p = none := by
  cases h1 : H p with
  | none => rfl
  | some o =>
    rw [e p o h1] at h
    cases h
/-- data may be read as before: all but what lies in S -/
structure Gr (S : Addr → Prop) (H H' : Hp) : Prop where
  ls : ∀ a xs, ¬ S a → H a = some (.lst xs) → H' a = some (.lst xs)
  dk : ∀ a kvs, ¬ S a → Rd H a (.dK kvs) → Rd H' a (.dK kvs)
  tp : ∀ a xs, Rd H a (.tup xs) → Rd H' a (.tup xs)
  ins : ∀ a C dx fs, ¬ S a → H a = some (.ins C dx fs) → H' a = some (.ins C dx fs)
theorem Rd.ex {H H' : Hp} {a : Addr} {u : HO} (e : Ex H H') (h : Rd H a u) : Rd H' a u := by
  rcases h with h | ⟨o, h⟩
  · exact .inl (e a _ h)
  · exact .inr ⟨o, e a _ h⟩
theorem Ex.gr {S : Addr → Prop} {H H' : Hp} (e : Ex H H') : Gr S H H' :=
  ⟨fun a _ _ h => e a _ h, fun _ _ _ h => Rd.ex e h, fun _ _ h => Rd.ex e h, fun a _ _ _ _ h => e a _ h⟩

section
variable {K : PySem.W.Frag} {S S' : Addr → Prop} {H H' : Hp}
mutual
theorem Rp.mono (g : Gr S H H') (hs : ∀ a, S' a → S a) : ∀ {v : V} {d : D}, Rp K S H v d → Rp K S' H' v d
  | _, _, .non => .non
  | _, _, .bl b => .bl b
  | _, _, .int i => .int i
  | _, _, .str x => .str x
  | _, _, .lst n h r => .lst (fun z => n (hs _ z)) (g.ls _ _ n h) (RpL.mono g hs r)
  | _, _, .tup h r => .tup (by
      rcases h with h | h
      · exact .inl (g.tp _ _ h)
      · exact .inr h) (RpL.mono g hs r)
  | _, _, .dic n h r => .dic (fun z => n (hs _ z)) (g.dk _ _ n h) (RpD.mono g hs r)
  | _, _, .ins n h r => .ins (fun z => n (hs _ z)) (g.ins _ _ _ _ n h) (RpF.mono g hs r)
theorem RpL.mono (g : Gr S H H') (hs : ∀ a, S' a → S a) : ∀ {v : List V} {d : List D}, RpL K S H v d → RpL K S' H' v d
  | _, _, .nil => .nil
  | _, _, .cons a b => .cons (Rp.mono g hs a) (RpL.mono g hs b)
theorem RpD.mono (g : Gr S H H') (hs : ∀ a, S' a → S a) : ∀ {v : List (Key × V)} {d : List (Key × D)}, RpD K S H v d → RpD K S' H' v d
  | _, _, .nil => .nil
  | _, _, .cons a b => .cons (Rp.mono g hs a) (RpD.mono g hs b)
theorem RpF.mono (g : Gr S H H') (hs : ∀ a, S' a → S a) : ∀ {v : List (Str × V)} {d : List (Str × D)}, RpF K S H v d → RpF K S' H' v d
  | _, _, .nil => .nil
  | _, _, .cons a b => .cons (Rp.mono g hs a) (RpF.mono g hs b)
end
theorem Rp.ex {v : V} {d : D} (h : Rp K S H v d) (e : Ex H H') : Rp K S H' v d := h.mono e.gr fun _ z => z
theorem RpL.ex {v : List V} {d : List D} (h : RpL K S H v d) (e : Ex H H') : RpL K S H' v d := h.mono e.gr fun _ z => z
theorem RpD.ex {v : List (Key × V)} {d : List (Key × D)} (h : RpD K S H v d) (e : Ex H H') : RpD K S H' v d := h.mono e.gr fun _ z => z
theorem Rp.sub {v : V} {d : D} (h : Rp K S H v d) (hs : ∀ a, S' a → S a) : Rp K S' H v d := h.mono (Ex.refl H).gr hs
theorem RpL.sub {v : List V} {d : List D} (h : RpL K S H v d) (hs : ∀ a, S' a → S a) : RpL K S' H v d := h.mono (Ex.refl H).gr hs
theorem rd_some {a : Addr} {u : HO} (h : Rd H a u) : H a ≠ none := by
  rcases h with h | ⟨o, h⟩ <;> (rw [h]; exact fun q => nomatch q)
mutual
/-- what is not tracked may be hidden -/
theorem Rp.hide (hs : ∀ a, S' a → S a ∨ H a = none) : ∀ {v : V} {d : D}, Rp K S H v d → Rp K S' H v d
  | _, _, .non => .non
  | _, _, .bl b => .bl b
  | _, _, .int i => .int i
  | _, _, .str x => .str x
  | _, _, .lst n h r => .lst (fun z => (hs _ z).elim n (by rw [h]; exact fun q => nomatch q)) h (RpL.hide hs r)
  | _, _, .tup h r => .tup h (RpL.hide hs r)
  | _, _, .dic n h r => .dic (fun z => (hs _ z).elim n (rd_some h)) h (RpD.hide hs r)
  | _, _, .ins n h r => .ins (fun z => (hs _ z).elim n (by rw [h]; exact fun q => nomatch q)) h (RpF.hide hs r)
theorem RpL.hide (hs : ∀ a, S' a → S a ∨ H a = none) : ∀ {v : List V} {d : List D}, RpL K S H v d → RpL K S' H v d
  | _, _, .nil => .nil
  | _, _, .cons a b => .cons (Rp.hide hs a) (RpL.hide hs b)
theorem RpD.hide (hs : ∀ a, S' a → S a ∨ H a = none) : ∀ {v : List (Key × V)} {d : List (Key × D)}, RpD K S H v d → RpD K S' H v d
  | _, _, .nil => .nil
  | _, _, .cons a b => .cons (Rp.hide hs a) (RpD.hide hs b)
theorem RpF.hide (hs : ∀ a, S' a → S a ∨ H a = none) : ∀ {v : List (Str × V)} {d : List (Str × D)}, RpF K S H v d → RpF K S' H v d
  | _, _, .nil => .nil
  | _, _, .cons a b => .cons (Rp.hide hs a) (RpF.hide hs b)
end
theorem RpL.length : ∀ {v : List V} {d : List D}, RpL K S H v d → v.length = d.length
  | _, _, .nil => rfl
  | _, _, .cons _ b => congrArg (· + 1) (RpL.length b)
theorem RpL.get : ∀ {v : List V} {d : List D} {i : Nat} {x : D}, RpL K S H v d → d[i]? = some x → ∃ y, v[i]? = some y ∧ Rp K S H y x
  | _, _, _, _, .nil, h => by simp at h
  | _, _, 0, _, .cons a b, h => by
    simp at h
    subst h
    exact ⟨_, rfl, a⟩
  | _, _, i + 1, x, .cons a b, h => by
    obtain ⟨y, h1, h2⟩ := RpL.get (i := i) (x := x) b (by simpa using h)
    exact ⟨y, by simpa using h1, h2⟩
theorem RpL.getV : ∀ {v : List V} {d : List D} {i : Nat} {y : V}, RpL K S H v d → v[i]? = some y → ∃ x, d[i]? = some x ∧ Rp K S H y x
  | _, _, _, _, .nil, h => by simp at h
  | _, _, 0, _, .cons a b, h => by
    simp at h
    subst h
    exact ⟨_, rfl, a⟩
  | _, _, i + 1, y, .cons a b, h => by
    obtain ⟨x, h1, h2⟩ := RpL.getV (i := i) (y := y) b (by simpa using h)
    exact ⟨x, by simpa using h1, h2⟩
theorem RpL.append : ∀ {v v' : List V} {d d' : List D}, RpL K S H v d → RpL K S H v' d' → RpL K S H (v ++ v') (d ++ d')
  | _, _, _, _, .nil, h => h
  | _, _, _, _, .cons a b, h => .cons a (RpL.append b h)
theorem RpL.take : ∀ {v : List V} {d : List D} (n : Nat), RpL K S H v d → RpL K S H (v.take n) (d.take n)
  | _, _, 0, _ => .nil
  | _, _, _ + 1, .nil => .nil
  | _, _, n + 1, .cons a b => .cons a (RpL.take n b)
theorem RpL.drop : ∀ {v : List V} {d : List D} (n : Nat), RpL K S H v d → RpL K S H (v.drop n) (d.drop n)
  | _, _, 0, h => h
  | _, _, _ + 1, .nil => .nil
  | _, _, n + 1, .cons _ b => RpL.drop n b
theorem RpL.eraseIdx : ∀ {v : List V} {d : List D} (n : Nat), RpL K S H v d → RpL K S H (v.eraseIdx n) (d.eraseIdx n)
  | _, _, _, .nil => .nil
  | _, _, 0, .cons _ b => b
  | _, _, n + 1, .cons a b => .cons a (RpL.eraseIdx n b)
theorem RpL.rev {v : List V} {d : List D} (h : RpL K S H v d) : RpL K S H v.reverse d.reverse := by
  induction d generalizing v with
  | nil => cases h; exact .nil
  | cons x xs ih =>
    cases h with
    | cons a b =>
      rw [List.reverse_cons, List.reverse_cons]
      exact (ih b).append (.cons a .nil)
theorem RpL.ofInts : ∀ (ns : List Int), RpL K S H (ns.map V.int) (ns.map D.int)
  | [] => .nil
  | n :: r => .cons (.int n) (RpL.ofInts r)
theorem RpL.ints : ∀ {v : List V} {ns : List Int}, RpL K S H v (ns.map D.int) → v = ns.map V.int
  | _, [], h => by cases h; rfl
  | _, n :: r, h => by
    cases h with
    | cons a b =>
      cases a
      rw [RpL.ints b]
      rfl
theorem RpL.strs : ∀ {v : List V} {ns : List Str}, RpL K S H v (ns.map D.str) → v = ns.map V.str
  | _, [], h => by cases h; rfl
  | _, n :: r, h => by
    cases h with
    | cons a b =>
      cases a
      rw [RpL.strs b]
      rfl
theorem RpL.bls : ∀ {v : List V} {ns : List Bool}, RpL K S H v (ns.map D.bl) → v = ns.map V.bl
  | _, [], h => by cases h; rfl
  | _, n :: r, h => by
    cases h with
    | cons a b =>
      cases a
      rw [RpL.bls b]
      rfl
end
end DL
set_option Elab.async false
set_option maxRecDepth 100000
set_option maxHeartbeats 4000000
set_option linter.all false
namespace DL
open PySem L2 StX

/-! ### what a name holds -/
inductive Sl where
  | no
  | dat (d : D)
  | ml (ds : List D)
  | md (es : List (Key × D))
  | st (n : Nat)

/-- the law's spring of draws at s, its cells' list at c; at most n numbers were drawn -/
structure Strm (H : Hp) (s c : Addr) (n : Nat) : Prop where
  ne : s ≠ c
  ex : ∃ (ns : List Int) (x1 x2 x3 : Int), H s = some (.lst [.ref c, .int x1, .int x2, .int x3]) ∧ H c = some (.lst (ns.map V.int)) ∧ ns.length ≤ 63 ∧ (∀ z ∈ ns, z.natAbs < 2 ^ 1048576) ∧ 0 ≤ x1 ∧ x1.natAbs < 2 ^ 1048576 ∧
    0 ≤ x2 ∧ x2 ≤ (n : Int) ∧ 0 ≤ x3 ∧ x3 < 2147483647
theorem Strm.keep {H H' : Hp} {s c : Addr} {n : Nat} (h : Strm H s c n) (hs : H' s = H s) (hc : H' c = H c) : Strm H' s c n := by
  obtain ⟨ns, x1, x2, x3, a, b, r⟩ := h.ex
  exact ⟨h.ne, ns, x1, x2, x3, hs.trans a, hc.trans b, r⟩

def IsOwn (H : Hp) (a : Addr) : Prop := (∃ xs, H a = some (.lst xs)) ∨ ∃ kvs, H a = some (.dK kvs)

abbrev Os := Nat → List Addr
def T (S : Addr → Prop) (O : Os) : Addr → Prop := fun a => S a ∨ ∃ i, a ∈ O i
def SlOk (K : PySem.W.Frag) (T : Addr → Prop) (H : Hp) (os : List Addr) (v : Option (Option V)) : Sl → Prop
  | .no => os = []
  | .dat d => os = [] ∧ ∃ x, v = some (some x) ∧ Rp K T H x d
  | .ml ds => ∃ l xs, os = [l] ∧ v = some (some (.ref l)) ∧ H l = some (.lst xs) ∧ RpL K T H xs ds
  | .md es => ∃ l kvs, os = [l] ∧ v = some (some (.ref l)) ∧ H l = some (.dK kvs) ∧ RpD K T H kvs es
  | .st n => ∃ s c, os = [s, c] ∧ v = some (some (.ref s)) ∧ Strm H s c n

structure EnvOk (K : PySem.W.Frag) (S : Addr → Prop) (O : Os) (H : Hp) (σ : L2.St) (Γ : List Sl) : Prop where
  len : σ.length = Γ.length
  sl : ∀ i s, Γ[i]? = some s → SlOk K (T S O) H (O i) σ[i]? s
  dis : ∀ i j a, a ∈ O i → a ∈ O j → i = j
  own : ∀ i a, a ∈ O i → ¬ S a ∧ IsOwn H a
  sin : ∀ a, S a → H a ≠ none
  out : ∀ i, Γ.length ≤ i → O i = []

/-- all but the own objects are as they were -/
def Fr (O : Os) (H H' : Hp) : Prop := ∀ a o, H a = some o → (∀ i, a ∉ O i) → H' a = some o
theorem Fr.refl (O : Os) (H : Hp) : Fr O H H := fun _ _ h _ => h
theorem Fr.trans {O : Os} {H H1 H2 : Hp} (a : Fr O H H1) (b : Fr O H1 H2) : Fr O H H2 := fun x o h n => b x o (a x o h n) n
theorem Ex.fr {O : Os} {H H' : Hp} (e : Ex H H') : Fr O H H' := fun a o h _ => e a o h

section
variable {K : PySem.W.Frag} {S : Addr → Prop} {O : Os} {H H' : Hp} {σ : L2.St} {Γ : List Sl}
theorem IsOwn.some {a : Addr} (h : IsOwn H a) : H a ≠ none := by
  rcases h with ⟨xs, h⟩ | ⟨xs, h⟩ <;> (rw [h]; exact fun q => nomatch q)
theorem EnvOk.tin (E : EnvOk K S O H σ Γ) : ∀ a, T S O a → H a ≠ none := fun a h => by
  rcases h with h | ⟨i, h⟩
  · exact E.sin a h
  · exact (E.own i a h).2.some
theorem EnvOk.tfresh (E : EnvOk K S O H σ Γ) {p : Addr} (h : H p = none) : ¬ T S O p := fun z => E.tin p z h
theorem EnvOk.get (E : EnvOk K S O H σ Γ) {i : Nat} {d : D} (h : Γ[i]? = some (.dat d)) : ∃ x, σ[i]? = some (some x) ∧ Rp K (T S O) H x d := (E.sl i _ h).2
theorem EnvOk.getL (E : EnvOk K S O H σ Γ) {i : Nat} {ds : List D} (h : Γ[i]? = some (.ml ds)) : ∃ l xs, O i = [l] ∧ σ[i]? = some (some (.ref l)) ∧ H l = some (.lst xs) ∧ RpL K (T S O) H xs ds := E.sl i _ h
theorem EnvOk.getD (E : EnvOk K S O H σ Γ) {i : Nat} {es : List (Key × D)} (h : Γ[i]? = some (.md es)) : ∃ l kvs, O i = [l] ∧ σ[i]? = some (some (.ref l)) ∧ H l = some (.dK kvs) ∧ RpD K (T S O) H kvs es := E.sl i _ h
theorem EnvOk.getS (E : EnvOk K S O H σ Γ) {i n : Nat} (h : Γ[i]? = some (.st n)) : ∃ s c, O i = [s, c] ∧ σ[i]? = some (some (.ref s)) ∧ Strm H s c n := E.sl i _ h
/-- the heap grew: all own objects as they were, all else may be read as before -/
theorem EnvOk.grow (E : EnvOk K S O H σ Γ) (g : Gr (T S O) H H') (ho : ∀ i a, a ∈ O i → H' a = H a) (hs : ∀ a, S a → H' a ≠ none) : EnvOk K S O H' σ Γ := by
  refine ⟨E.len, fun i s h => ?_, E.dis, fun i a h => ⟨(E.own i a h).1, ?_⟩, hs, E.out⟩
  · have q := E.sl i s h
    cases s with
    | no => exact q
    | dat d =>
      obtain ⟨q0, x, q1, q2⟩ := q
      exact ⟨q0, x, q1, q2.mono g fun _ z => z⟩
    | ml ds =>
      obtain ⟨l, xs, q0, q1, q2, q3⟩ := q
      exact ⟨l, xs, q0, q1, (ho i l (by rw [q0]; exact List.mem_cons_self ..)).trans q2, q3.mono g fun _ z => z⟩
    | md es =>
      obtain ⟨l, xs, q0, q1, q2, q3⟩ := q
      exact ⟨l, xs, q0, q1, (ho i l (by rw [q0]; exact List.mem_cons_self ..)).trans q2, q3.mono g fun _ z => z⟩
    | st n =>
      obtain ⟨s, c, q0, q1, q2⟩ := q
      exact ⟨s, c, q0, q1, q2.keep (ho i s (by rw [q0]; exact List.mem_cons_self ..)) (ho i c (by rw [q0]; exact List.mem_cons_of_mem _ (List.mem_cons_self ..)))⟩
  · have q := (E.own i a h).2
    unfold IsOwn at q ⊢
    rw [ho i a h]
    exact q
theorem EnvOk.ex (E : EnvOk K S O H σ Γ) (e : Ex H H') : EnvOk K S O H' σ Γ := by
  refine E.grow e.gr (fun i a h => ?_) (fun a h => ?_)
  · rcases (E.own i a h).2 with ⟨xs, q⟩ | ⟨xs, q⟩ <;> rw [q, e _ _ q]
  · cases q : H a with
    | none => exact absurd q (E.sin a h)
    | some o =>
      rw [e _ _ q]
      exact fun z => nomatch z
theorem EnvOk.gr (E : EnvOk K S O H σ Γ) (f : Fr O H H') : Gr (T S O) H H' := by
  have no : ∀ a, ¬ T S O a → ∀ i, a ∉ O i := fun a h i z => h (.inr ⟨i, z⟩)
  refine ⟨fun a xs n h => f _ _ h (no a n), fun a xs n h => ?_, fun a xs h => ?_, fun a C dx fs n h => f _ _ h (no a n)⟩
  · rcases h with h | ⟨o, h⟩
    · exact .inl (f _ _ h (no a n))
    · exact .inr ⟨o, f _ _ h (no a n)⟩
  · have w : ∀ i, a ∉ O i := fun i z => by
      rcases (E.own i a z).2 with ⟨ys, q⟩ | ⟨ys, q⟩ <;> rcases h with h | ⟨o, h⟩ <;> (rw [h] at q; cases q)
    rcases h with h | ⟨o, h⟩
    · exact .inl (f _ _ h w)
    · exact .inr ⟨o, f _ _ h w⟩
theorem EnvOk.sin' (E : EnvOk K S O H σ Γ) (f : Fr O H H') : ∀ a, S a → H' a ≠ none := fun a h => by
  cases q : H a with
  | none => exact absurd q (E.sin a h)
  | some o =>
    rw [f _ _ q (fun i z => (E.own i a z).1 h)]
    exact fun z => nomatch z
end

/-! ### judgements over data: K's def runs where these hold, whatever the heap -/
section
variable (K : PySem.W.Frag)
/-- te gives d, and changes nothing -/
def ED (te : TE) (Γ : List Sl) (d : D) : Prop := ∀ S O σ H, EnvOk K S O H σ Γ → ∀ Q : VK, (∀ v H', Ex H H' → Rp K (T S O) H' v d → Q v H') → te σ H Q
def ET (tt : TT) (Γ : List Sl) (b : Bool) : Prop := ∀ S O σ H, EnvOk K S O H σ Γ → ∀ Q : Bool → Hp → Prop, (∀ H', Ex H H' → Q b H') → tt σ H Q
def EA (ta : TA) (Γ : List Sl) (ds : List D) : Prop := ∀ S O σ H, EnvOk K S O H σ Γ → ∀ Q : List V → Hp → Prop, (∀ vs H', Ex H H' → RpL K (T S O) H' vs ds → Q vs H') → ta σ H Q
def EO (to : TO) (Γ : List Sl) (i : Option Int) : Prop := ∀ S O σ H, EnvOk K S O H σ Γ → ∀ Q : Option Int → Hp → Prop, (∀ H', Ex H H' → Q i H') → to σ H Q
/-- te gives d and changes the own objects, as R says -/
def XE (te : TE) (Γ : List Sl) (R : List Sl → D → Prop) : Prop := ∀ S O σ H, EnvOk K S O H σ Γ → ∀ Q : VK, (∀ Γ' v d H', R Γ' d → EnvOk K S O H' σ Γ' → Fr O H H' → Rp K (T S O) H' v d → Q v H') → te σ H Q
def XT (tt : TT) (Γ : List Sl) (R : List Sl → Bool → Prop) : Prop := ∀ S O σ H, EnvOk K S O H σ Γ → ∀ Q : Bool → Hp → Prop, (∀ Γ' b H', R Γ' b → EnvOk K S O H' σ Γ' → Fr O H H' → Q b H') → tt σ H Q
/-- an operation on values, a call on values -/
def VR (r : R2) (a b c : D) : Prop := ∀ (T : Addr → Prop) H x y, (∀ a, T a → H a ≠ none) → Rp K T H x a → Rp K T H y b → ∀ Q : VK, (∀ v H', Ex H H' → Rp K T H' v c → Q v H') → r x y H Q
def VU (r : V → Hp → VK → Prop) (a c : D) : Prop := ∀ (T : Addr → Prop) H x, (∀ a, T a → H a ≠ none) → Rp K T H x a → ∀ Q : VK, (∀ v H', Ex H H' → Rp K T H' v c → Q v H') → r x H Q
def VC (r : List V → Hp → VK → Prop) (as : List D) (c : D) : Prop := ∀ (T : Addr → Prop) H xs, (∀ a, T a → H a ≠ none) → RpL K T H xs as → ∀ Q : VK, (∀ v H', Ex H H' → Rp K T H' v c → Q v H') → r xs H Q
def VS (r : V → Option Int → Option Int → Hp → VK → Prop) (a : D) (lo hi : Option Int) (c : D) : Prop := ∀ (T : Addr → Prop) H x, (∀ a, T a → H a ≠ none) → Rp K T H x a → ∀ Q : VK, (∀ v H', Ex H H' → Rp K T H' v c → Q v H') → r x lo hi H Q
end

section
variable {K : PySem.W.Frag} {Γ : List Sl} {ta tb te : TE} {tt tu : TT} {a b c d : D} {r : R2}
theorem ed_var {i : Nat} (h : Γ[i]? = some (.dat d)) : ED K (tVar i) Γ d := fun S O σ H E Q q => by
  obtain ⟨x, h1, h2⟩ := E.get h
  exact ⟨x, h1, q x H (Ex.refl H) h2⟩
theorem ed_int (i : Int) : ED K (tC (.int i)) Γ (.int i) := fun S O σ H E Q q => q _ H (Ex.refl H) (.int i)
theorem ed_bl (i : Bool) : ED K (tC (.bl i)) Γ (.bl i) := fun S O σ H E Q q => q _ H (Ex.refl H) (.bl i)
theorem ed_str (i : Str) : ED K (tC (.str i)) Γ (.str i) := fun S O σ H E Q q => q _ H (Ex.refl H) (.str i)
theorem ed_non : ED K (tC .non) Γ .non := fun S O σ H E Q q => q _ H (Ex.refl H) .non
theorem ed_op (ha : ED K ta Γ a) (hb : ED K tb Γ b) (hr : VR K r a b c) : ED K (tOp r ta tb) Γ c := fun S O σ H E Q q =>
  ha S O σ H E _ fun x H1 e1 r1 => hb S O σ H1 (E.ex e1) _ fun y H2 e2 r2 =>
    hr _ H2 x y ((E.ex e1).ex e2).tin (r1.ex e2) r2 Q fun v H3 e3 r3 => q v H3 ((e1.trans e2).trans e3) r3
theorem ed_un {r : V → Hp → VK → Prop} (ha : ED K ta Γ a) (hr : VU K r a c) : ED K (tUn r ta) Γ c := fun S O σ H E Q q =>
  ha S O σ H E _ fun x H1 e1 r1 => hr _ H1 x (E.ex e1).tin r1 Q fun v H3 e3 r3 => q v H3 (e1.trans e3) r3
theorem ed_is (h : ED K te Γ c) (e : c = d) : ED K te Γ d := e ▸ h
theorem et_is {x y : Bool} (h : ET K tt Γ x) (e : x = y) : ET K tt Γ y := e ▸ h
theorem et_test {x : Bool} (h : ED K te Γ (.bl x)) : ET K (tTest te) Γ x := fun S O σ H E Q q => h S O σ H E _ fun v H1 e1 r1 => by
  cases r1
  exact ⟨x, rfl, q H1 e1⟩
theorem et_B {x : Bool} (h : ED K te Γ (.bl x)) : ET K (tB te) Γ x := fun S O σ H E Q q => h S O σ H E _ fun v H1 e1 r1 => by
  cases r1
  exact ⟨x, rfl, q H1 e1⟩
theorem et_and {x y : Bool} (h1 : ET K tt Γ x) (h2 : x = true → ET K tu Γ y) : ET K (tAnd tt tu) Γ (x && y) := fun S O σ H E Q q => h1 S O σ H E _ fun H1 e1 => by
  cases x with
  | true => exact h2 rfl S O σ H1 (E.ex e1) Q fun H2 e2 => q H2 (e1.trans e2)
  | false => exact q H1 e1
theorem et_or {x y : Bool} (h1 : ET K tt Γ x) (h2 : x = false → ET K tu Γ y) : ET K (tOr tt tu) Γ (x || y) := fun S O σ H E Q q => h1 S O σ H E _ fun H1 e1 => by
  cases x with
  | true => exact q H1 e1
  | false => exact h2 rfl S O σ H1 (E.ex e1) Q fun H2 e2 => q H2 (e1.trans e2)
theorem et_not {x : Bool} (h1 : ET K tt Γ x) : ET K (tNot tt) Γ (!x) := fun S O σ H E Q q => h1 S O σ H E _ fun H1 e1 => q H1 e1
theorem ed_andV {x y : Bool} (h1 : ED K ta Γ (.bl x)) (h2 : x = true → ED K tb Γ (.bl y)) : ED K (tAndV ta tb) Γ (.bl (x && y)) := fun S O σ H E Q q => h1 S O σ H E _ fun v H1 e1 r1 => by
  cases r1
  refine ⟨x, rfl, ?_⟩
  cases x with
  | true => exact h2 rfl S O σ H1 (E.ex e1) Q fun v H2 e2 r2 => q v H2 (e1.trans e2) r2
  | false => exact q _ H1 e1 (.bl false)
theorem ed_orV {x y : Bool} (h1 : ED K ta Γ (.bl x)) (h2 : x = false → ED K tb Γ (.bl y)) : ED K (tOrV ta tb) Γ (.bl (x || y)) := fun S O σ H E Q q => h1 S O σ H E _ fun v H1 e1 r1 => by
  cases r1
  refine ⟨x, rfl, ?_⟩
  cases x with
  | true => exact q _ H1 e1 (.bl true)
  | false => exact h2 rfl S O σ H1 (E.ex e1) Q fun v H2 e2 r2 => q v H2 (e1.trans e2) r2
theorem ed_notV {x : Bool} (h1 : ED K ta Γ (.bl x)) : ED K (tNotV ta) Γ (.bl (!x)) := fun S O σ H E Q q => h1 S O σ H E _ fun v H1 e1 r1 => by
  cases r1
  exact ⟨x, rfl, q _ H1 e1 (.bl _)⟩
theorem ed_if {x : Bool} (h : ET K tt Γ x) (h1 : x = true → ED K ta Γ d) (h2 : x = false → ED K tb Γ d) : ED K (tIf tt ta tb) Γ d := fun S O σ H E Q q => h S O σ H E _ fun H1 e1 => by
  cases x with
  | true => exact h1 rfl S O σ H1 (E.ex e1) Q fun v H2 e2 r2 => q v H2 (e1.trans e2) r2
  | false => exact h2 rfl S O σ H1 (E.ex e1) Q fun v H2 e2 r2 => q v H2 (e1.trans e2) r2
theorem ea_nil : EA K tNil Γ [] := fun S O σ H E Q q => q [] H (Ex.refl H) .nil
theorem ea_cons {t : TA} {ds : List D} (h : ED K te Γ d) (hr : EA K t Γ ds) : EA K (tCons te t) Γ (d :: ds) := fun S O σ H E Q q =>
  h S O σ H E _ fun x H1 e1 r1 => hr S O σ H1 (E.ex e1) _ fun vs H2 e2 r2 => q _ H2 (e1.trans e2) (.cons (r1.ex e2) r2)
theorem ea_starT {t : TA} {ds es : List D} (h : ED K te Γ (.tup es)) (hr : EA K t Γ ds) : EA K (tStar K te t) Γ (es ++ ds) := fun S O σ H E Q q =>
  h S O σ H E _ fun x H1 e1 r1 => by
    cases r1 with
    | tup hs hl => exact ⟨_, _, rfl, .inl hs, hr S O σ H1 (E.ex e1) _ fun vs H2 e2 r2 => q _ H2 (e1.trans e2) ((hl.ex e2).append r2)⟩
theorem ea_starL {t : TA} {ds es : List D} (h : ED K te Γ (.lst es)) (hr : EA K t Γ ds) : EA K (tStar K te t) Γ (es ++ ds) := fun S O σ H E Q q =>
  h S O σ H E _ fun x H1 e1 r1 => by
    cases r1 with
    | lst _ hs hl => exact ⟨_, _, rfl, .inr (SqL.of hs), hr S O σ H1 (E.ex e1) _ fun vs H2 e2 r2 => q _ H2 (e1.trans e2) ((hl.ex e2).append r2)⟩
theorem ed_tup {t : TA} {ds : List D} (h : EA K t Γ ds) (hz : ds.length ≤ sizeLine) : ED K (tTup t) Γ (.tup ds) := fun S O σ H E Q q =>
  h S O σ H E _ fun vs H1 e1 r1 => ⟨by rw [r1.length]; exact hz, fun p hp => q _ _ (e1.trans (Ex.new hp)) (.tup (SqT.of upd_same) (r1.ex (Ex.new hp)))⟩
theorem ed_lst {t : TA} {ds : List D} (h : EA K t Γ ds) (hz : ds.length ≤ sizeLine) : ED K (tLst t) Γ (.lst ds) := fun S O σ H E Q q =>
  h S O σ H E _ fun vs H1 e1 r1 => ⟨by rw [r1.length]; exact hz, fun p hp => q _ _ (e1.trans (Ex.new hp)) (.lst ((E.ex e1).tfresh hp) upd_same (r1.ex (Ex.new hp)))⟩
theorem ed_cb {r : List V → Hp → VK → Prop} {t : TA} {ds : List D} (h : EA K t Γ ds) (hr : VC K r ds c) : ED K (tCB r t) Γ c := fun S O σ H E Q q =>
  h S O σ H E _ fun vs H1 e1 r1 => hr _ H1 vs (E.ex e1).tin r1 Q fun v H2 e2 r2 => q v H2 (e1.trans e2) r2
theorem eo_none : EO K tNoPart Γ none := fun S O σ H E Q q => q H (Ex.refl H)
theorem eo_some {i : Int} (h : ED K te Γ (.int i)) : EO K (tPart te) Γ (some i) := fun S O σ H E Q q => h S O σ H E _ fun v H1 e1 r1 => by
  cases r1
  exact ⟨i, rfl, q H1 e1⟩
theorem ed_sl {r : V → Option Int → Option Int → Hp → VK → Prop} {tl th : TO} {lo hi : Option Int} (h : ED K te Γ d) (h1 : EO K tl Γ lo) (h2 : EO K th Γ hi) (hr : VS K r d lo hi c) : ED K (tSl r te tl th) Γ c := fun S O σ H E Q q =>
  h S O σ H E _ fun v H1 e1 r1 => h1 S O σ H1 (E.ex e1) _ fun H2 e2 => h2 S O σ H2 ((E.ex e1).ex e2) _ fun H3 e3 =>
    hr _ H3 v (((E.ex e1).ex e2).ex e3).tin ((r1.ex e2).ex e3) Q fun v H4 e4 r4 => q v H4 (((e1.trans e2).trans e3).trans e4) r4
theorem ed_or1 {t2 : TE} (h : ED K te Γ d) : ED K (fun σ H Q => te σ H Q ∨ t2 σ H Q) Γ d := fun S O σ H E Q q => .inl (h S O σ H E Q q)
theorem ed_or2 {t2 : TE} (h : ED K t2 Γ d) : ED K (fun σ H Q => te σ H Q ∨ t2 σ H Q) Γ d := fun S O σ H E Q q => .inr (h S O σ H E Q q)
end
end DL
set_option Elab.async false
set_option maxRecDepth 100000
set_option maxHeartbeats 4000000
set_option linter.all false
namespace DL
open PySem L2 StX

/-! ### statements over data -/
structure Po where
  nx : List Sl → Prop
  rt : List Sl → D → Prop
  bk : List Sl → Prop := fun _ => False
  ct : List Sl → Prop := fun _ => False
structure Nx (K : PySem.W.Frag) (S : Addr → Prop) (pn : List Nat) (O : Os) (H : Hp) (σ : L2.St) (O' : Os) (H' : Hp) (σ' : L2.St) (Γ' : List Sl) : Prop where
  env : EnvOk K S O' H' σ' Γ'
  fr : Fr O H H'
  old : ∀ i a, a ∈ O' i → (∃ j, a ∈ O j) ∨ H a = none
  pin : ∀ i ∈ pn, σ'[i]? = σ[i]? ∧ O' i = O i
section
variable {K : PySem.W.Frag} {S : Addr → Prop} {pn : List Nat} {O O1 O2 : Os} {H H1 H2 : Hp} {σ σ1 σ2 : L2.St} {Γ Γ1 Γ2 : List Sl}
theorem Nx.refl (E : EnvOk K S O H σ Γ) : Nx K S pn O H σ O H σ Γ := ⟨E, Fr.refl O H, fun i a h => .inl ⟨i, h⟩, fun _ _ => ⟨rfl, rfl⟩⟩
theorem Nx.none_back (n : Nx K S pn O H σ O1 H1 σ1 Γ1) {a : Addr} (h : H1 a = none) (ho : ∀ j, a ∉ O j) : H a = none := by
  cases q : H a with
  | none => rfl
  | some o =>
    rw [n.fr a o q ho] at h
    cases h
theorem Nx.trans (n : Nx K S pn O H σ O1 H1 σ1 Γ1) (m : Nx K S pn O1 H1 σ1 O2 H2 σ2 Γ2) : Nx K S pn O H σ O2 H2 σ2 Γ2 := by
  refine ⟨m.env, fun a o h ho => m.fr a o (n.fr a o h ho) fun i z => ?_, fun i a h => ?_, fun i hi => ⟨(m.pin i hi).1.trans (n.pin i hi).1, (m.pin i hi).2.trans (n.pin i hi).2⟩⟩
  · rcases n.old i a z with ⟨j, q⟩ | q
    · exact ho j q
    · rw [h] at q; cases q
  · rcases m.old i a h with ⟨j, q⟩ | q
    · exact n.old j a q
    · by_cases w : ∃ j, a ∈ O j
      · exact .inl w
      · exact .inr (n.none_back q fun j z => w ⟨j, z⟩)
theorem Nx.ofEx (E : EnvOk K S O H σ Γ) (e : Ex H H1) : Nx K S pn O H σ O H1 σ Γ := ⟨E.ex e, e.fr, fun i a h => .inl ⟨i, h⟩, fun _ _ => ⟨rfl, rfl⟩⟩
theorem Nx.ofFr (E : EnvOk K S O H1 σ Γ) (f : Fr O H H1) : Nx K S pn O H σ O H1 σ Γ := ⟨E, f, fun i a h => .inl ⟨i, h⟩, fun _ _ => ⟨rfl, rfl⟩⟩
end

def XS (K : PySem.W.Frag) (pn : List Nat) (ts : TS) (Γ : List Sl) (P : Po) : Prop := ∀ S O σ H, EnvOk K S O H σ Γ → ∀ E : Ends,
  (∀ Γ' O' σ' H', P.nx Γ' → Nx K S pn O H σ O' H' σ' Γ' → E.nx σ' H') →
  (∀ Γ' d O' σ' v H', P.rt Γ' d → Nx K S pn O H σ O' H' σ' Γ' → Rp K (T S O') H' v d → E.rt v H') →
  (∀ Γ' O' σ' H', P.bk Γ' → Nx K S pn O H σ O' H' σ' Γ' → E.bk σ' H') →
  (∀ Γ' O' σ' H', P.ct Γ' → Nx K S pn O H σ O' H' σ' Γ' → E.ct σ' H') → ts E σ H

/-- a slot that owns nothing -/
def Free (Γ : List Sl) (i : Nat) : Prop := i < Γ.length ∧ ∀ s, Γ[i]? = some s → s = .no ∨ ∃ d, s = .dat d
theorem Free.of {Γ : List Sl} {i : Nat} (h : Γ[i]? = some .no) : Free Γ i := ⟨(List.getElem?_eq_some_iff.mp h).1, fun s q => by
  rw [h] at q
  exact .inl (Option.some.inj q).symm⟩
theorem Free.ofD {Γ : List Sl} {i : Nat} {d : D} (h : Γ[i]? = some (.dat d)) : Free Γ i := ⟨(List.getElem?_eq_some_iff.mp h).1, fun s q => by
  rw [h] at q
  exact .inr ⟨d, (Option.some.inj q).symm⟩⟩
section
variable {K : PySem.W.Frag} {S : Addr → Prop} {O : Os} {H : Hp} {σ : L2.St} {Γ : List Sl}
theorem EnvOk.freeO (E : EnvOk K S O H σ Γ) {i : Nat} (f : Free Γ i) : O i = [] := by
  obtain ⟨hl, f⟩ := f
  have e : Γ[i]? = some Γ[i] := by simp [hl]
  have q := E.sl i _ e
  rcases f _ e with z | ⟨d, z⟩
  · rw [z] at q; exact q
  · rw [z] at q; exact q.1
/-- a name that owns nothing is bound to data -/
theorem EnvOk.set (E : EnvOk K S O H σ Γ) {i : Nat} {v : V} {d : D} (f : Free Γ i) (r : Rp K (T S O) H v d) : EnvOk K S O H (σ.set i (some v)) (Γ.set i (.dat d)) := by
  have ho := E.freeO f
  refine ⟨by rw [List.length_set, List.length_set]; exact E.len, fun j s h => ?_, E.dis, E.own, E.sin, fun j h => E.out j (by rwa [List.length_set] at h)⟩
  by_cases hj : i = j
  · subst hj
    rw [List.getElem?_set_self f.1] at h
    cases h
    exact ⟨ho, v, by rw [List.getElem?_set_self (by rw [E.len]; exact f.1)], r⟩
  · rw [List.getElem?_set_ne hj] at h ⊢
    exact E.sl j s h
theorem EnvOk.unset (E : EnvOk K S O H σ Γ) {i : Nat} (f : Free Γ i) : EnvOk K S O H σ (Γ.set i .no) := by
  have ho := E.freeO f
  refine ⟨by rw [List.length_set]; exact E.len, fun j s h => ?_, E.dis, E.own, E.sin, fun j h => E.out j (by rwa [List.length_set] at h)⟩
  by_cases hj : i = j
  · subst hj
    rw [List.getElem?_set_self f.1] at h
    cases h
    exact ho
  · rw [List.getElem?_set_ne hj] at h
    exact E.sl j s h
/-- .. or to anything at all -/
theorem EnvOk.junk (E : EnvOk K S O H σ Γ) {i : Nat} {v : Option V} (f : Free Γ i) : EnvOk K S O H (σ.set i v) (Γ.set i .no) := by
  have ho := E.freeO f
  refine ⟨by rw [List.length_set, List.length_set]; exact E.len, fun j s h => ?_, E.dis, E.own, E.sin, fun j h => E.out j (by rwa [List.length_set] at h)⟩
  by_cases hj : i = j
  · subst hj
    rw [List.getElem?_set_self f.1] at h
    cases h
    exact ho
  · rw [List.getElem?_set_ne hj] at h ⊢
    exact E.sl j s h
def ownAt (O : Os) (i : Nat) (l : List Addr) : Os := fun j => if j = i then l else O j
theorem ownAt_same {O : Os} {i : Nat} {l : List Addr} : ownAt O i l i = l := by unfold ownAt; rw [if_pos rfl]
theorem ownAt_ne {O : Os} {i j : Nat} {l : List Addr} (h : j ≠ i) : ownAt O i l j = O j := by unfold ownAt; rw [if_neg h]
theorem mem_ownAt {O : Os} {i j : Nat} {l : List Addr} {a : Addr} (h : a ∈ ownAt O i l j) : (j = i ∧ a ∈ l) ∨ a ∈ O j := by
  by_cases hj : j = i
  · subst hj; rw [ownAt_same] at h; exact .inl ⟨rfl, h⟩
  · rw [ownAt_ne hj] at h; exact .inr h
theorem T_ownAt {i : Nat} {l : List Addr} {a : Addr} (h : T S (ownAt O i l) a) : T S O a ∨ a ∈ l := by
  rcases h with h | ⟨j, h⟩
  · exact .inl (.inl h)
  · rcases mem_ownAt h with ⟨_, z⟩ | z
    · exact .inr z
    · exact .inl (.inr ⟨j, z⟩)
/-- new objects, own from now on, for slot i -/
theorem EnvOk.take {H' : Hp} (E : EnvOk K S O H σ Γ) (e : Ex H H') {i : Nat} {v : V} {s : Sl} {l : List Addr} (f : Free Γ i) (hl : ∀ a ∈ l, H a = none ∧ IsOwn H' a)
    (hs : SlOk K (T S (ownAt O i l)) H' l (some (some v)) s) : EnvOk K S (ownAt O i l) H' (σ.set i (some v)) (Γ.set i s) := by
  have ho := E.freeO f
  have hi : ∀ a, T S (ownAt O i l) a → T S O a ∨ H a = none := fun a h => (T_ownAt h).imp id fun z => (hl a z).1
  have hS : ∀ a ∈ l, ¬ S a := fun a z q => E.sin a q (hl a z).1
  have hO : ∀ a ∈ l, ∀ j, a ∉ O j := fun a z j q => (E.own j a q).2.some (hl a z).1
  have E' := E.ex e
  refine ⟨by rw [List.length_set, List.length_set]; exact E.len, fun j t h => ?_, fun j k a h h' => ?_, fun j a h => ?_, E'.sin, fun j h => ?_⟩
  · by_cases hj : i = j
    · subst hj
      rw [List.getElem?_set_self f.1] at h
      cases h
      rw [ownAt_same, List.getElem?_set_self (by rw [E.len]; exact f.1)]
      exact hs
    · rw [List.getElem?_set_ne hj] at h
      rw [List.getElem?_set_ne hj, ownAt_ne (Ne.symm hj)]
      have q := E.sl j t h
      cases t with
      | no => exact q
      | dat d =>
        obtain ⟨q0, x, q1, q2⟩ := q
        exact ⟨q0, x, q1, (q2.hide hi).ex e⟩
      | ml ds =>
        obtain ⟨l', xs, q0, q1, q2, q3⟩ := q
        exact ⟨l', xs, q0, q1, e _ _ q2, (q3.hide hi).ex e⟩
      | md es =>
        obtain ⟨l', xs, q0, q1, q2, q3⟩ := q
        exact ⟨l', xs, q0, q1, e _ _ q2, (q3.hide hi).ex e⟩
      | st n =>
        obtain ⟨s, c, q0, q1, q2⟩ := E'.sl j _ h
        exact ⟨s, c, q0, q1, q2⟩
  · rcases mem_ownAt h with ⟨e, z⟩ | z <;> rcases mem_ownAt h' with ⟨e', z'⟩ | z'
    · rw [e, e']
    · exact absurd z' (hO a z k)
    · exact absurd z (hO a z' j)
    · exact E.dis j k a z z'
  · rcases mem_ownAt h with ⟨e, z⟩ | z
    · exact ⟨hS a z, (hl a z).2⟩
    · exact E'.own j a z
  · rw [List.length_set] at h
    rw [ownAt_ne (by intro q; subst q; exact absurd f.1 (Nat.not_lt.mpr h))]
    exact E.out j h
end

section
variable {K : PySem.W.Frag} {pn : List Nat} {Γ Γ1 : List Sl} {P : Po} {te : TE} {t u : TS} {d : D}
theorem xs_next (h : P.nx Γ) : XS K pn tNext Γ P := fun S O σ H E e hn _ _ _ => hn Γ O σ H h (Nx.refl E)
theorem xs_break (h : P.bk Γ) : XS K pn tBreak Γ P := fun S O σ H E e _ _ hb _ => hb Γ O σ H h (Nx.refl E)
theorem xs_cont (h : P.ct Γ) : XS K pn tCont Γ P := fun S O σ H E e _ _ _ hc => hc Γ O σ H h (Nx.refl E)
theorem xs_ret (he : ED K te Γ d) (h : P.rt Γ d) : XS K pn (tRet te) Γ P := fun S O σ H E e _ hr _ _ => he S O σ H E _ fun v H1 e1 r1 => hr Γ d O σ v H1 h (Nx.ofEx E e1) r1
theorem xs_retX {R : List Sl → D → Prop} (he : XE K te Γ R) (h : ∀ Γ' d, R Γ' d → P.rt Γ' d) : XS K pn (tRet te) Γ P := fun S O σ H E e _ hr _ _ => he S O σ H E _ fun Γ' v d H1 q E1 f1 r1 => hr Γ' d O σ v H1 (h _ _ q) (Nx.ofFr E1 f1) r1
theorem xs_retN (h : P.rt Γ .non) : XS K pn tRetN Γ P := fun S O σ H E e _ hr _ _ => hr Γ .non O σ .non H h (Nx.refl E) .non
theorem xs_drop (he : ED K te Γ d) (h : P.nx Γ) : XS K pn (tDrop te) Γ P := fun S O σ H E e hn _ _ _ => he S O σ H E _ fun v H1 e1 r1 => hn Γ O σ H1 h (Nx.ofEx E e1)
theorem xs_dropX {R : List Sl → D → Prop} (he : XE K te Γ R) (h : ∀ Γ' d, R Γ' d → P.nx Γ') : XS K pn (tDrop te) Γ P := fun S O σ H E e hn _ _ _ => he S O σ H E _ fun Γ' v d H1 q E1 f1 r1 => hn Γ' O σ H1 (h _ _ q) (Nx.ofFr E1 f1)
theorem xs_seq {M : List Sl → Prop} (h1 : XS K pn t Γ { P with nx := M }) (h2 : ∀ Γ', M Γ' → XS K pn u Γ' P) : XS K pn (tSeq t u) Γ P := fun S O σ H E e hn hr hb hc =>
  h1 S O σ H E { e with nx := u e } (fun Γ1 O1 σ1 H1 q n1 => h2 Γ1 q S O1 σ1 H1 n1.env e (fun Γ2 O2 σ2 H2 q2 n2 => hn Γ2 O2 σ2 H2 q2 (n1.trans n2)) (fun Γ2 d O2 σ2 v H2 q2 n2 r2 => hr Γ2 d O2 σ2 v H2 q2 (n1.trans n2) r2)
    (fun Γ2 O2 σ2 H2 q2 n2 => hb Γ2 O2 σ2 H2 q2 (n1.trans n2)) (fun Γ2 O2 σ2 H2 q2 n2 => hc Γ2 O2 σ2 H2 q2 (n1.trans n2))) hr hb hc
theorem xs_then (h1 : XS K pn t Γ { P with nx := fun g => g = Γ1 }) (h2 : XS K pn u Γ1 P) : XS K pn (tSeq t u) Γ P := xs_seq h1 fun g e => e ▸ h2
theorem xs_if {c : TT} {b : Bool} (hc : ET K c Γ b) (h1 : b = true → XS K pn t Γ P) (h2 : b = false → XS K pn u Γ P) : XS K pn (tIfS c t u) Γ P := fun S O σ H E e hn hr hb hct => hc S O σ H E _ fun H1 e1 => by
  have n1 : Nx K S pn O H σ O H1 σ Γ := Nx.ofEx E e1
  cases b with
  | true => exact h1 rfl S O σ H1 n1.env e (fun Γ2 O2 σ2 H2 q2 n2 => hn Γ2 O2 σ2 H2 q2 (n1.trans n2)) (fun Γ2 d O2 σ2 v H2 q2 n2 r2 => hr Γ2 d O2 σ2 v H2 q2 (n1.trans n2) r2) (fun Γ2 O2 σ2 H2 q2 n2 => hb Γ2 O2 σ2 H2 q2 (n1.trans n2)) (fun Γ2 O2 σ2 H2 q2 n2 => hct Γ2 O2 σ2 H2 q2 (n1.trans n2))
  | false => exact h2 rfl S O σ H1 n1.env e (fun Γ2 O2 σ2 H2 q2 n2 => hn Γ2 O2 σ2 H2 q2 (n1.trans n2)) (fun Γ2 d O2 σ2 v H2 q2 n2 r2 => hr Γ2 d O2 σ2 v H2 q2 (n1.trans n2) r2) (fun Γ2 O2 σ2 H2 q2 n2 => hb Γ2 O2 σ2 H2 q2 (n1.trans n2)) (fun Γ2 O2 σ2 H2 q2 n2 => hct Γ2 O2 σ2 H2 q2 (n1.trans n2))
theorem xs_post {P' : Po} (h : XS K pn t Γ P) (hn : ∀ g, P.nx g → P'.nx g) (hr : ∀ g d, P.rt g d → P'.rt g d) (hb : ∀ g, P.bk g → P'.bk g) (hc : ∀ g, P.ct g → P'.ct g) : XS K pn t Γ P' := fun S O σ H E e a b c d =>
  h S O σ H E e (fun g O' σ' H' q => a g O' σ' H' (hn g q)) (fun g x O' σ' v H' q => b g x O' σ' v H' (hr g x q)) (fun g O' σ' H' q => c g O' σ' H' (hb g q)) (fun g O' σ' H' q => d g O' σ' H' (hc g q))
theorem Nx.set {S : Addr → Prop} {O O1 : Os} {H H1 : Hp} {σ σ1 : L2.St} {i : Nat} {v : V} (n : Nx K S pn O H σ O1 H1 σ1 Γ1) (f : Free Γ1 i) (r : Rp K (T S O1) H1 v d) (hp : i ∉ pn) : Nx K S pn O H σ O1 H1 (σ1.set i (some v)) (Γ1.set i (.dat d)) :=
  ⟨n.env.set f r, n.fr, n.old, fun j hj => ⟨by rw [List.getElem?_set_ne (fun q => hp (by rw [q]; exact hj))]; exact (n.pin j hj).1, (n.pin j hj).2⟩⟩
theorem xs_asg {i : Nat} (he : ED K te Γ d) (f : Free Γ i) (hp : i ∉ pn) (h : P.nx (Γ.set i (.dat d))) : XS K pn (tAsg te (gName i)) Γ P := fun S O σ H E e hn _ _ _ => he S O σ H E _ fun v H1 e1 r1 =>
  hn _ O _ H1 h ((Nx.ofEx E e1).set f r1 hp)
theorem xs_asgX {i : Nat} {R : List Sl → D → Prop} (he : XE K te Γ R) (hp : i ∉ pn) (h : ∀ Γ' d, R Γ' d → Free Γ' i ∧ P.nx (Γ'.set i (.dat d))) : XS K pn (tAsg te (gName i)) Γ P := fun S O σ H E e hn _ _ _ => he S O σ H E _ fun Γ' v d H1 q E1 f1 r1 =>
  hn _ O _ H1 (h _ _ q).2 ((Nx.ofFr E1 f1).set (h _ _ q).1 r1 hp)
/-- what a name holds may be forgotten -/
theorem xs_forget {i : Nat} (f : Free Γ i) (h : XS K pn t (Γ.set i .no) P) : XS K pn t Γ P := fun S O σ H E e hn hr hb hc => h S O σ H (E.unset f) e hn hr hb hc
end

/-! ### targets -/
def GD (K : PySem.W.Frag) (g : TG) (vs : List Nat) (Γ : List Sl) (d : D) (Γ' : List Sl) : Prop := ∀ S O σ H v, EnvOk K S O H σ Γ → Rp K (T S O) H v d → ∀ Q, (∀ σ', EnvOk K S O H σ' Γ' → (∀ j, j ∉ vs → σ'[j]? = σ[j]?) → σ'.length = σ.length → Q σ' H) → g v σ H Q
section
variable {K : PySem.W.Frag} {pn : List Nat} {Γ Γ1 : List Sl} {P : Po} {te : TE} {t u : TS} {d : D}
theorem gd_name {i : Nat} (f : Free Γ i) : GD K (gName i) [i] Γ d (Γ.set i (.dat d)) := fun S O σ H v E r Q q => q _ (E.set f r) (fun j hj => by
  rw [List.getElem?_set_ne]
  intro z
  exact hj (by rw [z]; exact List.mem_cons_self ..)) (List.length_set ..)
/-- the targets of a tuple, one by one -/
def GDs (K : PySem.W.Frag) (g : TGs) (vs : List Nat) (Γ : List Sl) (ds : List D) (Γ' : List Sl) : Prop := ∀ S O σ H xs, EnvOk K S O H σ Γ → RpL K (T S O) H xs ds → ∀ Q, (∀ σ', EnvOk K S O H σ' Γ' → (∀ j, j ∉ vs → σ'[j]? = σ[j]?) → σ'.length = σ.length → Q σ' H) → g xs σ H Q
theorem gds_nil : GDs K gNil [] Γ [] Γ := fun S O σ H xs E r Q q => by
  cases r
  exact ⟨rfl, q σ E (fun _ _ => rfl) rfl⟩
theorem gds_cons {g : TG} {gs : TGs} {vs ws : List Nat} {Γ2 : List Sl} {ds : List D} (h : GD K g vs Γ d Γ1) (hs : GDs K gs ws Γ1 ds Γ2) : GDs K (gCons g gs) (vs ++ ws) Γ (d :: ds) Γ2 := fun S O σ H xs E r Q q => by
  cases r with
  | cons r1 r2 =>
    refine ⟨_, _, rfl, h S O σ H _ E r1 _ fun σ1 E1 k1 l1 => hs S O σ1 H _ E1 r2 _ fun σ2 E2 k2 l2 => q σ2 E2 (fun j hj => ?_) (l2.trans l1)⟩
    rw [k2 j fun z => hj (List.mem_append_right _ z), k1 j fun z => hj (List.mem_append_left _ z)]
theorem gd_tup {gs : TGs} {vs : List Nat} {ds : List D} {n : Nat} (hs : GDs K gs vs Γ ds Γ1) (hl : ds.length = n) : GD K (gTup K n gs) vs Γ (.tup ds) Γ1 := fun S O σ H v E r Q q => by
  cases r with
  | tup a b => exact ⟨_, _, rfl, a, by rw [b.length]; exact hl, hs S O σ H _ E b Q q⟩
theorem xs_asgG {g : TG} {vs : List Nat} (he : ED K te Γ d) (hg : GD K g vs Γ d Γ1) (hp : ∀ i ∈ pn, i ∉ vs) (h : P.nx Γ1) : XS K pn (tAsg te g) Γ P := fun S O σ H E e hn _ _ _ => he S O σ H E _ fun v H1 e1 r1 =>
  hg S O σ H1 v (E.ex e1) r1 _ fun σ' E' k _ => hn _ O _ H1 h ⟨E', e1.fr, fun i a z => .inl ⟨i, z⟩, fun j hj => ⟨k j (hp j hj), rfl⟩⟩
end
theorem wipe_get {σ : L2.St} : ∀ {vs : List Nat} {j : Nat}, (wipe σ vs)[j]? = if j ∈ vs then (if j < σ.length then some none else none) else σ[j]?
  | [], j => by simp [wipe]
  | v :: vs, j => by
    unfold wipe
    by_cases h : v = j
    · subst h
      by_cases hl : v < σ.length
      · rw [List.getElem?_set_self (by rw [wipe_length]; exact hl)]
        simp [hl]
      · rw [List.getElem?_eq_none (by rw [List.length_set, wipe_length]; omega)]
        simp [hl]
    · rw [List.getElem?_set_ne h, wipe_get]
      simp [show ¬ j = v from fun z => h z.symm]
theorem wipe_eq {σ σ' : L2.St} {vs : List Nat} (hl : σ'.length = σ.length) (h : ∀ j, j ∉ vs → σ'[j]? = σ[j]?) : wipe σ' vs = wipe σ vs := by
  apply List.ext_getElem?
  intro j
  rw [wipe_get, wipe_get, hl]
  split
  · rfl
  · exact h j (by assumption)
theorem wipe_wipe {σ : L2.St} {vs : List Nat} : wipe (wipe σ vs) vs = wipe σ vs := wipe_eq (wipe_length _ _) fun j hj => by
  rw [wipe_get, if_neg hj]
def wipeΓ (Γ : List Sl) : List Nat → List Sl
  | [] => Γ
  | v :: vs => (wipeΓ Γ vs).set v .no
theorem wipeΓ_length (Γ : List Sl) : ∀ vs : List Nat, (wipeΓ Γ vs).length = Γ.length
  | [] => rfl
  | v :: vs => by unfold wipeΓ; rw [List.length_set, wipeΓ_length Γ vs]
theorem wipeΓ_get {Γ : List Sl} : ∀ {vs : List Nat} {j : Nat}, (wipeΓ Γ vs)[j]? = if j ∈ vs then (if j < Γ.length then some .no else none) else Γ[j]?
  | [], j => by simp [wipeΓ]
  | v :: vs, j => by
    unfold wipeΓ
    by_cases h : v = j
    · subst h
      by_cases hl : v < Γ.length
      · rw [List.getElem?_set_self (by rw [wipeΓ_length]; exact hl)]
        simp [hl]
      · rw [List.getElem?_eq_none (by rw [List.length_set, wipeΓ_length]; omega)]
        simp [hl]
    · rw [List.getElem?_set_ne h, wipeΓ_get]
      simp [show ¬ j = v from fun z => h z.symm]
theorem EnvOk.wipe {K : PySem.W.Frag} {S : Addr → Prop} {O : Os} {H : Hp} {σ : L2.St} {Γ : List Sl} (E : EnvOk K S O H σ Γ) {vs : List Nat} (f : ∀ i ∈ vs, Free Γ i) : EnvOk K S O H (wipe σ vs) (wipeΓ Γ vs) := by
  refine ⟨by rw [wipe_length, wipeΓ_length]; exact E.len, fun j s h => ?_, E.dis, E.own, E.sin, fun j h => E.out j (by rwa [wipeΓ_length] at h)⟩
  rw [wipeΓ_get] at h
  rw [wipe_get]
  by_cases hj : j ∈ vs
  · rw [if_pos hj] at h
    have hl := (f j hj).1
    rw [if_pos hl] at h
    cases h
    exact E.freeO (f j hj)
  · rw [if_neg hj] at h
    rw [if_neg hj]
    exact E.sl j s h
end DL
set_option Elab.async false
set_option maxRecDepth 100000
set_option maxHeartbeats 4000000
set_option linter.all false
namespace DL
open PySem L2 StX

/-! ### what is walked -/
/-- at turn i the i-th of ds comes; F: what may happen to the heap meanwhile -/
def ITFat (K : PySem.W.Frag) (F : Os → Hp → Hp → Prop) (wi : TI) (ds : List D) (S : Addr → Prop) (O : Os) (σ : L2.St) (H : Hp) : Prop := ∀ R : It → Hp → Prop,
  (∀ (J : It) (H1 : Hp) (G : Hp → Prop) (Y : Nat → Hp → V → Hp → Prop), Ex H H1 → Walk J ds.length G Y → (∀ H2, F O H1 H2 → G H2) →
    (∀ i H2 x H3, i < ds.length → F O H1 H2 → Y i H2 x H3 → ∃ d, ds[i]? = some d ∧ Ex H2 H3 ∧ ∀ T' : Addr → Prop, (∀ a, T' a → T S O a ∨ H1 a = none) → (∀ a, T' a → H2 a ≠ none) → Gr (fun a => T S O a ∨ T' a) H1 H2 → Rp K T' H3 x d) → R J H1) → wi σ H R
def ITF (K : PySem.W.Frag) (F : Os → Hp → Hp → Prop) (wi : TI) (Γ : List Sl) (ds : List D) : Prop := ∀ S O σ H, EnvOk K S O H σ Γ → ITFat K F wi ds S O σ H
abbrev IT (K : PySem.W.Frag) := ITF K Fr
abbrev IP (K : PySem.W.Frag) := ITF K fun _ => Ex
section
variable {K : PySem.W.Frag} {Γ : List Sl} {ds : List D} {wi : TI} {te : TE} {ta : TA}
theorem IT.ip (h : IT K wi Γ ds) : IP K wi Γ ds := fun S O σ H E R q => h S O σ H E R fun J H1 G Y e w g y => q J H1 G Y e w (fun H2 f => g H2 f.fr) fun i H2 x H3 hi f => y i H2 x H3 hi f.fr
theorem it_or1 {w2 : TI} (h : ITF K F wi Γ ds) : ITF K F (fun σ H R => wi σ H R ∨ w2 σ H R) Γ ds := fun S O σ H E R q => .inl (h S O σ H E R q)
theorem it_or2 {w2 : TI} (h : ITF K F wi Γ ds) : ITF K F (fun σ H R => w2 σ H R ∨ wi σ H R) Γ ds := fun S O σ H E R q => .inr (h S O σ H E R q)
theorem it_list (h : ED K te Γ (.lst ds)) : IT K (iList K te) Γ ds := fun S O σ H E R q => h S O σ H E _ fun v H1 e1 r1 => by
  cases r1 with
  | @lst a xs _ n hs hl =>
    refine ⟨a, rfl, ⟨xs, SqL.of hs⟩, q (Itl K a) H1 _ _ e1 (by rw [← hl.length]; exact walk_list (xs := xs)) (fun H2 f => SqL.of (((E.ex e1).gr f).ls _ _ n hs)) fun i H2 x H3 hi f y => ?_⟩
    obtain ⟨rfl, hx⟩ := y
    obtain ⟨d, h1, h2⟩ := hl.getV hx
    exact ⟨d, h1, Ex.refl _, fun T' ht hn g => ((h2.hide (S' := fun a => T S O a ∨ T' a) fun a z => z.elim Or.inl (ht a)).mono g fun _ z => z).sub fun a z => .inr z⟩
theorem it_tup (h : ED K te Γ (.tup ds)) : IT K (iTup K te) Γ ds := fun S O σ H E R q => h S O σ H E _ fun v H1 e1 r1 => by
  cases r1 with
  | @tup a xs _ hs hl =>
    refine ⟨a, rfl, ⟨xs, hs⟩, q (Itt K a) H1 _ _ e1 (by rw [← hl.length]; exact walk_tup (xs := xs)) (fun H2 f => ?_) fun i H2 x H3 hi f y => ?_⟩
    · rcases hs with hs | hs
      · exact .inl (((E.ex e1).gr f).tp _ _ hs)
      · exact .inr hs
    obtain ⟨rfl, hx⟩ := y
    obtain ⟨d, h1, h2⟩ := hl.getV hx
    exact ⟨d, h1, Ex.refl _, fun T' ht hn g => ((h2.hide (S' := fun a => T S O a ∨ T' a) fun a z => z.elim Or.inl (ht a)).mono g fun _ z => z).sub fun a z => .inr z⟩
/-- a list of one's own, while it stands -/
theorem ip_ml {i : Nat} (h : Γ[i]? = some (.ml ds)) : IP K (iList K (tVar i)) Γ ds := fun S O σ H E R q => by
  obtain ⟨l, xs, ho, hv, hl, hr⟩ := E.getL h
  refine ⟨_, hv, l, rfl, ⟨xs, SqL.of hl⟩, q (Itl K l) H _ _ (Ex.refl H) (by rw [← hr.length]; exact walk_list (xs := xs)) (fun H2 f => SqL.of (f _ _ hl)) fun i H2 x H3 hi f y => ?_⟩
  obtain ⟨rfl, hx⟩ := y
  obtain ⟨d, h1, h2⟩ := hr.getV hx
  exact ⟨d, h1, Ex.refl _, fun T' ht hn g => ((h2.hide (S' := fun a => T S O a ∨ T' a) fun a z => z.elim Or.inl (ht a)).mono g fun _ z => z).sub fun a z => .inr z⟩
def rangeD (lo : Int) (n : Nat) : List D := (List.range n).map fun i => .int (lo + (i : Nat))
theorem rangeD_get {lo : Int} {n i : Nat} (h : i < n) : (rangeD lo n)[i]? = some (.int (lo + (i : Nat))) := by simp [rangeD, h]
theorem it_rng1 {j : Int} (h : EA K ta Γ [.int j]) (h1 : -(2 ^ 62) ≤ j) (h2 : j < 2 ^ 62) : IT K (iRng1 ta) Γ (rangeD 0 j.toNat) := fun S O σ H E R q => h S O σ H E _ fun vs H1 e1 r1 => by
  cases r1 with
  | cons a b =>
    cases b
    cases a
    refine ⟨j, rfl, h1, h2, q (Itr 0 j.toNat) H1 _ _ e1 (by rw [show (rangeD 0 j.toNat).length = j.toNat by simp [rangeD]]; exact walk_range) (fun _ _ => True.intro) fun i H2 x H3 hi f y => ?_⟩
    obtain ⟨rfl, rfl⟩ := y
    have hi' : i < j.toNat := by simpa [rangeD] using hi
    exact ⟨_, rangeD_get hi', Ex.refl _, fun _ _ _ _ => .int _⟩
theorem it_rng2 {i j : Int} (h : EA K ta Γ [.int i, .int j]) (h1 : -(2 ^ 62) ≤ i) (h2 : i < 2 ^ 62) (h3 : -(2 ^ 62) ≤ j) (h4 : j < 2 ^ 62) : IT K (iRng2 ta) Γ (rangeD i (j - i).toNat) := fun S O σ H E R q => h S O σ H E _ fun vs H1 e1 r1 => by
  cases r1 with
  | cons a b =>
    cases b with
    | cons b c =>
      cases a
      cases b
      cases c
      refine ⟨i, j, rfl, ⟨h1, h2, h3, h4⟩, q (Itr i (j - i).toNat) H1 _ _ e1 (by rw [show (rangeD i (j - i).toNat).length = (j - i).toNat by simp [rangeD]]; exact walk_range) (fun _ _ => True.intro) fun k H2 x H3 hk f y => ?_⟩
      obtain ⟨rfl, rfl⟩ := y
      have hk' : k < (j - i).toNat := by simpa [rangeD] using hk
      exact ⟨_, rangeD_get hk', Ex.refl _, fun _ _ _ _ => .int _⟩
def signs (z : Str) : List D := z.cps.toList.map fun c => .str ⟨#[c]⟩
theorem it_str {z : Str} (h : ED K te Γ (.str z)) : IT K (iStr te) Γ (signs z) := fun S O σ H E R q => h S O σ H E _ fun v H1 e1 r1 => by
  cases r1
  refine ⟨z, rfl, q (Its z) H1 _ _ e1 (by rw [show (signs z).length = z.cps.size by simp [signs]]; exact walk_str) (fun _ _ => True.intro) fun i H2 x H3 hi f y => ?_⟩
  obtain ⟨rfl, c, hc, rfl⟩ := y
  exact ⟨_, by simp [signs, hc], Ex.refl _, fun _ _ _ _ => .str _⟩
/-- a new pair of two parts -/
theorem pair_item {H1 H2 : Hp} {S : Addr → Prop} {O : Os} {T' : Addr → Prop} {p : Addr} {x y : V} {d e : D} (hx : Rp K (T S O) H1 x d) (hy : Rp K (T S O) H1 y e) (hp : H2 p = none)
    (ht : ∀ a, T' a → T S O a ∨ H1 a = none) (g : Gr (fun a => T S O a ∨ T' a) H1 H2) : Rp K T' (upd H2 p (.tup [x, y])) (.ref p) (.tup [d, e]) := by
  have go : ∀ {x : V} {d : D}, Rp K (T S O) H1 x d → Rp K T' (upd H2 p (.tup [x, y])) x d := fun {x d} h => by
    exact (((h.hide (S' := fun a => T S O a ∨ T' a) fun a z => z.elim Or.inl (ht a)).mono g fun _ z => z).sub fun a z => .inr z).ex (Ex.new hp)
  have go' : ∀ {z : V} {f : D}, Rp K (T S O) H1 z f → Rp K T' (upd H2 p (.tup [x, y])) z f := fun {z f} h => by
    exact (((h.hide (S' := fun a => T S O a ∨ T' a) fun a z => z.elim Or.inl (ht a)).mono g fun _ z => z).sub fun a z => .inr z).ex (Ex.new hp)
  exact .tup (SqT.of upd_same) (.cons (go' hx) (.cons (go' hy) .nil))
def enumD (ds : List D) : List D := ds.zipIdx.map fun p => .tup [.int (p.2 : Nat), p.1]
theorem enumD_get {ds : List D} {i : Nat} {d : D} (h : ds[i]? = some d) : (enumD ds)[i]? = some (.tup [.int (i : Nat), d]) := by simp [enumD, h]
theorem it_enum (h : EA K ta Γ [.lst ds]) : IT K (iEnum K ta) Γ (enumD ds) := fun S O σ H E R q => h S O σ H E _ fun vs H1 e1 r1 => by
  cases r1 with
  | cons r1 r2 =>
    cases r2
    cases r1 with
    | @lst a xs _ n hs hl =>
      refine ⟨a, xs, rfl, SqL.of hs, q (Ite K a) H1 _ _ e1 (by rw [show (enumD ds).length = xs.length by simp [enumD, hl.length]]; exact walk_enum (xs := xs)) (fun H2 f => SqL.of (((E.ex e1).gr f).ls _ _ n hs)) fun i H2 x H3 hi f y => ?_⟩
      obtain ⟨p, u, w, rfl, hp, rfl, hu, hw⟩ := y
      cases hu
      obtain ⟨d, h1, h2⟩ := hl.getV hw
      exact ⟨_, enumD_get h1, Ex.new hp, fun T' ht hn g => pair_item (.int _) h2 hp ht g⟩
def zipD (ds es : List D) : List D := (ds.zip es).map fun p => .tup [p.1, p.2]
theorem zipD_get {ds es : List D} {i : Nat} {d e : D} (h : ds[i]? = some d) (h' : es[i]? = some e) : (zipD ds es)[i]? = some (.tup [d, e]) := by
  have q : (ds.zip es)[i]? = some (d, e) := List.getElem?_zip_eq_some.mpr ⟨h, h'⟩
  simp [zipD, q]
theorem it_zipL {es : List D} (h : EA K ta Γ [.lst ds, .lst es]) : IT K (RZ.iZipA K ta) Γ (zipD ds es) := fun S O σ H E R q => h S O σ H E _ fun vs H1 e1 r1 => by
  cases r1 with
  | cons r1 r2 =>
    cases r2 with
    | cons r2 r3 =>
    cases r3
    cases r1 with
    | @lst a xs _ n hs hl =>
    cases r2 with
    | @lst b ys _ m hs' hl' =>
      refine ⟨a, b, xs, ys, rfl, Or.inl ⟨SqL.of hs, SqL.of hs', q (Itz K a b) H1 _ _ e1 (walk_zip (xs := xs) (ys := ys) (by simp [zipD, hl.length, hl'.length])) (fun H2 f => ⟨SqL.of (((E.ex e1).gr f).ls _ _ n hs), SqL.of (((E.ex e1).gr f).ls _ _ m hs')⟩) fun i H2 x H3 hi f y => ?_⟩⟩
      obtain ⟨p, u, w, rfl, hp, rfl, hu, hw⟩ := y
      obtain ⟨d, h1, h2⟩ := hl.getV hu
      obtain ⟨d', h1', h2'⟩ := hl'.getV hw
      exact ⟨_, zipD_get h1 h1', Ex.new hp, fun T' ht hn g => pair_item h2 h2' hp ht g⟩
theorem walk_zipT {a b : Addr} {xs ys : List V} {n : Nat} (hn : n = min xs.length ys.length) : Walk (RZ.ItzT K a b) n (fun H => SqT K H a xs ∧ SqT K H b ys) (YPair (fun i => xs[i]?) (fun i => ys[i]?)) := by
  subst hn
  refine ⟨fun i _ hi q => ?_, fun _ q => ⟨xs, ys, q.1, q.2, by omega⟩, fun i H v H' _ q y => ?_⟩
  · have h1 : i < xs.length := by omega
    have h2 : i < ys.length := by omega
    exact ⟨xs, ys, xs[i], ys[i], q.1, q.2, by simp [h1], by simp [h2]⟩
  · obtain ⟨T, x, z, h1, h2, h3, h4, h5⟩ := y
    exact ⟨T, x, z, h1, h2, h3, h4 xs q.1, h5 ys q.2⟩
theorem it_zipT {es : List D} (h : EA K ta Γ [.tup ds, .tup es]) : IT K (RZ.iZipA K ta) Γ (zipD ds es) := fun S O σ H E R q => h S O σ H E _ fun vs H1 e1 r1 => by
  cases r1 with
  | cons r1 r2 =>
    cases r2 with
    | cons r2 r3 =>
    cases r3
    cases r1 with
    | @tup a xs _ hs hl =>
    cases r2 with
    | @tup b ys _ hs' hl' =>
      have st : ∀ {a xs} (H2 : Hp), Fr O H1 H2 → SqT K H1 a xs → SqT K H2 a xs := fun H2 f h => by
        rcases h with h | h
        · exact .inl (((E.ex e1).gr f).tp _ _ h)
        · exact .inr h
      refine ⟨a, b, xs, ys, rfl, .inr ⟨hs, hs', q (RZ.ItzT K a b) H1 _ _ e1 (walk_zipT (xs := xs) (ys := ys) (by simp [zipD, hl.length, hl'.length])) (fun H2 f => ⟨st H2 f hs, st H2 f hs'⟩) fun i H2 x H3 hi f y => ?_⟩⟩
      obtain ⟨p, u, w, rfl, hp, rfl, hu, hw⟩ := y
      obtain ⟨d, h1, h2⟩ := hl.getV hu
      obtain ⟨d', h1', h2'⟩ := hl'.getV hw
      exact ⟨_, zipD_get h1 h1', Ex.new hp, fun T' ht hn g => pair_item h2 h2' hp ht g⟩
end

/-! ### for -/
theorem for_at {K : PySem.W.Frag} {pn : List Nat} {Γ : List Sl} {P : Po} {wi : TI} {g : TG} {tb : TS} {ds : List D} {vs : List Nat} {S : Addr → Prop} {O : Os} {σ : L2.St} {H : Hp} (E : EnvOk K S O H σ Γ) (Iv : Nat → List Sl → Prop) (hw : ITFat K Fr wi ds S O σ H) (h0 : Iv 0 Γ) (hp : ∀ i ∈ pn, i ∉ vs)
    (hs : ∀ k d Γ1, ds[k]? = some d → Iv k Γ1 → ∃ Γ2, GD K g vs Γ1 d Γ2 ∧ XS K pn tb Γ2 { nx := Iv (k + 1), rt := P.rt, bk := P.nx, ct := Iv (k + 1) })
    (hd : ∀ Γ1, Iv ds.length Γ1 → P.nx Γ1) (e : Ends)
    (hn : ∀ Γ' O' σ' H', P.nx Γ' → Nx K S pn O H σ O' H' σ' Γ' → e.nx σ' H')
    (hr : ∀ Γ' d O' σ' v H', P.rt Γ' d → Nx K S pn O H σ O' H' σ' Γ' → Rp K (T S O') H' v d → e.rt v H') : tFor wi g tb e σ H := hw _ fun J H1 G Y e1 w g1 y1 => by
  have E1 := E.ex e1
  have n1 : Nx K S pn O H σ O H1 σ Γ := Nx.ofEx E e1
  refine for_it w (fun i σ2 H2 => ∃ Γ2 O2, Iv i Γ2 ∧ Nx K S pn O H1 σ O2 H2 σ2 Γ2) ⟨Γ, O, h0, Nx.refl E1⟩ (fun i σ2 H2 _ ⟨_, _, _, n⟩ => g1 H2 n.fr) (fun i x σ2 H2 H3 hi ⟨Γ2, O2, iv, n2⟩ yy => ?_) fun σ2 H2 ⟨Γ2, O2, iv, n2⟩ => ?_
  · obtain ⟨d, hd', e3, hx⟩ := y1 i H2 x H3 hi n2.fr yy
    obtain ⟨Γ3, hg, hx3⟩ := hs i d Γ2 hd' iv
    have ht : ∀ a, T S O2 a → T S O a ∨ H1 a = none := fun a h => by
      rcases h with h | ⟨j, h⟩
      · exact .inl (.inl h)
      · rcases n2.old j a h with z | z
        · exact .inl (.inr z)
        · exact .inr z
    have gr : Gr (fun a => T S O a ∨ T S O2 a) H1 H2 := by
      have g0 := E1.gr n2.fr
      exact ⟨fun a xs h q => g0.ls a xs (fun z => h (.inl z)) q, fun a xs h q => g0.dk a xs (fun z => h (.inl z)) q, g0.tp, fun a C dx fs h q => g0.ins a C dx fs (fun z => h (.inl z)) q⟩
    have rx := hx (T S O2) ht n2.env.tin gr
    have E3 := n2.env.ex e3
    have n3 : Nx K S pn O H1 σ O2 H3 σ2 Γ2 := n2.trans (Nx.ofEx n2.env e3)
    refine hg S O2 σ2 H3 x E3 rx _ fun σ4 E4 k4 _ => ?_
    have n4 : Nx K S pn O H1 σ O2 H3 σ4 Γ3 := ⟨E4, n3.fr, n3.old, fun j hj => ⟨(k4 j (hp j hj)).trans (n3.pin j hj).1, (n3.pin j hj).2⟩⟩
    exact hx3 S O2 σ4 H3 E4 _ (fun Γ5 O5 σ5 H5 q5 n5 => ⟨Γ5, O5, q5, n4.trans n5⟩) (fun Γ5 d5 O5 σ5 v5 H5 q5 n5 r5 => hr Γ5 d5 O5 σ5 v5 H5 q5 (n1.trans (n4.trans n5)) r5) (fun Γ5 O5 σ5 H5 q5 n5 => hn Γ5 O5 σ5 H5 q5 (n1.trans (n4.trans n5))) (fun Γ5 O5 σ5 H5 q5 n5 => ⟨Γ5, O5, q5, n4.trans n5⟩)
  · exact hn Γ2 O2 σ2 H2 (hd Γ2 iv) (n1.trans n2)
theorem xs_for {K : PySem.W.Frag} {pn : List Nat} {Γ : List Sl} {P : Po} {wi : TI} {g : TG} {tb : TS} {ds : List D} {vs : List Nat} (Iv : Nat → List Sl → Prop) (hw : IT K wi Γ ds) (h0 : Iv 0 Γ) (hp : ∀ i ∈ pn, i ∉ vs)
    (hs : ∀ k d Γ1, ds[k]? = some d → Iv k Γ1 → ∃ Γ2, GD K g vs Γ1 d Γ2 ∧ XS K pn tb Γ2 { nx := Iv (k + 1), rt := P.rt, bk := P.nx, ct := Iv (k + 1) })
    (hd : ∀ Γ1, Iv ds.length Γ1 → P.nx Γ1) : XS K pn (tFor wi g tb) Γ P := fun S O σ H E e hn hr _ _ => for_at E Iv (hw S O σ H E) h0 hp hs hd e hn hr

/-! ### what can be laid into a name: data, or a new object of its own -/
def EN (K : PySem.W.Frag) (te : TE) (Γ : List Sl) (s : Sl) : Prop := ∀ S O σ H, EnvOk K S O H σ Γ → ∀ Q : VK,
  (∀ v os H', Ex H H' → (∀ a ∈ os, H a = none ∧ IsOwn H' a) → SlOk K (fun a => T S O a ∨ a ∈ os) H' os (some (some v)) s → Q v H') → te σ H Q
section
variable {K : PySem.W.Frag} {Γ : List Sl} {te : TE} {ta : TA}
theorem EN.edL {ds : List D} (h : EN K te Γ (.ml ds)) : ED K te Γ (.lst ds) := fun S O σ H E Q q => h S O σ H E _ fun v os H1 e1 ho hs => by
  obtain ⟨l, xs, hl, hv, hL, hr⟩ := hs
  cases hv
  refine q _ H1 e1 (.lst (fun z => ?_) hL (hr.sub fun a z => .inl z))
  exact E.tin _ z (ho l (by rw [hl]; exact List.mem_cons_self ..)).1
theorem EN.edD {ds : List (Key × D)} (h : EN K te Γ (.md ds)) : ED K te Γ (.dic ds) := fun S O σ H E Q q => h S O σ H E _ fun v os H1 e1 ho hs => by
  obtain ⟨l, xs, hl, hv, hL, hr⟩ := hs
  cases hv
  refine q _ H1 e1 (.dic (fun z => ?_) (.inl hL) (hr.mono (Ex.refl H1).gr fun a z => .inl z))
  exact E.tin _ z (ho l (by rw [hl]; exact List.mem_cons_self ..)).1
theorem en_dat {d : D} (h : ED K te Γ d) : EN K te Γ (.dat d) := fun S O σ H E Q q => h S O σ H E _ fun v H1 e1 r1 =>
  q v [] H1 e1 (fun a z => absurd z List.not_mem_nil) ⟨rfl, v, rfl, r1.sub fun a z => z.elim id fun w => absurd w List.not_mem_nil⟩
theorem RpL.hide1 {S : Addr → Prop} {H H1 : Hp} {xs : List V} {ds : List D} {p : Addr} {o : HO} (r : RpL K S H xs ds) (hp : H p = none) : RpL K (fun a => S a ∨ a ∈ [p]) (upd H p o) xs ds :=
  (r.hide fun a z => z.imp id fun w => by rw [List.mem_singleton.mp w]; exact hp).ex (Ex.new hp)
theorem en_lst {ds : List D} (h : EA K ta Γ ds) (hz : ds.length ≤ sizeLine) : EN K (tLst ta) Γ (.ml ds) := fun S O σ H E Q q => h S O σ H E _ fun vs H1 e1 r1 => ⟨by rw [r1.length]; exact hz, fun p hp =>
  q _ [p] _ (e1.trans (Ex.new hp)) (fun a z => by rw [List.mem_singleton.mp z]; exact ⟨e1.back hp, .inl ⟨_, upd_same⟩⟩) ⟨p, vs, rfl, rfl, upd_same, RpL.hide1 (H1 := H1) r1 hp⟩⟩
theorem en_dnew : EN K tDNewK Γ (.md []) := fun S O σ H E Q q p hp =>
  q _ [p] _ (Ex.new hp) (fun a z => by rw [List.mem_singleton.mp z]; exact ⟨hp, .inr ⟨_, upd_same⟩⟩) ⟨p, [], rfl, rfl, upd_same, .nil⟩
end

/-! ### comprehensions -/
/-- pure: r tells of each item what is made of it, none where the test is false -/
theorem lc_at {α : Type} {K : PySem.W.Frag} {Γ : List Sl} {wi : TI} {g : TG} {tt : TT} {te : TE} {vs : List Nat} {xs : List α} {S : Addr → Prop} {O : Os} {σ : L2.St} {H : Hp} (E : EnvOk K S O H σ Γ) (enc : α → D) (r : α → Option D) (hw : ITFat K (fun _ => Ex) wi (xs.map enc) S O σ H) (hf : ∀ i ∈ vs, Free Γ i) (hz : xs.length ≤ sizeLine)
    (hs : ∀ x ∈ xs, ∃ Γ2, GD K g vs (wipeΓ Γ vs) (enc x) Γ2 ∧ ((r x = none ∧ ET K tt Γ2 false) ∨ ∃ e, r x = some e ∧ ET K tt Γ2 true ∧ ED K te Γ2 e)) :
    ∀ Q : VK, (∀ v os H', Ex H H' → (∀ a ∈ os, H a = none ∧ IsOwn H' a) → SlOk K (fun a => T S O a ∨ a ∈ os) H' os (some (some v)) (.ml (xs.filterMap r)) → Q v H') → tLc wi g tt te vs σ H Q := fun Q q => hw _ fun J H1 G Y e1 w g1 y1 D hD => by
  have E1 := E.ex e1
  have hDT : ¬ T S O D := E1.tfresh hD
  refine lc_it w (fun i H2 => i ≤ xs.length ∧ Ex H1 H2 ∧ ∃ acc, H2 D = some (.lst acc) ∧ RpL K (T (fun a => S a ∨ a = D) O) H2 acc ((xs.take i).filterMap r)) ⟨Nat.zero_le _, Ex.new hD, [], upd_same, .nil⟩ (fun i H2 _ ⟨_, e2, _⟩ => g1 H2 e2) (fun i x H2 H3 hi ⟨hle, e2, acc, hacc, hr⟩ yy => ?_) fun H2 ⟨_, e2, acc, hacc, hr⟩ => ?_
  · have hi' : i < xs.length := by simpa using hi
    obtain ⟨d, hd, e3, hx⟩ := y1 i H2 x H3 hi e2 yy
    have hd' : d = enc xs[i] := by
      rw [List.getElem?_map, List.getElem?_eq_getElem hi'] at hd
      exact (Option.some.inj hd).symm
    subst hd'
    obtain ⟨Γ2, hg, hcase⟩ := hs xs[i] (List.getElem_mem hi')
    -- the new list is hidden within
    have tw : ∀ a, T (fun a => S a ∨ a = D) O a ↔ T S O a ∨ a = D := fun a => ⟨fun z => by
      rcases z with (z | z) | z
      · exact .inl (.inl z)
      · exact .inr z
      · exact .inl (.inr z), fun z => by
      rcases z with (z | z) | z
      · exact .inl (.inl z)
      · exact .inr z
      · exact .inl (.inr z)⟩
    have E2 := (E1.ex e2)
    have hDO : ∀ j, D ∉ O j := fun j z => hDT (.inr ⟨j, z⟩)
    have hide : ∀ a, T (fun a => S a ∨ a = D) O a → T S O a ∨ H1 a = none := fun a z => ((tw a).mp z).imp id fun w => by rw [w]; exact hD
    have hsx : EnvOk K (fun a => S a ∨ a = D) O H2 σ Γ := by
      refine ⟨E.len, fun j s h => ?_, E.dis, fun j a h => ⟨fun z => z.elim (E.own j a h).1 fun w => hDO j (w ▸ h), (E2.own j a h).2⟩, fun a z => z.elim (E2.sin a) fun w => by rw [w, hacc]; exact (fun q => nomatch q), E.out⟩
      have qs := E1.sl j s h
      cases s with
      | no => exact qs
      | dat d => obtain ⟨q0, y, q1, q2⟩ := qs; exact ⟨q0, y, q1, (q2.hide hide).ex e2⟩
      | ml ds => obtain ⟨l, ys, q0, q1, q2, q3⟩ := qs; exact ⟨l, ys, q0, q1, e2 _ _ q2, (q3.hide hide).ex e2⟩
      | md ds => obtain ⟨l, ys, q0, q1, q2, q3⟩ := qs; exact ⟨l, ys, q0, q1, e2 _ _ q2, (q3.hide hide).ex e2⟩
      | st n => exact E2.sl j _ h
    have E3 : EnvOk K (fun a => S a ∨ a = D) O H3 (wipe σ vs) (wipeΓ Γ vs) := (hsx.ex e3).wipe hf
    have rx : Rp K (T (fun a => S a ∨ a = D) O) H3 x (enc xs[i]) := hx _ hide (fun a z => hsx.tin a z) e2.gr
    have step : (xs.take (i + 1)).filterMap r = (xs.take i).filterMap r ++ (match r xs[i] with | some e => [e] | none => []) := by
      rw [List.take_succ, List.getElem?_eq_getElem hi', List.filterMap_append]
      cases h : r xs[i] <;> simp [h]
    refine hg _ O (wipe σ vs) H3 x E3 rx _ fun σ4 E4 k4 l4 => ⟨(wipe_eq l4 k4).trans wipe_wipe, ?_⟩
    rcases hcase with ⟨hn, ht⟩ | ⟨e, hsome, ht, he⟩
    · refine ht _ O σ4 H3 E4 _ fun H4 e4 => ?_
      rw [if_neg Bool.false_ne_true]
      refine ⟨hi', (e2.trans e3).trans e4, acc, e4 _ _ (e3 _ _ hacc), ?_⟩
      rw [step, hn, List.append_nil]
      exact (hr.ex e3).ex e4
    · refine ht _ O σ4 H3 E4 _ fun H4 e4 => ?_
      rw [if_pos rfl]
      refine he _ O σ4 H4 (E4.ex e4) _ fun y H5 e5 r5 => ?_
      have hD5 : H5 D = some (.lst acc) := e5 _ _ (e4 _ _ (e3 _ _ hacc))
      have hlen : acc.length ≤ i := by
        rw [hr.length]
        exact Nat.le_trans (List.length_filterMap_le _ _) (by rw [List.length_take]; omega)
      refine ⟨acc, hD5, by omega, hi', (((e2.trans e3).trans e4).trans e5).mut hD, acc ++ [y], upd_same, ?_⟩
      rw [step, hsome]
      have up : Gr (T (fun a => S a ∨ a = D) O) H5 (upd H5 D (.lst (acc ++ [y]))) := by
        have ne : ∀ a, ¬ T (fun a => S a ∨ a = D) O a → a ≠ D := fun a h z => h (.inl (.inr z))
        refine ⟨fun a ys h q => ?_, fun a ys h q => ?_, fun a ys q => ?_, fun a C dx fs h q => by rw [upd_ne (ne a h)]; exact q⟩
        · rw [upd_ne (ne a h)]; exact q
        · unfold Rd; rw [upd_ne (ne a h)]; exact q
        · have z : a ≠ D := fun w => by
            subst w
            rcases q with q | ⟨o, q⟩ <;> (rw [hD5] at q; cases q)
          unfold Rd; rw [upd_ne z]; exact q
      exact ((((hr.ex e3).ex e4).ex e5).append (.cons r5 .nil)).mono up fun _ z => z
  · have hl : (xs.map enc).length = xs.length := List.length_map ..
    rw [hl, List.take_length] at hr
    refine q _ [D] H2 (e1.trans e2) (fun a z => ?_) ⟨D, acc, rfl, rfl, hacc, hr.sub fun a z => ?_⟩
    · have za : a = D := List.mem_singleton.mp z
      subst za
      exact ⟨e1.back hD, .inl ⟨_, hacc⟩⟩
    · rcases z with z | z
      · rcases z with z | z
        · exact .inl (.inl z)
        · exact .inr z
      · have za : a = D := List.mem_singleton.mp z
        exact .inl (.inr za)
theorem en_lc {α : Type} {K : PySem.W.Frag} {Γ : List Sl} {wi : TI} {g : TG} {tt : TT} {te : TE} {vs : List Nat} {xs : List α} (enc : α → D) (r : α → Option D) (hw : IP K wi Γ (xs.map enc)) (hf : ∀ i ∈ vs, Free Γ i) (hz : xs.length ≤ sizeLine)
    (hs : ∀ x ∈ xs, ∃ Γ2, GD K g vs (wipeΓ Γ vs) (enc x) Γ2 ∧ ((r x = none ∧ ET K tt Γ2 false) ∨ ∃ e, r x = some e ∧ ET K tt Γ2 true ∧ ED K te Γ2 e)) :
    EN K (tLc wi g tt te vs) Γ (.ml (xs.filterMap r)) := fun S O σ H E Q q => lc_at E enc r (hw S O σ H E) hf hz hs Q q
theorem ed_lc {α : Type} {K : PySem.W.Frag} {Γ : List Sl} {wi : TI} {g : TG} {tt : TT} {te : TE} {vs : List Nat} {xs : List α} (enc : α → D) (r : α → Option D) (hw : IP K wi Γ (xs.map enc)) (hf : ∀ i ∈ vs, Free Γ i) (hz : xs.length ≤ sizeLine)
    (hs : ∀ x ∈ xs, ∃ Γ2, GD K g vs (wipeΓ Γ vs) (enc x) Γ2 ∧ ((r x = none ∧ ET K tt Γ2 false) ∨ ∃ e, r x = some e ∧ ET K tt Γ2 true ∧ ED K te Γ2 e)) :
    ED K (tLc wi g tt te vs) Γ (.lst (xs.filterMap r)) := (en_lc enc r hw hf hz hs).edL
/-- .. without a test -/
theorem et_yes {K : PySem.W.Frag} {Γ : List Sl} : ET K tYes Γ true := fun S O σ H E Q q => q H (Ex.refl H)
theorem filterMap_some {α β : Type} (f : α → β) : ∀ xs : List α, xs.filterMap (fun x => some (f x)) = xs.map f
  | [] => rfl
  | x :: r => by rw [List.filterMap_cons, List.map_cons, filterMap_some f r]
theorem en_map {α : Type} {K : PySem.W.Frag} {Γ : List Sl} {wi : TI} {g : TG} {te : TE} {vs : List Nat} {xs : List α} (enc : α → D) (f : α → D) (hw : IP K wi Γ (xs.map enc)) (hf : ∀ i ∈ vs, Free Γ i) (hz : xs.length ≤ sizeLine)
    (hs : ∀ x ∈ xs, ∃ Γ2, GD K g vs (wipeΓ Γ vs) (enc x) Γ2 ∧ ED K te Γ2 (f x)) : EN K (tLc wi g tYes te vs) Γ (.ml (xs.map f)) := by
  rw [← filterMap_some]
  exact en_lc enc _ hw hf hz fun x hx => by
    obtain ⟨Γ2, h1, h2⟩ := hs x hx
    exact ⟨Γ2, h1, .inr ⟨f x, rfl, et_yes, h2⟩⟩
theorem ed_map {α : Type} {K : PySem.W.Frag} {Γ : List Sl} {wi : TI} {g : TG} {te : TE} {vs : List Nat} {xs : List α} (enc : α → D) (f : α → D) (hw : IP K wi Γ (xs.map enc)) (hf : ∀ i ∈ vs, Free Γ i) (hz : xs.length ≤ sizeLine)
    (hs : ∀ x ∈ xs, ∃ Γ2, GD K g vs (wipeΓ Γ vs) (enc x) Γ2 ∧ ED K te Γ2 (f x)) : ED K (tLc wi g tYes te vs) Γ (.lst (xs.map f)) := (en_map enc f hw hf hz hs).edL
theorem en_filter {α : Type} {K : PySem.W.Frag} {Γ : List Sl} {wi : TI} {g : TG} {tt : TT} {te : TE} {vs : List Nat} {xs : List α} (enc : α → D) (p : α → Bool) (f : α → D) (hw : IP K wi Γ (xs.map enc)) (hf : ∀ i ∈ vs, Free Γ i) (hz : xs.length ≤ sizeLine)
    (hs : ∀ x ∈ xs, ∃ Γ2, GD K g vs (wipeΓ Γ vs) (enc x) Γ2 ∧ ET K tt Γ2 (p x) ∧ (p x = true → ED K te Γ2 (f x))) : EN K (tLc wi g tt te vs) Γ (.ml ((xs.filter p).map f)) := by
  have e : (xs.filter p).map f = xs.filterMap fun x => if p x then some (f x) else none := by
    clear hs hz hw
    induction xs with
    | nil => rfl
    | cons x r ih =>
      rw [List.filterMap_cons, List.filter_cons]
      by_cases h : p x = true
      · simp [h, ih]
      · simp [h, ih]
  rw [e]
  exact en_lc enc _ hw hf hz fun x hx => by
    obtain ⟨Γ2, h1, h2, h3⟩ := hs x hx
    refine ⟨Γ2, h1, ?_⟩
    cases hp : p x with
    | true => exact .inr ⟨f x, by simp, hp ▸ h2, h3 hp⟩
    | false => exact .inl ⟨by simp, hp ▸ h2⟩
theorem ed_filter {α : Type} {K : PySem.W.Frag} {Γ : List Sl} {wi : TI} {g : TG} {tt : TT} {te : TE} {vs : List Nat} {xs : List α} (enc : α → D) (p : α → Bool) (f : α → D) (hw : IP K wi Γ (xs.map enc)) (hf : ∀ i ∈ vs, Free Γ i) (hz : xs.length ≤ sizeLine)
    (hs : ∀ x ∈ xs, ∃ Γ2, GD K g vs (wipeΓ Γ vs) (enc x) Γ2 ∧ ET K tt Γ2 (p x) ∧ (p x = true → ED K te Γ2 (f x))) : ED K (tLc wi g tt te vs) Γ (.lst ((xs.filter p).map f)) := (en_filter enc p f hw hf hz hs).edL
end DL
set_option Elab.async false
set_option maxRecDepth 100000
set_option maxHeartbeats 4000000
set_option linter.all false
namespace DL
open PySem L2 StX

/-! ### a pure def: of the data ds it makes d -/
def spP (K : PySem.W.Frag) (R : List D → D → Prop) : Sp := fun vs H Q _ => ∃ (S : Addr → Prop) (ds : List D) (d : D), (∀ a, S a → H a ≠ none) ∧ RpL K S H vs ds ∧ R ds d ∧ ∀ v H', Ex H H' → Rp K S H' v d → Q v H'
section
variable {K : PySem.W.Frag} {Γ : List Sl} {ds : List D} {d : D} {ta : TA} {E : XK} {R : List D → D → Prop}
theorem ed_call (ha : EA K ta Γ ds) (hR : R ds d) : ED K (tCall (spP K R) [] E ta) Γ d := fun S O σ H e Q q => ha S O σ H e _ fun vs H1 e1 r1 => by
  show spP K R (vs ++ []) H1 Q E
  rw [List.append_nil]
  exact ⟨T S O, ds, d, (e.ex e1).tin, r1, hR, fun v H2 e2 r2 => q v H2 (e1.trans e2) r2⟩
theorem EnvOk.start {S : Addr → Prop} {H : Hp} {vs : List V} {N : List Str} (hS : ∀ a, S a → H a ≠ none) (r : RpL K S H vs ds) : EnvOk K S (fun _ => []) H (start N vs) (ds.map Sl.dat ++ List.replicate (N.length - ds.length) Sl.no) := by
  have hl := r.length
  have hT : ∀ a, T S (fun _ => []) a → S a := fun a z => z.elim id fun ⟨_, w⟩ => absurd w (List.not_mem_nil)
  refine ⟨by simp [L2.start, hl], fun i s h => ?_, fun i j a h => absurd h (List.not_mem_nil), fun i a h => absurd h (List.not_mem_nil), hS, fun _ _ => rfl⟩
  by_cases hi : i < ds.length
  · rw [List.getElem?_append_left (by simpa using hi), List.getElem?_map, List.getElem?_eq_getElem hi] at h
    cases h
    obtain ⟨y, h1, h2⟩ := r.get (List.getElem?_eq_getElem hi)
    refine ⟨rfl, y, ?_, h2.sub hT⟩
    unfold L2.start
    rw [List.getElem?_append_left (by rw [List.length_map, hl]; exact hi), List.getElem?_map, h1]
    rfl
  · rw [List.getElem?_append_right (by simpa using hi), List.getElem?_replicate] at h
    split at h
    · cases h; exact rfl
    · cases h
/-- a def's body over data: it keeps the promise -/
theorem run_pure {N : List Str} {t : TS} {H : Hp} {vs : List V} {Q : VK} {E : XK} (h : spP K R vs H Q E)
    (hb : ∀ ds d, R ds d → XS K [] t (ds.map Sl.dat ++ List.replicate (N.length - ds.length) Sl.no) { nx := fun _ => d = .non, rt := fun _ x => x = d }) : t { nx := fun _ H' => Q .non H', rt := Q } (L2.start N vs) H := by
  obtain ⟨S, ds, d, hS, r, hR, q⟩ := h
  have hT : ∀ a, S a → T S (fun _ => []) a := fun a z => .inl z
  refine hb ds d hR S (fun _ => []) _ H (EnvOk.start hS r) _ (fun Γ' O' σ' H' e n => ?_) (fun Γ' x O' σ' v H' e n r' => ?_) (fun _ _ _ _ z => z.elim) (fun _ _ _ _ z => z.elim)
  · rw [e] at q
    exact q .non H' (fun a o h => n.fr a o h fun i => List.not_mem_nil) .non
  · rw [e] at r'
    exact q v H' (fun a o h => n.fr a o h fun i => List.not_mem_nil) (r'.sub fun a z => .inl z)
end

/-! ### a def with one own parameter among data -/
def spO (K : PySem.W.Frag) (R : Sl → List D → List D → Sl → D → Prop) (Pre : Sl → List D → List D → Prop) : Sp := fun vs H Q _ => ∃ (S : Addr → Prop) (os : List Addr) (v0 : V) (xs ys : List V) (s : Sl) (ds es : List D),
  vs = xs ++ v0 :: ys ∧ (∀ a, S a → H a ≠ none) ∧ (∀ a ∈ os, ¬ S a ∧ IsOwn H a) ∧ SlOk K (fun a => S a ∨ a ∈ os) H os (some (some v0)) s ∧ RpL K (fun a => S a ∨ a ∈ os) H xs ds ∧ RpL K (fun a => S a ∨ a ∈ os) H ys es ∧ Pre s ds es ∧
  ∀ s' v d H', R s ds es s' d → (∀ a ∈ os, IsOwn H' a) → SlOk K (fun a => S a ∨ a ∈ os) H' os (some (some v0)) s' → (∀ a o, H a = some o → a ∉ os → H' a = some o) → Rp K (fun a => S a ∨ a ∈ os) H' v d → Q v H'
/-- arguments: xs data, then the own slot j, then ys data -/
def XA (K : PySem.W.Frag) (ta : TA) (Γ : List Sl) (j : Nat) (R : List Sl → List D → List D → Prop) : Prop := ∀ S O σ H, EnvOk K S O H σ Γ → ∀ Q : List V → Hp → Prop,
  (∀ Γ' ds es xs v0 ys H', R Γ' ds es → EnvOk K S O H' σ Γ' → Fr O H H' → RpL K (T S O) H' xs ds → σ[j]? = some (some v0) → RpL K (T S O) H' ys es → Q (xs ++ v0 :: ys) H') → ta σ H Q
/-- .. behind the own one -/
def XB (K : PySem.W.Frag) (ta : TA) (Γ : List Sl) (R : List Sl → List D → Prop) : Prop := ∀ S O σ H, EnvOk K S O H σ Γ → ∀ Q : List V → Hp → Prop,
  (∀ Γ' ds xs H', R Γ' ds → EnvOk K S O H' σ Γ' → Fr O H H' → RpL K (T S O) H' xs ds → Q xs H') → ta σ H Q
def OwnSl : Sl → Prop
  | .ml _ => True
  | .md _ => True
  | .st _ => True
  | _ => False
section
variable {K : PySem.W.Frag} {Γ : List Sl} {ta t : TA} {te : TE} {d : D} {j : Nat}
theorem SlOk.own {T : Addr → Prop} {H : Hp} {os : List Addr} {v : Option (Option V)} {s : Sl} (h : SlOk K T H os v s) (o : OwnSl s) : ∃ x, v = some (some x) := by
  cases s with
  | no => exact o.elim
  | dat d => exact o.elim
  | ml ds => obtain ⟨l, xs, _, e, _⟩ := h; exact ⟨_, e⟩
  | md ds => obtain ⟨l, xs, _, e, _⟩ := h; exact ⟨_, e⟩
  | st n => obtain ⟨l, xs, _, e, _⟩ := h; exact ⟨_, e⟩
theorem xb_nil {R : List Sl → List D → Prop} (h : R Γ []) : XB K tNil Γ R := fun S O σ H E Q q => q Γ [] [] H h E (Fr.refl O H) .nil
theorem xb_ed {R : List Sl → List D → Prop} (h : ED K te Γ d) (hr : XB K t Γ fun g ds => R g (d :: ds)) : XB K (tCons te t) Γ R := fun S O σ H E Q q => h S O σ H E _ fun v H1 e1 r1 =>
  hr S O σ H1 (E.ex e1) _ fun Γ' ds xs H2 hR E2 f2 r2 => q Γ' (d :: ds) _ H2 hR E2 (e1.fr.trans f2) (.cons (r1.mono ((E.ex e1).gr f2) fun _ z => z) r2)
theorem xb_xe {R : List Sl → List D → Prop} {M : List Sl → D → Prop} (h : XE K te Γ M) (hr : ∀ g d, M g d → XB K t g fun g ds => R g (d :: ds)) : XB K (tCons te t) Γ R := fun S O σ H E Q q => h S O σ H E _ fun Γ1 v d H1 m E1 f1 r1 =>
  hr _ _ m S O σ H1 E1 _ fun Γ' ds xs H2 hR E2 f2 r2 => q Γ' (d :: ds) _ H2 hR E2 (f1.trans f2) (.cons (r1.mono (E1.gr f2) fun _ z => z) r2)
theorem xb_ea {R : List Sl → List D → Prop} {ds : List D} (h : EA K ta Γ ds) (hR : R Γ ds) : XB K ta Γ R := fun S O σ H E Q q => h S O σ H E _ fun xs H1 e1 r1 => q Γ ds xs H1 hR (E.ex e1) e1.fr r1
theorem xa_own {R : List Sl → List D → List D → Prop} {s : Sl} (hj : Γ[j]? = some s) (ho : OwnSl s) (h : XB K t Γ fun g es => R g [] es) : XA K (tCons (tVar j) t) Γ j R := fun S O σ H E Q q => by
  obtain ⟨x, hx⟩ := (E.sl j s hj).own ho
  exact ⟨x, hx, h S O σ H E _ fun Γ' es ys H1 hR E1 f1 r1 => q Γ' [] es [] x ys H1 hR E1 f1 .nil hx r1⟩
theorem xa_ed {R : List Sl → List D → List D → Prop} (h : ED K te Γ d) (hr : XA K t Γ j fun g ds es => R g (d :: ds) es) : XA K (tCons te t) Γ j R := fun S O σ H E Q q => h S O σ H E _ fun v H1 e1 r1 =>
  hr S O σ H1 (E.ex e1) _ fun Γ' ds es xs v0 ys H2 hR E2 f2 r2 hv r3 => q Γ' (d :: ds) es _ v0 ys H2 hR E2 (e1.fr.trans f2) (.cons (r1.mono ((E.ex e1).gr f2) fun _ z => z) r2) hv r3
theorem xe_call {R : List Sl → List D → List D → Prop} {Rf : Sl → List D → List D → Sl → D → Prop} {Pre : Sl → List D → List D → Prop} {M : List Sl → D → Prop} {E : XK} (ha : XA K ta Γ j R)
    (h : ∀ Γ' ds es, R Γ' ds es → ∃ s, Γ'[j]? = some s ∧ OwnSl s ∧ Pre s ds es ∧ ∀ s' d, Rf s ds es s' d → M (Γ'.set j s') d) : XE K (tCall (spO K Rf Pre) [] E ta) Γ M := fun S O σ H E0 Q q => ha S O σ H E0 _ fun Γ1 ds es xs v0 ys H1 hR E1 f1 r1 hv r2 => by
  show spO K Rf Pre ((xs ++ v0 :: ys) ++ []) H1 Q E
  rw [List.append_nil]
  obtain ⟨s, hj, ho, hp, hk⟩ := h Γ1 ds es hR
  have hjl : j < Γ1.length := (List.getElem?_eq_some_iff.mp hj).1
  have tw : ∀ a, (T S (ownAt O j []) a ∨ a ∈ O j) ↔ T S O a := fun a => ⟨fun z => by
    rcases z with z | z
    · rcases z with z | ⟨i, z⟩
      · exact .inl z
      · rcases mem_ownAt z with ⟨_, w⟩ | w
        · exact absurd w List.not_mem_nil
        · exact .inr ⟨i, w⟩
    · exact .inr ⟨j, z⟩, fun z => by
    rcases z with z | ⟨i, z⟩
    · exact .inl (.inl z)
    · by_cases hi : i = j
      · subst hi; exact .inr z
      · exact .inl (.inr ⟨i, by rw [ownAt_ne hi]; exact z⟩)⟩
  have tS : ∀ a, T S (ownAt O j []) a → T S O a := fun a z => (tw a).mp (.inl z)
  have sj := E1.sl j s hj
  rw [hv] at sj
  have te : (fun a => T S (ownAt O j []) a ∨ a ∈ O j) = T S O := funext fun a => propext (tw a)
  refine ⟨T S (ownAt O j []), O j, v0, xs, ys, s, ds, es, rfl, fun a z => E1.tin a (tS a z), fun a z => ⟨fun w => ?_, (E1.own j a z).2⟩, by rw [te]; exact sj, by rw [te]; exact r1, by rw [te]; exact r2, hp, fun s' v d H' hr hown hs' hfr hv' => ?_⟩
  · rcases w with w | ⟨i, w⟩
    · exact (E1.own j a z).1 w
    · rcases mem_ownAt w with ⟨_, u⟩ | u
      · exact absurd u List.not_mem_nil
      · have := E1.dis i j a u z
        subst this
        rw [ownAt_same] at w
        exact absurd w List.not_mem_nil
  · rw [te] at hs' hv'
    have fr : Fr O H1 H' := fun a o e n => hfr a o e (n j)
    refine q _ v d H' (hk s' d hr) ⟨by rw [List.length_set]; exact E1.len, fun i t hi => ?_, E1.dis, fun i a z => ⟨(E1.own i a z).1, ?_⟩, E1.sin' fr, fun i hi => E1.out i (by rwa [List.length_set] at hi)⟩ (f1.trans fr) hv'
    · by_cases hij : j = i
      · subst hij
        rw [List.getElem?_set_self hjl] at hi
        cases hi
        rw [hv]
        exact hs'
      · rw [List.getElem?_set_ne hij] at hi
        have qs := E1.sl i t hi
        have nj : ∀ a ∈ O i, a ∉ O j := fun a z w => hij (E1.dis j i a w z)
        have gr := E1.gr fr
        cases t with
        | no => exact qs
        | dat d => obtain ⟨q0, y, q1, q2⟩ := qs; exact ⟨q0, y, q1, q2.mono gr fun _ z => z⟩
        | ml ds => obtain ⟨l, zs, q0, q1, q2, q3⟩ := qs; exact ⟨l, zs, q0, q1, hfr _ _ q2 (nj l (by rw [q0]; exact List.mem_cons_self ..)), q3.mono gr fun _ z => z⟩
        | md ds => obtain ⟨l, zs, q0, q1, q2, q3⟩ := qs; exact ⟨l, zs, q0, q1, hfr _ _ q2 (nj l (by rw [q0]; exact List.mem_cons_self ..)), q3.mono gr fun _ z => z⟩
        | st n =>
          obtain ⟨s1, c1, q0, q1, q2⟩ := qs
          have keep : ∀ a ∈ O i, H' a = H1 a := fun a z => by
            cases w : H1 a with
            | none => exact absurd w (E1.own i a z).2.some
            | some o => exact hfr a o w (nj a z)
          exact ⟨s1, c1, q0, q1, q2.keep (keep s1 (by rw [q0]; exact List.mem_cons_self ..)) (keep c1 (by rw [q0]; exact List.mem_cons_of_mem _ (List.mem_cons_self ..)))⟩
    · by_cases hij : i = j
      · subst hij; exact hown a z
      · have nj : a ∉ O j := fun w => hij (E1.dis i j a z w)
        rcases (E1.own i a z).2 with ⟨zs, w⟩ | ⟨zs, w⟩
        · exact .inl ⟨zs, hfr _ _ w nj⟩
        · exact .inr ⟨zs, hfr _ _ w nj⟩
end
/-- the body of a def with an own parameter at place p -/
theorem run_own {K : PySem.W.Frag} {N : List Str} {t : TS} {H : Hp} {vs : List V} {Q : VK} {E : XK} {Rf : Sl → List D → List D → Sl → D → Prop} {Pre : Sl → List D → List D → Prop} (p : Nat) (hpl : ∀ s ds es, Pre s ds es → ds.length = p ∧ OwnSl s) (h : spO K Rf Pre vs H Q E)
    (hb : ∀ s ds es, Pre s ds es → XS K [p] t (ds.map Sl.dat ++ s :: es.map Sl.dat ++ List.replicate (N.length - (ds.length + 1 + es.length)) Sl.no)
      { nx := fun g => ∃ s', g[p]? = some s' ∧ OwnSl s' ∧ Rf s ds es s' .non, rt := fun g d => ∃ s', g[p]? = some s' ∧ OwnSl s' ∧ Rf s ds es s' d }) : t { nx := fun _ H' => Q .non H', rt := Q } (L2.start N vs) H := by
  obtain ⟨S, os, v0, xs, ys, s, ds, es, rfl, hS, hos, hs, r1, r2, hp, q⟩ := h
  obtain ⟨hdl, hown⟩ := hpl s ds es hp
  have l1 := r1.length
  have l2 := r2.length
  let O : Os := ownAt (fun _ => []) p os
  have tw : ∀ a, T S O a ↔ (S a ∨ a ∈ os) := fun a => ⟨fun z => by
    rcases z with z | ⟨i, z⟩
    · exact .inl z
    · rcases mem_ownAt z with ⟨_, w⟩ | w
      · exact .inr w
      · exact absurd w List.not_mem_nil, fun z => by
    rcases z with z | z
    · exact .inl z
    · exact .inr ⟨p, by show a ∈ ownAt _ p os p; rw [ownAt_same]; exact z⟩⟩
  have te : (fun a => S a ∨ a ∈ os) = T S O := funext fun a => propext (tw a).symm
  rw [te] at hs r1 r2
  have E0 : EnvOk K S O H (L2.start N (xs ++ v0 :: ys)) (ds.map Sl.dat ++ s :: es.map Sl.dat ++ List.replicate (N.length - (ds.length + 1 + es.length)) Sl.no) := by
    refine ⟨by simp [L2.start, l1, l2]; omega, fun i t' hi => ?_, fun i j a z w => ?_, fun i a z => ?_, hS, fun i hi => ?_⟩
    · unfold L2.start
      by_cases hip : i < p
      · have hO : O i = [] := ownAt_ne (by omega)
        rw [hO]
        rw [List.append_assoc, List.getElem?_append_left (by rw [List.length_map]; omega), List.getElem?_map, List.getElem?_eq_getElem (by omega)] at hi
        cases hi
        obtain ⟨y, h1, h2⟩ := r1.get (List.getElem?_eq_getElem (show i < ds.length by omega))
        refine ⟨rfl, y, ?_, h2⟩
        rw [List.getElem?_append_left (by rw [List.length_map, List.length_append]; omega), List.getElem?_map, List.getElem?_append_left (by omega), h1]
        rfl
      · by_cases hip2 : i = p
        · subst hip2
          have hO : O i = os := ownAt_same
          rw [hO]
          rw [List.append_assoc, List.getElem?_append_right (by rw [List.length_map]; omega), List.length_map, show i - ds.length = 0 by omega] at hi
          cases hi
          rw [List.getElem?_append_left (by rw [List.length_map, List.length_append, List.length_cons]; omega), List.getElem?_map, List.getElem?_append_right (by omega), show i - xs.length = 0 by omega]
          exact hs
        · have hO : O i = [] := ownAt_ne hip2
          rw [hO]
          obtain ⟨k, rfl⟩ : ∃ k, i = p + 1 + k := ⟨i - p - 1, by omega⟩
          rw [List.append_assoc, List.getElem?_append_right (by rw [List.length_map]; omega), List.length_map, show p + 1 + k - ds.length = k + 1 by omega, List.cons_append, List.getElem?_cons_succ] at hi
          by_cases hk : k < es.length
          · rw [List.getElem?_append_left (by rw [List.length_map]; exact hk), List.getElem?_map, List.getElem?_eq_getElem hk] at hi
            cases hi
            obtain ⟨y, h1, h2⟩ := r2.get (List.getElem?_eq_getElem hk)
            refine ⟨rfl, y, ?_, h2⟩
            rw [List.getElem?_append_left (by rw [List.length_map, List.length_append, List.length_cons]; omega), List.getElem?_map, List.getElem?_append_right (by omega), show p + 1 + k - xs.length = k + 1 by omega, List.getElem?_cons_succ, h1]
            rfl
          · rw [List.getElem?_append_right (by rw [List.length_map]; omega), List.getElem?_replicate] at hi
            split at hi
            · cases hi; exact rfl
            · cases hi
    · rcases mem_ownAt z with ⟨z1, z2⟩ | z
      · rcases mem_ownAt w with ⟨w1, w2⟩ | w
        · rw [z1, w1]
        · exact absurd w List.not_mem_nil
      · exact absurd z List.not_mem_nil
    · rcases mem_ownAt z with ⟨_, z⟩ | z
      · exact hos a z
      · exact absurd z List.not_mem_nil
    · refine ownAt_ne ?_
      simp at hi
      omega
  have fin : ∀ {O' : Os} {σ' : L2.St} {H' : Hp} {Γ' : List Sl} {s' : Sl}, Nx K S [p] O H (L2.start N (xs ++ v0 :: ys)) O' H' σ' Γ' → Γ'[p]? = some s' → OwnSl s' →
      (∀ a ∈ os, IsOwn H' a) ∧ SlOk K (T S O) H' os (some (some v0)) s' ∧ (∀ a o, H a = some o → a ∉ os → H' a = some o) ∧ ∀ v d, Rp K (T S O') H' v d → Rp K (T S O) H' v d := fun {O' σ' H' Γ' s'} n hg ho => by
    have hpin := n.pin p (List.mem_cons_self ..)
    have hOp : O p = os := ownAt_same
    have e2 : O' p = os := hpin.2.trans hOp
    have ev : σ'[p]? = some (some v0) := by
      rw [hpin.1]
      unfold L2.start
      rw [List.getElem?_append_left (by rw [List.length_map, List.length_append, List.length_cons]; omega), List.getElem?_map, List.getElem?_append_right (by omega), show p - xs.length = 0 by omega]
      rfl
    have hsub : ∀ a, T S O a → T S O' a := fun a z => by
      rcases (tw a).mp z with z | z
      · exact .inl z
      · exact .inr ⟨p, by rw [e2]; exact z⟩
    refine ⟨fun a z => (n.env.own p a (by rw [e2]; exact z)).2, ?_, fun a o h hn => n.fr a o h fun i w => ?_, fun v d r => r.sub hsub⟩
    · have q0 := n.env.sl p s' hg
      rw [e2, ev] at q0
      cases s' with
      | no => exact ho.elim
      | dat _ => exact ho.elim
      | ml ds => obtain ⟨l, zs, a, b, c, r⟩ := q0; exact ⟨l, zs, a, b, c, r.sub hsub⟩
      | md ds => obtain ⟨l, zs, a, b, c, r⟩ := q0; exact ⟨l, zs, a, b, c, r.mono (Ex.refl H').gr hsub⟩
      | st n => exact q0
    · rcases mem_ownAt w with ⟨_, u⟩ | u
      · exact hn u
      · exact absurd u List.not_mem_nil
  rw [te] at q
  refine hb s ds es hp S O _ H E0 _ (fun Γ' O' σ' H' e n => ?_) (fun Γ' d O' σ' v H' e n r' => ?_) (fun _ _ _ _ z => z.elim) (fun _ _ _ _ z => z.elim)
  · obtain ⟨s', hg, ho, hR⟩ := e
    obtain ⟨f1, f2, f3, f4⟩ := fin n hg ho
    exact q s' .non .non H' hR f1 f2 f3 .non
  · obtain ⟨s', hg, ho, hR⟩ := e
    obtain ⟨f1, f2, f3, f4⟩ := fin n hg ho
    exact q s' v d H' hR f1 f2 f3 (f4 _ _ r')
end DL
set_option Elab.async false
set_option maxRecDepth 100000
set_option maxHeartbeats 4000000
set_option linter.all false
namespace DL
open PySem L2 StX

/-! ### own objects: laid, changed, given up -/
section
variable {K : PySem.W.Frag} {S : Addr → Prop} {O : Os} {H H' : Hp} {σ : L2.St} {Γ : List Sl}
/-- new objects are hidden -/
theorem EnvOk.hideN (E : EnvOk K S O H σ Γ) (e : Ex H H') {l : List Addr} (hl : ∀ a ∈ l, H a = none ∧ IsOwn H' a) : EnvOk K (fun a => S a ∨ a ∈ l) O H' σ Γ := by
  have E' := E.ex e
  have hi : ∀ a, T (fun a => S a ∨ a ∈ l) O a → T S O a ∨ H a = none := fun a h => by
    rcases h with (h | h) | h
    · exact .inl (.inl h)
    · exact .inr (hl a h).1
    · exact .inl (.inr h)
  refine ⟨E.len, fun j s h => ?_, E.dis, fun j a h => ⟨fun z => z.elim (E.own j a h).1 fun w => (E.own j a h).2.some (hl a w).1, (E'.own j a h).2⟩, fun a z => z.elim (E'.sin a) fun w => (hl a w).2.some, E.out⟩
  have qs := E.sl j s h
  cases s with
  | no => exact qs
  | dat d => obtain ⟨q0, y, q1, q2⟩ := qs; exact ⟨q0, y, q1, (q2.hide hi).ex e⟩
  | ml ds => obtain ⟨l, ys, q0, q1, q2, q3⟩ := qs; exact ⟨l, ys, q0, q1, e _ _ q2, (q3.hide hi).ex e⟩
  | md ds => obtain ⟨l, ys, q0, q1, q2, q3⟩ := qs; exact ⟨l, ys, q0, q1, e _ _ q2, (q3.hide hi).ex e⟩
  | st n => exact E'.sl j _ h
/-- hidden objects become a name's own -/
theorem EnvOk.claim {l : List Addr} (E : EnvOk K (fun a => S a ∨ a ∈ l) O H σ Γ) {i : Nat} {v : V} {s : Sl} (f : Free Γ i) (hl : ∀ a ∈ l, ¬ S a ∧ IsOwn H a)
    (hs : SlOk K (T (fun a => S a ∨ a ∈ l) O) H l (some (some v)) s) : EnvOk K S (ownAt O i l) H (σ.set i (some v)) (Γ.set i s) ∧ (∀ a, T S (ownAt O i l) a ↔ T (fun a => S a ∨ a ∈ l) O a) := by
  have ho := E.freeO f
  have hO : ∀ a ∈ l, ∀ j, a ∉ O j := fun a z j q => (E.own j a q).1 (.inr z)
  have tw : ∀ a, T S (ownAt O i l) a ↔ T (fun a => S a ∨ a ∈ l) O a := fun a => ⟨fun h => by
    rcases h with h | ⟨j, h⟩
    · exact .inl (.inl h)
    · rcases mem_ownAt h with ⟨_, w⟩ | w
      · exact .inl (.inr w)
      · exact .inr ⟨j, w⟩, fun h => by
    rcases h with (h | h) | ⟨j, h⟩
    · exact .inl h
    · exact .inr ⟨i, by rw [ownAt_same]; exact h⟩
    · refine .inr ⟨j, ?_⟩
      rw [ownAt_ne]
      · exact h
      · intro e
        subst e
        rw [ho] at h
        exact absurd h List.not_mem_nil⟩
  have te : T S (ownAt O i l) = T (fun a => S a ∨ a ∈ l) O := funext fun a => propext (tw a)
  refine ⟨⟨by rw [List.length_set, List.length_set]; exact E.len, fun j t h => ?_, fun j k a h h' => ?_, fun j a h => ?_, fun a z => E.sin a (.inl z), fun j h => ?_⟩, tw⟩
  · rw [te]
    by_cases hj : i = j
    · subst hj
      rw [List.getElem?_set_self f.1] at h
      cases h
      rw [ownAt_same, List.getElem?_set_self (by rw [E.len]; exact f.1)]
      exact hs
    · rw [List.getElem?_set_ne hj] at h
      rw [List.getElem?_set_ne hj, ownAt_ne (Ne.symm hj)]
      exact E.sl j t h
  · rcases mem_ownAt h with ⟨e, z⟩ | z <;> rcases mem_ownAt h' with ⟨e', z'⟩ | z'
    · rw [e, e']
    · exact absurd z' (hO a z k)
    · exact absurd z (hO a z' j)
    · exact E.dis j k a z z'
  · rcases mem_ownAt h with ⟨e, z⟩ | z
    · exact ⟨(hl a z).1, (hl a z).2⟩
    · exact ⟨fun w => (E.own j a z).1 (.inl w), (E.own j a z).2⟩
  · rw [List.length_set] at h
    rw [ownAt_ne (by intro q; subst q; exact absurd f.1 (Nat.not_lt.mpr h))]
    exact E.out j h
/-- an own list is given up: it is data from now on -/
theorem EnvOk.freeze (E : EnvOk K S O H σ Γ) {i : Nat} {ds : List D} (h : Γ[i]? = some (.ml ds)) : EnvOk K S (ownAt O i []) H σ (Γ.set i (.dat (.lst ds))) := by
  obtain ⟨l, xs, ho, hv, hl, hr⟩ := E.getL h
  have hs : ∀ a, T S (ownAt O i []) a → T S O a := fun a z => by
    rcases z with z | ⟨j, z⟩
    · exact .inl z
    · rcases mem_ownAt z with ⟨_, w⟩ | w
      · exact absurd w List.not_mem_nil
      · exact .inr ⟨j, w⟩
  have hil : i < Γ.length := (List.getElem?_eq_some_iff.mp h).1
  refine ⟨by rw [List.length_set]; exact E.len, fun j t hj => ?_, fun j k a z w => ?_, fun j a z => ?_, E.sin, fun j hj => ?_⟩
  · by_cases e : i = j
    · subst e
      rw [List.getElem?_set_self hil] at hj
      cases hj
      refine ⟨ownAt_same, _, hv, .lst (fun z => ?_) hl (hr.sub hs)⟩
      rcases z with z | ⟨j, z⟩
      · exact (E.own i l (by rw [ho]; exact List.mem_cons_self ..)).1 z
      · rcases mem_ownAt z with ⟨_, w⟩ | w
        · exact absurd w List.not_mem_nil
        · have e := E.dis i j l (by rw [ho]; exact List.mem_cons_self ..) w
          subst e
          rw [ownAt_same] at z
          exact absurd z List.not_mem_nil
    · rw [List.getElem?_set_ne e] at hj
      rw [ownAt_ne (Ne.symm e)]
      have q := E.sl j t hj
      cases t with
      | no => exact q
      | dat d => obtain ⟨q0, x, q1, q2⟩ := q; exact ⟨q0, x, q1, q2.sub hs⟩
      | ml ds => obtain ⟨l', xs, q0, q1, q2, q3⟩ := q; exact ⟨l', xs, q0, q1, q2, q3.sub hs⟩
      | md es => obtain ⟨l', xs, q0, q1, q2, q3⟩ := q; exact ⟨l', xs, q0, q1, q2, q3.mono (Ex.refl H).gr hs⟩
      | st n => exact q
  · rcases mem_ownAt z with ⟨_, z⟩ | z
    · exact absurd z List.not_mem_nil
    · rcases mem_ownAt w with ⟨_, w⟩ | w
      · exact absurd w List.not_mem_nil
      · exact E.dis j k a z w
  · rcases mem_ownAt z with ⟨_, z⟩ | z
    · exact absurd z List.not_mem_nil
    · exact E.own j a z
  · rw [List.length_set] at hj
    rw [ownAt_ne (by intro q; subst q; exact absurd hil (Nat.not_lt.mpr hj))]
    exact E.out j hj
/-- an own dict is given up -/
theorem EnvOk.freezeD (E : EnvOk K S O H σ Γ) {i : Nat} {ds : List (Key × D)} (h : Γ[i]? = some (.md ds)) : EnvOk K S (ownAt O i []) H σ (Γ.set i (.dat (.dic ds))) := by
  obtain ⟨l, xs, ho, hv, hl, hr⟩ := E.getD h
  have hs : ∀ a, T S (ownAt O i []) a → T S O a := fun a z => by
    rcases z with z | ⟨j, z⟩
    · exact .inl z
    · rcases mem_ownAt z with ⟨_, w⟩ | w
      · exact absurd w List.not_mem_nil
      · exact .inr ⟨j, w⟩
  have hil : i < Γ.length := (List.getElem?_eq_some_iff.mp h).1
  refine ⟨by rw [List.length_set]; exact E.len, fun j t hj => ?_, fun j k a z w => ?_, fun j a z => ?_, E.sin, fun j hj => ?_⟩
  · by_cases e : i = j
    · subst e
      rw [List.getElem?_set_self hil] at hj
      cases hj
      refine ⟨ownAt_same, _, hv, .dic (fun z => ?_) (.inl hl) (hr.mono (Ex.refl H).gr hs)⟩
      rcases z with z | ⟨j, z⟩
      · exact (E.own i l (by rw [ho]; exact List.mem_cons_self ..)).1 z
      · rcases mem_ownAt z with ⟨_, w⟩ | w
        · exact absurd w List.not_mem_nil
        · have e := E.dis i j l (by rw [ho]; exact List.mem_cons_self ..) w
          subst e
          rw [ownAt_same] at z
          exact absurd z List.not_mem_nil
    · rw [List.getElem?_set_ne e] at hj
      rw [ownAt_ne (Ne.symm e)]
      have q := E.sl j t hj
      cases t with
      | no => exact q
      | dat d => obtain ⟨q0, x, q1, q2⟩ := q; exact ⟨q0, x, q1, q2.sub hs⟩
      | ml ds => obtain ⟨l', xs, q0, q1, q2, q3⟩ := q; exact ⟨l', xs, q0, q1, q2, q3.sub hs⟩
      | md es => obtain ⟨l', xs, q0, q1, q2, q3⟩ := q; exact ⟨l', xs, q0, q1, q2, q3.mono (Ex.refl H).gr hs⟩
      | st n => exact q
  · rcases mem_ownAt z with ⟨_, z⟩ | z
    · exact absurd z List.not_mem_nil
    · rcases mem_ownAt w with ⟨_, w⟩ | w
      · exact absurd w List.not_mem_nil
      · exact E.dis j k a z w
  · rcases mem_ownAt z with ⟨_, z⟩ | z
    · exact absurd z List.not_mem_nil
    · exact E.own j a z
  · rw [List.length_set] at hj
    rw [ownAt_ne (by intro q; subst q; exact absurd hil (Nat.not_lt.mpr hj))]
    exact E.out j hj
theorem upd_gr {l : Addr} {T : Addr → Prop} (h : T l) {o : HO} (hl : IsOwn H l) : Gr T H (upd H l o) := by
  have ne : ∀ a, ¬ T a → a ≠ l := fun a n e => n (e ▸ h)
  refine ⟨fun a xs n q => by rw [upd_ne (ne a n)]; exact q, fun a kvs n q => by unfold Rd; rw [upd_ne (ne a n)]; exact q, fun a xs q => ?_, fun a C dx fs n q => by rw [upd_ne (ne a n)]; exact q⟩
  have na : a ≠ l := fun e => by
    subst e
    rcases hl with ⟨ys, w⟩ | ⟨ys, w⟩ <;> rcases q with q | ⟨o, q⟩ <;> (rw [w] at q; cases q)
  unfold Rd; rw [upd_ne na]; exact q
/-- an own object is written: o stands for the slot t -/
theorem EnvOk.write (E : EnvOk K S O H σ Γ) {i : Nat} {l : Addr} {s t : Sl} {o : HO} (h : Γ[i]? = some s) (ho : O i = [l]) (hw : IsOwn (upd H l o) l) (ht : SlOk K (T S O) (upd H l o) [l] σ[i]? t) :
    EnvOk K S O (upd H l o) σ (Γ.set i t) ∧ Fr O H (upd H l o) := by
  have hl := (E.own i l (by rw [ho]; exact List.mem_cons_self ..))
  have hT : T S O l := .inr ⟨i, by rw [ho]; exact List.mem_cons_self ..⟩
  have hil : i < Γ.length := (List.getElem?_eq_some_iff.mp h).1
  have gr : Gr (T S O) H (upd H l o) := upd_gr hT hl.2
  refine ⟨⟨by rw [List.length_set]; exact E.len, fun j u hj => ?_, E.dis, fun j a z => ⟨(E.own j a z).1, ?_⟩, fun a z => ?_, fun j hj => E.out j (by rwa [List.length_set] at hj)⟩, fun a u e n => ?_⟩
  · by_cases e : i = j
    · subst e
      rw [List.getElem?_set_self hil] at hj
      cases hj
      rw [ho]
      exact ht
    · rw [List.getElem?_set_ne e] at hj
      have q := E.sl j u hj
      have ne : ∀ a ∈ O j, a ≠ l := fun a z w => e (E.dis i j l (by rw [ho]; exact List.mem_cons_self ..) (w ▸ z))
      cases u with
      | no => exact q
      | dat d => obtain ⟨q0, x, q1, q2⟩ := q; exact ⟨q0, x, q1, q2.mono gr fun _ z => z⟩
      | ml ds => obtain ⟨l', xs, q0, q1, q2, q3⟩ := q; exact ⟨l', xs, q0, q1, by rw [upd_ne (ne _ (by rw [q0]; exact List.mem_cons_self ..))]; exact q2, q3.mono gr fun _ z => z⟩
      | md es => obtain ⟨l', xs, q0, q1, q2, q3⟩ := q; exact ⟨l', xs, q0, q1, by rw [upd_ne (ne _ (by rw [q0]; exact List.mem_cons_self ..))]; exact q2, q3.mono gr fun _ z => z⟩
      | st n =>
        obtain ⟨s1, c1, q0, q1, q2⟩ := q
        exact ⟨s1, c1, q0, q1, q2.keep (upd_ne (ne _ (by rw [q0]; exact List.mem_cons_self ..))) (upd_ne (ne _ (by rw [q0]; exact List.mem_cons_of_mem _ (List.mem_cons_self ..))))⟩
  · by_cases e : a = l
    · rw [e]; exact hw
    · rcases (E.own j a z).2 with ⟨ys, w⟩ | ⟨ys, w⟩
      · exact .inl ⟨ys, by rw [upd_ne e]; exact w⟩
      · exact .inr ⟨ys, by rw [upd_ne e]; exact w⟩
  · have na : a ≠ l := fun e => hl.1 (by rw [← e]; exact z)
    rw [upd_ne na]
    exact E.sin a z
  · rw [upd_ne (fun w => n i (by rw [ho, w]; exact List.mem_cons_self ..))]
    exact e
end

section
variable {K : PySem.W.Frag} {pn : List Nat} {Γ : List Sl} {P : Po} {te : TE} {t : TS} {d : D}
theorem Nx.take {S : Addr → Prop} {O : Os} {H H1 : Hp} {σ : L2.St} (E : EnvOk K S O H σ Γ) (e : Ex H H1) {i : Nat} {v : V} {s : Sl} {os : List Addr} (f : Free Γ i) (ho : ∀ a ∈ os, H a = none ∧ IsOwn H1 a)
    (hs : SlOk K (fun a => T S O a ∨ a ∈ os) H1 os (some (some v)) s) (hp : i ∉ pn) : Nx K S pn O H σ (ownAt O i os) H1 (σ.set i (some v)) (Γ.set i s) := by
  have tT : (fun a => T S O a ∨ a ∈ os) = T (fun a => S a ∨ a ∈ os) O := funext fun a => propext ⟨fun z => by
    rcases z with (z | z) | z
    · exact .inl (.inl z)
    · exact .inr z
    · exact .inl (.inr z), fun z => by
    rcases z with (z | z) | z
    · exact .inl (.inl z)
    · exact .inr z
    · exact .inl (.inr z)⟩
  rw [tT] at hs
  have q := (EnvOk.hideN E e ho).claim f (fun a z => ⟨fun w => E.sin a w (ho a z).1, (ho a z).2⟩) hs
  refine ⟨q.1, e.fr, fun j a z => ?_, fun j hj => ⟨by rw [List.getElem?_set_ne (fun q => hp (by rw [q]; exact hj))], ownAt_ne (fun q => hp (by rw [← q]; exact hj))⟩⟩
  rcases mem_ownAt z with ⟨_, z⟩ | z
  · exact .inr (ho a z).1
  · exact .inl ⟨j, z⟩
/-- x = a new list, a new dict, data -/
theorem xs_asgN {i : Nat} {s : Sl} (he : EN K te Γ s) (f : Free Γ i) (hp : i ∉ pn) (h : P.nx (Γ.set i s)) : XS K pn (tAsg te (gName i)) Γ P := fun S O σ H E e hn _ _ _ => he S O σ H E _ fun v os H1 e1 ho hs =>
  hn _ _ _ H1 h (Nx.take E e1 f ho hs hp)
theorem xs_freeze {i : Nat} {ds : List D} (h : Γ[i]? = some (.ml ds)) (hp : i ∉ pn) (hx : XS K pn t (Γ.set i (.dat (.lst ds))) P) : XS K pn t Γ P := fun S O σ H E e hn hr hb hc => by
  have n : Nx K S pn O H σ (ownAt O i []) H σ (Γ.set i (.dat (.lst ds))) := ⟨E.freeze h, Fr.refl O H, fun j a z => by
    rcases mem_ownAt z with ⟨_, z⟩ | z
    · exact absurd z List.not_mem_nil
    · exact .inl ⟨j, z⟩, fun j hj => ⟨rfl, ownAt_ne (fun q => hp (by rw [← q]; exact hj))⟩⟩
  exact hx S _ σ H n.env e (fun _ _ _ _ a b => hn _ _ _ _ a (fr_up n b)) (fun _ _ _ _ _ _ a b => hr _ _ _ _ _ _ a (fr_up n b)) (fun _ _ _ _ a b => hb _ _ _ _ a (fr_up n b)) (fun _ _ _ _ a b => hc _ _ _ _ a (fr_up n b))
where
  fr_up {S : Addr → Prop} {O O1 O2 : Os} {H H1 H2 : Hp} {σ σ1 σ2 : L2.St} {Γ1 Γ2 : List Sl} (n : Nx K S pn O H σ O1 H1 σ1 Γ1) (m : Nx K S pn O1 H1 σ1 O2 H2 σ2 Γ2) : Nx K S pn O H σ O2 H2 σ2 Γ2 := n.trans m
theorem xs_freezeD {i : Nat} {ds : List (Key × D)} (h : Γ[i]? = some (.md ds)) (hp : i ∉ pn) (hx : XS K pn t (Γ.set i (.dat (.dic ds))) P) : XS K pn t Γ P := fun S O σ H E e hn hr hb hc => by
  have n : Nx K S pn O H σ (ownAt O i []) H σ (Γ.set i (.dat (.dic ds))) := ⟨E.freezeD h, Fr.refl O H, fun j a z => by
    rcases mem_ownAt z with ⟨_, z⟩ | z
    · exact absurd z List.not_mem_nil
    · exact .inl ⟨j, z⟩, fun j hj => ⟨rfl, ownAt_ne (fun q => hp (by rw [← q]; exact hj))⟩⟩
  exact hx S _ σ H n.env e (fun _ _ _ _ a b => hn _ _ _ _ a (n.trans b)) (fun _ _ _ _ _ _ a b => hr _ _ _ _ _ _ a (n.trans b)) (fun _ _ _ _ a b => hb _ _ _ _ a (n.trans b)) (fun _ _ _ _ a b => hc _ _ _ _ a (n.trans b))
theorem xe_ed (h : ED K te Γ d) {R : List Sl → D → Prop} (hR : R Γ d) : XE K te Γ R := fun S O σ H E Q q => h S O σ H E _ fun v H1 e1 r1 => q Γ v d H1 hR (E.ex e1) e1.fr r1
theorem xe_op {ta tb : TE} {r : R2} {R : List Sl → D → Prop} {M : List Sl → D → Prop} (ha : XE K ta Γ M) (hb : ∀ g a, M g a → XE K tb g fun g' b => ∃ c, VR K r a b c ∧ R g' c) : XE K (tOp r ta tb) Γ R := fun S O σ H E Q q =>
  ha S O σ H E _ fun Γ1 x a H1 m E1 f1 r1 => hb _ _ m S O σ H1 E1 _ fun Γ2 y b H2 ⟨c, hr, hR⟩ E2 f2 r2 =>
    hr _ H2 x y E2.tin (r1.mono (E1.gr f2) fun _ z => z) r2 Q fun v H3 e3 r3 => q Γ2 v c H3 hR (E2.ex e3) ((f1.trans f2).trans e3.fr) r3
theorem xe_mono {R R' : List Sl → D → Prop} (h : XE K te Γ R) (hm : ∀ g d, R g d → R' g d) : XE K te Γ R' := fun S O σ H E Q q => h S O σ H E Q fun g v d H1 r => q g v d H1 (hm g d r)
theorem xe_cb {r : List V → Hp → VK → Prop} {ta : TA} {R : List Sl → D → Prop} {M : List Sl → List D → Prop} (ha : XB K ta Γ M) (hr : ∀ g ds, M g ds → ∃ c, VC K r ds c ∧ R g c) : XE K (tCB r ta) Γ R := fun S O σ H E Q q =>
  ha S O σ H E _ fun Γ1 ds xs H1 m E1 f1 r1 => by
    obtain ⟨c, hc, hR⟩ := hr _ _ m
    exact hc _ H1 xs E1.tin r1 Q fun v H2 e2 r2 => q Γ1 v c H2 hR (E1.ex e2) (f1.trans e2.fr) r2
theorem xe_tup {ta : TA} {R : List Sl → D → Prop} (ha : XB K ta Γ fun g ds => ds.length ≤ sizeLine ∧ R g (.tup ds)) : XE K (tTup ta) Γ R := fun S O σ H E Q q =>
  ha S O σ H E _ fun Γ1 ds xs H1 m E1 f1 r1 => ⟨by rw [r1.length]; exact m.1, fun p hp => q Γ1 _ _ _ m.2 (E1.ex (Ex.new hp)) (f1.trans (Ex.new hp).fr) (.tup (SqT.of upd_same) (r1.ex (Ex.new hp)))⟩
theorem xe_lst {ta : TA} {R : List Sl → D → Prop} (ha : XB K ta Γ fun g ds => ds.length ≤ sizeLine ∧ R g (.lst ds)) : XE K (tLst ta) Γ R := fun S O σ H E Q q =>
  ha S O σ H E _ fun Γ1 ds xs H1 m E1 f1 r1 => ⟨by rw [r1.length]; exact m.1, fun p hp => q Γ1 _ _ _ m.2 (E1.ex (Ex.new hp)) (f1.trans (Ex.new hp).fr) (.lst (E1.tfresh hp) upd_same (r1.ex (Ex.new hp)))⟩
/-- the methods of an own list: r xs vs ys z: xs is changed by the arguments vs into ys, and z comes back -/
theorem xe_meth {T : String} {i : Nat} {ds : List D} {ta : TA} {as : List D} {r : V → List V → Hp → VK → Prop} {R : List Sl → D → Prop} (h : Γ[i]? = some (.ml ds)) (ha : EA K ta Γ as)
    (hT : T = "list") (hr : ∀ (U : Addr → Prop) (H : Hp) (l : Addr) (xs vs : List V), H l = some (.lst xs) → RpL K U H xs ds → RpL K U H vs as → U l → ∀ Q : VK,
      (∀ z e ys es, RpL K U H ys es → Rp K U H z e → R (Γ.set i (.ml es)) e → Q z (upd H l (.lst ys))) → r (.ref l) vs H Q) : XE K (tBM K T r (tVar i) ta) Γ R := fun S O σ H E Q q => by
  obtain ⟨l, xs, ho, hv, hl, hrx⟩ := E.getL h
  refine ⟨_, hv, by subst hT; exact .inl ⟨rfl, _, SqL.of hl⟩, ha S O σ H E _ fun vs H1 e1 r1 => ?_⟩
  have E1 := E.ex e1
  have hT : DL.T S O l := .inr ⟨i, by rw [ho]; exact List.mem_cons_self ..⟩
  refine hr (DL.T S O) H1 l xs vs (e1 _ _ hl) (hrx.ex e1) r1 hT Q fun z e ys es ry rz hR => ?_
  have up : Gr (DL.T S O) H1 (upd H1 l (.lst ys)) := upd_gr hT (.inl ⟨_, e1 _ _ hl⟩)
  obtain ⟨E2, f2⟩ := E1.write (o := .lst ys) (t := .ml es) h ho (.inl ⟨_, upd_same⟩) ⟨l, ys, rfl, hv, upd_same, ry.mono up fun _ z => z⟩
  exact q _ _ _ _ hR E2 (e1.fr.trans f2) (rz.mono up fun _ z => z)
theorem xe_append {i : Nat} {ds : List D} {a : D} (h : Γ[i]? = some (.ml ds)) (ha : ED K te Γ a) (hz : ds.length < sizeLine) {R : List Sl → D → Prop} (hR : R (Γ.set i (.ml (ds ++ [a]))) .non) : XE K (tBM K "list" rAppend (tVar i) (tCons te tNil)) Γ R :=
  xe_meth h (ea_cons ha ea_nil) rfl fun U H l xs vs hl rx rv _ Q q => by
    cases rv with
    | cons a b =>
      cases b
      exact ⟨l, xs, _, rfl, rfl, hl, by rw [rx.length]; exact hz, q _ _ _ _ (rx.append (.cons a .nil)) .non hR⟩
theorem xe_extend {i : Nat} {ds es : List D} (h : Γ[i]? = some (.ml ds)) (ha : ED K te Γ (.lst es)) (hz : ds.length + es.length ≤ sizeLine) {R : List Sl → D → Prop} (hR : R (Γ.set i (.ml (ds ++ es))) .non) : XE K (tBM K "list" rExtend (tVar i) (tCons te tNil)) Γ R :=
  xe_meth h (ea_cons ha ea_nil) rfl fun U H l xs vs hl rx rv _ Q q => by
    cases rv with
    | cons a b =>
      cases b
      cases a with
      | @lst b ys _ n hb hr => exact ⟨l, b, xs, ys, rfl, rfl, hl, hb, by rw [rx.length, hr.length]; exact hz, q _ _ _ _ (rx.append hr) .non hR⟩
end
end DL
set_option Elab.async false
set_option maxRecDepth 100000
set_option maxHeartbeats 4000000
set_option linter.all false
namespace DL
open PySem L2 StX PyProof.Rows PySem.Spec

/-! ### rules by any kind of value -/
def rAddS : R2 := fun x y H Q => ∃ i j, x = .str i ∧ y = .str j ∧ i.length + j.length ≤ sizeLine ∧ Q (.str (i ++ j)) H
def rAddI : R2 := rI0 fun i j => .int (i + j)
def rAddU (K : PySem.W.Frag) : R2 := fun x y H Q => rAddI x y H Q ∨ rAddS x y H Q ∨ rCat x y H Q ∨ rCatA K x y H Q
def rSubI : R2 := rI0 fun i j => .int (i - j)
def rMulI : R2 := rI CMulW fun i j => .int (i * j)
def rMulU : R2 := fun x y H Q => rMulI x y H Q ∨ rRep x y H Q
def rModI : R2 := rI (fun _ j => 0 < j) fun i j => .int (i % j)
def rDivI : R2 := rI CDivW fun i j => .int (i / j)
def rPowI : R2 := rI CPow fun i j => .int (i ^ j.toNat)
def rLtI : R2 := rI0 fun i j => .bl (decide (i < j))
def rLeI : R2 := rI0 fun i j => .bl (decide (i ≤ j))
def rGtI : R2 := rI0 fun i j => .bl (decide (j < i))
def rGeI : R2 := rI0 fun i j => .bl (decide (j ≤ i))
def rIsN : R2 := fun x y H Q => y = .non ∧ Q (.bl (decide (x = .non))) H
def rNotN : R2 := fun x y H Q => y = .non ∧ Q (.bl (!decide (x = .non))) H
def rDIn (neg : Bool) : R2 := fun y x H Q => ∃ a o, x = .ref a ∧ DGet H a y o ∧ Q (.bl (if neg then !o.isSome else o.isSome)) H
def rSIn (neg : Bool) : R2 := fun x y H Q => ∃ (c : Nat) (z : Str), x = .str ⟨#[c]⟩ ∧ y = .str z ∧ Q (.bl (if neg then !decide (c ∈ z.cps.toList) else decide (c ∈ z.cps.toList))) H
def rDpIn (K : PySem.W.Frag) (neg : Bool) : R2 := fun x y H Q => ∃ d ds, Dp K H x d ∧ Dp K H y (.list ds) ∧ SeqAt.shaped d = true ∧ SeqAt.shaped (.list ds) = true ∧ Q (.bl (if neg then !ds.any fun z => PyData.eqv z d else ds.any fun z => PyData.eqv z d)) H
def rInU (K : PySem.W.Frag) (neg : Bool) : R2 := fun x y H Q => rIn K neg x y H Q ∨ rDIn neg x y H Q ∨ rSIn neg x y H Q ∨ rDpIn K neg x y H Q
def rDGet : R2 := fun x y H Q => ∃ a v, x = .ref a ∧ DGet H a y (some v) ∧ Q v H
def rIxU (K : PySem.W.Frag) : R2 := fun x y H Q => rIx K x y H Q ∨ rDGet x y H Q
def rSlU (K : PySem.W.Frag) : V → Option Int → Option Int → Hp → VK → Prop := fun x lo hi H Q => rSlL K x lo hi H Q ∨ rSlA K x lo hi H Q ∨ rSlS x lo hi H Q
def rLenDk : List V → Hp → VK → Prop := fun xs H Q => ∃ p kvs, xs = [.ref p] ∧ H p = some (.dK kvs) ∧ Q (.int kvs.length) H
def rLenU (K : PySem.W.Frag) : List V → Hp → VK → Prop := fun xs H Q => (∃ x n, xs = [x] ∧ LenV K x H n ∧ Q (.int n) H) ∨ rLenDk xs H Q
def rListOf (K : PySem.W.Frag) : List V → Hp → VK → Prop := fun xs H Q => ∃ p ys, xs = [.ref p] ∧ (SqL K H p ys ∨ SqT K H p ys) ∧ ∀ l, H l = none → Q (.ref l) (upd H l (.lst ys))
def rListDk : List V → Hp → VK → Prop := fun xs H Q => ∃ (a : Addr) (kvs : List (Key × V)), xs = [.ref a] ∧ Rd H a (.dK kvs) ∧ ∀ p, H p = none → Q (.ref p) (upd H p (.lst (kvs.map fun kv => kV kv.1)))
def rListU (K : PySem.W.Frag) : List V → Hp → VK → Prop := fun xs H Q => rListOf K xs H Q ∨ rListDk xs H Q
def rDictDk : List V → Hp → VK → Prop := fun xs H Q => ∃ (a : Addr) (kvs : List (Key × V)), xs = [.ref a] ∧ Rd H a (.dK kvs) ∧ ∀ p, H p = none → Q (.ref p) (upd H p (.dK kvs))
def rDictPs (K : PySem.W.Frag) : List V → Hp → VK → Prop := fun xs H Q => ∃ (a : Addr) (ps : List Addr) (kvs : List (Key × V)), xs = [.ref a] ∧ SqL K H a (ps.map V.ref) ∧ Paired (fun p kv => SqT K H p [kV kv.1, kv.2]) ps kvs ∧
  ∀ p, H p = none → Q (.ref p) (upd H p (.dK (mergeK [] kvs)))
def rDictU (K : PySem.W.Frag) : List V → Hp → VK → Prop := fun xs H Q => rDictPs K xs H Q ∨ rDictDk xs H Q
def rInt1 : List V → Hp → VK → Prop := fun xs H Q => (∃ i, xs = [.int i] ∧ Q (.int i) H) ∨ ∃ k, xs = [.bl k] ∧ Q (.int (if k then 1 else 0)) H

section
variable {X : Cx}
theorem CallR.or {f : Value} {r r' : List V → Hp → VK → Prop} (h : CallR X f r) (h' : CallR X f r') : CallR X f (fun xs H Q => r xs H Q ∨ r' xs H Q) := by
  intro pins s σ H xs us Q I rx q
  rcases q with q | q
  · exact h pins s σ H xs us Q I rx q
  · exact h' pins s σ H xs us Q I rx q
theorem PI.or {tg e : Expr} {w1 w2 : TI} (h : PI X tg e w1) (h' : PI X tg e w2) : PI X tg e (fun σ H R => w1 σ H R ∨ w2 σ H R) := by
  refine ⟨fun pins s σ H R I q => ?_⟩
  rcases q with q | q
  · exact h.run pins s σ H R I q
  · exact h'.run pins s σ H R I q
/-- an expression, a test that is never reached -/
theorem pe_nev {e : Expr} : PE X e (fun _ _ _ => False) := ⟨fun _ _ _ _ _ _ h => h.elim⟩
theorem o_add : OpR X (binaryOp .Add) (rAddU X.K) := op_add.or (op_add_str.or (op_cat.or op_catA))
theorem o_sub : OpR X (binaryOp .Sub) rSubI := op_sub
theorem o_mul : OpR X (binaryOp .Mult) rMulU := OpR.or op_mulW op_rep
theorem o_mod : OpR X (binaryOp .Mod) rModI := op_mod
theorem o_div : OpR X (binaryOp .FloorDiv) rDivI := op_fdivW
theorem o_pow : OpR X (binaryOp .Pow) rPowI := op_pow
theorem o_lt : OpR X (compareOp .Lt) rLtI := op_lt
theorem o_le : OpR X (compareOp .LtE) rLeI := op_le
theorem o_gt : OpR X (compareOp .Gt) rGtI := op_gt
theorem o_ge : OpR X (compareOp .GtE) rGeI := op_ge
theorem o_isN : OpR X (compareOp .Is) rIsN := op_isN
theorem o_notN : OpR X (compareOp .IsNot) rNotN := op_notN
theorem o_dinT (hu : X.A.units + 1 < cLine) : OpR X (compareOp .In) (rDIn false) := by
  intro pins s σ H y x iv u Q I ry rx h
  obtain ⟨a, ov, rfl, g, q⟩ := h
  obtain rfl : u = Value.ref a := rx
  exact d_in hu I g ry fun s3 I3 => ⟨.bl ov.isSome, H, I3, rfl, q⟩
theorem o_dinF (hu : X.A.units + 1 < cLine) : OpR X (compareOp .NotIn) (rDIn true) := by
  intro pins s σ H y x iv u Q I ry rx h
  obtain ⟨a, ov, rfl, g, q⟩ := h
  obtain rfl : u = Value.ref a := rx
  exact d_notIn hu I g ry fun s3 I3 => ⟨.bl (!ov.isSome), H, I3, rfl, q⟩
theorem o_in (hu : X.A.units + 65 < cLine) : OpR X (compareOp .In) (rInU X.K false) := op_in_seq.or ((o_dinT (by omega)).or ((show OpR X (compareOp .In) (rSIn false) from op_in_sign).or (show OpR X (compareOp .In) (rDpIn X.K false) from op_inD hu)))
theorem o_notIn (hu : X.A.units + 65 < cLine) : OpR X (compareOp .NotIn) (rInU X.K true) := op_notIn_seq.or ((o_dinF (by omega)).or ((show OpR X (compareOp .NotIn) (rSIn true) from op_notIn_sign).or (show OpR X (compareOp .NotIn) (rDpIn X.K true) from op_notInD hu)))
theorem i_dict (hu : X.A.units + 1 < cLine) : IxR X rDGet := by
  intro value slice pins s σ H x y v u Q I rx ry h hs
  obtain ⟨a, w, rfl, g, q⟩ := h
  obtain rfl : v = Value.ref a := rx
  exact tail_any (dict_typeIs I g) PySem.F.slot_dict_getitem.lookup (d_getItem hu I g ry fun w' s3 I3 rw' => ⟨w, H, I3, rw', q⟩) hs
theorem i_any (hu : X.A.units + 1 < cLine) : IxR X (rIxU X.K) := ix_seq.or (i_dict hu)
theorem s_any : SlR X (rSlU X.K) := sl_list.or (sl_tupA.or sl_str)
theorem c_len : CallR X (.builtin "len") (rLenU X.K) := CallR.or call_len (by
  intro pins s σ H xs us Q I r h
  obtain ⟨p, kvs, rfl, e, q⟩ := h
  exact call_lenD pins s σ H _ us Q I r ⟨p, kvs, rfl, e, q⟩)
theorem c_list (hc : X.calm = true) : CallR X (.type "list") (rListU X.K) := CallR.or call_list_of (call_listD hc)
theorem c_dict (hc : X.calm = true) : CallR X (.type "dict") (rDictU X.K) := CallR.or (call_dictP hc) call_dictD
theorem c_int : CallR X (.type "int") rInt1 := call_int1
end
end DL
set_option Elab.async false
set_option maxRecDepth 100000
set_option maxHeartbeats 400000
set_option linter.all false
namespace DL
open PySem L2 StX PyProof.Rows PySem.Spec

/-! ### data without dicts and instances, as the model's == takes them -/
mutual
def D.py : D → PyData
  | .non => .none
  | .bl b => .bool b
  | .int i => .int i
  | .str x => .str x
  | .lst xs => .list (D.pyL xs)
  | .tup xs => .tuple (D.pyL xs)
  | .dic _ => .none
  | .ins _ _ => .none
def D.pyL : List D → List PyData
  | [] => []
  | x :: xs => D.py x :: D.pyL xs
end
mutual
def D.pl : D → Bool
  | .lst xs => D.plL xs
  | .tup xs => D.plL xs
  | .dic _ => false
  | .ins _ _ => false
  | _ => true
def D.plL : List D → Bool
  | [] => true
  | x :: xs => D.pl x && D.plL xs
end
theorem pyL_map : ∀ xs : List D, D.pyL xs = xs.map D.py
  | [] => rfl
  | x :: xs => by rw [D.pyL, pyL_map xs]; rfl
theorem plL_all : ∀ xs : List D, D.plL xs = xs.all D.pl
  | [] => rfl
  | x :: xs => by rw [D.plL, plL_all xs]; rfl
section
variable {K : PySem.W.Frag} {S : Addr → Prop} {H : Hp}
mutual
theorem Rp.dp : ∀ {v : V} {d : D}, Rp K S H v d → d.pl = true → Dp K H v d.py
  | _, _, .non, _ => by rw [D.py]; exact .non
  | _, _, .bl b, _ => by rw [D.py]; exact .bl b
  | _, _, .int i, _ => by rw [D.py]; exact .int i
  | _, _, .str x, _ => by rw [D.py]; exact .str x
  | _, _, .lst _ h r, p => by
    rw [D.pl] at p
    rw [D.py]
    exact .lst (SqL.of h) (RpL.dp r p)
  | _, _, .tup h r, p => by
    rw [D.pl] at p
    rw [D.py]
    exact .tup h (RpL.dp r p)
  | _, _, .dic _ _ _, p => by
    rw [D.pl] at p
    cases p
  | _, _, .ins _ _ _, p => by
    rw [D.pl] at p
    cases p
theorem RpL.dp : ∀ {v : List V} {d : List D}, RpL K S H v d → D.plL d = true → DpAll K H v (D.pyL d)
  | _, _, .nil, _ => by rw [D.pyL]; exact .nil
  | _, _, .cons a b, p => by
    rw [D.plL, Bool.and_eq_true] at p
    rw [D.pyL]
    exact .cons (Rp.dp a p.1) (RpL.dp b p.2)
end
end
def D.ok (d : D) : Bool := d.pl && SeqAt.shaped d.py
def eqD (a b : D) : Bool := PyData.eqv a.py b.py
theorem ok_of {d : D} (h : d.ok = true) : d.pl = true ∧ SeqAt.shaped d.py = true := by
  have q : (d.pl && SeqAt.shaped d.py) = true := h
  rwa [Bool.and_eq_true] at q

section
variable {K : PySem.W.Frag}
theorem vr_eq {a b : D} (ha : a.ok = true) (hb : b.ok = true) : VR K (rEqD K) a b (.bl (eqD a b)) := fun T H x y _ ra rb Q q =>
  ⟨a.py, b.py, ra.dp (ok_of ha).1, rb.dp (ok_of hb).1, (ok_of ha).2, (ok_of hb).2, q _ H (Ex.refl H) (.bl _)⟩
theorem vr_ne {a b : D} (ha : a.ok = true) (hb : b.ok = true) : VR K (rNeD K) a b (.bl (!eqD a b)) := fun T H x y _ ra rb Q q =>
  ⟨a.py, b.py, ra.dp (ok_of ha).1, rb.dp (ok_of hb).1, (ok_of ha).2, (ok_of hb).2, q _ H (Ex.refl H) (.bl _)⟩
theorem vr_I0 {g : Int → Int → V} {G : Int → Int → D} {i j : Int} (hg : ∀ T H, Rp K T H (g i j) (G i j)) : VR K (rI0 g) (.int i) (.int j) (G i j) := fun T H x y _ ra rb Q q => by
  cases ra
  cases rb
  exact ⟨i, j, rfl, rfl, q _ H (Ex.refl H) (hg T H)⟩
theorem vr_I {C : Int → Int → Prop} {g : Int → Int → V} {G : Int → Int → D} {i j : Int} (hc : C i j) (hg : ∀ T H, Rp K T H (g i j) (G i j)) : VR K (rI C g) (.int i) (.int j) (G i j) := fun T H x y _ ra rb Q q => by
  cases ra
  cases rb
  exact ⟨i, j, rfl, rfl, hc, q _ H (Ex.refl H) (hg T H)⟩
theorem vr_lt {i j : Int} : VR K rLtI (.int i) (.int j) (.bl (decide (i < j))) := vr_I0 (G := fun i j => .bl (decide (i < j))) fun _ _ => .bl _
theorem vr_le {i j : Int} : VR K rLeI (.int i) (.int j) (.bl (decide (i ≤ j))) := vr_I0 (G := fun i j => .bl (decide (i ≤ j))) fun _ _ => .bl _
theorem vr_gt {i j : Int} : VR K rGtI (.int i) (.int j) (.bl (decide (j < i))) := vr_I0 (G := fun i j => .bl (decide (j < i))) fun _ _ => .bl _
theorem vr_ge {i j : Int} : VR K rGeI (.int i) (.int j) (.bl (decide (j ≤ i))) := vr_I0 (G := fun i j => .bl (decide (j ≤ i))) fun _ _ => .bl _
theorem vr_sub {i j : Int} : VR K rSubI (.int i) (.int j) (.int (i - j)) := vr_I0 (G := fun i j => .int (i - j)) fun _ _ => .int _
theorem vr_addI {i j : Int} : VR K (rAddU K) (.int i) (.int j) (.int (i + j)) := fun T H x y t ra rb Q q =>
  .inl ((vr_I0 (g := fun i j => .int (i + j)) (G := fun i j => .int (i + j)) fun _ _ => .int _ : VR K (rI0 fun i j => .int (i + j)) (.int i) (.int j) (.int (i + j))) T H x y t ra rb Q q)
theorem vr_addS {i j : Str} (h : i.length + j.length ≤ sizeLine) : VR K (rAddU K) (.str i) (.str j) (.str (i ++ j)) := fun T H x y t ra rb Q q => by
  cases ra
  cases rb
  exact .inr (.inl ⟨i, j, rfl, rfl, h, q _ H (Ex.refl H) (.str _)⟩)
theorem vr_addL {xs ys : List D} (h : xs.length + ys.length ≤ sizeLine) : VR K (rAddU K) (.lst xs) (.lst ys) (.lst (xs ++ ys)) := fun T H x y t ra rb Q q => by
  cases ra with
  | lst n1 h1 r1 =>
  cases rb with
  | lst n2 h2 r2 =>
    exact .inr (.inr (.inl ⟨_, _, _, _, rfl, rfl, h1, h2, by rw [r1.length, r2.length]; exact h, fun p hp => q _ _ (Ex.new hp) (.lst (fun z => t p z hp) upd_same ((r1.append r2).ex (Ex.new hp)))⟩))
theorem vr_addT {xs ys : List D} (h : xs.length + ys.length ≤ sizeLine) : VR K (rAddU K) (.tup xs) (.tup ys) (.tup (xs ++ ys)) := fun T H x y t ra rb Q q => by
  cases ra with
  | tup h1 r1 =>
  cases rb with
  | tup h2 r2 =>
    refine .inr (.inr (.inr ⟨_, _, _, _, rfl, rfl, h1, h2, by rw [r1.length, r2.length]; exact h, fun e => ?_, fun _ e => ?_, fun _ _ p hp => q _ _ (Ex.new hp) (.tup (SqT.of upd_same) ((r1.append r2).ex (Ex.new hp)))⟩))
    · subst e
      cases r1
      exact q _ H (Ex.refl H) (.tup h2 r2)
    · subst e
      cases r2
      rw [List.append_nil] at *
      exact q _ H (Ex.refl H) (.tup h1 r1)
theorem vr_mulI {i j : Int} (h : CMulW i j) : VR K rMulU (.int i) (.int j) (.int (i * j)) := fun T H x y t ra rb Q q => by
  cases ra
  cases rb
  exact .inl ⟨i, j, rfl, rfl, h, q _ H (Ex.refl H) (.int _)⟩
theorem RpL.flat {T : Addr → Prop} {H : Hp} {xs : List V} {ds : List D} (r : RpL K T H xs ds) : ∀ n : Nat, RpL K T H (List.replicate n xs).flatten (List.replicate n ds).flatten
  | 0 => .nil
  | n + 1 => by
    rw [List.replicate_succ, List.replicate_succ, List.flatten_cons, List.flatten_cons]
    exact r.append (RpL.flat r n)
theorem vr_rep {xs : List D} {k : Int} (h1 : -(2 ^ 63) ≤ k) (h2 : k < 2 ^ 63) (h : xs.length * k.toNat ≤ sizeLine) : VR K rMulU (.lst xs) (.int k) (.lst (List.replicate k.toNat xs).flatten) := fun T H x y t ra rb Q q => by
  cases rb
  cases ra with
  | lst n1 hl r1 =>
    exact .inr ⟨_, k, _, rfl, rfl, hl, h1, h2, by rw [r1.length]; exact h, fun p hp => q _ _ (Ex.new hp) (.lst (fun z => t p z hp) upd_same ((r1.flat _).ex (Ex.new hp)))⟩
theorem vr_mod {i j : Int} (h : 0 < j) : VR K rModI (.int i) (.int j) (.int (i % j)) := vr_I (G := fun i j => .int (i % j)) h fun _ _ => .int _
theorem vr_div {i j : Int} (h : 0 < j) (h2 : j.natAbs.log2 < 9000) : VR K rDivI (.int i) (.int j) (.int (i / j)) := vr_I (G := fun i j => .int (i / j)) ⟨h, h2⟩ fun _ _ => .int _
theorem vr_pow {i j : Int} (h : CPow i j) : VR K rPowI (.int i) (.int j) (.int (i ^ j.toNat)) := vr_I (G := fun i j => .int (i ^ j.toNat)) h fun _ _ => .int _
def isN : D → Bool
  | .non => true
  | _ => false
theorem vr_isN {a : D} : VR K rIsN a .non (.bl (isN a)) := fun T H x y _ ra rb Q q => by
  cases rb
  refine ⟨rfl, q _ H (Ex.refl H) ?_⟩
  cases ra <;> exact .bl _
theorem vr_notN {a : D} : VR K rNotN a .non (.bl (!isN a)) := fun T H x y _ ra rb Q q => by
  cases rb
  refine ⟨rfl, q _ H (Ex.refl H) ?_⟩
  cases ra <;> exact .bl _
/-! #### in -/
def valD (es : List (Key × D)) (k : Key) : Option D := (es.find? fun kv => decide (kv.1 = k)).map (·.2)
theorem valD_pos {k : Key} {d : D} {es : List (Key × D)} : valD ((k, d) :: es) k = some d := by simp [valD]
theorem valD_neg {k j : Key} {d : D} {es : List (Key × D)} (h : ¬ k = j) : valD ((k, d) :: es) j = valD es j := by simp [valD, List.find?_cons, h]
theorem RpD.val {T : Addr → Prop} {H : Hp} : ∀ {kvs : List (Key × V)} {es : List (Key × D)} (_ : RpD K T H kvs es) (k : Key), (valV kvs k = none ∧ valD es k = none) ∨ ∃ v d, valV kvs k = some v ∧ valD es k = some d ∧ Rp K T H v d
  | _, _, .nil, k => .inl ⟨rfl, rfl⟩
  | _, _, .cons (k := k0) (v := v0) (d := d0) a b, k => by
    by_cases e : k0 = k
    · subst e
      exact .inr ⟨v0, d0, valV_pos rfl, valD_pos, a⟩
    · rcases RpD.val b k with ⟨h1, h2⟩ | ⟨v, d, h1, h2, h3⟩
      · exact .inl ⟨(valV_neg (p := (k0, v0)) e).trans h1, (valD_neg e).trans h2⟩
      · exact .inr ⟨v, d, (valV_neg (p := (k0, v0)) e).trans h1, (valD_neg e).trans h2, h3⟩
theorem RpD.length {T : Addr → Prop} {H : Hp} : ∀ {kvs : List (Key × V)} {es : List (Key × D)}, RpD K T H kvs es → kvs.length = es.length
  | _, _, .nil => rfl
  | _, _, .cons _ b => congrArg (· + 1) (RpD.length b)
def keyD : Key → D
  | .inl i => .int i
  | .inr x => .str x
theorem Rp.key {T : Addr → Prop} {H : Hp} {v : V} {k : Key} (r : Rp K T H v (keyD k)) : v = kV k := by
  cases k <;> (cases r; rfl)
theorem DGet.rd {H : Hp} {a : Addr} {kvs : List (Key × V)} {k : Key} (e : Rd H a (.dK kvs)) : DGet H a (kV k) (valV kvs k) := .inl ⟨kvs, k, e, rfl, rfl⟩
theorem vr_dIn {neg : Bool} {k : Key} {es : List (Key × D)} : VR K (rInU K neg) (keyD k) (.dic es) (.bl (if neg then !(valD es k).isSome else (valD es k).isSome)) := fun T H x y _ ra rb Q q => by
  have hx := ra.key
  subst hx
  cases rb with
  | dic n h r =>
    rename_i kvs
    refine .inr (.inl ⟨_, _, rfl, DGet.rd h, ?_⟩)
    have e : (valV kvs k).isSome = (valD es k).isSome := by
      rcases r.val k with ⟨h1, h2⟩ | ⟨v, d, h1, h2, _⟩ <;> rw [h1, h2] <;> rfl
    rw [e]
    exact q _ H (Ex.refl H) (.bl _)
theorem vr_dGet {k : Key} {es : List (Key × D)} {d : D} (h : valD es k = some d) : VR K (rIxU K) (.dic es) (keyD k) d := fun T H x y _ ra rb Q q => by
  have hx := rb.key
  subst hx
  cases ra with
  | dic n hr r =>
    rcases r.val k with ⟨h1, h2⟩ | ⟨v, d', h1, h2, h3⟩
    · rw [h] at h2; cases h2
    · rw [h] at h2
      cases h2
      exact .inr ⟨_, v, rfl, by rw [← h1]; exact DGet.rd hr, q _ H (Ex.refl H) h3⟩
theorem vr_sIn {neg : Bool} {c : Nat} {z : Str} : VR K (rInU K neg) (.str ⟨#[c]⟩) (.str z) (.bl (if neg then !decide (c ∈ z.cps.toList) else decide (c ∈ z.cps.toList))) := fun T H x y _ ra rb Q q => by
  cases ra
  cases rb
  exact .inr (.inr (.inl ⟨c, z, rfl, rfl, q _ H (Ex.refl H) (.bl _)⟩))
theorem vr_dpIn {neg : Bool} {a : D} {ds : List D} (ha : a.ok = true) (hb : (D.lst ds).ok = true) : VR K (rInU K neg) a (.lst ds) (.bl (if neg then !ds.any fun z => eqD z a else ds.any fun z => eqD z a)) := fun T H x y _ ra rb Q q => by
  refine .inr (.inr (.inr ⟨a.py, D.pyL ds, ra.dp (ok_of ha).1, rb.dp (ok_of hb).1, (ok_of ha).2, (ok_of hb).2, ?_⟩))
  have e : ((D.pyL ds).any fun z => PyData.eqv z a.py) = ds.any fun z => eqD z a := by
    rw [pyL_map, List.any_map]
    rfl
  rw [e]
  exact q _ H (Ex.refl H) (.bl _)
theorem any_eqV {x : Str} : ∀ ws : List Str, ((ws.map V.str).any fun y => eqV y (.str x)) = decide (x ∈ ws)
  | [] => rfl
  | w :: ws => by
    rw [List.map_cons, List.any_cons, any_eqV ws]
    show (decide (w = x) || _) = _
    by_cases h : w = x
    · subst h; simp
    · have h' : ¬ x = w := fun e => h e.symm
      by_cases h2 : x ∈ ws <;> simp [h, h', h2]
theorem vr_tIn {neg : Bool} {x : Str} {ws : List Str} : VR K (rInU K neg) (.str x) (.tup (ws.map D.str)) (.bl (if neg then !decide (x ∈ ws) else decide (x ∈ ws))) := fun T H v y _ ra rb Q q => by
  cases ra
  cases rb with
  | tup h r =>
    have e := r.strs
    subst e
    refine .inl ⟨_, _, rfl, .inr h, rfl, ?_, ?_⟩
    · rw [List.all_map]
      exact List.all_eq_true.mpr fun _ _ => rfl
    · have e2 : inV (.str x) (ws.map V.str) = decide (x ∈ ws) := any_eqV ws
      rw [e2]
      exact q _ H (Ex.refl H) (.bl _)
/-! #### items, slices, lengths -/
theorem atI_map {xs : List V} {ds : List D} {T : Addr → Prop} {H : Hp} (r : RpL K T H xs ds) {i : Int} {d : D} (h : atI ds i = some d) : ∃ v, atI xs i = some v ∧ Rp K T H v d := by
  unfold atI at h ⊢
  rw [← r.length] at h
  cases e : ixN xs.length i with
  | none => rw [e] at h; cases h
  | some j =>
    rw [e] at h
    exact r.get (show ds[j]? = some d from h)
theorem vr_ixL {ds : List D} {i : Int} {d : D} (h : atI ds i = some d) : VR K (rIxU K) (.lst ds) (.int i) d := fun T H x y _ ra rb Q q => by
  cases rb
  cases ra with
  | lst n hl r =>
    obtain ⟨v, h1, h2⟩ := atI_map r h
    exact .inl (.inl ⟨_, _, i, v, rfl, rfl, SqL.of hl, h1, q v H (Ex.refl H) h2⟩)
theorem vr_ixT {ds : List D} {i : Int} {d : D} (h : atI ds i = some d) : VR K (rIxU K) (.tup ds) (.int i) d := fun T H x y _ ra rb Q q => by
  cases rb
  cases ra with
  | tup hl r =>
    obtain ⟨v, h1, h2⟩ := atI_map r h
    exact .inl (.inr (.inl ⟨_, _, i, v, rfl, rfl, hl, h1, q v H (Ex.refl H) h2⟩))
theorem vr_ixS {z : Str} {i : Int} {c : Nat} (hz : z.length ≤ sizeLine) (h : atI z.cps.toList i = some c) : VR K (rIxU K) (.str z) (.int i) (.str ⟨#[c]⟩) := fun T H x y _ ra rb Q q => by
  cases rb
  cases ra
  exact .inl (.inr (.inr ⟨z, i, c, rfl, rfl, hz, h, q _ H (Ex.refl H) (.str _)⟩))
def cutD (xs : List D) (lo hi : Option Int) : List D := (xs.drop (HT.sIx xs.length 0 lo)).take (HT.sIx xs.length xs.length hi - HT.sIx xs.length 0 lo)
theorem RpL.cut {T : Addr → Prop} {H : Hp} {xs : List V} {ds : List D} (r : RpL K T H xs ds) (lo hi : Option Int) : RpL K T H (cutV xs lo hi) (cutD ds lo hi) := by
  unfold cutV cutD
  rw [r.length]
  exact (r.drop _).take _
theorem vs_lst {ds : List D} {lo hi : Option Int} : VS K (rSlU K) (.lst ds) lo hi (.lst (cutD ds lo hi)) := fun T H x t ra Q q => by
  cases ra with
  | lst n hl r => exact .inl ⟨_, _, rfl, SqL.of hl, fun p hp => q _ _ (Ex.new hp) (.lst (fun z => t p z hp) upd_same ((r.cut lo hi).ex (Ex.new hp)))⟩
theorem cutD_all {ds : List D} {lo hi : Option Int} (h : HT.sIx ds.length 0 lo = 0 ∧ HT.sIx ds.length ds.length hi = ds.length) : cutD ds lo hi = ds := by
  unfold cutD
  rw [h.1, h.2]
  simp
theorem vs_tup {ds : List D} {lo hi : Option Int} : VS K (rSlU K) (.tup ds) lo hi (.tup (cutD ds lo hi)) := fun T H x t ra Q q => by
  cases ra with
  | tup hl r =>
    refine .inr (.inl ⟨_, _, rfl, hl, fun h => ?_, fun _ p hp => q _ _ (Ex.new hp) (.tup (SqT.of upd_same) ((r.cut lo hi).ex (Ex.new hp)))⟩)
    rw [r.length] at h
    have e := cutD_all h
    rw [e] at q
    exact q _ H (Ex.refl H) (.tup hl r)
theorem vs_str {z : Str} {lo hi : Option Int} (hz : z.length ≤ sizeLine) : VS K (rSlU K) (.str z) lo hi (.str (cutS z lo hi)) := fun T H x t ra Q q => by
  cases ra
  exact .inr (.inr ⟨z, rfl, hz, q _ H (Ex.refl H) (.str _)⟩)
theorem cutD_from1 {ds : List D} : cutD ds (some 1) none = ds.drop 1 := by
  unfold cutD
  cases ds with
  | nil => rfl
  | cons x r =>
    have e1 : HT.sIx (x :: r).length 0 (some 1) = 1 := by
      unfold HT.sIx
      simp
    have e2 : HT.sIx (x :: r).length (x :: r).length none = (x :: r).length := rfl
    rw [e1, e2]
    simp
theorem cutD_to {ds : List D} {n : Nat} : cutD ds none (some (n : Int)) = ds.take n := by
  unfold cutD
  have e1 : HT.sIx ds.length 0 none = 0 := rfl
  have e2 : HT.sIx ds.length ds.length (some (n : Int)) = min n ds.length := by
    unfold HT.sIx
    simp
    omega
  rw [e1, e2]
  simp [List.take_eq_take_iff]
theorem vc_len {d : D} {n : Nat} (h : (∃ ds, (d = .lst ds ∨ d = .tup ds) ∧ n = ds.length) ∨ ∃ z : Str, d = .str z ∧ z.length ≤ sizeLine ∧ n = z.length) : VC K (rLenU K) [d] (.int (n : Nat)) := fun T H xs t ra Q q => by
  cases ra with
  | cons a b =>
    cases b
    rcases h with ⟨ds, rfl | rfl, rfl⟩ | ⟨z, rfl, hz, rfl⟩
    · cases a with
      | lst n hl r => exact .inl ⟨_, _, rfl, .inl ⟨_, SqL.of hl, by rw [r.length]⟩, q _ H (Ex.refl H) (.int _)⟩
    · cases a with
      | tup hl r => exact .inl ⟨_, _, rfl, .inr ⟨_, hl, by rw [r.length]⟩, q _ H (Ex.refl H) (.int _)⟩
    · cases a
      exact .inl ⟨_, _, rfl, ⟨hz, rfl⟩, q _ H (Ex.refl H) (.int _)⟩
theorem vc_lenL {ds : List D} : VC K (rLenU K) [.lst ds] (.int (ds.length : Nat)) := vc_len (.inl ⟨ds, .inl rfl, rfl⟩)
theorem vc_lenT {ds : List D} : VC K (rLenU K) [.tup ds] (.int (ds.length : Nat)) := vc_len (.inl ⟨ds, .inr rfl, rfl⟩)
theorem vc_lenS {z : Str} (h : z.length ≤ sizeLine) : VC K (rLenU K) [.str z] (.int (z.length : Nat)) := vc_len (.inr ⟨z, rfl, h, rfl⟩)
theorem vc_int {i : Int} : VC K rInt1 [.int i] (.int i) := fun T H xs t ra Q q => by
  cases ra with
  | cons a b =>
    cases b
    cases a
    exact .inl ⟨i, rfl, q _ H (Ex.refl H) (.int _)⟩
theorem vc_sum {ns : List Int} : VC K (rSum K) [.lst (ns.map D.int)] (.int ns.sum) := fun T H xs t ra Q q => by
  cases ra with
  | cons a b =>
    cases b
    cases a with
    | lst n hl r =>
      have e := r.ints
      subst e
      exact ⟨_, ns, rfl, SqL.of hl, q _ H (Ex.refl H) (.int _)⟩
theorem vc_all {bs : List Bool} : VC K (rAll K) [.lst (bs.map D.bl)] (.bl (bs.all id)) := fun T H xs t ra Q q => by
  cases ra with
  | cons a b =>
    cases b
    cases a with
    | lst n hl r =>
      have e := r.bls
      subst e
      exact ⟨_, bs, rfl, SqL.of hl, q _ H (Ex.refl H) (.bl _)⟩
theorem vc_any {bs : List Bool} : VC K (rAny K) [.lst (bs.map D.bl)] (.bl (bs.any id)) := fun T H xs t ra Q q => by
  cases ra with
  | cons a b =>
    cases b
    cases a with
    | lst n hl r =>
      have e := r.bls
      subst e
      exact ⟨_, bs, rfl, SqL.of hl, q _ H (Ex.refl H) (.bl _)⟩
/-- list(x) of a list, a tuple: a new list -/
theorem en_list {te : TE} {Γ : List Sl} {ds : List D} (h : ED K te Γ (.lst ds) ∨ ED K te Γ (.tup ds)) : EN K (tCB (rListU K) (tCons te tNil)) Γ (.ml ds) := fun S O σ H E Q q => by
  rcases h with h | h <;> refine h S O σ H E _ fun v H1 e1 r1 => ?_ <;> cases r1
  · rename_i hl r
    exact .inl ⟨_, _, rfl, .inl (SqL.of hl), fun p hp => q _ [p] _ (e1.trans (Ex.new hp)) (fun a z => by rw [List.mem_singleton.mp z]; exact ⟨e1.back hp, .inl ⟨_, upd_same⟩⟩) ⟨p, _, rfl, rfl, upd_same, RpL.hide1 (H1 := H1) r hp⟩⟩
  · rename_i hl r
    exact .inl ⟨_, _, rfl, .inr hl, fun p hp => q _ [p] _ (e1.trans (Ex.new hp)) (fun a z => by rw [List.mem_singleton.mp z]; exact ⟨e1.back hp, .inl ⟨_, upd_same⟩⟩) ⟨p, _, rfl, rfl, upd_same, RpL.hide1 (H1 := H1) r hp⟩⟩
/-- dict(pairs) -/
def mergeD (es : List (Key × D)) (more : List (Key × D)) : List (Key × D) := more.foldl (fun acc kv => putD acc kv.1 kv.2) es
where
  putD (es : List (Key × D)) (k : Key) (d : D) : List (Key × D) := if es.any fun kv => decide (kv.1 = k) then es.map fun kv => if kv.1 = k then (kv.1, d) else kv else es ++ [(k, d)]
end
end DL
set_option Elab.async false
set_option maxRecDepth 100000
set_option maxHeartbeats 400000
set_option linter.all false
namespace DL
open PySem L2 StX PyProof.Rows PySem.Spec

/-! ### defs of the text -/
structure Def (K : PySem.W.Frag) (mg : Str → Option Value) (x : Str) (st : Stmt) : Prop where
  ex : ∃ (f : Addr) (fd : FuncData), FunD K x x (defArgs st) (defBody st) (defScope st) [] [] f fd ∧ mg x = some (.ref f)
/-- a def that may be called: it keeps sp, k calls deep -/
structure Cal (P : Program) (w : World) (K : PySem.W.Frag) (mg : Str → Option Value) (base : Heap) (k : Nat) (x : Str) (ps : List Str) (sp : Sp) : Prop where
  ex : ∃ (f : Addr) (fd : FuncData), FnOk P w K mg base CX0 k f fd ps sp ∧ mg x = some (.ref f) ∧ PySem.W.keepIn K (.ref f) = true ∧ Binds K fd ps []
section
variable {P : Program} {w : World} {K : PySem.W.Frag} {mg : Str → Option Value} {base : Heap} {k j : Nat} {x : Str} {ps : List Str} {sp : Sp}
theorem Cal.mono (C : Cal P w K mg base j x ps sp) (h : j ≤ k) : Cal P w K mg base k x ps sp := by
  obtain ⟨f, fd, G, r⟩ := C.ex
  exact ⟨f, fd, G.mono h, r⟩
theorem Cal.imp {sp' : Sp} (C : Cal P w K mg base k x ps sp) (h : ∀ vs H Q E, sp' vs H Q E → sp vs H Q E) : Cal P w K mg base k x ps sp' := by
  obtain ⟨f, fd, G, r⟩ := C.ex
  exact ⟨f, fd, G.imp h, r⟩
theorem pe_cal {X : Cx} {e : Expr} {es : List Expr} {t : TA} {p pos : Pos} (C : Cal X.prog X.w X.K X.mg X.base k x ps sp) (hr : Room k X.A) (ha : PA X (e :: es) t) (hg : Gl X x := by rfl) (hd : (x == ("__debug__" : Str)) = false := by decide)
    (he : starEach (e :: es) X.env = (false, eval e X.env) :: starEach es X.env := by rfl) (hpl : (backTo pos (starEach es X.env)).any (·.1) = false := by rfl) : PE X (.Call (.Name x p) (e :: es) [] pos) (tCall sp [] E0 t) := by
  obtain ⟨f, fd, G, hm, hk, hb⟩ := C.ex
  exact pe_call G hr hg hm hk hb .nil pass0 ha hd he hpl
abbrev BindsH (x : Str) (st : Stmt) (ps : List Str) : Prop := ∀ (kV doc pm : Value) (an : Option Addr) (cdv ct : Value) (us : List Value), us.length = ps.length → bindArgs (PySem.W.fnOf x x (defArgs st) (defBody st) (defScope st) .none kV doc pm an cdv ct) ⟨us, []⟩ = pure (ps.zip us)
/-- a pure def -/
theorem cal_pure {st : Stmt} {N : List Str} {R : List D → D → Prop} (F : Def K mg x st) (S : FnScope N ps (defScope st)) (hb : BindsH x st ps) (hl : ∀ ds d, R ds d → ds.length = ps.length)
    (body : ∀ (f : Addr) (cdv : Value) (A : Around) (outer : List Env) (s : Shared) (H : Hp) (E : XK), Room k (A.deeper (envOfC x (defScope st) s.heap.objs.size f cdv)) →
      ∃ t, PSs (cxOf CX0 P w K mg base N x (defScope st) f cdv A outer s H E).nox (defBody st) t ∧ ∀ ds d, R ds d → XS K [] t (ds.map Sl.dat ++ List.replicate (N.length - ds.length) Sl.no) { nx := fun _ => d = .non, rt := fun _ z => z = d }) :
    Cal P w K mg base (k + 1) x ps (spP K R) := by
  obtain ⟨f, fd, F, hm⟩ := F.ex
  refine ⟨f, fd, F.ok S (fun vs H Q E h => ?_) (fun cdv A outer s H vs Q E hr h => ?_), hm, F.kp, F.bindsN hb⟩
  · obtain ⟨_, ds, d, _, r, hR, _⟩ := h
    rw [r.length]
    exact hl ds d hR
  · obtain ⟨t, ht, hx⟩ := body f cdv A outer s H E hr
    exact ⟨t, ht.nox, run_pure h hx⟩
/-- a def with one own parameter, at place p -/
theorem cal_own {st : Stmt} {N : List Str} {Rf : Sl → List D → List D → Sl → D → Prop} {Pre : Sl → List D → List D → Prop} (p : Nat) (F : Def K mg x st) (S : FnScope N ps (defScope st)) (hb : BindsH x st ps)
    (hl : ∀ s ds es, Pre s ds es → ds.length = p ∧ OwnSl s) (hn : ∀ s ds es, Pre s ds es → ds.length + 1 + es.length = ps.length)
    (body : ∀ (f : Addr) (cdv : Value) (A : Around) (outer : List Env) (s : Shared) (H : Hp) (E : XK), Room k (A.deeper (envOfC x (defScope st) s.heap.objs.size f cdv)) →
      ∃ t, PSs (cxOf CX0 P w K mg base N x (defScope st) f cdv A outer s H E).nox (defBody st) t ∧ ∀ s ds es, Pre s ds es → XS K [p] t (ds.map Sl.dat ++ s :: es.map Sl.dat ++ List.replicate (N.length - (ds.length + 1 + es.length)) Sl.no)
        { nx := fun g => ∃ s', g[p]? = some s' ∧ OwnSl s' ∧ Rf s ds es s' .non, rt := fun g d => ∃ s', g[p]? = some s' ∧ OwnSl s' ∧ Rf s ds es s' d }) :
    Cal P w K mg base (k + 1) x ps (spO K Rf Pre) := by
  obtain ⟨f, fd, F, hm⟩ := F.ex
  refine ⟨f, fd, F.ok S (fun vs H Q E h => ?_) (fun cdv A outer s H vs Q E hr h => ?_), hm, F.kp, F.bindsN hb⟩
  · obtain ⟨_, _, _, xs, ys, s, ds, es, rfl, _, _, _, r1, r2, hp, _⟩ := h
    rw [List.length_append, List.length_cons, r1.length, r2.length, ← hn s ds es hp]
    omega
  · obtain ⟨t, ht, hx⟩ := body f cdv A outer s H E hr
    exact ⟨t, ht.nox, run_own p hl h hx⟩
end
theorem hu65 {A : Around} {k : Nat} (hr : Room k A) : A.units + 65 < cLine := by have := hr.un; omega
theorem hu1 {A : Around} {k : Nat} (hr : Room k A) : A.units + 1 < cLine := by have := hr.un; omega
theorem hu64 {A : Around} {k : Nat} (hr : Room k A) : A.units + 64 < cLine := hr.units
/-- what a built-in's name stands for: an own def does not hide it -/
abbrev Free0 (mg : Str → Option Value) (x : Str) : Prop := mg x = none

/-! ### isinstance -/
/-- the type of data -/
def tyD : D → Value
  | .non => .type "NoneType"
  | .bl _ => .type "bool"
  | .int _ => .type "int"
  | .str _ => .type "str"
  | .lst _ => .type "list"
  | .tup _ => .type "tuple"
  | .dic _ => .type "dict"
  | .ins C _ => .ref C
def isIns : D → Bool
  | .ins _ _ => true
  | _ => false
section
variable {K : PySem.W.Frag}
theorem Rp.ty {T : Addr → Prop} {H : Hp} {v : V} {d : D} (r : Rp K T H v d) (hins : isIns d = false) : TyX K H v (tyD d) := by
  cases r with
  | non => exact .base .non
  | bl b => exact .base (.bl b)
  | int i => exact .base (.int i)
  | str x => exact .base (.str x)
  | lst _ h _ => exact .base (.lst h)
  | tup h _ =>
    rcases h with (h | ⟨o, h⟩) | ⟨o, its, n, h, c, _⟩
    · exact .base (.tup h)
    · exact .fTuple h
    · exact .kTuple h c
  | dic _ h _ =>
    rcases h with h | ⟨o, h⟩
    · exact .base (.dK h)
    · exact .fDict h
  | ins _ _ _ => cases hins
/-- isinstance(x, T), T a built-in class -/
theorem ed_isi {te : TE} {Γ : List Sl} {d : D} {n : String} {b : Bool} (h : ED K te Γ d) (hi : isIns d = false) (hk : PySem.W.kitOne K (tyD d) (.type n) = some b) : ED K (tCB (rIsi K) (tCons te (tCons (tC (.ty n)) tNil))) Γ (.bl b) := fun S O σ H E Q q =>
  h S O σ H E _ fun v H1 e1 r1 => ⟨v, .ty n, _, _, b, rfl, .ty n, r1.ty hi, hk, q _ H1 e1 (.bl b)⟩
/-- isinstance(x, (T1, T2, ..)) -/
theorem ed_isiT {te : TE} {Γ : List Sl} {d : D} {ns : List String} {ta : TA} {b : Bool} (h : ED K te Γ d) (hi : isIns d = false) (hn : ns.length ≤ sizeLine) (hta : ∀ σ H Q, Q (ns.map V.ty) H → ta σ H Q) (hk : PySem.W.kitAny K (tyD d) (ns.map Value.type) = some b) :
    ED K (tCB (rIsiT K) (tCons te (tCons (tTup ta) tNil))) Γ (.bl b) := fun S O σ H E Q q =>
  h S O σ H E _ fun v H1 e1 r1 => hta _ _ _ ⟨by rw [List.length_map]; exact hn, fun p hp => ⟨v, p, ns.map V.ty, _, ns.map Value.type, b, rfl, upd_same, by
    clear hta hk hn
    induction ns with
    | nil => exact .nil
    | cons n r ih => exact .cons (.ty n) ih, (r1.ex (Ex.new hp)).ty hi, hk, q _ _ (e1.trans (Ex.new hp)) (.bl b)⟩⟩
end
end DL
set_option Elab.async false
set_option maxRecDepth 100000
set_option maxHeartbeats 1000000
set_option linter.all false
namespace DL
open PySem L2 StX PyProof.Rows PySem.Spec

/-! ### enumerate of anything that is drawn from (a tuple, a locked dict) -/
theorem meets_enum1 {v : Value} {o : Obj} {Z : Heap → Prop} (B : Begins v o Z) :
    Meets (Builtin.«enumerate.__new__» ⟨[.type "enumerate", v], []⟩) (fun _ R s => Z s.heap ∧
      R (.ok (.ret (.ref (s.heap.push o).objs.size))) { s with heap := (s.heap.push o).push { cls := .type "enumerate", data := .fields #[.none, .bool false, .ref s.heap.objs.size, rawInt 0, .none, .none] } }) :=
  .of_wp fun prog w A R s h => by
    obtain ⟨hp, g, d, tk, os⟩ := s
    obtain ⟨hz, h⟩ := h
    have known := sub_enumerate
    have begins : ∀ {A' : Around} {E : Value → Shared → Prop} {Q : Value → Shared → Prop}, Q (.ref hp.objs.size) ⟨hp.push o, g, d, tk, os⟩ → wpAny (model prog w) A' (pyIter v) Q E ⟨hp, g, d, tk, os⟩ :=
      fun {A' E Q} q => B.iter prog w A' E ⟨hp, g, d, tk, os⟩ Q hz q
    wp_walk using begins
    refine wpAny_stack_any fun st => wpAny_pure ?_
    split
    · rename_i cl _ _ _ _ _
      rcases hb : (cl == Value.type "enumerate") with _ | _ <;> (wp_walk using begins; exact ⟨_, rfl, h⟩)
    · (wp_walk using begins; exact ⟨_, rfl, h⟩)
theorem call_enum1 {prog : Program} {w : World} {A : Around} {E : Value → Shared → Prop} {s : Shared} {v : Value} {o : Obj} {Z : Heap → Prop} {Q : Value → Shared → Prop} (B : Begins v o Z) (hz : Z s.heap)
    (h : ∀ h', IsEnum h' (s.heap.objs.size + 1) s.heap.objs.size 0 .none → h'.get? s.heap.objs.size = some o → (∀ b u, s.heap.get? b = some u → h'.get? b = some u) → Q (.ref (s.heap.objs.size + 1)) { s with heap := h' }) :
    wpAny (model prog w) A (call (.type "enumerate") [v]) Q E s := by
  refine callType_new F.called_enumerate (by decide) (F.typeCall_enumerate_1 _) (F.newCall_enumerate_1 _) (fun obj => F.args_object_init_2 obj _) F.entry_enumerate_new (meets_enum1 B) ⟨hz, ?_⟩
  have sz : (s.heap.push o).objs.size = s.heap.objs.size + 1 := Heap.size_push ..
  have at0 : ((s.heap.push o).push { cls := .type "enumerate", data := .fields #[.none, .bool false, .ref s.heap.objs.size, rawInt 0, .none, .none] }).get? (s.heap.push o).objs.size = some { cls := .type "enumerate", data := .fields #[.none, .bool false, .ref s.heap.objs.size, rawInt 0, .none, .none] } := Heap.get?_push_size _ rfl
  rw [sz] at at0
  show _ ∧ _
  rw [sz]
  exact ⟨⟨_, at0, rfl⟩, h _ at0 (Heap.get?_push_of_some _ (Heap.get?_push_size _ B.free)) fun b u x => Heap.get?_push_of_some _ (Heap.get?_push_of_some _ x)⟩

/-- a source of items: at the address a, its iterator at it -/
structure ESrc (P : Program) (w : World) (K : PySem.W.Frag) (a it : Addr) (src : Hp → List V → Prop) (ist : Nat → Heap → Prop) : Prop where
  obj : ∀ i h, ist i h → ∃ o, h.get? it = some o ∧ ∀ v, o.data ≠ .cell v
  keep : ∀ i h h', ist i h → (∀ o, h.get? it = some o → h'.get? it = some o) → ist i h'
  one : ∀ (X : Cx), X.prog = P → X.w = w → X.K = K → ∀ (pins : List (Addr × Obj)) (s : Shared) (σ : L2.St) (H : Hp) (xs ys : List V), Inv X pins σ H s → src H xs → src H ys → xs = ys
  draw : ∀ (X : Cx), X.prog = P → X.w = w → X.K = K → X.calm = true → ∀ (pins : List (Addr × Obj)) (s : Shared) (σ : L2.St) (H : Hp) (xs : List V) (i : Nat), Inv X pins σ H s → src H xs → ist i s.heap →
    ∃ (Pt : Nat → Value → Prop) (St : Nat → Heap → Prop), Draws P w X.A.in1 it [it, a] xs.length Pt St ∧ (∀ j v, Pt j v → ∃ x, xs[j]? = some x ∧ RelV x v) ∧ St i s.heap ∧ (∀ j h, St j h → ist j h) ∧ ∃ o, s.heap.get? a = some o ∧ o.cls ≠ .type "enumerate"
def ItE (src : Hp → List V → Prop) : It :=
  ⟨fun i H => ∃ (xs : List V) (x : V), src H xs ∧ xs[i]? = some x, fun i H v H' => ∃ T x, v = .ref T ∧ H T = none ∧ H' = upd H T (.tup [.int (i : Nat), x]) ∧ ∀ xs, src H xs → xs[i]? = some x, fun i H => ∃ xs : List V, src H xs ∧ xs.length = i⟩
theorem two_of {b x y : Addr} (h : b ∈ [x, y]) : b = x ∨ b = y := by simpa using h
theorem turn_E {P : Program} {w : World} {K : PySem.W.Frag} {elts : List Expr} {kk : Nat} {tpos : Pos} {a it : Addr} {src : Hp → List V → Prop} {ist : Nat → Heap → Prop} (Z : ESrc P w K a it src ist) (e : Addr) :
    Turn P w K (.Tuple elts kk tpos) (ItE src) [e, it] e (fun i h => (∃ old, IsEnum h e it ((i : Nat) : Int) old) ∧ ist i h ∧ e ≠ it) where
  mem := List.mem_cons_self ..
  obj := fun i h st b hb => by
    obtain ⟨⟨old, he⟩, hi, _⟩ := st
    rcases two_of hb with z | z
    · exact ⟨_, z ▸ he, fun v q => by cases q⟩
    · rw [z]; exact Z.obj i h hi
  keep := fun i h h' st k => by
    obtain ⟨⟨old, he⟩, hi, ne⟩ := st
    exact ⟨⟨old, k e (List.mem_cons_self ..) _ he⟩, Z.keep i h h' hi fun o q => k it (List.mem_cons_of_mem _ (List.mem_cons_self ..)) o q, ne⟩
  item := by
    intro X hP hw hK hc i pins s σ H E I hf st hg
    obtain ⟨⟨old, he⟩, hi, ne⟩ := st
    obtain ⟨xs, x, hq, hx⟩ := hg
    obtain ⟨Pt, St, D, hPt, hSt, hback, oa, hoa, hca⟩ := Z.draw X hP hw hK hc pins s σ H xs i I hq hi
    have hlt : i < xs.length := (List.getElem?_eq_some_iff.mp hx).1
    have nea : e ≠ a := fun z => by
      rw [z] at he
      have q : some oa = some _ := hoa.symm.trans he
      cases q
      exact hca rfl
    have hel : e < s.heap.objs.size := Heap.lt_size he
    have hil : it < s.heap.objs.size := by obtain ⟨_, q, _⟩ := Z.obj i _ hi; exact Heap.lt_size q
    refine wpAny_pyNext_enum_itemD D he hSt hlt ne (fun z => (two_of z).elim ne nea) fun u h' tk hu ho hs' hT hsz hk => ?_
    refine ⟨_, rfl, wpAny_letOwnedTupleGo_enum (s := { s with heap := h', toks := tk + 1 }) ho fun h'' he' sb => ?_⟩
    obtain ⟨y, hy, ry⟩ := hPt i u hu
    rw [hx] at hy
    cases hy
    have hT2 : h''.get? s.heap.objs.size = some { cls := .type "tuple", data := .seq #[.int i tk, u] } := (sb.2 _ (Nat.ne_of_gt hel)).trans hT
    have new : ObjOk X.prog X.w (upd H s.heap.objs.size (.tup [.int (i : Nat), x])) h'' s.heap.objs.size (.tup [.int (i : Nat), x]) :=
      ⟨show 2 ≤ sizeLine by decide, [.int i tk, u], .cons ⟨_, rfl⟩ (.cons ry .nil), _, hT2, rfl, _, rfl⟩
    have out : ∀ b, b ∉ [e, it] → b ≠ e ∧ b ≠ it := fun b hb => ⟨fun z => hb (z ▸ List.mem_cons_self ..), fun z => hb (z ▸ List.mem_cons_of_mem _ (List.mem_cons_self ..))⟩
    have I1 := I.turnedNew (t' := tk + 1) (ch := [e, it]) (fun b ob hb q => (sb.2 b (out b hb).1).trans (hk b ob (out b hb).1 (out b hb).2 q)) hf (Nat.le_refl _) new
    refine ⟨.ref s.heap.objs.size, _, I1, rfl, ⟨_, x, rfl, I.hok.fresh (Nat.le_refl _), rfl, fun ys hy => by rw [← Z.one X hP hw hK pins s σ H xs ys I hq hy]; exact hx⟩, ⟨⟨u, ?_⟩, Z.keep _ _ _ (hback _ _ hs') fun o q => (sb.2 it (Ne.symm ne)).trans q, ne⟩, fun b hb => ?_⟩
    · have e1 : ((i + 1 : Nat) : Int) = (i : Int) + 1 := by omega
      rw [e1]
      exact he'
    · have hb' : b < s.heap.objs.size := (two_of hb).elim (fun z => z ▸ hel) fun z => z ▸ hil
      rw [upd_ne (Nat.ne_of_lt hb')]
      exact (hf b hb).1
  done := by
    intro X hP hw hK hc i pins s σ H E I hf st hg
    obtain ⟨⟨old, he⟩, hi, ne⟩ := st
    obtain ⟨xs, hq, hx⟩ := hg
    obtain ⟨Pt, St, D, hPt, hSt, hback, oa, hoa, hca⟩ := Z.draw X hP hw hK hc pins s σ H xs i I hq hi
    subst hx
    obtain ⟨f0, f1, f2, f3, f4, f5⟩ := hf it (List.mem_cons_of_mem _ (List.mem_cons_self ..))
    subst hP hw hK
    exact wpAny_pyNext_enum_endD D he hSt fun h' eb => ⟨rfl, I.turned (t' := s.toks) (fun b o hb q => eb b o hb q) f0 f1 f3 f4 f5⟩
  self := fun A i s Q E st h => wpAny_pyIter_enum st.1.choose_spec h

/-! #### the tuple at a -/
theorem src_tup {P : Program} {w : World} {K : PySem.W.Frag} {a it : Addr} : ESrc P w K a it (fun H xs => SqT K H a xs) (fun i h => h.IsTupleIter it a i) where
  obj := fun i h st => by
    obtain ⟨o, e, _, d⟩ := st
    exact ⟨o, e, fun v q => by rw [d] at q; cases q⟩
  keep := fun i h h' st k => st.at fun o q => k o q
  one := fun X hP hw hK pins s σ H xs ys I h h' => by
    subst hK
    exact I.tuple_inj h h'
  draw := fun X hP hw hK hc pins s σ H xs i I hq hi => by
    subst hP hw hK
    obtain ⟨its, rv, p, _⟩ := I.tuple hq
    obtain ⟨o, ho, hcl, n, hd⟩ := id p
    have ne : a ≠ it := fun z => by
      obtain ⟨o', e', c', _⟩ := hi
      rw [← z, ho] at e'
      cases e'
      rw [hcl] at c'
      exact absurd (Value.type.inj c') (by decide)
    have hl : its.toArray.size = xs.length := by rw [List.size_toArray]; exact rv.length.symm
    refine ⟨_, _, hl ▸ Draws.tuple (prog := X.prog) (w := X.w) (A := X.A.in1) (I.ok.hd hc) it a ne its.toArray, fun j v h => ?_, ⟨hi, show s.heap.IsTuple a its.toArray from p⟩, fun j h st => st.1, o, ho, by rw [hcl]; decide⟩
    have hj : j < its.length := by
      have q := (Array.getElem?_eq_some_iff.mp h).1
      simpa using q
    refine ⟨xs[j]'(by rw [rv.length]; exact hj), List.getElem?_eq_getElem _, ?_⟩
    obtain ⟨u, hu, ru⟩ := rv.get (List.getElem?_eq_getElem (show j < xs.length by rw [rv.length]; exact hj))
    have e : v = u := by
      have h1 : its[j]? = some v := by simpa using h
      rw [hu] at h1
      exact (Option.some.inj h1).symm
    rw [e]
    exact ru
/-! #### the keys of the locked dict at d -/
section
variable {prog : Program} {w : World} {A : Around} {E : Value → Shared → Prop} {s : Shared}
theorem nextOf_key {it d : Addr} {i n ep : Nat} {od : Obj} {es : Array DictEntry} {en : DictEntry} {Q : Value → Shared → Prop} (hit : s.heap.IsKeyIter it d i n ep) (hod : s.heap.get? d = some od) (hdd : od.data = .dict es ep) (hsz : es.size = n) (hx : es[i]? = some en)
    (hQ : ∀ h', h'.IsKeyIter it d (i + 1) n ep → Heap.SameBut it s.heap h' → Q en.key { s with heap := h' }) : wpAny (model prog w) A (Builtin.SmallTypes.nextOf (.ref it)) Q E s := by
  have ty := hit.typeIs
  obtain ⟨o, ho, hc, hd⟩ := id hit
  unfold Builtin.SmallTypes.nextOf
  refine wpAny_bind (wpAny_callSpecial?_slot (name := Str.ofString "__next__") ty F.slot_dict_keyiterator_next (wpAny_call_entry F.slot_dict_keyiterator_next ty F.entry_dict_keyiterator_next (?_ : wpAny _ _ _ _ _ _) (F.args_dict_keyiterator_next_1 _)))
  refine wpAny_bind (wpAny_pure (wpAny_bind (wpAny_bind ?_)))
  first | refine wpAny_bind (wpAny_typeNameOfWhole_keyiter ty (wpAny_pure (wpAny_bind (wpAny_fieldsOf ho hd ?_)))) | refine wpAny_bind (wpAny_typeNameOf_keyiter ty (wpAny_pure (wpAny_bind (wpAny_fieldsOf ho hd ?_))))
  simp only [show Builtin.Dict_items.ownsTuple "dict_keyiterator" = false from by decide, Bool.false_eq_true, if_false]
  have nn : ¬ ((Value.ref d == Value.none) = true) := Bool.false_ne_true
  (show wpAny _ _ (if (Value.ref d == Value.none) = true then _ else _) _ _ _; rw [if_neg nn])
  refine wpAny_bind (wpAny_pure (wpAny_bind (wpAny_dictEntries hod hdd ?_)))
  rw [if_neg (by simp [hsz])]
  refine wpAny_bind (wpAny_pure (wpAny_bind (wpAny_dictEpoch hod hdd ?_)))
  (rw [if_neg (by simp)]; refine wpAny_pure ?_)
  obtain ⟨below, hen⟩ := Array.getElem?_eq_some_iff.mp hx
  (simp only [show ¬ ((i : Int) < 0) from by omega, if_false, Int.toNat_natCast, Array.getElem?_eq_getElem below]; refine wpAny_bind ?_)
  first | refine wpAny_bind (wpAny_typeNameOfWhole_keyiter ty (wpAny_pure (wpAny_bind (wpAny_isOneOf_keyiter ty ?_)))) | refine wpAny_bind (wpAny_typeNameOf_keyiter ty (wpAny_pure (wpAny_bind (wpAny_isOneOf_keyiter ty ?_))))
  (show wpAny _ _ (setField (.ref it) 1 (rawInt ((i : Int) + 1)) >>= _) _ _ _; refine wpAny_bind (wpAny_setField ho hd (by simp) ?_))
  have there : (s.heap.update it (Obj.mapFields (·.setIfInBounds 1 (rawInt ((i : Int) + 1))))).IsKeyIter it d (i + 1) n ep := by
    refine ⟨_, Heap.get?_update_self _ ho (Obj.isFreed_of_fields (Obj.data_mapFields hd _)), (Obj.cls_mapFields ..).trans hc, ?_⟩
    rw [Obj.data_mapFields hd]
    simp [rawInt]
  refine wpAny_bind (wpAny_holding (wpAny_bind (wpAny_isOneOf_keyiter (s := { s with heap := s.heap.update it (Obj.mapFields (·.setIfInBounds 1 (rawInt ((i : Int) + 1)))) }) there.typeIs ?_)))
  (show wpAny _ _ (pure es[i].key) _ _ _; rw [hen])
  exact wpAny_pure (wpAny_pure ⟨_, rfl, wpAny_pure (hQ _ there (Heap.SameBut.update ..))⟩)
theorem nextOf_keyEnd {it d : Addr} {i n ep : Nat} {od : Obj} {es : Array DictEntry} {Q : Value → Shared → Prop} (hh : A.handled = none) (hit : s.heap.IsKeyIter it d i n ep) (hod : s.heap.get? d = some od) (hdd : od.data = .dict es ep) (hsz : es.size = n) (hge : n ≤ i)
    (hE : ∀ h' e, Heap.ExtBut it s.heap h' → (∃ o, h'.get? e = some o ∧ o.cls = .type "StopIteration") → E (.ref e) { s with heap := h' }) : wpAny (model prog w) A (Builtin.SmallTypes.nextOf (.ref it)) Q E s := by
  have ty := hit.typeIs
  obtain ⟨o, ho, hc, hd⟩ := id hit
  unfold Builtin.SmallTypes.nextOf
  refine wpAny_bind (wpAny_callSpecial?_slot (name := Str.ofString "__next__") ty F.slot_dict_keyiterator_next (wpAny_call_entry F.slot_dict_keyiterator_next ty F.entry_dict_keyiterator_next (?_ : wpAny _ _ _ _ _ _) (F.args_dict_keyiterator_next_1 _)))
  refine wpAny_bind (wpAny_pure (wpAny_bind (wpAny_bind ?_)))
  first | refine wpAny_bind (wpAny_typeNameOfWhole_keyiter ty (wpAny_pure (wpAny_bind (wpAny_fieldsOf ho hd ?_)))) | refine wpAny_bind (wpAny_typeNameOf_keyiter ty (wpAny_pure (wpAny_bind (wpAny_fieldsOf ho hd ?_))))
  simp only [show Builtin.Dict_items.ownsTuple "dict_keyiterator" = false from by decide, Bool.false_eq_true, if_false]
  have nn : ¬ ((Value.ref d == Value.none) = true) := Bool.false_ne_true
  (show wpAny _ _ (if (Value.ref d == Value.none) = true then _ else _) _ _ _; rw [if_neg nn])
  refine wpAny_bind (wpAny_pure (wpAny_bind (wpAny_dictEntries hod hdd ?_)))
  rw [if_neg (by simp [hsz])]
  refine wpAny_bind (wpAny_pure (wpAny_bind (wpAny_dictEpoch hod hdd ?_)))
  (rw [if_neg (by simp)]; refine wpAny_pure ?_)
  have past : es[i]? = none := Array.getElem?_eq_none (by omega)
  (simp only [show ¬ ((i : Int) < 0) from by omega, if_false, Int.toNat_natCast, past]; refine wpAny_bind ?_)
  first | refine wpAny_bind (wpAny_typeNameOfWhole_keyiter ty (wpAny_pure ?_)) | refine wpAny_bind (wpAny_typeNameOf_keyiter ty (wpAny_pure ?_))
  (show wpAny _ _ (setField (.ref it) 0 .none >>= _) _ _ _; refine wpAny_bind (wpAny_setField ho hd (by simp) ?_))
  (show wpAny _ _ (newExc (.type "StopIteration") [] >>= _) _ _ _; refine wpAny_bind ?_)
  simp only [newExc, newTuple]
  refine wpAny_bind (wpAny_newObj_type (wpAny_bind (m := firstArgMember _ _) (wpAny_of_eq (a := Value.none) (by first | rfl | (simp only [firstArgMember]; rfl)) (wpAny_newObj_type ?_ (by size_fits)))) (by size_fits))
  (simp only [raiseNew]; refine wpAny_bind (wpAny_handled ?_))
  (first | rw [show A.in1.handled = none from hh] | rw [hh])
  exact wpAny_bind (wpAny_pure (wpAny_throw (hE _ _ (((Heap.SameBut.update ..).extBut.push _).push _) ⟨_, Heap.get?_push_size _ rfl, rfl⟩)))
end
theorem draws_keys {prog : Program} {w : World} {A : Around} (hh : A.handled = none) {it d : Addr} {ep : Nat} {od : Obj} {es : Array DictEntry} {n : Nat} (hn : es.size = n) (hne : d ≠ it) (hdd : od.data = .dict es ep) :
    Draws prog w A it [it, d] n (fun i v => ∃ en, es[i]? = some en ∧ v = en.key) (fun i h => h.IsKeyIter it d i es.size ep ∧ h.get? d = some od) where
  live := fun i h st => by
    obtain ⟨o, e, _⟩ := st.1
    exact ⟨o, e⟩
  frame := fun i h h' st k => ⟨st.1.at fun o e => k it (List.mem_cons_self ..) o e, k d (List.mem_cons_of_mem _ (List.mem_cons_self ..)) _ st.2⟩
  item := fun i s Q E hi st hQ => nextOf_key st.1 st.2 hdd rfl (Array.getElem?_eq_getElem (by omega)) fun h' hit' sb => hQ _ h' s.toks ⟨_, Array.getElem?_eq_getElem (by omega), rfl⟩ ⟨hit', (sb.2 d hne).trans st.2⟩ sb
  done := fun s Q E st hE => nextOf_keyEnd hh st.1 st.2 hdd rfl (by omega) hE
theorem src_keys {P : Program} {w : World} {K : PySem.W.Frag} {d it : Addr} {od : Obj} {es : Array DictEntry} {ep : Nat} (hdd : od.data = .dict es ep) :
    ESrc P w K d it (fun H xs => ∃ kvs : List (Key × V), H d = some (.frz od (.dK kvs)) ∧ xs = kvs.map fun kv => kV kv.1) (fun i h => h.IsKeyIter it d i es.size ep) where
  obj := fun i h st => by
    obtain ⟨o, e, _, q⟩ := st
    exact ⟨o, e, fun v z => by rw [q] at z; cases z⟩
  keep := fun i h h' st k => st.at fun o e => k o e
  one := fun X hP hw hK pins s σ H xs ys I ⟨k1, e1, q1⟩ ⟨k2, e2, q2⟩ => by
    rw [e1] at e2
    cases e2
    rw [q1, q2]
  draw := fun X hP hw hK hc pins s σ H xs i I ⟨kvs, e, q⟩ hi => by
    subst hP hw hK q
    obtain ⟨hs, hgd, hx, es', ep', vs, hdt, hsz, kv, hm⟩ := I.frzK e
    obtain ⟨rfl, rfl⟩ := dict_ep hdd hdt
    have ne : d ≠ it := fun z => by
      obtain ⟨o', e', c', _⟩ := hi
      rw [← z, hgd] at e'
      cases e'
      rw [hx.1] at c'
      exact absurd (Value.type.inj c') (by decide)
    have hl : es'.size = (kvs.map fun kv => kV kv.1).length := by rw [List.length_map]; exact hsz
    refine ⟨_, _, draws_keys (prog := X.prog) (w := X.w) (A := X.A.in1) (I.ok.hd hc) hl ne hdt, fun j v h => ?_, ⟨hi, hgd⟩, fun j h st => st.1, od, hgd, by rw [hx.1]; decide⟩
    obtain ⟨en, hen, rfl⟩ := h
    have hj : j < kvs.length := by rw [← hsz]; exact (Array.getElem?_eq_some_iff.mp hen).1
    obtain ⟨u, hu, ru⟩ := kv_get kv (List.getElem?_eq_getElem hj)
    refine ⟨kV kvs[j].1, by simp [hj], ?_⟩
    obtain ⟨o2, es2, ho2, hx2, hd2, _, hp2, _⟩ := hm
    rw [hgd] at ho2
    cases ho2
    obtain ⟨rfl, _⟩ := dict_ep hdt hd2
    exact relV_key (show keyIs kvs[j].1 en.key = true from (hp2.get? (e := en) (by simpa using hen) hu).1)
/-! #### what is walked -/
def iEnumT (K : PySem.W.Frag) (ta : TA) : TI := fun σ H R => ta σ H fun vs H1 => ∃ a xs, vs = [.ref a] ∧ SqT K H1 a xs ∧ R (ItE fun H xs => SqT K H a xs) H1
def iEnumK (ta : TA) : TI := fun σ H R => ta σ H fun vs H1 => ∃ d od kvs, vs = [.ref d] ∧ H1 d = some (.frz od (.dK kvs)) ∧ R (ItE fun H xs => ∃ kvs : List (Key × V), H d = some (.frz od (.dK kvs)) ∧ xs = kvs.map fun kv => kV kv.1) H1
section
variable {X : Cx} {e : Expr} {ta : TA} {p pos tpos : Pos} {elts : List Expr} {kk : Nat}
theorem enum_starts {pins : List (Addr × Obj)} {σ : L2.St} {H1 : Hp} {s1 : Shared} {R : It → Hp → Prop} {src : Hp → List V → Prop} {ist : Nat → Heap → Prop} {a : Addr} (I1 : Inv X pins σ H1 s1) (Z : ESrc X.prog X.w X.K a s1.heap.objs.size src ist) {h' : Heap}
    (he : IsEnum h' (s1.heap.objs.size + 1) s1.heap.objs.size 0 .none) (hi : ist 0 h') (hk : ∀ b u, s1.heap.get? b = some u → h'.get? b = some u) (q : R (ItE src) H1) :
    wpAny (model X.prog X.w) X.A (pyIter (.ref (s1.heap.objs.size + 1))) (PIE X pins σ (.Tuple elts kk tpos) R) X.xe { s1 with heap := h' } := by
  refine wpAny_pyIter_enum he ?_
  have I2 : Inv X pins σ H1 { s1 with heap := h' } := I1.kept (t' := s1.toks) hk
  refine ⟨s1.heap.objs.size + 1, [s1.heap.objs.size + 1, s1.heap.objs.size], _, _, H1, rfl, I2, turn_E Z (s1.heap.objs.size + 1), ⟨⟨.none, he⟩, hi, Nat.succ_ne_self _⟩, fun b hb => ?_, q⟩
  have low : s1.heap.objs.size ≤ b := (two_of hb).elim (fun z => by rw [z]; exact Nat.le_succ _) fun z => by rw [z]; exact Nat.le_refl _
  exact I1.fpOk low (I1.hok.fresh low)
theorem pi_enumT (hg : Gl X "enumerate") (hm : X.mg "enumerate" = none) (ha : PA X [e] ta) (hs : starEach [e] X.env = [(false, eval e X.env)] := by rfl) : PI X (.Tuple elts kk tpos) (.Call (.Name "enumerate" p) [e] [] pos) (iEnumT X.K ta) := by
  refine ⟨fun pins s σ H R I h => ?_⟩
  refine Call_ (ld_blt I hg hm boot_enumerate (PyProof.Rows.callWith_type1 (thn (ha.run pos pins s σ H _ I h) fun us s1 ⟨vs, H1, I1, r1, a, xs, ex, hq, q⟩ => ?_) hs rfl))
  subst ex
  obtain ⟨u, rfl, rx⟩ := vals1 r1
  cases rx
  obtain ⟨its, rv, p', hz⟩ := I1.tuple hq
  exact call_enum1 (begins_tuple a its.toArray) (show s1.heap.IsTuple a its.toArray from p') fun h' he hat hk => enum_starts I1 (src_tup (P := X.prog) (w := X.w)) he ⟨_, hat, rfl, rfl⟩ hk q
theorem begins_keys (d : Addr) (od : Obj) (es : Array DictEntry) (ep : Nat) (hd : (d == sysModules) = false) (hc : od.ExactDict) (hdat : od.data = .dict es ep) :
    Begins (.ref d) { cls := .type "dict_keyiterator", data := .fields #[.ref d, .int 0 0, .int es.size 0, .int ep 0] } fun h => h.get? d = some od where
  iter := fun prog w A E s Q h q => iter_keys hd h hc hdat q
  keeps := fun h h' x k => k d od x
  free := rfl
theorem pi_enumK (hg : Gl X "enumerate") (hm : X.mg "enumerate" = none) (ha : PA X [e] ta) (hs : starEach [e] X.env = [(false, eval e X.env)] := by rfl) : PI X (.Tuple elts kk tpos) (.Call (.Name "enumerate" p) [e] [] pos) (iEnumK ta) := by
  refine ⟨fun pins s σ H R I h => ?_⟩
  refine Call_ (ld_blt I hg hm boot_enumerate (PyProof.Rows.callWith_type1 (thn (ha.run pos pins s σ H _ I h) fun us s1 ⟨vs, H1, I1, r1, d, od, kvs, ex, hq, q⟩ => ?_) hs rfl))
  subst ex
  obtain ⟨u, rfl, rx⟩ := vals1 r1
  cases rx
  obtain ⟨hsm, hgd, hx, es, ep, vs, hdt, hsz, kv, hm'⟩ := I1.frzK hq
  exact call_enum1 (begins_keys d od es ep hsm hx hdt) hgd fun h' he hat hk => enum_starts I1 (src_keys (P := X.prog) (w := X.w) hdt) he ⟨_, hat, rfl, rfl⟩ hk q
def iEnumU (K : PySem.W.Frag) (ta : TA) : TI := fun σ H R => iEnum K ta σ H R ∨ iEnumT K ta σ H R
theorem pi_enumU (hg : Gl X "enumerate") (hm : X.mg "enumerate" = none) (ha : PA X [e] ta) (hs : starEach [e] X.env = [(false, eval e X.env)] := by rfl) : PI X (.Tuple elts kk tpos) (.Call (.Name "enumerate" p) [e] [] pos) (iEnumU X.K ta) :=
  PI.or (pi_enum hg hm ha hs) (pi_enumT hg hm ha hs)
end
theorem walk_E {src : Hp → List V → Prop} {xs : List V} (one : ∀ H ys, src H xs → src H ys → xs = ys) : Walk (ItE src) xs.length (fun H => src H xs) (YPair (fun i => some (.int (i : Nat))) (fun i => xs[i]?)) := by
  refine ⟨fun i _ hi q => ⟨xs, xs[i], q, by simp [hi]⟩, fun _ q => ⟨xs, q, rfl⟩, fun i H v H' _ q y => ?_⟩
  obtain ⟨T, x, h1, h2, h3, h4⟩ := y
  exact ⟨T, .int (i : Nat), x, h1, h2, h3, rfl, h4 xs q⟩
section
variable {K : PySem.W.Frag} {Γ : List Sl} {ds : List D} {ta : TA}
theorem it_enumT (h : EA K ta Γ [.tup ds]) : IT K (iEnumT K ta) Γ (enumD ds) := fun S O σ H E R q => h S O σ H E _ fun vs H1 e1 r1 => by
  cases r1 with
  | cons r1 r2 =>
    cases r2
    cases r1 with
    | @tup a xs _ hs hl =>
      have w : Walk (ItE fun H xs => SqT K H a xs) xs.length (fun H => SqT K H a xs) (YPair (fun i => some (.int (i : Nat))) (fun i => xs[i]?)) := by
        refine ⟨fun i _ hi q => ⟨xs, xs[i], q, by simp [hi]⟩, fun _ q => ⟨xs, q, rfl⟩, fun i H v H' _ q y => ?_⟩
        obtain ⟨T, x, h1, h2, h3, h4⟩ := y
        exact ⟨T, .int (i : Nat), x, h1, h2, h3, rfl, h4 xs q⟩
      refine ⟨a, xs, rfl, hs, q _ H1 _ _ e1 (by rw [show (enumD ds).length = xs.length by simp [enumD, hl.length]]; exact w) (fun H2 f => ?_) fun i H2 x H3 hi f y => ?_⟩
      · rcases hs with hs | hs
        · exact Or.inl (((E.ex e1).gr f).tp _ _ hs)
        · exact Or.inr hs
      obtain ⟨p, u, w, rfl, hp, rfl, hu, hw⟩ := y
      cases hu
      obtain ⟨d, h1, h2⟩ := hl.getV hw
      exact ⟨_, enumD_get h1, Ex.new hp, fun T' ht hn g => pair_item (.int _) h2 hp ht g⟩
theorem it_enumUL (h : EA K ta Γ [.lst ds]) : IT K (iEnumU K ta) Γ (enumD ds) := it_or1 (it_enum h)
theorem it_enumUT (h : EA K ta Γ [.tup ds]) : IT K (iEnumU K ta) Γ (enumD ds) := it_or2 (it_enumT h)
end
end DL
set_option Elab.async false
set_option maxRecDepth 100000
set_option maxHeartbeats 400000
set_option linter.all false
namespace DL
open PySem L2 StX PyProof.Rows PySem.Spec

section
variable {K : PySem.W.Frag} {pn : List Nat} {Γ : List Sl} {P : Po} {te ta : TE} {d : D}
/-! ### an own list, an own dict that is read -/
theorem ed_lenM {i : Nat} {ds : List D} (h : Γ[i]? = some (.ml ds)) : ED K (tCB (rLenU K) (tCons (tVar i) tNil)) Γ (.int (ds.length : Nat)) := fun S O σ H E Q q => by
  obtain ⟨l, xs, ho, hv, hl, hr⟩ := E.getL h
  exact ⟨_, hv, .inl ⟨_, _, rfl, .inl ⟨_, SqL.of hl, by rw [hr.length]⟩, q _ H (Ex.refl H) (.int _)⟩⟩
theorem ed_ixM {i : Nat} {ds : List D} {n : Int} (h : Γ[i]? = some (.ml ds)) (hi : ED K te Γ (.int n)) (ha : atI ds n = some d) : ED K (tOp (rIxU K) (tVar i) te) Γ d := fun S O σ H E Q q => by
  obtain ⟨l, xs, ho, hv, hl, hr⟩ := E.getL h
  refine ⟨_, hv, hi S O σ H E _ fun v H1 e1 r1 => ?_⟩
  cases r1
  obtain ⟨v, h1, h2⟩ := atI_map (hr.ex e1) ha
  exact .inl (.inl ⟨_, _, n, v, rfl, rfl, SqL.of (e1 _ _ hl), h1, q v H1 e1 h2⟩)
theorem ed_inM {i : Nat} {es : List (Key × D)} {k : Key} {neg : Bool} (hk : ED K te Γ (keyD k)) (h : Γ[i]? = some (.md es)) : ED K (tOp (rInU K neg) te (tVar i)) Γ (.bl (if neg then !(valD es k).isSome else (valD es k).isSome)) := fun S O σ H E Q q =>
  hk S O σ H E _ fun v H1 e1 r1 => by
    obtain ⟨l, xs, ho, hv, hl, hr⟩ := (E.ex e1).getD h
    have hx := r1.key
    subst hx
    refine ⟨_, hv, .inr (.inl ⟨_, _, rfl, DGet.rd (.inl hl), ?_⟩)⟩
    have e : (valV xs k).isSome = (valD es k).isSome := by
      rcases hr.val k with ⟨h1, h2⟩ | ⟨v, d, h1, h2, _⟩ <;> rw [h1, h2] <;> rfl
    rw [e]
    exact q _ H1 e1 (.bl _)
theorem ed_getM {i : Nat} {es : List (Key × D)} {k : Key} (h : Γ[i]? = some (.md es)) (hk : ED K te Γ (keyD k)) (hv : valD es k = some d) : ED K (tOp (rIxU K) (tVar i) te) Γ d := fun S O σ H E Q q => by
  obtain ⟨l, xs, ho, hvv, hl, hr⟩ := E.getD h
  refine ⟨_, hvv, hk S O σ H E _ fun v H1 e1 r1 => ?_⟩
  have hx := r1.key
  subst hx
  rcases (hr.ex e1).val k with ⟨h1, h2⟩ | ⟨v, d', h1, h2, h3⟩
  · rw [hv] at h2; cases h2
  · rw [hv] at h2
    cases h2
    exact .inr ⟨_, v, rfl, by rw [← h1]; exact DGet.rd (.inl (e1 _ _ hl)), q _ H1 e1 h3⟩
/-! ### an own dict that is written -/
def putD (es : List (Key × D)) (k : Key) (d : D) : List (Key × D) := if es.any fun kv => decide (kv.1 = k) then es.map fun kv => if kv.1 = k then (kv.1, d) else kv else es ++ [(k, d)]
theorem RpD.any {T : Addr → Prop} {H : Hp} {k : Key} : ∀ {kvs : List (Key × V)} {es : List (Key × D)}, RpD K T H kvs es → (kvs.any fun kv => decide (kv.1 = k)) = es.any fun kv => decide (kv.1 = k)
  | _, _, .nil => rfl
  | _, _, .cons _ b => by rw [List.any_cons, List.any_cons, RpD.any b]
theorem RpD.repl {T : Addr → Prop} {H : Hp} {k : Key} {v : V} {d : D} (r : Rp K T H v d) : ∀ {kvs : List (Key × V)} {es : List (Key × D)}, RpD K T H kvs es → RpD K T H (kvs.map fun kv => if kv.1 = k then (kv.1, v) else kv) (es.map fun kv => if kv.1 = k then (kv.1, d) else kv)
  | _, _, .nil => .nil
  | _, _, .cons (k := k0) a b => by
    rw [List.map_cons, List.map_cons]
    by_cases e : k0 = k
    · rw [if_pos (show (k0, _).1 = k from e), if_pos (show (k0, _).1 = k from e)]
      exact .cons r (RpD.repl r b)
    · rw [if_neg (show ¬ (k0, _).1 = k from e), if_neg (show ¬ (k0, _).1 = k from e)]
      exact .cons a (RpD.repl r b)
theorem RpD.snoc {T : Addr → Prop} {H : Hp} {k : Key} {v : V} {d : D} (r : Rp K T H v d) : ∀ {kvs : List (Key × V)} {es : List (Key × D)}, RpD K T H kvs es → RpD K T H (kvs ++ [(k, v)]) (es ++ [(k, d)])
  | _, _, .nil => .cons r .nil
  | _, _, .cons a b => .cons a (RpD.snoc r b)
theorem putK_eq {kvs : List (Key × V)} {k : Key} {v : V} : putK kvs k v = if kvs.any fun kv => decide (kv.1 = k) then kvs.map fun kv => if kv.1 = k then (kv.1, v) else kv else kvs ++ [(k, v)] := rfl
theorem RpD.put {T : Addr → Prop} {H : Hp} {kvs : List (Key × V)} {es : List (Key × D)} {k : Key} {v : V} {d : D} (h : RpD K T H kvs es) (r : Rp K T H v d) : RpD K T H (putK kvs k v) (putD es k d) := by
  rw [putK_eq]
  unfold putD
  rw [h.any]
  split
  · exact h.repl r
  · exact h.snoc r
theorem valD_putD {es : List (Key × D)} {k j : Key} {d : D} : valD (putD es k d) j = if j = k then some d else valD es j := by
  unfold putD
  by_cases h : (es.any fun kv => decide (kv.1 = k)) = true
  · rw [if_pos h]
    induction es with
    | nil => simp at h
    | cons x r ih =>
      obtain ⟨k0, d0⟩ := x
      rw [List.map_cons]
      by_cases e : k0 = k
      · subst e
        rw [if_pos (show (k0, d0).1 = k0 from rfl)]
        by_cases e2 : k0 = j
        · subst e2
          rw [valD_pos, if_pos rfl]
        · rw [valD_neg e2, if_neg (fun z => e2 z.symm), valD_neg e2]
          by_cases h' : (r.any fun kv => decide (kv.1 = k0)) = true
          · rw [ih h', if_neg (fun z => e2 z.symm)]
          · have : (r.map fun kv => if kv.1 = k0 then (kv.1, d) else kv) = r := by
              have h2 : ∀ p ∈ r, ¬ p.1 = k0 := fun p hp z => h' (List.any_eq_true.mpr ⟨p, hp, decide_eq_true z⟩)
              clear ih h h'
              induction r with
              | nil => rfl
              | cons y s ih2 =>
                rw [List.map_cons, if_neg (h2 y (List.mem_cons_self ..)), ih2 fun p hp => h2 p (List.mem_cons_of_mem _ hp)]
            rw [this]
      · rw [if_neg (show ¬ (k0, d0).1 = k from e)]
        have h' : (r.any fun kv => decide (kv.1 = k)) = true := by
          rw [List.any_cons] at h
          simpa [e] using h
        by_cases e2 : k0 = j
        · subst e2
          rw [valD_pos, valD_pos, if_neg e]
        · rw [valD_neg e2, valD_neg e2, ih h']
  · rw [if_neg h]
    have h2 : ∀ p ∈ es, ¬ p.1 = k := fun p hp z => h (List.any_eq_true.mpr ⟨p, hp, decide_eq_true z⟩)
    clear h
    induction es with
    | nil =>
      rw [List.nil_append]
      by_cases e : k = j
      · subst e; rw [valD_pos, if_pos rfl]
      · rw [valD_neg e, if_neg (fun z => e z.symm)]
    | cons x r ih =>
      obtain ⟨k0, d0⟩ := x
      have e0 : ¬ k0 = k := h2 (k0, d0) (List.mem_cons_self ..)
      rw [List.cons_append]
      by_cases e2 : k0 = j
      · subst e2
        rw [valD_pos, valD_pos, if_neg e0]
      · rw [valD_neg e2, valD_neg e2, ih fun p hp => h2 p (List.mem_cons_of_mem _ hp)]
theorem putD_length {es : List (Key × D)} {k : Key} {d : D} : (putD es k d).length ≤ es.length + 1 := by
  unfold putD
  split
  · rw [List.length_map]; exact Nat.le_succ _
  · rw [List.length_append]; exact Nat.le_refl _
/-- d[k] = v, an own dict -/
theorem xs_dput {i : Nat} {es : List (Key × D)} {k : Key} {tk tv : TE} (hv : ED K tv Γ d) (h : Γ[i]? = some (.md es)) (hk : ED K tk Γ (keyD k)) (hz : es.length < sizeLine) (hn : P.nx (Γ.set i (.md (putD es k d)))) : XS K pn (sDPut (tVar i) tk tv) Γ P := fun S O σ H E e n _ _ _ =>
  hv S O σ H E _ fun v H1 e1 r1 => by
    obtain ⟨l, kvs, ho, hvv, hl, hr⟩ := (E.ex e1).getD h
    refine ⟨_, hvv, hk S O σ H1 (E.ex e1) _ fun y H2 e2 r2 => ?_⟩
    have hy := r2.key
    subst hy
    have E2 := (E.ex e1).ex e2
    have hT : DL.T S O l := .inr ⟨i, by rw [ho]; exact List.mem_cons_self ..⟩
    have up : Gr (DL.T S O) H2 (upd H2 l (.dK (putK kvs k v))) := upd_gr hT (.inr ⟨_, e2 _ _ hl⟩)
    have w := E2.write (o := .dK (putK kvs k v)) (t := .md (putD es k d)) h ho (.inr ⟨_, upd_same⟩) ⟨l, _, rfl, hvv, upd_same, ((hr.ex e2).put (r1.ex e2)).mono up fun _ z => z⟩
    exact ⟨l, _, rfl, DPut.k (e2 _ _ hl) (by rw [hr.length]; exact hz), n _ O σ _ hn (Nx.ofFr w.1 ((e1.trans e2).fr.trans w.2))⟩
/-! ### methods of own lists whose arguments may change what is own -/
theorem xe_methX {T : String} {i : Nat} {ta : TA} {r : V → List V → Hp → VK → Prop} {R : List Sl → D → Prop} {M : List Sl → List D → Prop} {ds0 : List D} (h : Γ[i]? = some (.ml ds0)) (ha : XB K ta Γ M) (hT : T = "list")
    (hr : ∀ g as, M g as → ∃ ds, g[i]? = some (.ml ds) ∧ ∀ (U : Addr → Prop) (H : Hp) (l : Addr) (xs vs : List V), H l = some (.lst xs) → RpL K U H xs ds → RpL K U H vs as → U l → ∀ Q : VK,
      (∀ z e ys es, RpL K U H ys es → Rp K U H z e → R (g.set i (.ml es)) e → Q z (upd H l (.lst ys))) → r (.ref l) vs H Q) : XE K (tBM K T r (tVar i) ta) Γ R := fun S O σ H E Q q => by
  obtain ⟨l, xs, ho, hv, hl, hrx⟩ := E.getL h
  refine ⟨_, hv, by subst hT; exact .inl ⟨rfl, _, SqL.of hl⟩, ha S O σ H E _ fun g as vs H1 m E1 f1 r1 => ?_⟩
  obtain ⟨ds, hg, hr⟩ := hr g as m
  obtain ⟨l', xs', ho', hv', hl', hrx'⟩ := E1.getL hg
  have el : l' = l := by
    rw [hv] at hv'
    cases hv'
    rfl
  subst el
  have hT : DL.T S O l' := .inr ⟨i, by rw [ho]; exact List.mem_cons_self ..⟩
  refine hr (DL.T S O) H1 l' xs' vs hl' hrx' r1 hT Q fun z e ys es ry rz hR => ?_
  have up : Gr (DL.T S O) H1 (upd H1 l' (.lst ys)) := upd_gr hT (.inl ⟨_, hl'⟩)
  obtain ⟨E2, f2⟩ := E1.write (o := .lst ys) (t := .ml es) hg ho' (.inl ⟨_, upd_same⟩) ⟨l', ys, rfl, hv, upd_same, ry.mono up fun _ z => z⟩
  exact q _ _ _ _ hR E2 (f1.trans f2) (rz.mono up fun _ z => z)
/-- xs.pop(i), the index drawn -/
theorem xe_popAt {i : Nat} {ds0 : List D} {R : List Sl → D → Prop} {M : List Sl → D → Prop} (h : Γ[i]? = some (.ml ds0)) (ha : XE K te Γ M)
    (hr : ∀ g a, M g a → ∃ (ds : List D) (n : Nat) (d : D), g[i]? = some (.ml ds) ∧ a = .int (n : Int) ∧ ds[n]? = some d ∧ ds.length ≤ sizeLine ∧ R (g.set i (.ml (ds.eraseIdx n))) d) : XE K (tBM K "list" rPopAt (tVar i) (tCons te tNil)) Γ R :=
  xe_methX h (xb_xe (R := fun g as => ∃ a, as = [a] ∧ M g a) ha fun g a m => xb_nil ⟨a, rfl, m⟩) rfl fun g as ⟨a, e, m⟩ => by
    subst e
    obtain ⟨ds, n, d, hg, rfl, hd, hz, hR⟩ := hr g a m
    refine ⟨ds, hg, fun U H l xs vs hl rx rv _ Q q => ?_⟩
    cases rv with
    | cons a b =>
      cases b
      cases a
      obtain ⟨y, hy, ry⟩ := rx.get hd
      have hn : n < xs.length := (List.getElem?_eq_some_iff.mp hy).1
      have line := line63
      have hx : xs.length ≤ sizeLine := by rw [rx.length]; exact hz
      exact ⟨l, xs, n, n, y, rfl, rfl, hl, by omega, by omega, by rw [seqIndex_of (by omega) (by omega)]; rfl, hy, q _ _ _ _ (rx.eraseIdx n) ry hR⟩
theorem RpL.insert {T : Addr → Prop} {H : Hp} {xs : List V} {ds : List D} {v : V} {d : D} (r : RpL K T H xs ds) (rv : Rp K T H v d) (n : Nat) : RpL K T H (xs.take n ++ [v] ++ xs.drop n) (ds.take n ++ [d] ++ ds.drop n) :=
  ((r.take n).append (.cons rv .nil)).append (r.drop n)
/-- xs.insert(n, x) -/
theorem xe_insert {i n : Nat} {ds : List D} {tn : TE} {R : List Sl → D → Prop} (h : Γ[i]? = some (.ml ds)) (hn : ED K tn Γ (.int (n : Nat))) (ha : ED K te Γ d) (hz : ds.length < sizeLine) (hnz : n ≤ sizeLine) (hR : R (Γ.set i (.ml (ds.take n ++ [d] ++ ds.drop n))) .non)
    {r : V → List V → Hp → VK → Prop} (hr : r = fun x vs H Q => ∃ (l : Addr) (xs : List V) (i : Int) (y : V), x = .ref l ∧ vs = [.int i, y] ∧ H l = some (.lst xs) ∧ xs.length < sizeLine ∧ 0 ≤ i ∧ i < 2 ^ 63 ∧ Q .non (upd H l (.lst (xs.take i.toNat ++ [y] ++ xs.drop i.toNat)))) :
    XE K (tBM K "list" r (tVar i) (tCons tn (tCons te tNil))) Γ R :=
  xe_meth h (ea_cons hn (ea_cons ha ea_nil)) rfl fun U H l xs vs hl rx rv _ Q q => by
    subst hr
    cases rv with
    | cons a b =>
    cases b with
    | cons b c =>
      cases c
      cases a
      have line := line63
      exact ⟨l, xs, n, _, rfl, rfl, hl, by rw [rx.length]; exact hz, by omega, by omega, q _ _ _ _ (by simpa using rx.insert b n) .non hR⟩
end

/-! ### a comprehension whose element changes what is own -/
theorem xlc_at {K : PySem.W.Frag} {Γ : List Sl} {wi : TI} {g : TG} {te : TE} {vs : List Nat} {ds : List D} {R : List Sl → D → Prop} {S : Addr → Prop} {O : Os} {σ : L2.St} {H : Hp} (E : EnvOk K S O H σ Γ) (Iv : Nat → List Sl → List D → Prop) (hw : ITFat K Fr wi ds S O σ H) (hf : ∀ g k acc, Iv k g acc → ∀ i ∈ vs, g[i]? = some .no) (hz : ds.length ≤ sizeLine) (h0 : Iv 0 Γ [])
    (hs : ∀ k d Γ1 acc, ds[k]? = some d → Iv k Γ1 acc → acc.length = k → ∃ Γ2, GD K g vs Γ1 d Γ2 ∧ XE K te Γ2 fun Γ3 e => (∀ i ∈ vs, Free Γ3 i) ∧ Iv (k + 1) (wipeΓ Γ3 vs) (acc ++ [e]))
    (hd : ∀ Γ1 acc, Iv ds.length Γ1 acc → R Γ1 (.lst acc)) (Q : VK) (q : ∀ Γ' v d H', R Γ' d → EnvOk K S O H' σ Γ' → Fr O H H' → Rp K (T S O) H' v d → Q v H') : tLc wi g tYes te vs σ H Q := hw _ fun J H1 G Y e1 w g1 y1 D hD => by
  have E1 := E.ex e1
  have hDT : ¬ T S O D := E1.tfresh hD
  have hDO : ∀ j, D ∉ O j := fun j z => hDT (.inr ⟨j, z⟩)
  have tw : ∀ a, T (fun a => S a ∨ a = D) O a ↔ T S O a ∨ a = D := fun a => ⟨fun z => by
    rcases z with (z | z) | z
    · exact .inl (.inl z)
    · exact .inr z
    · exact .inl (.inr z), fun z => by
    rcases z with (z | z) | z
    · exact .inl (.inl z)
    · exact .inr z
    · exact .inl (.inr z)⟩
  have start : EnvOk K (fun a => S a ∨ a = D) O (upd H1 D (.lst [])) σ Γ := by
    have q := EnvOk.hideN E1 (Ex.new (o := .lst []) hD) (l := [D]) fun a z => by
      rw [List.mem_singleton.mp z]
      exact ⟨hD, .inl ⟨_, upd_same⟩⟩
    have e : (fun a => S a ∨ a ∈ [D]) = fun a => S a ∨ a = D := funext fun a => propext (by rw [List.mem_singleton])
    rwa [e] at q
  refine lc_it w (fun i H2 => i ≤ ds.length ∧ ∃ Γ2 acc es, Iv i Γ2 es ∧ es.length = i ∧ EnvOk K (fun a => S a ∨ a = D) O H2 σ Γ2 ∧ Fr O H1 H2 ∧ H2 D = some (.lst acc) ∧ RpL K (T (fun a => S a ∨ a = D) O) H2 acc es)
    ⟨Nat.zero_le _, Γ, [], [], h0, rfl, start, (Ex.new hD).fr, upd_same, .nil⟩ (fun i H2 _ ⟨_, _, _, _, _, _, _, f2, _⟩ => g1 H2 f2) (fun i x H2 H3 hi ⟨hle, Γ2, acc, es, iv, hel, E2, f2, hacc, hr⟩ yy => ?_) fun H2 ⟨_, Γ2, acc, es, iv, hel, E2, f2, hacc, hr⟩ => ?_
  · obtain ⟨d, hd', e3, hx⟩ := y1 i H2 x H3 hi f2 yy
    have hide : ∀ a, T (fun a => S a ∨ a = D) O a → T S O a ∨ H1 a = none := fun a z => ((tw a).mp z).imp id fun w => by rw [w]; exact hD
    have gr : Gr (fun a => T S O a ∨ T (fun a => S a ∨ a = D) O a) H1 H2 := by
      have g0 := E1.gr f2
      exact ⟨fun a xs h q => g0.ls a xs (fun z => h (.inl z)) q, fun a xs h q => g0.dk a xs (fun z => h (.inl z)) q, g0.tp, fun a C dx fs h q => g0.ins a C dx fs (fun z => h (.inl z)) q⟩
    have rx := hx _ hide (fun a z => E2.tin a z) gr
    have free : ∀ j ∈ vs, Free Γ2 j := fun j hj => Free.of (hf _ _ _ iv j hj)
    have wid : wipeΓ Γ2 vs = Γ2 := by
      apply List.ext_getElem?
      intro j
      rw [wipeΓ_get]
      split
      · rename_i hj
        have hn := hf _ _ _ iv j hj
        rw [hn, if_pos (List.getElem?_eq_some_iff.mp hn).1]
      · rfl
    have E3 : EnvOk K (fun a => S a ∨ a = D) O H3 (wipe σ vs) Γ2 := by
      have q := (E2.ex e3).wipe free
      rwa [wid] at q
    obtain ⟨Γ3, hg, he⟩ := hs i d Γ2 es hd' iv hel
    refine hg _ O (wipe σ vs) H3 x E3 rx _ fun σ4 E4 k4 l4 => ⟨(wipe_eq l4 k4).trans wipe_wipe, ?_⟩
    unfold tYes
    show (if true = true then (te σ4 H3 _ : Prop) else _)
    rw [if_pos rfl]
    refine he _ O σ4 H3 E4 _ fun Γ5 y d5 H5 ⟨fr5, iv5⟩ E5 f5 r5 => ?_
    have hD5 : H5 D = some (.lst acc) := f5 _ _ (e3 _ _ hacc) hDO
    have zl : acc.length < sizeLine := by
      have h1 := hr.length
      have h2 : i < ds.length := hi
      omega
    have up : Gr (T (fun a => S a ∨ a = D) O) H5 (upd H5 D (.lst (acc ++ [y]))) := upd_gr (.inl (.inr rfl)) (.inl ⟨_, hD5⟩)
    have frD : Fr O H1 (upd H5 D (.lst (acc ++ [y]))) := fun a o h n => by
      rw [upd_ne (ne_of_none h hD)]
      exact f5 _ _ (e3 _ _ (f2 _ _ h n)) n
    have E6 : EnvOk K (fun a => S a ∨ a = D) O (upd H5 D (.lst (acc ++ [y]))) σ (wipeΓ Γ5 vs) := by
      have q1 := (E5.wipe fr5).grow up (fun j a h => upd_ne fun z => hDO j (z ▸ h)) fun a z => by
        by_cases ha : a = D
        · rw [ha, upd_same]; exact fun q => nomatch q
        · rw [upd_ne ha]; exact E5.sin a z
      -- the outer slots are as they were
      have sl : ∀ j, j ∉ vs → (wipe σ4 vs)[j]? = σ[j]? := fun j hj => by
        rw [wipe_get, if_neg hj, k4 j hj, wipe_get, if_neg hj]
      refine ⟨by rw [wipeΓ_length, ← E5.len, l4, wipe_length], fun j s h => ?_, q1.dis, q1.own, q1.sin, q1.out⟩
      have qs := q1.sl j s h
      by_cases hj : j ∈ vs
      · rw [wipeΓ_get, if_pos hj, if_pos (fr5 j hj).1] at h
        cases h
        exact qs
      · rw [sl j hj] at qs
        exact qs
    exact ⟨acc, hD5, zl, hi, wipeΓ Γ5 vs, acc ++ [y], es ++ [d5], iv5, by rw [List.length_append, hel]; rfl, E6, frD, upd_same, (((hr.ex e3).mono (E4.gr f5) fun _ z => z).append (.cons r5 .nil)).mono up fun _ z => z⟩
  · have sub : ∀ a, T S O a → T (fun a => S a ∨ a = D) O a := fun a z => (tw a).mpr (.inl z)
    have E3 : EnvOk K S O H2 σ Γ2 := by
      refine ⟨E2.len, fun j s h => ?_, E2.dis, fun j a h => ⟨fun z => (E2.own j a h).1 (.inl z), (E2.own j a h).2⟩, fun a z => E2.sin a (.inl z), E2.out⟩
      have qs := E2.sl j s h
      cases s with
      | no => exact qs
      | dat d => obtain ⟨q0, y, q1, q2⟩ := qs; exact ⟨q0, y, q1, q2.sub sub⟩
      | ml ds => obtain ⟨l, ys, q0, q1, q2, q3⟩ := qs; exact ⟨l, ys, q0, q1, q2, q3.sub sub⟩
      | md ds => obtain ⟨l, ys, q0, q1, q2, q3⟩ := qs; exact ⟨l, ys, q0, q1, q2, q3.mono (Ex.refl H2).gr sub⟩
      | st n => exact qs
    exact q Γ2 _ _ H2 (hd Γ2 es iv) E3 (e1.fr.trans f2) (.lst hDT hacc (hr.sub sub))
theorem xe_lc {K : PySem.W.Frag} {Γ : List Sl} {wi : TI} {g : TG} {te : TE} {vs : List Nat} {ds : List D} {R : List Sl → D → Prop} (Iv : Nat → List Sl → List D → Prop) (hw : IT K wi Γ ds) (hf : ∀ g k acc, Iv k g acc → ∀ i ∈ vs, g[i]? = some .no) (hz : ds.length ≤ sizeLine) (h0 : Iv 0 Γ [])
    (hs : ∀ k d Γ1 acc, ds[k]? = some d → Iv k Γ1 acc → acc.length = k → ∃ Γ2, GD K g vs Γ1 d Γ2 ∧ XE K te Γ2 fun Γ3 e => (∀ i ∈ vs, Free Γ3 i) ∧ Iv (k + 1) (wipeΓ Γ3 vs) (acc ++ [e]))
    (hd : ∀ Γ1 acc, Iv ds.length Γ1 acc → R Γ1 (.lst acc)) : XE K (tLc wi g tYes te vs) Γ R := fun S O σ H E Q q => xlc_at E Iv (hw S O σ H E) hf hz h0 hs hd Q q
end DL
set_option Elab.async false
set_option maxRecDepth 100000
set_option maxHeartbeats 400000
set_option linter.all false
namespace DL
open PySem L2 StX PyProof.Rows PySem.Spec

/-! ### xs[::-1]; xs[::2] of three -/
theorem ed_rev {K : PySem.W.Frag} {Γ : List Sl} {te : TE} {ds : List D} (h : ED K te Γ (.lst ds)) : ED K (tRevL K te) Γ (.lst ds.reverse) := fun S O σ H E Q q => h S O σ H E _ fun v H1 e1 r1 => by
  cases r1 with
  | lst n hl r => exact ⟨_, _, rfl, SqL.of hl, fun p hp => q _ _ (e1.trans (Ex.new hp)) (.lst ((E.ex e1).tfresh hp) upd_same (r.rev.ex (Ex.new hp)))⟩
theorem vals3 {x1 x2 x3 : V} {its : List Value} (r : Vals [x1, x2, x3] its) : ∃ u1 u2 u3, its = [u1, u2, u3] ∧ RelV x1 u1 ∧ RelV x2 u2 ∧ RelV x3 u3 := by
  cases r with
  | cons a r =>
  cases r with
  | cons b r =>
  cases r with
  | cons c r =>
  cases r
  exact ⟨_, _, _, rfl, a, b, c⟩
def tBy2 (K : PySem.W.Frag) (te : TE) : TE := fun σ H Q => te σ H fun x H1 => ∃ a x1 x2 x3, x = .ref a ∧ SqL K H1 a [x1, x2, x3] ∧ ∀ p, H1 p = none → Q (.ref p) (upd H1 p (.lst [x1, x3]))
section
variable {X : Cx}
theorem pe_by2 {e : Expr} {te : TE} {k : Nat} {p1 p3 pos : Pos} (he : PE X e te) : PE X (.Subscript e (.Slice none none (some (.Constant (.int 2) k p1)) p3) pos) (tBy2 X.K te) := by
  refine ⟨fun pins s σ H Q I h => Subscript_ (thn (he.run pins s σ H _ I h) fun v s1 ⟨x, H1, I1, r1, a, x1, x2, x3, ex, hx, q⟩ => ?_)⟩
  subst ex
  cases r1
  have two : PO X (some (.Constant (.int 2) k p1)) (tPart (tC (.int 2))) := po_some pe_int
  refine wpAny_Slice (thn (po_none.run pins s1 σ H1 (fun o Z => o = none ∧ Z = H1) I1 ⟨rfl, rfl⟩) fun vl s2 ⟨l, H2, I2, pl, el, e2⟩ => ?_)
  refine thn (po_none.run pins s2 σ H2 (fun o Z => o = none ∧ Z = H2) I2 ⟨rfl, rfl⟩) fun vu s3 ⟨u, H3, I3, pu, eu, e3⟩ => ?_
  refine thn (two.run pins s3 σ H3 (fun o Z => o = some 2 ∧ Z = H3) I3 ⟨2, rfl, rfl, rfl⟩) fun vs s4 ⟨o, H4, I4, ps, eo, e4⟩ => ?_
  subst el e2 eu e3 eo e4
  have I5 : Inv X pins σ H4 { s4 with heap := s4.heap.push { cls := .type "slice", data := .fields #[vl, vu, vs] } } := I4.kept (t' := s4.toks) fun b ob q => Heap.get?_push_of_some _ q
  obtain ⟨its, r, ht, hz⟩ := I5.list hx
  show wpAny (model X.prog X.w) X.A (subscriptTail e (.Slice none none (some (.Constant (.int 2) k p1)) p3) (.ref a) (.ref s4.heap.objs.size)) (EP X pins σ Q) X.xe { s4 with heap := s4.heap.push { cls := .type "slice", data := .fields #[vl, vu, vs] } }
  obtain ⟨u1, u2, u3, rfl, r1, r2, r3⟩ := vals3 r
  refine tail_any (ops := [.ref a, .ref s4.heap.objs.size]) ht.isList.typeIs (PySem.slot_list_getitem.lookup) ?_ (by with_unfolding_all rfl)
  refine wpAny_getItem_list_slice (st := some 2) ht.isList (Heap.IsSliceOf.new _ vl vu vs) pl pu ps (by decide) ?_ (by show 3 ≤ sizeLine; decide)
  have pick : slicePick #[u1, u2, u3] none none (some 2) = #[u1, u3] := by with_unfolding_all rfl
  rw [pick]
  refine ⟨.ref _, _, I5.laid (t' := s4.toks) (o := .lst [x1, x3]) (fun b ob q => Heap.get?_push_of_some _ q) (Nat.le_refl _) ?_, rfl, q _ (I5.hok.fresh (Nat.le_refl _))⟩
  exact ⟨by show 2 ≤ sizeLine; decide, [u1, u3], 0, .cons r1 (.cons r3 .nil), Heap.get?_push_size _ rfl⟩
end
theorem ed_by2 {K : PySem.W.Frag} {Γ : List Sl} {te : TE} {a b c : D} (h : ED K te Γ (.lst [a, b, c])) : ED K (tBy2 K te) Γ (.lst [a, c]) := fun S O σ H E Q q => h S O σ H E _ fun v H1 e1 r1 => by
  cases r1 with
  | lst n hl r =>
    cases r with
    | cons r1 r =>
    cases r with
    | cons r2 r =>
    cases r with
    | cons r3 r =>
    cases r
    exact ⟨_, _, _, _, rfl, SqL.of hl, fun p hp => q _ _ (e1.trans (Ex.new hp)) (.lst ((E.ex e1).tfresh hp) upd_same ((RpL.cons r1 (.cons r3 .nil)).ex (Ex.new hp)))⟩

/-! ### what runs while a dict is locked -/
theorem pe_either {X : Cx} {e : Expr} {t1 t2 : TE} (h1 : PE X e t1) (h2 : PE X e t2) : PE X e (fun σ H Q => t1 σ H Q ∨ t2 σ H Q) := ⟨fun pins s σ H Q I q => q.elim (h1.run pins s σ H Q I) (h2.run pins s σ H Q I)⟩
/-- a dict is walked: locked, or as it is locked already -/
theorem pe_lockE {X : Cx} {e : Expr} {t : TE} (h : PE X e t) : PE X e (fun σ H Q => tLockE t σ H Q ∨ t σ H Q) := pe_either (pe_lock h) h
/-- t runs over a dict of the slot i whose keys are es: while it is locked -/
def EK (K : PySem.W.Frag) (t : TE) (Γ : List Sl) (i : Nat) (es : List (Key × D)) (s : Sl) : Prop := ∀ S O σ H, EnvOk K S O H σ Γ → ∀ (l : Addr) (od : Obj) (kvs : List (Key × V)), σ[i]? = some (some (.ref l)) → H l = some (.frz od (.dK kvs)) → RpD K (T S O) H kvs es → ∀ Q : VK,
  (∀ v os H', Ex H H' → (∀ a ∈ os, H a = none ∧ IsOwn H' a) → SlOk K (fun a => T S O a ∨ a ∈ os) H' os (some (some v)) s → Q v H') → t σ H Q
theorem lock_gr {S : Addr → Prop} {H : Hp} {l : Addr} {kvs : List (Key × V)} {od : Obj} (h : H l = some (.dK kvs)) : Gr S H (upd H l (.frz od (.dK kvs))) := by
  have ne : ∀ {a : Addr} {u : HO}, H a = some u → u ≠ .dK kvs → a ≠ l := fun {a u} e n z => by rw [z, h] at e; cases e; exact n rfl
  refine ⟨fun a xs _ q => by rw [upd_ne (ne q (by intro z; cases z))]; exact q, fun a ks _ q => ?_, fun a xs q => ?_, fun a C dx fs _ q => by rw [upd_ne (ne q (by intro z; cases z))]; exact q⟩
  · by_cases e : a = l
    · subst e
      rcases q with q | ⟨o, q⟩
      · rw [h] at q
        cases q
        exact .inr ⟨od, upd_same⟩
      · rw [h] at q; cases q
    · unfold Rd; rw [upd_ne e]; exact q
  · rcases q with q | ⟨o, q⟩
    · exact .inl (by rw [upd_ne (ne q (by intro z; cases z))]; exact q)
    · exact .inr ⟨o, by rw [upd_ne (ne q (by intro z; cases z))]; exact q⟩
theorem unlock_gr {S : Addr → Prop} {H : Hp} {l : Addr} {kvs : List (Key × V)} {od : Obj} (h : H l = some (.frz od (.dK kvs))) : Gr S H (upd H l (.dK kvs)) := by
  have ne : ∀ {a : Addr} {u : HO}, H a = some u → u ≠ .frz od (.dK kvs) → a ≠ l := fun {a u} e n z => by rw [z, h] at e; cases e; exact n rfl
  refine ⟨fun a xs _ q => by rw [upd_ne (ne q (by intro z; cases z))]; exact q, fun a ks _ q => ?_, fun a xs q => ?_, fun a C dx fs _ q => by rw [upd_ne (ne q (by intro z; cases z))]; exact q⟩
  · by_cases e : a = l
    · subst e
      rcases q with q | ⟨o, q⟩
      · rw [h] at q; cases q
      · rw [h] at q
        cases q
        exact .inl upd_same
    · unfold Rd; rw [upd_ne e]; exact q
  · rcases q with q | ⟨o, q⟩
    · exact .inl (by rw [upd_ne (ne q (by intro z; cases z))]; exact q)
    · refine .inr ⟨o, ?_⟩
      rw [upd_ne (ne q (by intro z; cases z))]
      exact q
theorem SlOk.gr {K : PySem.W.Frag} {T T' : Addr → Prop} {H H' : Hp} {os : List Addr} {v : Option (Option V)} {s : Sl} (h : SlOk K T H os v s) (g : Gr T H H') (ho : ∀ a ∈ os, H' a = H a) : SlOk K T H' os v s := by
  cases s with
  | no => exact h
  | dat d => obtain ⟨a, x, b, c⟩ := h; exact ⟨a, x, b, c.mono g fun _ z => z⟩
  | ml ds => obtain ⟨l, xs, a, b, c, r⟩ := h; exact ⟨l, xs, a, b, (ho l (by rw [a]; exact List.mem_cons_self ..)).trans c, r.mono g fun _ z => z⟩
  | md ds => obtain ⟨l, xs, a, b, c, r⟩ := h; exact ⟨l, xs, a, b, (ho l (by rw [a]; exact List.mem_cons_self ..)).trans c, r.mono g fun _ z => z⟩
  | st n => obtain ⟨s, c, a, b, r⟩ := h; exact ⟨s, c, a, b, r.keep (ho s (by rw [a]; exact List.mem_cons_self ..)) (ho c (by rw [a]; exact List.mem_cons_of_mem _ (List.mem_cons_self ..)))⟩
theorem en_lock {K : PySem.W.Frag} {Γ : List Sl} {t : TE} {i : Nat} {es : List (Key × D)} {s : Sl} (h : Γ[i]? = some (.dat (.dic es))) (ht : EK K t Γ i es s) : EN K (fun σ H Q => tLockE t σ H Q ∨ t σ H Q) Γ s := fun S O σ H E Q q => by
  obtain ⟨v, hv, r⟩ := E.get h
  cases r with
  | @dic l kvs _ n hr hd =>
    rcases hr with hr | ⟨od, hr⟩
    · refine .inl ⟨l, .dK kvs, hr, True.intro, fun od => ?_⟩
      have g : Gr (T S O) H (upd H l (.frz od (.dK kvs))) := lock_gr hr
      have nO : ∀ j a, a ∈ O j → a ≠ l := fun j a z w => n (.inr ⟨j, w ▸ z⟩)
      have E1 : EnvOk K S O (upd H l (.frz od (.dK kvs))) σ Γ := E.grow g (fun j a z => upd_ne (nO j a z)) fun a z => by
        by_cases w : a = l
        · rw [w, upd_same]; exact fun q => nomatch q
        · rw [upd_ne w]; exact E.sin a z
      refine ht S O σ _ E1 l od kvs hv upd_same (hd.mono g fun _ z => z) _ fun v os H' e' ho hs => ?_
      have hl : H' l = some (.frz od (.dK kvs)) := e' _ _ upd_same
      have nl : ∀ a ∈ os, a ≠ l := fun a z w => by
        have := (ho a z).1
        rw [w, upd_same] at this
        cases this
      refine ⟨hl, q v os _ (fun a o e => ?_) (fun a z => ?_) (hs.gr (T' := fun a => T S O a ∨ a ∈ os) (unlock_gr hl) fun a z => upd_ne (nl a z))⟩
      · by_cases w : a = l
        · subst w
          rw [hr] at e
          cases e
          exact upd_same
        · rw [upd_ne w]
          exact e' _ _ (by rw [upd_ne w]; exact e)
      · have z1 := (ho a z).1
        rw [upd_ne (nl a z)] at z1
        refine ⟨z1, ?_⟩
        unfold IsOwn
        rw [upd_ne (nl a z)]
        exact (ho a z).2
    · exact .inr (ht S O σ H E l od kvs hv hr hd Q q)
end DL
set_option Elab.async false
set_option maxRecDepth 100000
set_option maxHeartbeats 400000
set_option linter.all false
namespace K29
open PySem L2 DL

/-! ### words without variables -/
inductive W where
  | app (f : Str) (as : List W)
mutual
def W.beq : W → W → Bool
  | .app f as, .app g bs => decide (f = g) && W.beqL as bs
def W.beqL : List W → List W → Bool
  | [], [] => true
  | a :: as, b :: bs => W.beq a b && W.beqL as bs
  | [], _ :: _ => false
  | _ :: _, [] => false
end
mutual
theorem beq_iff : ∀ a b : W, W.beq a b = true ↔ a = b
  | .app f as, .app g bs => by
    rw [W.beq, Bool.and_eq_true, decide_eq_true_eq, beqL_iff as bs]
    constructor
    · rintro ⟨rfl, rfl⟩; rfl
    · intro h; cases h; exact ⟨rfl, rfl⟩
theorem beqL_iff : ∀ a b : List W, W.beqL a b = true ↔ a = b
  | [], [] => by rw [W.beqL]; simp
  | a :: as, b :: bs => by
    rw [W.beqL, Bool.and_eq_true, beq_iff a b, beqL_iff as bs]
    constructor
    · rintro ⟨rfl, rfl⟩; rfl
    · intro h; cases h; exact ⟨rfl, rfl⟩
  | [], _ :: _ => by rw [W.beqL]; simp
  | _ :: _, [] => by rw [W.beqL]; simp
end
instance : DecidableEq W := fun a b => decidable_of_iff _ (beq_iff a b)
theorem beq_dec (a b : W) : W.beq a b = decide (a = b) := by
  by_cases h : a = b
  · rw [(beq_iff a b).mpr h, decide_eq_true h]
  · rw [decide_eq_false h]
    exact Bool.eq_false_iff.mpr fun z => h ((beq_iff a b).mp z)
/-! as data -/
mutual
def enc : W → D
  | .app f as => .tup (.str f :: encL as)
def encL : List W → List D
  | [] => []
  | a :: as => enc a :: encL as
end
theorem encL_map : ∀ as : List W, encL as = as.map enc
  | [] => by rw [encL]; rfl
  | a :: as => by rw [encL, encL_map as]; rfl
theorem enc_app (f : Str) (as : List W) : enc (.app f as) = .tup (.str f :: as.map enc) := by rw [enc, encL_map]
/-! names and arities -/
def nm : List Str := ["a", "b", "f", "g", "p"]
def ar (f : Str) : Nat := if f = "a" then 0 else if f = "b" then 0 else if f = "g" then 2 else 1
def okW : Nat → W → Bool
  | 0, _ => false
  | n + 1, .app f as => decide (f ∈ nm) && decide (as.length = ar f) && as.all (okW n)
theorem okW_app {n : Nat} {f : Str} {as : List W} (h : okW (n + 1) (.app f as) = true) : f ∈ nm ∧ as.length = ar f ∧ ∀ a ∈ as, okW n a = true := by
  rw [okW, Bool.and_eq_true, Bool.and_eq_true, decide_eq_true_eq, decide_eq_true_eq, List.all_eq_true] at h
  exact ⟨h.1.1, h.1.2, h.2⟩
theorem okW_succ : ∀ {n : Nat} {w : W}, okW n w = true → okW (n + 1) w = true
  | 0, _, h => by rw [okW] at h; cases h
  | n + 1, .app f as, h => by
    obtain ⟨h1, h2, h3⟩ := okW_app h
    rw [okW, Bool.and_eq_true, Bool.and_eq_true, decide_eq_true_eq, decide_eq_true_eq, List.all_eq_true]
    exact ⟨⟨h1, h2⟩, fun a ha => okW_succ (h3 a ha)⟩
theorem ar_le (f : Str) : ar f ≤ 2 := by
  unfold ar
  split
  · omega
  · split
    · omega
    · split <;> omega
/-! == of words -/
mutual
theorem eqv_enc : ∀ a b : W, PyData.eqv (enc a).py (enc b).py = W.beq a b
  | .app f as, .app g bs => by
    rw [enc, enc, D.py, D.py, PyData.eqv, D.pyL, D.pyL, PyData.eqvAll, D.py, D.py, PyData.eqv, W.beq, eqv_encL as bs]
    congr 1
theorem eqv_encL : ∀ a b : List W, PyData.eqvAll (D.pyL (encL a)) (D.pyL (encL b)) = W.beqL a b
  | [], [] => by rw [encL, D.pyL, PyData.eqvAll, W.beqL]
  | a :: as, b :: bs => by rw [encL, encL, D.pyL, D.pyL, PyData.eqvAll, eqv_enc a b, eqv_encL as bs, W.beqL]
  | [], b :: bs => by rw [encL, encL, D.pyL, D.pyL, PyData.eqvAll, W.beqL]
  | a :: as, [] => by rw [encL, encL, D.pyL, D.pyL, PyData.eqvAll, W.beqL]
end
theorem eqD_enc (a b : W) : eqD (enc a) (enc b) = decide (a = b) := by
  unfold eqD
  rw [eqv_enc, beq_dec]
theorem nm_ok : ∀ f ∈ nm, PyData.strOk f = true := by decide +kernel
theorem okW_lay : ∀ {n : Nat} {w : W}, okW n w = true → (enc w).pl = true ∧ (enc w).py.canLay0 = true ∧ (enc w).py.depth ≤ n
  | 0, _, h => by rw [okW] at h; cases h
  | n + 1, .app f as, h => by
    obtain ⟨h1, h2, h3⟩ := okW_app h
    have hs := nm_ok f h1
    have all : D.plL (as.map enc) = true ∧ PyData.canLayAll0 (D.pyL (as.map enc)) = true ∧ PyData.depthAll (D.pyL (as.map enc)) ≤ n := by
      clear h h2
      induction as with
      | nil => exact ⟨by rw [List.map_nil, D.plL], by rw [List.map_nil, D.pyL, PyData.canLayAll0], by rw [List.map_nil, D.pyL, PyData.depthAll]; exact Nat.zero_le _⟩
      | cons a r ih =>
        obtain ⟨i1, i2, i3⟩ := ih fun x hx => h3 x (List.mem_cons_of_mem _ hx)
        obtain ⟨j1, j2, j3⟩ := okW_lay (h3 a (List.mem_cons_self ..))
        refine ⟨?_, ?_, ?_⟩
        · rw [List.map_cons, D.plL, j1, i1]; rfl
        · rw [List.map_cons, D.pyL, PyData.canLayAll0, j2, i2]; rfl
        · rw [List.map_cons, D.pyL, PyData.depthAll]
          exact Nat.max_le.mpr ⟨j3, i3⟩
    rw [enc_app]
    refine ⟨?_, ?_, ?_⟩
    · rw [D.pl, D.plL, D.pl, all.1]
      · rfl
      all_goals (intros; rename_i z; cases z)
    · rw [D.py, D.pyL, PyData.canLay0, PyData.canLayAll0, all.2.1, D.py, PyData.canLay0, hs]; rfl
    · rw [D.py, D.pyL, PyData.depth, PyData.depthAll, D.py, PyData.depth]
      have := all.2.2
      omega
theorem okW_ok {n : Nat} {w : W} (h : okW n w = true) (hn : n ≤ 40) : (enc w).ok = true := by
  obtain ⟨h1, h2, h3⟩ := okW_lay h
  unfold D.ok SeqAt.shaped
  rw [h1, h2, decide_eq_true (by omega)]
  rfl

/-! ### weights, ranks, the order -/
abbrev Rows := List (Str × Int)
def wv (r : Rows) (f : Str) : Int := (r.lookup f).getD 0
def rk (r : Rows) (f : Str) : Nat := (r.map (·.1)).idxOf f
mutual
def wt (r : Rows) : W → Int
  | .app f as => wv r f + wtL r as
def wtL (r : Rows) : List W → Int
  | [] => 0
  | a :: as => wt r a + wtL r as
end
theorem wtL_sum (r : Rows) : ∀ as : List W, wtL r as = (as.map (wt r)).sum
  | [] => by rw [wtL]; rfl
  | a :: as => by rw [wtL, wtL_sum r as]; rfl
theorem wt_app (r : Rows) (f : Str) (as : List W) : wt r (.app f as) = wv r f + (as.map (wt r)).sum := by rw [wt, wtL_sum]
mutual
def above (r : Rows) : W → W → Bool
  | .app f as, .app g bs => if wt r (.app f as) ≠ wt r (.app g bs) then decide (wt r (.app g bs) < wt r (.app f as)) else if f ≠ g then decide (rk r g < rk r f) else aboveL r as bs
def aboveL (r : Rows) : List W → List W → Bool
  | a :: as, b :: bs => if a = b then aboveL r as bs else above r a b
  | [], _ => false
  | _ :: _, [] => false
end
/-- what compare tells -/
def cmp (r : Rows) (a b : W) : Str := if a = b then "same" else if above r a b then "above" else if above r b a then "below" else "none"
/-- the rows name all names once -/
structure RowsOk (r : Rows) : Prop where
  nd : (r.map (·.1)).Nodup
  mem : ∀ f, f ∈ nm ↔ f ∈ r.map (·.1)
  pos : ∀ p ∈ r, p.2 = 1 ∨ p.2 = 2
theorem rk_inj {r : Rows} (R : RowsOk r) {f g : Str} (hf : f ∈ nm) (hg : g ∈ nm) (h : rk r f = rk r g) : f = g := by
  unfold rk at h
  have h1 := List.idxOf_lt_length_of_mem ((R.mem f).mp hf)
  have h2 := List.idxOf_lt_length_of_mem ((R.mem g).mp hg)
  have e1 := List.getElem_idxOf h1
  have e2 := List.getElem_idxOf h2
  rw [← e1, ← e2]
  congr 1
theorem above_self (r : Rows) : ∀ a : W, above r a a = false
  | .app f as => by
    rw [above, if_neg (show ¬ (wt r (.app f as) ≠ wt r (.app f as)) from fun z => z rfl), if_neg (show ¬ (f ≠ f) from fun z => z rfl)]
    exact go as
where
  go : ∀ as : List W, aboveL r as as = false
    | [] => by rw [aboveL]
    | a :: as => by rw [aboveL, if_pos rfl]; exact go as
theorem above_total {r : Rows} (R : RowsOk r) : ∀ {n : Nat} {a b : W}, okW n a = true → okW n b = true → a ≠ b → above r a b = !above r b a
  | 0, _, _, h, _, _ => by rw [okW] at h; cases h
  | n + 1, .app f as, .app g bs, ha, hb, hne => by
    obtain ⟨f1, f2, f3⟩ := okW_app ha
    obtain ⟨g1, g2, g3⟩ := okW_app hb
    rw [above, above]
    by_cases hw : wt r (.app f as) = wt r (.app g bs)
    · rw [if_neg (show ¬ (wt r (.app f as) ≠ wt r (.app g bs)) from fun z => z hw), if_neg (show ¬ (wt r (.app g bs) ≠ wt r (.app f as)) from fun z => z hw.symm)]
      by_cases hfg : f = g
      · subst hfg
        rw [if_neg (show ¬ (f ≠ f) from fun z => z rfl), if_neg (show ¬ (f ≠ f) from fun z => z rfl)]
        have hl : as.length = bs.length := by rw [f2, g2]
        have hab : as ≠ bs := fun z => hne (by rw [z])
        clear ha hb hne hw f2 g2
        induction as generalizing bs with
        | nil => cases bs with
          | nil => exact absurd rfl hab
          | cons b r => cases hl
        | cons a s ih => cases bs with
          | nil => cases hl
          | cons b t =>
            rw [aboveL, aboveL]
            by_cases e : a = b
            · subst e
              rw [if_pos rfl, if_pos rfl]
              exact ih t (fun x hx => f3 x (List.mem_cons_of_mem _ hx)) (fun x hx => g3 x (List.mem_cons_of_mem _ hx)) (Nat.succ.inj hl) fun z => hab (by rw [z])
            · rw [if_neg e, if_neg fun z => e z.symm]
              exact above_total R (f3 a (List.mem_cons_self ..)) (g3 b (List.mem_cons_self ..)) e
      · rw [if_pos (show f ≠ g from hfg), if_pos (show g ≠ f from fun z => hfg z.symm)]
        have hr : rk r f ≠ rk r g := fun z => hfg (rk_inj R f1 g1 z)
        by_cases h : rk r g < rk r f
        · rw [decide_eq_true h, decide_eq_false (by omega)]; rfl
        · rw [decide_eq_false h, decide_eq_true (by omega)]; rfl
    · rw [if_pos (show wt r (.app f as) ≠ wt r (.app g bs) from hw), if_pos (show wt r (.app g bs) ≠ wt r (.app f as) from fun z => hw z.symm)]
      by_cases h : wt r (.app g bs) < wt r (.app f as)
      · rw [decide_eq_true h, decide_eq_false (by omega)]; rfl
      · rw [decide_eq_false h, decide_eq_true (by omega)]; rfl
theorem above_wt {r : Rows} {a b : W} (h : above r a b = true) : wt r b ≤ wt r a := by
  cases a with
  | app f as => cases b with
    | app g bs =>
      rw [above] at h
      by_cases hw : wt r (.app f as) = wt r (.app g bs)
      · omega
      · rw [if_pos (show wt r (.app f as) ≠ wt r (.app g bs) from hw), decide_eq_true_eq] at h
        omega
theorem above_trans {r : Rows} (R : RowsOk r) : ∀ {n : Nat} {a b c : W}, okW n a = true → okW n b = true → okW n c = true → above r a b = true → above r b c = true → above r a c = true
  | 0, _, _, _, h, _, _, _, _ => by rw [okW] at h; cases h
  | n + 1, .app f as, .app g bs, .app h cs, ha, hb, hc, h1, h2 => by
    have w1 := above_wt h1
    have w2 := above_wt h2
    obtain ⟨f1, f2, f3⟩ := okW_app ha
    obtain ⟨g1, g2, g3⟩ := okW_app hb
    obtain ⟨k1, k2, k3⟩ := okW_app hc
    rw [above] at h1 h2 ⊢
    by_cases hw : wt r (.app f as) = wt r (.app h cs)
    · rw [if_neg (show ¬ (wt r (.app f as) ≠ wt r (.app h cs)) from fun z => z hw)]
      rw [if_neg (show ¬ (wt r (.app f as) ≠ wt r (.app g bs)) from fun z => z (by omega))] at h1
      rw [if_neg (show ¬ (wt r (.app g bs) ≠ wt r (.app h cs)) from fun z => z (by omega))] at h2
      by_cases e1 : f = g
      · subst e1
        rw [if_neg (show ¬ (f ≠ f) from fun z => z rfl)] at h1
        by_cases e2 : f = h
        · subst e2
          rw [if_neg (show ¬ (f ≠ f) from fun z => z rfl)] at h2 ⊢
          have l1 : as.length = bs.length := by rw [f2, g2]
          have l2 : bs.length = cs.length := by rw [g2, k2]
          clear ha hb hc w1 w2 hw f2 g2 k2
          induction as generalizing bs cs with
          | nil => rw [aboveL] at h1; cases h1
          | cons a s ih => cases bs with
            | nil => cases l1
            | cons b t => cases cs with
              | nil => cases l2
              | cons c u =>
                rw [aboveL] at h1 h2 ⊢
                have ka := f3 a (List.mem_cons_self ..)
                have kb := g3 b (List.mem_cons_self ..)
                have kc := k3 c (List.mem_cons_self ..)
                by_cases e : a = b
                · subst e
                  rw [if_pos rfl] at h1
                  by_cases e' : a = c
                  · subst e'
                    rw [if_pos rfl] at h2 ⊢
                    exact ih t u (fun x hx => f3 x (List.mem_cons_of_mem _ hx)) (fun x hx => g3 x (List.mem_cons_of_mem _ hx)) (fun x hx => k3 x (List.mem_cons_of_mem _ hx)) h1 h2 (Nat.succ.inj l1) (Nat.succ.inj l2)
                  · rw [if_neg e'] at h2 ⊢
                    exact h2
                · rw [if_neg e] at h1
                  by_cases e' : b = c
                  · subst e'
                    rw [if_neg e]
                    exact h1
                  · rw [if_neg e'] at h2
                    have hac := above_trans R ka kb kc h1 h2
                    rw [if_neg]
                    · exact hac
                    · intro z
                      subst z
                      rw [above_self] at hac
                      cases hac
        · rw [if_pos (show f ≠ h from e2)] at h2 ⊢
          exact h2
      · rw [if_pos (show f ≠ g from e1), decide_eq_true_eq] at h1
        by_cases e2 : g = h
        · subst e2
          rw [if_pos (show f ≠ g from e1)]
          exact decide_eq_true h1
        · rw [if_pos (show g ≠ h from e2), decide_eq_true_eq] at h2
          rw [if_pos (show f ≠ h from by intro z; subst z; omega)]
          exact decide_eq_true (by omega)
    · rw [if_pos (show wt r (.app f as) ≠ wt r (.app h cs) from hw)]
      exact decide_eq_true (by omega)
end K29
set_option Elab.async false
set_option maxRecDepth 100000
set_option maxHeartbeats 400000
set_option linter.all false
namespace DL
open PySem L2 StX PyProof.Rows PySem.Spec

/-! ### the module's names: texts, a tuple of texts -/
theorem pe_gs {X : Cx} {x : Str} {z : Str} {pos : Pos} (hg : Gl X x) (h : ∃ t, X.mg x = some (.str z t)) (hd : (x == ("__debug__" : Str)) = false := by decide) : PE X (.Name x pos) (tC (.str z)) := by
  obtain ⟨t, h⟩ := h
  exact pe_glob hg h ⟨t, rfl⟩ hd
section
variable {K : PySem.W.Frag} {Γ : List Sl} {d : D}
theorem RpL.ofStrs {T : Addr → Prop} {H : Hp} : ∀ (ns : List Str), RpL K T H (ns.map V.str) (ns.map D.str)
  | [] => .nil
  | n :: r => .cons (.str n) (RpL.ofStrs r)
theorem ed_gt {a : Addr} {ws : List Str} (h : ∀ H, SqT K H a (ws.map V.str)) : ED K (tC (.ref a)) Γ (.tup (ws.map D.str)) := fun S O σ H E Q q => q _ H (Ex.refl H) (.tup (h H) (RpL.ofStrs ws))
/-! ### a < b < c -/
theorem ed_chain {r r' : R2} {ta tb tc : TE} {a b c : D} {x y : Bool} (ha : ED K ta Γ a) (hb : ED K tb Γ b) (hr : VR K r a b (.bl x)) (hc : x = true → ED K tc Γ c) (hr' : x = true → VR K r' b c (.bl y)) : ED K (tChain r r' ta tb tc) Γ (.bl (x && y)) := fun S O σ H E Q q => by
  refine ha S O σ H E _ fun v1 H1 e1 r1 => hb S O σ H1 (E.ex e1) _ fun v2 H2 e2 r2 => ?_
  refine hr (T S O) H2 v1 v2 ((E.ex e1).ex e2).tin (r1.ex e2) r2 (fun z H3 => ∃ k, z = .bl k ∧ (if k = true then tc σ H3 fun w' H4 => r' v2 w' H4 Q else Q (.bl false) H3)) fun v3 H3 e3 r3 => ?_
  cases r3
  refine ⟨x, rfl, ?_⟩
  have E3 := ((E.ex e1).ex e2).ex e3
  cases x with
  | false => exact q _ H3 ((e1.trans e2).trans e3) (.bl false)
  | true =>
    show tc σ H3 fun w' H4 => r' v2 w' H4 Q
    exact hc rfl S O σ H3 E3 _ fun v4 H4 e4 r4 => hr' rfl (T S O) H4 v2 v4 (E3.ex e4).tin ((r2.ex e3).ex e4) r4 Q fun v5 H5 e5 r5 => q v5 H5 ((((e1.trans e2).trans e3).trans e4).trans e5) r5
/-! ### instances: a field, the class -/
theorem RpF.look {T : Addr → Prop} {H : Hp} {f : Str} : ∀ {fs : List (Str × V)} {es : List (Str × D)} {d : D}, RpF K T H fs es → es.lookup f = some d → ∃ v, fs.lookup f = some v ∧ Rp K T H v d
  | _, _, _, .nil, h => by cases h
  | _, _, d, .cons (k := k) a b, h => by
    rw [List.lookup_cons] at h ⊢
    cases e : f == k with
    | true =>
      rw [e] at h
      cases h
      exact ⟨_, rfl, a⟩
    | false =>
      rw [e] at h
      exact RpF.look b h
theorem ed_fld {te : TE} {f : Str} {C : Addr} {es : List (Str × D)} (h : ED K te Γ (.ins C es)) (hc : Cls K C) (hn : NoAttr K C f) (hf : es.lookup f = some d) : ED K (tFld K te f) Γ d := fun S O σ H E Q q => h S O σ H E _ fun v H1 e1 r1 => by
  cases r1 with
  | ins n ha hr =>
    obtain ⟨x, h1, h2⟩ := hr.look hf
    exact ⟨_, C, _, _, x, rfl, ha, hc, hn, h1, q x H1 e1 h2⟩
/-- an own class, as isinstance looks at its instances -/
structure ClsI (K : PySem.W.Frag) (C : Addr) : Prop where
  cl : Cls K C
  ha : PySem.W.findIn K (.ref C) "__class__" = some (some (.builtin "object.__class__"))
  hn : PySem.W.specialIn K (.builtin "object.__class__") "__get__" = some (some (.builtin "getset_descriptor.__get__"))
  htk : PySem.W.takesIn K (.builtin "object.__class__") = some true
  hm : PySem.W.mroIn K C (.type "object") = some true
theorem ed_isiO {te : TE} {C C' : Addr} {es : List (Str × D)} {b : Bool} (h : ED K te Γ (.ins C es)) (k : ClsI K C) (hk : PySem.W.kitOne K (.ref C) (.ref C') = some b) : ED K (tCB (rIsi K) (tCons te (tCons (tC (.ref C')) tNil))) Γ (.bl b) := fun S O σ H E Q q =>
  h S O σ H E _ fun v H1 e1 r1 => by
    cases r1 with
    | ins n hi hr => exact ⟨_, .ref C', _, _, b, rfl, .own C', .base (.ins hi k.cl k.ha k.hn k.htk k.hm), hk, q _ H1 e1 (.bl b)⟩
theorem et_eq {te : TE} {x y : D} {tb : TE} {b : Bool} (h : ED K te Γ x) (hb : ED K tb Γ y) (hx : x.ok = true) (hy : y.ok = true) (e : eqD x y = b) : ET K (tTest (tOp (rEqD K) te tb)) Γ b := by
  subst e
  exact et_test (ed_op h hb (vr_eq hx hy))
theorem et_ne {te : TE} {x y : D} {tb : TE} {b : Bool} (h : ED K te Γ x) (hb : ED K tb Γ y) (hx : x.ok = true) (hy : y.ok = true) (e : (!eqD x y) = b) : ET K (tTest (tOp (rNeD K) te tb)) Γ b := by
  subst e
  exact et_test (ed_op h hb (vr_ne hx hy))
end
section
variable {K : PySem.W.Frag} {pn : List Nat} {Γ : List Sl} {P : Po} {c : TT} {t u v : TS}
theorem xs_out (h : XS K pn t Γ { P with nx := fun _ => False }) : XS K pn (tSeq t u) Γ P := xs_seq h fun _ z => z.elim
theorem xs_if1 (hc : ET K c Γ true) (h : XS K pn t Γ P) : XS K pn (tIfS c t u) Γ P := xs_if hc (fun _ => h) fun z => nomatch z
theorem xs_if0 (hc : ET K c Γ false) (h : XS K pn u Γ P) : XS K pn (tIfS c t u) Γ P := xs_if hc (fun z => nomatch z) fun _ => h
/-- if c: return .., where c does not hold -/
theorem xs_skip (hc : ET K c Γ false) (h : XS K pn v Γ P) : XS K pn (tSeq (tIfS c t tNext) v) Γ P := xs_then (xs_if0 hc (xs_next rfl)) h
end
theorem nopin {vs : List Nat} : ∀ i ∈ ([] : List Nat), i ∉ vs := fun i hi => absurd hi List.not_mem_nil
theorem free1 {Γ : List Sl} {i : Nat} (h : Γ[i]? = some .no) : ∀ j ∈ [i], Free Γ j := fun j hj => by rw [List.mem_singleton.mp hj]; exact Free.of h
theorem free2 {Γ : List Sl} {i k : Nat} (h : Γ[i]? = some .no) (h2 : Γ[k]? = some .no) : ∀ j ∈ [i, k], Free Γ j := fun j hj => by
  rcases List.mem_cons.mp hj with e | e
  · rw [e]; exact Free.of h
  · exact free1 h2 j e
/-! ### small things -/
theorem pss_never {X : Cx} {ss : List Stmt} : PSs X ss tNever := ⟨fun _ _ _ _ _ _ h => h.elim⟩
def Nd (s : Sl) : Prop := s = .no ∨ ∃ d, s = .dat d
theorem Nd.no : Nd .no := .inl rfl
theorem Nd.dat (d : D) : Nd (.dat d) := .inr ⟨d, rfl⟩
theorem freeNd {Γ : List Sl} {i : Nat} {s : Sl} (h : Γ[i]? = some s) (hs : Nd s) : Free Γ i := ⟨(List.getElem?_eq_some_iff.mp h).1, fun t q => by
  rw [h] at q
  cases q
  exact hs⟩
theorem eqD_int (i j : Int) : eqD (.int i) (.int j) = decide (i = j) := by
  unfold eqD
  rw [D.py, D.py, PyData.eqv]
  by_cases h : i = j
  · subst h; simp
  · simp [h]
theorem eqD_str (i j : Str) : eqD (.str i) (.str j) = decide (i = j) := by
  unfold eqD
  rw [D.py, D.py, PyData.eqv]
  by_cases h : i = j
  · subst h; simp
  · simp [h]
theorem ok_int (i : Int) : (D.int i).ok = true := rfl
section
variable {K : PySem.W.Frag} {Γ : List Sl} {te : TE}
/-- t[1:] -/
theorem ed_tailT {x : D} {xs : List D} (h : ED K te Γ (.tup (x :: xs))) : ED K (tSl (rSlU K) te (tPart (tC (.int 1))) tNoPart) Γ (.tup xs) := by
  have q := ed_sl h (eo_some (ed_int 1)) eo_none (vs_tup (K := K) (ds := x :: xs) (lo := some 1) (hi := none))
  rw [cutD_from1] at q
  exact q
theorem ed_headT {x : D} {xs : List D} (h : ED K te Γ (.tup (x :: xs))) : ED K (tOp (rIxU K) te (tC (.int 0))) Γ x := ed_op h (ed_int 0) (vr_ixT (atI_nat (j := 0) rfl))
end
/-- a def that is never called so -/
theorem cal_void {P : Program} {w : World} {K : PySem.W.Frag} {mg : Str → Option Value} {base : Heap} {k : Nat} {x : Str} {ps : List Str} {st : Stmt} {N : List Str} (F : Def K mg x st) (S : FnScope N ps (defScope st)) (hb : BindsH x st ps) : Cal P w K mg base (k + 1) x ps (spP K fun _ _ => False) :=
  cal_pure F S hb (fun _ _ h => h.elim) fun _ _ _ _ _ _ _ _ => ⟨_, pss_never, fun _ _ h => h.elim⟩
/-! ### the rules once more, the fragment named (inside comprehensions the unifier needs it) -/
section
variable {X : Cx} (K : PySem.W.Frag)
theorem k_add (h : X.K = K) : OpR X (binaryOp .Add) (rAddU K) := by subst h; exact o_add
theorem k_in (h : X.K = K) (hu : X.A.units + 65 < cLine) : OpR X (compareOp .In) (rInU K false) := by subst h; exact o_in hu
theorem k_notIn (h : X.K = K) (hu : X.A.units + 65 < cLine) : OpR X (compareOp .NotIn) (rInU K true) := by subst h; exact o_notIn hu
theorem k_eq (h : X.K = K) (hu : X.A.units + 64 < cLine) : OpR X (compareOp .Eq) (rEqD K) := by subst h; exact op_eqD hu
theorem k_ne (h : X.K = K) (hu : X.A.units + 64 < cLine) : OpR X (compareOp .NotEq) (rNeD K) := by subst h; exact op_neD hu
theorem k_ix (h : X.K = K) (hu : X.A.units + 1 < cLine) : IxR X (rIxU K) := by subst h; exact i_any hu
theorem k_sl (h : X.K = K) : SlR X (rSlU K) := by subst h; exact s_any
theorem k_len (h : X.K = K) : CallR X (.builtin "len") (rLenU K) := by subst h; exact c_len
theorem k_list (h : X.K = K) (hc : X.calm = true) : CallR X (.type "list") (rListU K) := by subst h; exact c_list hc
theorem k_dict (h : X.K = K) (hc : X.calm = true) : CallR X (.type "dict") (rDictU K) := by subst h; exact c_dict hc
theorem k_isi (h : X.K = K) : CallR X (.builtin "isinstance") (rIsi K) := by subst h; exact call_isi
theorem k_isiT (h : X.K = K) : CallR X (.builtin "isinstance") (rIsiT K) := by subst h; exact call_isiT
theorem k_all (h : X.K = K) (hc : X.calm = true) : CallR X (.builtin "all") (rAll K) := by subst h; exact cr_all hc
theorem k_any (h : X.K = K) (hc : X.calm = true) : CallR X (.builtin "any") (rAny K) := by subst h; exact cr_any hc
theorem k_sum (h : X.K = K) (hc : X.calm = true) : CallR X (.builtin "sum") (rSum K) := by subst h; exact cr_sum hc
theorem k_popAt {o a : Expr} {to : TE} {t : TA} {apos cpos : Pos} (h : X.K = K) (ho : PE X o to) (ha : PA X [a] t)
    (hbase : attributeBase o "pop" X.env (eval o X.env) = eval o X.env := by rfl)
    (hfew : ((backTo cpos (starEach [a] X.env)).all (fun x => !x.1) && (backToKw cpos (keywordEach [] X.env)).all (fun x => x.1.isSome)
      && decide (([a]).length + ([] : List Keyword).length + (if ([] : List Keyword).isEmpty then 0 else 1) < 30)) = true := by rfl)
    (hline : (apos.endLine == cpos.line) = true := by rfl) (hs : starEach [a] X.env = (false, eval a X.env) :: starEach [] X.env := by rfl) (hplain : (backTo cpos (starEach [] X.env)).any (·.1) = false := by rfl) :
    PE X (.Call (.Attribute o "pop" apos) [a] [] cpos) (tBM K "list" rPopAt to t) := by
  subst h
  exact pe_bm PySem.F.plainAttrs_list PySem.F.slot_list_pop PySem.F.type_list_pop mt_popAt ho ha hbase hfew hline hs hplain
theorem k_star {e : Expr} {es : List Expr} {p : Pos} {te : TE} {t : TA} (h : X.K = K) (he : PE X e te) (hr : PA X es t) (hs : starEach (.Starred e p :: es) X.env = (true, eval e X.env) :: starEach es X.env := by rfl) : PA X (.Starred e p :: es) (tStar K te t) := by
  subst h
  exact pa_star he hr hs
end
end DL
set_option Elab.async false
set_option maxRecDepth 100000
set_option maxHeartbeats 1000000
set_option linter.all false
namespace DL
open PySem L2 StX PyProof.Rows PySem.Spec

/-! ### zip of two tuples whose pairs are kept by one name -/
/-- a zip whatever tuple it handed out last -/
abbrev ZAny (h : Heap) (z u o : Addr) (m : Value) (k : Bool) : Prop := h.get? z = some { cls := .type "zip", dict := none, data := .fields #[m, .bool k, .bool false, .ref u, .ref o], slots := #[] }
def ZMark (m : Value) : Prop := m = .none ∨ ∃ t : Addr, m = rawInt t
section
variable {prog : Program} {w : World} {A : Around} {E : Value → Shared → Prop} {s : Shared}
theorem alive_any {a : Addr} {Q : Option Obj → Shared → Prop} (q : Q (s.heap.get? a) s) : wpAny (model prog w) A (loadIfAlive a) Q E s := fun _ _ _ => q
theorem zfree {z u o : Addr} {m : Value} {k : Bool} {Q : Bool → Shared → Prop} (zo : ZAny s.heap z u o m k) (zm : ZMark m) (yes : Q true s) (no : ∀ g, ZAny g z u o m true → Heap.SameBut z s.heap g → Q false { s with heap := g }) :
    wpAny (model prog w) A (Builtin.SmallTypes.ownedTupleIsFree (.ref z)) Q E s := by
  unfold Builtin.SmallTypes.ownedTupleIsFree
  rcases zm with rfl | ⟨t, rfl⟩
  · exact wpAny_bind (wpAny_field zo rfl (x := .none) rfl (wpAny_pure yes))
  · refine wpAny_bind (wpAny_field zo rfl (x := rawInt t) rfl (wpAny_bind (alive_any ?_)))
    cases ha : s.heap.get? ((t : Int).toNat) with
    | none => exact wpAny_pure yes
    | some ob =>
      refine wpAny_bind (wpAny_field zo rfl (x := .bool k) rfl ?_)
      cases k with
      | true => exact wpAny_pure (no s.heap zo (Heap.SameBut.refl _ _))
      | false => exact wpAny_bind (wpAny_setField_rec zo (by simp) fun g zg sg => wpAny_pure (no g zg sg))
theorem znext {z u o i1 i2 l1 l2 : Addr} {k1 k2 : Nat} {xs ys : Array Value} {x y a b m : Value} {k : Bool} {Q : Value → Shared → Prop} (D : ZipApart z u o i1 i2 l1 l2)
    (zo : ZAny s.heap z u o m k) (zm : ZMark m) (pu : IsPair s.heap u (.ref i1) (.ref i2)) (po : IsPair s.heap o a b)
    (t1 : s.heap.IsTupleIter i1 l1 k1) (t2 : s.heap.IsTupleIter i2 l2 k2) (L1 : s.heap.IsTuple l1 xs) (L2 : s.heap.IsTuple l2 ys) (gx : xs[k1]? = some x) (gy : ys[k2]? = some y)
    (fin : ∀ g m' k', ZAny g z u o m' k' → ZMark m' → (∃ p q, IsPair g o p q) → g.IsTupleIter i1 l1 (k1 + 1) → g.IsTupleIter i2 l2 (k2 + 1) → IsPair g s.heap.objs.size x y →
      (∀ c ob, c ≠ z → c ≠ o → c ≠ i1 → c ≠ i2 → s.heap.get? c = some ob → g.get? c = some ob) → Q (.ref s.heap.objs.size) { s with heap := g }) :
    wpAny (model prog w) A (Builtin.«zip.__next__» ⟨[.ref z], []⟩) (fun fin s' => ∃ v, fin = .done (.ret v) ∧ Q v s') E s := by
  show wpAny (model prog w) A (field (.ref z) 2 >>= _) _ E s
  refine wpAny_bind (wpAny_field (x := .bool false) zo rfl rfl ?_)
  show wpAny (model prog w) A (field (.ref z) 3 >>= _) _ E s
  refine wpAny_bind (wpAny_field (x := .ref u) zo rfl rfl ?_)
  refine wpAny_bind (wpAny_seqItems pu rfl ?_)
  show wpAny (model prog w) A (Builtin.SmallTypes.ownedTupleIsFree (.ref z) >>= _) _ E s
  refine wpAny_bind (zfree zo zm ?_ fun g1 zo1 b1 => ?_)
  · simp only [if_true]
    refine wpAny_bind (wpAny_rule ?_)
    refine wpAny_bind (wpAny_field (x := .ref o) zo rfl rfl ?_)
    refine wpAny_bind (wpAny_setField_rec zo (by simp) fun g1 zo1 b1 => ?_)
    replace zo1 : ZAny g1 z u o .ellipsis k := zo1
    refine wpAny_bind ?_
    simp only [List.zipIdx_nil, List.zipIdx_cons, List.forIn_nil, List.forIn_cons]
    refine wpAny_bind (wpAny_bind (wpAny_onRaise ?_))
    show wpAny (model prog w) A (Builtin.SmallTypes.nextOf (.ref i1) >>= _) _ _ _
    refine wpAny_bind (RZ.nextOf_tuple_item (t1.extBut b1.extBut D.i1z) (L1.extBut b1.extBut D.l1z) gx fun g2 t12 b2 => wpAny_pure ?_)
    have po2 : IsPair g2 o a b := b2.extBut _ _ D.TOi1 (b1.extBut _ _ D.TOz po)
    refine wpAny_bind (wpAny_seqItems po2 rfl ?_)
    refine wpAny_bind (wpAny_updateSeq_pair po2 fun g3 po3 b3 => ?_)
    replace po3 : IsPair g3 o x b := po3
    refine wpAny_bind (wpAny_letGo (wpAny_pure ?_))
    refine wpAny_bind (wpAny_bind (wpAny_onRaise ?_))
    show wpAny (model prog w) A (Builtin.SmallTypes.nextOf (.ref i2) >>= _) _ _ _
    refine wpAny_bind (RZ.nextOf_tuple_item (((t2.extBut b1.extBut D.i2z).extBut b2.extBut D.i12.symm).extBut b3.extBut D.TOi2.symm)
      (((L2.extBut b1.extBut D.l2z).extBut b2.extBut D.l2i1).extBut b3.extBut D.l2TO) gy fun g4 t24 b4 => wpAny_pure ?_)
    have po4 : IsPair g4 o x b := b4.extBut _ _ D.TOi2 po3
    refine wpAny_bind (wpAny_seqItems po4 rfl ?_)
    refine wpAny_bind (wpAny_updateSeq_pair po4 fun g5 po5 b5 => ?_)
    replace po5 : IsPair g5 o x y := po5
    refine wpAny_bind (wpAny_letGo (wpAny_pure (wpAny_pure ?_)))
    refine wpAny_bind (wpAny_seqItems po5 rfl ?_)
    refine wpAny_bind (wpAny_newTuple ?_)
    have size5 : g5.objs.size = s.heap.objs.size := by rw [b5.1, b4.1, b3.1, b2.1, b1.1]
    have zo5 : ZAny g5 z u o .ellipsis k := b5.extBut _ _ D.TOz.symm (b4.extBut _ _ D.i2z.symm (b3.extBut _ _ D.TOz.symm (b2.extBut _ _ D.i1z.symm zo1)))
    have old5 : ∀ c ob, c ≠ z → c ≠ o → c ≠ i1 → c ≠ i2 → s.heap.get? c = some ob → g5.get? c = some ob := fun c ob n1 n2 n3 n4 q =>
      b5.extBut _ _ n2 (b4.extBut _ _ n4 (b3.extBut _ _ n2 (b2.extBut _ _ n3 (b1.extBut _ _ n1 q))))
    have t15 : g5.IsTupleIter i1 l1 (k1 + 1) := ((t12.extBut b3.extBut D.TOi1.symm).extBut b4.extBut D.i12).extBut b5.extBut D.TOi1.symm
    have t25 : g5.IsTupleIter i2 l2 (k2 + 1) := t24.extBut b5.extBut D.TOi2.symm
    have zlt : z < g5.objs.size := Heap.lt_size zo5
    show wpAny (model prog w) A (Builtin.SmallTypes.ownedTupleHandOut (.ref z) (.ref g5.objs.size) >>= _) _ _ _
    refine wpAny_bind ?_
    unfold Builtin.SmallTypes.ownedTupleHandOut
    have zo6 : ZAny (g5.push { cls := .type "tuple", data := .seq #[x, y] }) z u o .ellipsis k := Heap.get?_push_of_some _ zo5
    refine wpAny_bind (wpAny_setField_rec zo6 (by simp) fun g7 zo7 b7 => ?_)
    replace zo7 : ZAny g7 z u o (rawInt g5.objs.size) k := zo7
    refine wpAny_setField_rec zo7 (by simp) fun g8 zo8 b8 => ?_
    replace zo8 : ZAny g8 z u o (rawInt g5.objs.size) false := zo8
    have up : ∀ c ob, c ≠ z → g5.get? c = some ob → g8.get? c = some ob := fun c ob n q => b8.extBut _ _ n (b7.extBut _ _ n (Heap.get?_push_of_some _ q))
    have new8 : IsPair g8 g5.objs.size x y := b8.extBut _ _ (Nat.ne_of_gt zlt) (b7.extBut _ _ (Nat.ne_of_gt zlt) (Heap.get?_push_size _ rfl))
    refine wpAny_pure ⟨_, rfl, ?_⟩
    show Q (.ref g5.objs.size) _
    rw [size5] at new8 ⊢
    exact fin g8 _ _ zo8 (.inr ⟨_, rfl⟩) ⟨x, y, up _ _ D.TOz po5⟩ (t15.at fun ob q => up _ ob D.i1z q) (t25.at fun ob q => up _ ob D.i2z q) new8 fun c ob n1 n2 n3 n4 q => up c ob n1 (old5 c ob n1 n2 n3 n4 q)
  · simp only [Bool.false_eq_true, if_false]
    refine wpAny_bind ?_
    rw [← Array.forIn_toList]
    simp only [List.forIn_nil, List.forIn_cons]
    refine wpAny_bind (wpAny_bind (wpAny_holding ?_))
    show wpAny (model prog w) A (Builtin.SmallTypes.nextOf (.ref i1) >>= _) _ _ _
    refine wpAny_bind (RZ.nextOf_tuple_item (s := { s with heap := g1 }) (t1.extBut b1.extBut D.i1z) (L1.extBut b1.extBut D.l1z) gx fun g2 t12 b2 => wpAny_pure ?_)
    refine wpAny_pure ?_
    refine wpAny_bind (wpAny_bind (wpAny_holding ?_))
    show wpAny (model prog w) A (Builtin.SmallTypes.nextOf (.ref i2) >>= _) _ _ _
    refine wpAny_bind (RZ.nextOf_tuple_item (s := { s with heap := g2 }) ((t2.extBut b1.extBut D.i2z).extBut b2.extBut D.i12.symm) ((L2.extBut b1.extBut D.l2z).extBut b2.extBut D.l2i1) gy fun g3 t23 b3 => wpAny_pure ?_)
    refine wpAny_pure (wpAny_pure ?_)
    show wpAny (model prog w) A (newTuple [x, y] >>= _) _ _ _
    refine wpAny_bind (wpAny_newTuple ?_)
    have size3 : g3.objs.size = s.heap.objs.size := by rw [b3.1, b2.1, b1.1]
    have zo3 : ZAny g3 z u o m true := b3.extBut _ _ D.i2z.symm (b2.extBut _ _ D.i1z.symm zo1)
    have po3 : IsPair g3 o a b := b3.extBut _ _ D.TOi2 (b2.extBut _ _ D.TOi1 (b1.extBut _ _ D.TOz po))
    have old3 : ∀ c ob, c ≠ z → c ≠ i1 → c ≠ i2 → s.heap.get? c = some ob → g3.get? c = some ob := fun c ob n1 n3 n4 q => b3.extBut _ _ n4 (b2.extBut _ _ n3 (b1.extBut _ _ n1 q))
    have t13 : g3.IsTupleIter i1 l1 (k1 + 1) := t12.extBut b3.extBut D.i12
    refine wpAny_pure ⟨_, rfl, ?_⟩
    show Q (.ref g3.objs.size) _
    have new : IsPair (g3.push { cls := .type "tuple", data := .seq #[x, y] }) g3.objs.size x y := Heap.get?_push_size _ rfl
    rw [size3] at new ⊢
    exact fin _ m true (Heap.get?_push_of_some _ zo3) zm ⟨a, b, Heap.get?_push_of_some _ po3⟩ (t13.at fun ob q => Heap.get?_push_of_some _ q) (t23.at fun ob q => Heap.get?_push_of_some _ q) new fun c ob n1 _ n3 n4 q => Heap.get?_push_of_some _ (old3 c ob n1 n3 n4 q)
theorem zstop {z u o i1 i2 l1 l2 : Addr} {k1 k2 : Nat} {xs ys : Array Value} {a b m : Value} {k : Bool} {Q : Fin → Shared → Prop} (hh : A.handled = none) (D : ZipApart z u o i1 i2 l1 l2)
    (zo : ZAny s.heap z u o m k) (zm : ZMark m) (pu : IsPair s.heap u (.ref i1) (.ref i2)) (po : IsPair s.heap o a b)
    (t1 : s.heap.IsTupleIter i1 l1 k1) (t2 : s.heap.IsTupleIter i2 l2 k2) (L1 : s.heap.IsTuple l1 xs) (L2 : s.heap.IsTuple l2 ys) (gg : xs[k1]? = none ∨ ys[k2]? = none)
    (fin : ∀ g e, (∀ c ob, c ≠ z → c ≠ o → c ≠ i1 → c ≠ i2 → s.heap.get? c = some ob → g.get? c = some ob) → (∃ ob, g.get? e = some ob ∧ ob.cls = .type "StopIteration") → E (.ref e) { s with heap := g }) :
    wpAny (model prog w) A (Builtin.«zip.__next__» ⟨[.ref z], []⟩) Q E s := by
  show wpAny (model prog w) A (field (.ref z) 2 >>= _) _ E s
  refine wpAny_bind (wpAny_field (x := .bool false) zo rfl rfl ?_)
  show wpAny (model prog w) A (field (.ref z) 3 >>= _) _ E s
  refine wpAny_bind (wpAny_field (x := .ref u) zo rfl rfl ?_)
  refine wpAny_bind (wpAny_seqItems pu rfl ?_)
  show wpAny (model prog w) A (Builtin.SmallTypes.ownedTupleIsFree (.ref z) >>= _) _ E s
  refine wpAny_bind (zfree zo zm ?_ fun g1 zo1 b1 => ?_)
  · simp only [if_true]
    refine wpAny_bind (wpAny_rule ?_)
    refine wpAny_bind (wpAny_field (x := .ref o) zo rfl rfl ?_)
    refine wpAny_bind (wpAny_setField_rec zo (by simp) fun g1 zo1 b1 => ?_)
    replace zo1 : ZAny g1 z u o .ellipsis k := zo1
    refine wpAny_bind ?_
    simp only [List.zipIdx_nil, List.zipIdx_cons, List.forIn_nil, List.forIn_cons]
    refine wpAny_bind (wpAny_bind (wpAny_onRaise ?_))
    show wpAny (model prog w) A (Builtin.SmallTypes.nextOf (.ref i1) >>= _) _ _ _
    cases gx : xs[k1]? with
    | none =>
      refine wpAny_bind (RZ.nextOf_tuple_end hh (t1.extBut b1.extBut D.i1z) (L1.extBut b1.extBut D.l1z) gx fun g2 e b2 he => ?_)
      obtain ⟨oe, hoe, hce⟩ := he
      have zo2 : ZAny g2 z u o .ellipsis k := b2 _ _ D.i1z.symm zo1
      have ez : e ≠ z := fun q => by subst q; rw [zo2] at hoe; cases hoe; simp at hce
      exact wpAny_setField_rec zo2 (by simp) fun g3 _ b3 => fin g3 e (fun c ob n1 _ n3 _ q => b3.extBut _ _ n1 (b2 _ _ n3 (b1.extBut _ _ n1 q))) ⟨oe, b3.extBut _ _ ez hoe, hce⟩
    | some x =>
      have gy : ys[k2]? = none := by
        rcases gg with q | q
        · rw [gx] at q; cases q
        · exact q
      refine wpAny_bind (RZ.nextOf_tuple_item (t1.extBut b1.extBut D.i1z) (L1.extBut b1.extBut D.l1z) gx fun g2 t12 b2 => wpAny_pure ?_)
      have po2 : IsPair g2 o a b := b2.extBut _ _ D.TOi1 (b1.extBut _ _ D.TOz po)
      refine wpAny_bind (wpAny_seqItems po2 rfl ?_)
      refine wpAny_bind (wpAny_updateSeq_pair po2 fun g3 po3 b3 => ?_)
      refine wpAny_bind (wpAny_letGo (wpAny_pure ?_))
      refine wpAny_bind (wpAny_bind (wpAny_onRaise ?_))
      show wpAny (model prog w) A (Builtin.SmallTypes.nextOf (.ref i2) >>= _) _ _ _
      refine wpAny_bind (RZ.nextOf_tuple_end hh (((t2.extBut b1.extBut D.i2z).extBut b2.extBut D.i12.symm).extBut b3.extBut D.TOi2.symm)
        (((L2.extBut b1.extBut D.l2z).extBut b2.extBut D.l2i1).extBut b3.extBut D.l2TO) gy fun g4 e b4 he => ?_)
      obtain ⟨oe, hoe, hce⟩ := he
      have zo4 : ZAny g4 z u o .ellipsis k := b4 _ _ D.i2z.symm (b3.extBut _ _ D.TOz.symm (b2.extBut _ _ D.i1z.symm zo1))
      have ez : e ≠ z := fun q => by subst q; rw [zo4] at hoe; cases hoe; simp at hce
      exact wpAny_setField_rec zo4 (by simp) fun g5 _ b5 => fin g5 e (fun c ob n1 n2 n3 n4 q => b5.extBut _ _ n1 (b4 _ _ n4 (b3.extBut _ _ n2 (b2.extBut _ _ n3 (b1.extBut _ _ n1 q))))) ⟨oe, b5.extBut _ _ ez hoe, hce⟩
  · simp only [Bool.false_eq_true, if_false]
    refine wpAny_bind ?_
    rw [← Array.forIn_toList]
    simp only [List.forIn_nil, List.forIn_cons]
    refine wpAny_bind (wpAny_bind (wpAny_holding ?_))
    show wpAny (model prog w) A (Builtin.SmallTypes.nextOf (.ref i1) >>= _) _ _ _
    cases gx : xs[k1]? with
    | none => exact wpAny_bind (RZ.nextOf_tuple_end (s := { s with heap := g1 }) hh (t1.extBut b1.extBut D.i1z) (L1.extBut b1.extBut D.l1z) gx fun g2 e b2 he => fin g2 e (fun c ob n1 _ n3 _ q => b2 _ _ n3 (b1.extBut _ _ n1 q)) he)
    | some x =>
      have gy : ys[k2]? = none := by
        rcases gg with q | q
        · rw [gx] at q; cases q
        · exact q
      refine wpAny_bind (RZ.nextOf_tuple_item (s := { s with heap := g1 }) (t1.extBut b1.extBut D.i1z) (L1.extBut b1.extBut D.l1z) gx fun g2 t12 b2 => wpAny_pure ?_)
      refine wpAny_pure ?_
      refine wpAny_bind (wpAny_bind (wpAny_holding ?_))
      show wpAny (model prog w) A (Builtin.SmallTypes.nextOf (.ref i2) >>= _) _ _ _
      exact wpAny_bind (RZ.nextOf_tuple_end (s := { s with heap := g2 }) hh ((t2.extBut b1.extBut D.i2z).extBut b2.extBut D.i12.symm) ((L2.extBut b1.extBut D.l2z).extBut b2.extBut D.l2i1) gy fun g3 e b3 he => fin g3 e (fun c ob n1 _ n3 n4 q => b3 _ _ n4 (b2.extBut _ _ n3 (b1.extBut _ _ n1 q))) he)
end
theorem zself {prog : Program} {w : World} {A : Around} {E : Value → Shared → Prop} {s : Shared} {z : Addr} {Q : Value → Shared → Prop} (ty : s.TypeIs (.ref z) "zip") (q : Q (.ref z) s) : wpAny (model prog w) A (pyIter (.ref z)) Q E s :=
  wpAny_pyIter_slot ty F.slot_zip_iter (wpAny_call_entry F.slot_zip_iter ty F.entry_zip_iter (wpAny_pure ⟨_, rfl, "zip", _, ty, F.slot_zip_next.lookup, q⟩ : wpAny (model prog w) _ (ret (.ref z)) _ _ s) (F.args_zip_iter_1 _))
def five (z u o i1 i2 : Addr) : List Addr := [z, u, o, i1, i2]
theorem five_of {z u o i1 i2 c : Addr} (h : c ∈ five z u o i1 i2) : c = z ∨ c = u ∨ c = o ∨ c = i1 ∨ c = i2 := by simpa [five] using h
theorem five_no {z u o i1 i2 c : Addr} (h : c ∉ five z u o i1 i2) : c ≠ z ∧ c ≠ u ∧ c ≠ o ∧ c ≠ i1 ∧ c ≠ i2 := by simpa [five] using h
theorem turn_zipN {P : Program} {w : World} {K : PySem.W.Frag} {x : Str} {p : Pos} {a b z u o i1 i2 : Addr} (D : ZipApart z u o i1 i2 a b) :
    Turn P w K (.Name x p) (RZ.ItzT K a b) (five z u o i1 i2) z (fun i h => ∃ m k, ZAny h z u o m k ∧ ZMark m ∧ IsPair h u (.ref i1) (.ref i2) ∧ (∃ v1 v2, IsPair h o v1 v2) ∧ h.IsTupleIter i1 a i ∧ h.IsTupleIter i2 b i) where
  mem := List.mem_cons_self ..
  obj := fun i h ⟨m, k, zo, _, pu, ⟨v1, v2, po⟩, ⟨o1, e1, _, d1⟩, ⟨o2, e2, _, d2⟩⟩ c hc => by
    rcases five_of hc with q | q | q | q | q <;> rw [q]
    · exact ⟨_, zo, fun v q => nomatch q⟩
    · exact ⟨_, pu, fun v q => nomatch q⟩
    · exact ⟨_, po, fun v q => nomatch q⟩
    · exact ⟨o1, e1, fun v q => by rw [d1] at q; cases q⟩
    · exact ⟨o2, e2, fun v q => by rw [d2] at q; cases q⟩
  keep := fun i h h' ⟨m, k, zo, zm, pu, ⟨v1, v2, po⟩, t1, t2⟩ kp => by
    have at' : ∀ c, c ∈ five z u o i1 i2 → ∀ ob, h.get? c = some ob → h'.get? c = some ob := kp
    exact ⟨m, k, at' z (by simp [five]) _ zo, zm, at' u (by simp [five]) _ pu, ⟨v1, v2, at' o (by simp [five]) _ po⟩, t1.at fun ob q => at' i1 (by simp [five]) ob q, t2.at fun ob q => at' i2 (by simp [five]) ob q⟩
  item := by
    intro X hP hw hK hc i pins s σ H E I hf st hg
    subst hP hw hK
    obtain ⟨m, k, zo, zm, pu, ⟨v1, v2, po⟩, t1, t2⟩ := st
    obtain ⟨xs, ys, y1, y2, qx, qy, gx, gy⟩ := hg
    obtain ⟨its, rv, pa, _⟩ := I.tuple qx
    obtain ⟨its2, rv2, pb, _⟩ := I.tuple qy
    obtain ⟨w1, hu1, ru1⟩ := rv.get gx
    obtain ⟨w2, hu2, ru2⟩ := rv2.get gy
    have ty : s.TypeIs (.ref z) "zip" := ⟨_, zo, rfl⟩
    have done : ∀ g m' k', ZAny g z u o m' k' → ZMark m' → (∃ p q, IsPair g o p q) → g.IsTupleIter i1 a (i + 1) → g.IsTupleIter i2 b (i + 1) → IsPair g s.heap.objs.size w1 w2 →
        (∀ c ob, c ≠ z → c ≠ o → c ≠ i1 → c ≠ i2 → s.heap.get? c = some ob → g.get? c = some ob) →
        wpAny (model X.prog X.w) X.A (letOwnedTupleGo (.Name x p) (.ref z) (.ref s.heap.objs.size)) (fun _ s2 => ∃ y H', Inv X pins σ H' s2 ∧ RelV y (.ref s.heap.objs.size) ∧ (RZ.ItzT X.K a b).yld i H y H' ∧
          (∃ m k, ZAny s2.heap z u o m k ∧ ZMark m ∧ IsPair s2.heap u (.ref i1) (.ref i2) ∧ (∃ v1 v2, IsPair s2.heap o v1 v2) ∧ s2.heap.IsTupleIter i1 a (i + 1) ∧ s2.heap.IsTupleIter i2 b (i + 1)) ∧ ∀ c ∈ five z u o i1 i2, H' c = none) E { s with heap := g } := by
      intro g m' k' zo' zm' ⟨r1, r2, po'⟩ t1' t2' new old
      have lay : ObjOk X.prog X.w (upd H s.heap.objs.size (.tup [y1, y2])) g s.heap.objs.size (.tup [y1, y2]) := ⟨show 2 ≤ sizeLine by decide, [w1, w2], .cons ru1 (.cons ru2 .nil), ⟨_, new, rfl, _, rfl⟩⟩
      have I1 : Inv X pins σ (upd H s.heap.objs.size (.tup [y1, y2])) { s with heap := g } :=
        I.turnedNew (t' := s.toks) (ch := five z u o i1 i2) (fun c ob hb q => by obtain ⟨n1, n2, n3, n4, n5⟩ := five_no hb; exact old c ob n1 n3 n4 n5 q) hf (Nat.le_refl _) lay
      refine wpAny_pure ⟨.ref s.heap.objs.size, _, I1, rfl, ⟨_, y1, y2, rfl, I.hok.fresh (Nat.le_refl _), rfl, fun l hl => by rw [I.tuple_inj hl qx]; exact gx, fun l hl => by rw [I.tuple_inj hl qy]; exact gy⟩,
        ⟨m', k', zo', zm', old _ _ D.TIz D.TITO D.TIi1 D.TIi2 pu, ⟨r1, r2, po'⟩, t1', t2'⟩, fun c hcm => ?_⟩
      have hlt : c < s.heap.objs.size := by
        rcases five_of hcm with q | q | q | q | q <;> rw [q]
        · exact Heap.lt_size zo
        · exact Heap.lt_size pu
        · exact Heap.lt_size po
        · obtain ⟨_, e1, _⟩ := t1; exact Heap.lt_size e1
        · obtain ⟨_, e2, _⟩ := t2; exact Heap.lt_size e2
      rw [upd_ne (Nat.ne_of_lt hlt)]
      exact (hf c hcm).1
    unfold pyNext
    exact wpAny_bind (wpAny_attempt (wpAny_callSpecial?_slot (name := Str.ofString "__next__") ty F.slot_zip_next (wpAny_call_entry F.slot_zip_next ty F.entry_zip_next
      (znext D zo zm pu po t1 t2 (show s.heap.IsTuple a its.toArray from pa) (show s.heap.IsTuple b its2.toArray from pb) (x := w1) (y := w2) (by simpa using hu1) (by simpa using hu2) fun g m' k' z1 z2 z3 z4 z5 z6 z7 => wpAny_pure ⟨_, rfl, done g m' k' z1 z2 z3 z4 z5 z6 z7⟩) (F.args_zip_next_1 _))))
  done := by
    intro X hP hw hK hc i pins s σ H E I hf st hg
    subst hP hw hK
    obtain ⟨m, k, zo, zm, pu, ⟨v1, v2, po⟩, t1, t2⟩ := st
    obtain ⟨xs, ys, qx, qy, hend⟩ := hg
    obtain ⟨its, rv, pa, _⟩ := I.tuple qx
    obtain ⟨its2, rv2, pb, _⟩ := I.tuple qy
    have n1 := rv.length
    have n2 := rv2.length
    have he : its.toArray[i]? = none ∨ its2.toArray[i]? = none := by
      rcases hend with q | q
      · exact .inl (by simp; omega)
      · exact .inr (by simp; omega)
    have ty : s.TypeIs (.ref z) "zip" := ⟨_, zo, rfl⟩
    unfold pyNext
    refine wpAny_bind (wpAny_attempt (wpAny_callSpecial?_slot (name := Str.ofString "__next__") ty F.slot_zip_next (wpAny_call_entry F.slot_zip_next ty F.entry_zip_next
      (zstop (I.ok.hd hc) D zo zm pu po t1 t2 (show s.heap.IsTuple a its.toArray from pa) (show s.heap.IsTuple b its2.toArray from pb) he fun g e old he => ?_) (F.args_zip_next_1 _))))
    obtain ⟨oe, ho, hcl⟩ := he
    refine wpAny_bind (wpAny_isInstance (T := "StopIteration") (b := true) ⟨oe, ho, hcl⟩ isSubtype_stop ?_)
    exact wpAny_pure ⟨rfl, I.turnedL (t' := s.toks) (ch := five z u o i1 i2) (fun c ob hb q => by obtain ⟨n1, n2, n3, n4, n5⟩ := five_no hb; exact old c ob n1 n3 n4 n5 q) hf⟩
  self := fun A i s Q E ⟨m, k, zo, _⟩ h => by
    have ty : s.TypeIs (.ref z) "zip" := ⟨_, zo, rfl⟩
    exact zself ty h
def iZipN (K : PySem.W.Frag) (ta : TA) : TI := fun σ H R => ta σ H fun vs H1 => ∃ a b xs ys, vs = [.ref a, .ref b] ∧ SqT K H1 a xs ∧ SqT K H1 b ys ∧ R (RZ.ItzT K a b) H1
theorem pi_zipN {X : Cx} {e e2 : Expr} {ta : TA} {x : Str} {p pos tpos : Pos} (hg : Gl X "zip") (hm : X.mg "zip" = none) (ha : PA X [e, e2] ta)
    (hs : starEach [e, e2] X.env = (false, eval e X.env) :: starEach [e2] X.env := by rfl) (hpl : (backTo pos (starEach [e2] X.env)).any (·.1) = false := by rfl) :
    PI X (.Name x tpos) (.Call (.Name "zip" p) [e, e2] [] pos) (iZipN X.K ta) := by
  refine ⟨fun pins s σ H R I h => ?_⟩
  refine Call_ (ld_blt I hg hm PyProof.Rows.boot_zip (PyProof.Rows.callWith_type1 (thn (ha.run pos pins s σ H _ I h) fun us s1 ⟨vs, H1, I1, r1, a, b, xs, ys, ex, hx, hy, q⟩ => ?_) hs hpl))
  subst ex
  obtain ⟨u1, u2, rfl, k1, k2⟩ := vals2 r1
  cases k1
  cases k2
  obtain ⟨its, rv, p1, _⟩ := I1.tuple hx
  obtain ⟨its2, rv2, p2, _⟩ := I1.tuple hy
  obtain ⟨o1, ho1, _⟩ := id p1
  obtain ⟨o2, ho2, _⟩ := id p2
  refine RZ.call_zipT (show s1.heap.IsTuple a its.toArray from p1) (show s1.heap.IsTuple b its2.toArray from p2) fun h' zo pu po t1 t2 _ hk => zself ⟨_, zo, rfl⟩ ?_
  have I2 : Inv X pins σ H1 { s1 with heap := h' } := I1.kept (t' := s1.toks) hk
  refine ⟨s1.heap.objs.size + 4, five (s1.heap.objs.size + 4) (s1.heap.objs.size + 2) (s1.heap.objs.size + 3) s1.heap.objs.size (s1.heap.objs.size + 1), _, _, H1, rfl, I2,
    turn_zipN (PySem.W.ktu_apart s1.heap.objs.size a b (Heap.lt_size ho1) (Heap.lt_size ho2)), ⟨.none, false, zo, .inl rfl, pu, ⟨_, _, po⟩, t1, t2⟩, fun c hc => ?_, q⟩
  have low : s1.heap.objs.size ≤ c := by
    rcases five_of hc with z | z | z | z | z <;> rw [z]
    · exact Nat.le_add_right _ _
    · exact Nat.le_add_right _ _
    · exact Nat.le_add_right _ _
    · exact Nat.le_refl _
    · exact Nat.le_add_right _ _
  exact I1.fpOk low (I1.hok.fresh low)
theorem it_zipN {K : PySem.W.Frag} {Γ : List Sl} {ds es : List D} {ta : TA} (h : EA K ta Γ [.tup ds, .tup es]) : IT K (iZipN K ta) Γ (zipD ds es) := fun S O σ H E R q =>
  h S O σ H E _ fun vs H1 e1 r1 => by
  cases r1 with
  | cons r1 r2 =>
    cases r2 with
    | cons r2 r3 =>
    cases r3
    cases r1 with
    | @tup a xs _ hs hl =>
    cases r2 with
    | @tup b ys _ hs' hl' =>
      have st : ∀ {a xs} (H2 : Hp), Fr O H1 H2 → SqT K H1 a xs → SqT K H2 a xs := fun H2 f h => h.imp (((E.ex e1).gr f).tp _ _) id
      refine ⟨a, b, xs, ys, rfl, hs, hs', q (RZ.ItzT K a b) H1 _ _ e1 (walk_zipT (xs := xs) (ys := ys) (by simp [zipD, hl.length, hl'.length])) (fun H2 f => ⟨st H2 f hs, st H2 f hs'⟩) fun i H2 x H3 hi f y => ?_⟩
      obtain ⟨p, u, w, rfl, hp, rfl, hu, hw⟩ := y
      obtain ⟨d, h1, h2⟩ := hl.getV hu
      obtain ⟨d', h1', h2'⟩ := hl'.getV hw
      exact ⟨_, zipD_get h1 h1', Ex.new hp, fun T' ht hn g => pair_item h2 h2' hp ht g⟩
end DL
set_option Elab.async false
set_option maxRecDepth 100000
set_option maxHeartbeats 400000
set_option linter.all false
namespace DL
open PySem L2 StX PyProof.Rows PySem.Spec

/-! ### a comprehension over the keys of a dict that is locked meanwhile -/
theorem RpD.get {K : PySem.W.Frag} {T : Addr → Prop} {H : Hp} : ∀ {kvs : List (Key × V)} {es : List (Key × D)} {i : Nat} {k : Key} {v : V}, RpD K T H kvs es → kvs[i]? = some (k, v) → ∃ d, es[i]? = some (k, d) ∧ Rp K T H v d
  | _, _, 0, _, _, .cons a b, h => by
    simp at h
    obtain ⟨rfl, rfl⟩ := h
    exact ⟨_, rfl, a⟩
  | _, _, i + 1, k, v, .cons a b, h => by
    obtain ⟨d, h1, h2⟩ := RpD.get (i := i) b (by simpa using h)
    exact ⟨d, by simpa using h1, h2⟩
theorem rp_key {K : PySem.W.Frag} {T : Addr → Prop} {H : Hp} (k : Key) : Rp K T H (kV k) (keyD k) := by
  cases k
  · exact .int _
  · exact .str _
theorem itk_at {K : PySem.W.Frag} {S : Addr → Prop} {O : Os} {σ : L2.St} {H : Hp} {i : Nat} {l : Addr} {od : Obj} {kvs : List (Key × V)} {es : List (Key × D)} (hv : σ[i]? = some (some (.ref l))) (hl : H l = some (.frz od (.dK kvs))) (hr : RpD K (T S O) H kvs es) :
    ITFat K (fun _ => Ex) (iKeys (tVar i)) (es.map fun kv => keyD kv.1) S O σ H := fun R q =>
  ⟨_, hv, l, od, rfl, .inl ⟨kvs, hl, q (Itk l od kvs) H _ _ (Ex.refl H) (by rw [List.length_map, ← hr.length]; exact walk_keys) (fun H2 f => f _ _ hl) fun j H2 x H3 hj f y => by
    obtain ⟨rfl, k, v, hk, rfl⟩ := y
    obtain ⟨d, hd, _⟩ := hr.get hk
    exact ⟨keyD k, by rw [List.getElem?_map, hd]; rfl, Ex.refl _, fun _ _ _ _ => rp_key k⟩⟩⟩
theorem ek_lc {K : PySem.W.Frag} {Γ : List Sl} {g : TG} {tt : TT} {te : TE} {vs : List Nat} {i : Nat} {es : List (Key × D)} (r : Key → Option D) (hf : ∀ i ∈ vs, Free Γ i) (hz : es.length ≤ sizeLine)
    (hs : ∀ k ∈ es.map (·.1), ∃ Γ2, GD K g vs (wipeΓ Γ vs) (keyD k) Γ2 ∧ ((r k = none ∧ ET K tt Γ2 false) ∨ ∃ e, r k = some e ∧ ET K tt Γ2 true ∧ ED K te Γ2 e)) :
    EK K (tLc (iKeys (tVar i)) g tt te vs) Γ i es (.ml ((es.map (·.1)).filterMap r)) := fun S O σ H E l od kvs hv hl hr Q q =>
  lc_at E keyD r (by rw [List.map_map]; exact itk_at hv hl hr) hf (by rw [List.length_map]; exact hz) hs Q q
/-- .. over the dict that the slot i holds -/
theorem en_lcK {K : PySem.W.Frag} {Γ : List Sl} {g : TG} {tt : TT} {te : TE} {vs : List Nat} {i : Nat} {es : List (Key × D)} (r : Key → Option D) (h : Γ[i]? = some (.dat (.dic es))) (hf : ∀ i ∈ vs, Free Γ i) (hz : es.length ≤ sizeLine)
    (hs : ∀ k ∈ es.map (·.1), ∃ Γ2, GD K g vs (wipeΓ Γ vs) (keyD k) Γ2 ∧ ((r k = none ∧ ET K tt Γ2 false) ∨ ∃ e, r k = some e ∧ ET K tt Γ2 true ∧ ED K te Γ2 e)) :
    EN K (fun σ H Q => tLockE (tLc (iKeys (tVar i)) g tt te vs) σ H Q ∨ tLc (iKeys (tVar i)) g tt te vs σ H Q) Γ (.ml ((es.map (·.1)).filterMap r)) := en_lock h (ek_lc r hf hz hs)
end DL
set_option Elab.async false
set_option maxRecDepth 100000
set_option maxHeartbeats 400000
set_option linter.all false
namespace DL
open PySem L2 StX PyProof.Rows PySem.Spec

/-! ### a, b = x, y of plain names -/
section
variable {K : PySem.W.Frag} {pn : List Nat} {Γ : List Sl} {P : Po}
theorem xs_par {i j : Nat} {ta : TA} (h : XB K ta Γ fun g ds => ∃ a b, ds = [a, b] ∧ Free g i ∧ Free (g.set i (.dat a)) j ∧ P.nx ((g.set i (.dat a)).set j (.dat b))) (hi : i ∉ pn) (hj : j ∉ pn) : XS K pn (tPar i j ta) Γ P := fun S O σ H E e hn _ _ _ =>
  h S O σ H E _ fun g ds xs H1 ⟨a, b, e1, f1, f2, p⟩ E1 fr r => by
    subst e1
    cases r with
    | cons r1 r =>
    cases r with
    | cons r2 r =>
    cases r
    exact ⟨_, _, rfl, hn _ O _ H1 p (((Nx.ofFr E1 fr).set f1 r1 hi).set f2 r2 hj)⟩
theorem SlOk.exT {T T' : Addr → Prop} {H H' : Hp} {os : List Addr} {v : Option (Option V)} {s : Sl} (h : SlOk K T H os v s) (e : Ex H H') (ht : ∀ a, T' a → T a) (ho : ∀ a ∈ os, H a ≠ none) : SlOk K T' H' os v s := by
  have eq : ∀ a ∈ os, H' a = H a := fun a z => by
    cases q : H a with
    | none => exact absurd q (ho a z)
    | some o => exact e a o q
  cases s with
  | no => exact h
  | dat d => obtain ⟨a, x, b, c⟩ := h; exact ⟨a, x, b, c.mono e.gr ht⟩
  | ml ds => obtain ⟨l, xs, a, b, c, r⟩ := h; exact ⟨l, xs, a, b, e _ _ c, r.mono e.gr ht⟩
  | md ds => obtain ⟨l, xs, a, b, c, r⟩ := h; exact ⟨l, xs, a, b, e _ _ c, r.mono e.gr ht⟩
  | st n => obtain ⟨s, c, a, b, r⟩ := h; exact ⟨s, c, a, b, r.keep (eq s (by rw [a]; exact List.mem_cons_self ..)) (eq c (by rw [a]; exact List.mem_cons_of_mem _ (List.mem_cons_self ..)))⟩
/-- data, and two new things -/
theorem xs_par3 {i j l : Nat} {ta tb tc : TE} {a : D} {s t : Sl} (ha : ED K ta Γ a) (hb : EN K tb Γ s) (hc : EN K tc Γ t) (fi : Free Γ i) (fj : Free (Γ.set i (.dat a)) j) (fl : Free ((Γ.set i (.dat a)).set j s) l)
    (hi : i ∉ pn) (hj : j ∉ pn) (hl : l ∉ pn) (h : P.nx (((Γ.set i (.dat a)).set j s).set l t)) : XS K pn (tPar3 i j l (tCons ta (tCons tb (tCons tc tNil)))) Γ P := fun S O σ H E e hn _ _ _ => by
  refine ha S O σ H E _ fun v1 H1 e1 r1 => hb S O σ H1 (E.ex e1) _ fun v2 os2 H2 e2 ho2 hs2 => ?_
  have E2 := EnvOk.hideN (E.ex e1) e2 ho2
  refine hc _ O σ H2 E2 _ fun v3 os3 H3 e3 ho3 hs3 => ⟨_, _, _, rfl, ?_⟩
  have n1 : Nx K S pn O H σ O H1 (σ.set i (some v1)) (Γ.set i (.dat a)) := (Nx.ofEx E e1).set fi r1 hi
  have n2 := Nx.take (pn := pn) n1.env e2 fj ho2 hs2 hj
  have sub : ∀ x, (T S (ownAt O j os2) x ∨ x ∈ os3) → (T (fun a => S a ∨ a ∈ os2) O x ∨ x ∈ os3) := fun x z => z.imp (fun z => by
    rcases z with z | ⟨k, z⟩
    · exact .inl (.inl z)
    · rcases mem_ownAt z with ⟨_, w⟩ | w
      · exact .inl (.inr w)
      · exact .inr ⟨k, w⟩) id
  have n3 := Nx.take (pn := pn) n2.env e3 fl ho3 (hs3.exT (Ex.refl H3) sub fun a z => (ho3 a z).2.some) hl
  exact hn _ _ _ H3 h ((n1.trans n2).trans n3)
end
end DL
set_option Elab.async false
set_option maxRecDepth 100000
set_option maxHeartbeats 400000
set_option linter.all false
namespace DL
open PySem L2 StX PyProof.Rows PySem.Spec

/-! ### nothing hidden, nothing own -/
abbrev S0 : Addr → Prop := fun _ => False
abbrev O0 : Os := fun _ => []
theorem noT {a : Addr} : ¬ T S0 O0 a := fun z => z.elim id fun ⟨_, w⟩ => absurd w List.not_mem_nil
theorem Rp.top {K : PySem.W.Frag} {S : Addr → Prop} {H : Hp} {v : V} {d : D} (r : Rp K S H v d) : Rp K (T S0 O0) H v d := r.sub fun a z => absurd z noT
theorem RpL.top {K : PySem.W.Frag} {S : Addr → Prop} {H : Hp} {v : List V} {d : List D} (r : RpL K S H v d) : RpL K (T S0 O0) H v d := r.sub fun a z => absurd z noT
/-- the names hold data or anything -/
theorem env_flat {K : PySem.W.Frag} {H : Hp} {σ : L2.St} {Γ : List Sl} (hl : σ.length = Γ.length) (h : ∀ (i : Nat) (s : Sl), Γ[i]? = some s → s = .no ∨ ∃ d x, s = .dat d ∧ σ[i]? = some (some x) ∧ Rp K (T S0 O0) H x d) : EnvOk K S0 O0 H σ Γ := by
  refine ⟨hl, fun i s hs => ?_, fun i j a z => absurd z List.not_mem_nil, fun i a z => absurd z List.not_mem_nil, fun a z => z.elim, fun _ _ => rfl⟩
  rcases h i s hs with rfl | ⟨d, x, rfl, h1, h2⟩
  · rfl
  · exact ⟨rfl, x, h1, h2⟩
/-! ### a dict comprehension over anything that is walked -/
theorem dc_it {J : It} {n : Nat} {G : Hp → Prop} {Y : Nat → Hp → V → Hp → Prop} (w : Walk J n G Y) {g : TG} {tt : TT} {tk tv : TE} {vs : List Nat} {σ : L2.St} {H1 : Hp} {D : Addr} {Qd : Hp → Prop} (Pv : Nat → Hp → Prop) (h0 : Pv 0 (upd H1 D (.dK []))) (hG : ∀ i H, i ≤ n → Pv i H → G H)
    (hs : ∀ i x H H', i < n → Pv i H → Y i H x H' → g x (wipe σ vs) H' fun σ2 H2 => wipe σ2 vs = wipe σ vs ∧ tt σ2 H2 fun b H3 =>
      if b = true then tk σ2 H3 fun y H4 => tv σ2 H4 fun z H5 => ∃ kvs k, y = kV k ∧ H5 D = some (.dK kvs) ∧ kvs.length < sizeLine ∧ Pv (i + 1) (upd H5 D (.dK (putK kvs k z))) else Pv (i + 1) H3) (hd : ∀ H, Pv n H → Qd H) :
    ∃ W : Nat → Nat → Hp → Prop, (∃ m, W 0 m (upd H1 D (.dK []))) ∧ ∀ i m H, W i m H →
      (J.stop i H ∧ Qd H) ∨ (J.go i H ∧ ∃ Nx : Hp → Prop, (∀ H', Nx H' → ∃ m', m' < m ∧ W (i + 1) m' H') ∧ ∀ x H', J.yld i H x H' → g x (wipe σ vs) H' fun σ2 H2 => wipe σ2 vs = wipe σ vs ∧ tt σ2 H2 fun b H3 =>
        if b = true then tk σ2 H3 fun y H4 => tv σ2 H4 fun z H5 => ∃ kvs k, y = kV k ∧ H5 D = some (.dK kvs) ∧ kvs.length < sizeLine ∧ Nx (upd H5 D (.dK (putK kvs k z))) else Nx H3) := by
  refine ⟨fun i m H => i ≤ n ∧ m = n - i ∧ Pv i H, ⟨n, Nat.zero_le _, rfl, h0⟩, fun i m H ⟨le, em, p⟩ => ?_⟩
  subst em
  have q := hG i H le p
  rcases Nat.lt_or_ge i n with lt | ge
  · exact .inr ⟨w.goes i H lt q, Pv (i + 1), fun H' p' => ⟨n - (i + 1), by omega, lt, rfl, p'⟩, fun x H' y => hs i x H H' lt p (w.yields i H x H' lt q y)⟩
  · have e : i = n := by omega
    subst e
    exact .inl ⟨w.stops H q, hd H p⟩
theorem putK_new {kvs : List (Key × V)} {k : Key} {v : V} (h : k ∉ kvs.map (·.1)) : putK kvs k v = kvs ++ [(k, v)] := by
  unfold putK
  rw [if_neg]
  intro z
  obtain ⟨p, hp, e⟩ := List.any_eq_true.mp z
  exact h (List.mem_map.mpr ⟨p, hp, of_decide_eq_true e⟩)
theorem putD_new {kvs : List (Key × D)} {k : Key} {v : D} (h : k ∉ kvs.map (·.1)) : putD kvs k v = kvs ++ [(k, v)] := by
  unfold putD
  rw [if_neg]
  intro z
  obtain ⟨p, hp, e⟩ := List.any_eq_true.mp z
  exact h (List.mem_map.mpr ⟨p, hp, of_decide_eq_true e⟩)
theorem valD_none {es : List (Key × D)} {k : Key} (h : k ∉ es.map (·.1)) : valD es k = none := by
  induction es with
  | nil => rfl
  | cons p r ih =>
    obtain ⟨j, d⟩ := p
    rw [valD_neg (fun z => h (by rw [z]; exact List.mem_cons_self ..))]
    exact ih fun z => h (List.mem_cons_of_mem _ z)
theorem k_tup {X : Cx} (K : PySem.W.Frag) {es : List Expr} {k : Nat} {pos : Pos} {t : TGs} {n : Nat} (hk : X.K = K) (hc : X.calm = true) (h : PGs X es t)
    (hn : (assignEach es X.env).length = n := by rfl) (hst : (assignEach es X.env).findIdx? (·.1) = none := by rfl) : PG X (.Tuple es k pos) (gTup K n t) := by
  subst hk
  exact pg_tup hc h hn hst
theorem use_if0 {K : PySem.W.Frag} {S : Addr → Prop} {O : Os} {σ : L2.St} {H : Hp} {Γ : List Sl} {c : TT} {t u : TS} {D : Ends} (E : EnvOk K S O H σ Γ) (h : ET K c Γ false) (k : ∀ H1, Ex H H1 → u D σ H1) : tIfS c t u D σ H := h S O σ H E _ fun H1 e => by
  rw [if_neg Bool.false_ne_true]
  exact k H1 e
theorem use_ed {K : PySem.W.Frag} {S : Addr → Prop} {O : Os} {σ : L2.St} {H : Hp} {Γ : List Sl} {te : TE} {d : D} {Q : VK} (E : EnvOk K S O H σ Γ) (h : ED K te Γ d) (k : ∀ v H', Ex H H' → Rp K (T S O) H' v d → Q v H') : te σ H Q := h S O σ H E Q k
end DL
set_option Elab.async false
set_option maxRecDepth 100000
set_option maxHeartbeats 400000
set_option linter.all false
namespace DL
open PySem L2 StX PyProof.Rows PySem.Spec

section
variable {K : PySem.W.Frag} {Γ : List Sl}
/-! ### dict(pairs) -/
def pairD (kv : Key × D) : D := .tup [keyD kv.1, kv.2]
theorem RpL.pairs {T : Addr → Prop} {H : Hp} : ∀ {es : List (Key × D)} {xs : List V}, RpL K T H xs (es.map pairD) → ∃ (ps : List Addr) (kvs : List (Key × V)), xs = ps.map V.ref ∧ Paired (fun p kv => SqT K H p [kV kv.1, kv.2]) ps kvs ∧ RpD K T H kvs es
  | [], _, h => by
    cases h
    exact ⟨[], [], rfl, .nil, .nil⟩
  | (k, d) :: es, _, h => by
    rw [List.map_cons] at h
    cases h with
    | cons a b =>
      obtain ⟨ps, kvs, rfl, h2, h3⟩ := RpL.pairs b
      unfold pairD at a
      cases a with
      | tup hs hr =>
        cases hr with
        | cons r1 hr =>
        cases hr with
        | cons r2 hr =>
        cases hr
        have e := r1.key
        subst e
        exact ⟨_ :: ps, (k, _) :: kvs, rfl, .cons hs h2, .cons r2 h3⟩
theorem RpD.keys {T : Addr → Prop} {H : Hp} : ∀ {kvs : List (Key × V)} {es : List (Key × D)}, RpD K T H kvs es → kvs.map (·.1) = es.map (·.1)
  | _, _, .nil => rfl
  | _, _, .cons _ b => by rw [List.map_cons, List.map_cons, RpD.keys b]
theorem merge_new : ∀ (more acc : List (Key × V)), ((acc ++ more).map (·.1)).Nodup → mergeK acc more = acc ++ more
  | [], acc, _ => by rw [List.append_nil]; rfl
  | (k, v) :: more, acc, h => by
    have e : mergeK acc ((k, v) :: more) = mergeK (putK acc k v) more := rfl
    rw [e, putK_new]
    · rw [merge_new more (acc ++ [(k, v)]) (by rw [List.append_assoc]; exact h), List.append_assoc]
      rfl
    · intro z
      rw [List.map_append, List.map_cons, List.nodup_append] at h
      exact h.2.2 k z k (List.mem_cons_self ..) rfl
theorem vc_dict {es : List (Key × D)} (hn : (es.map (·.1)).Nodup) : VC K (rDictU K) [.lst (es.map pairD)] (.dic es) := fun T H xs t ra Q q => by
  cases ra with
  | cons a b =>
    cases b
    cases a with
    | lst n hl r =>
      obtain ⟨ps, kvs, rfl, h2, h3⟩ := r.pairs
      refine .inl ⟨_, ps, kvs, rfl, SqL.of hl, h2, fun p hp => ?_⟩
      rw [merge_new kvs [] (by rw [List.nil_append, h3.keys]; exact hn), List.nil_append]
      exact q _ _ (Ex.new hp) (.dic (fun z => t p z hp) (.inl upd_same) (h3.ex (Ex.new hp)))
/-! ### xs.index(x), texts -/
theorem ed_index {te ta : TE} {ws : List Str} {z : Str} (h : ED K te Γ (.lst (ws.map D.str))) (hz : ED K ta Γ (.str z)) (hm : z ∈ ws) : ED K (tBM K "list" (rIndex K) te (tCons ta tNil)) Γ (.int (ws.idxOf z : Nat)) := fun S O σ H E Q q => h S O σ H E _ fun v H1 e1 r1 => by
  cases r1 with
  | lst n hl r =>
    have e := r.strs
    subst e
    refine ⟨.inl ⟨rfl, _, SqL.of hl⟩, hz S O σ H1 (E.ex e1) _ fun w H2 e2 r2 => ?_⟩
    cases r2
    have hi := List.idxOf_lt_length_of_mem hm
    refine ⟨_, ws.map V.str, .str z, ws.idxOf z, .str z, rfl, rfl, SqL.of (e2 _ _ hl), rfl, ?_, ?_, ?_, fun m z' hlt hm' => ?_, q _ H2 (e1.trans e2) (.int _)⟩
    · rw [List.all_map]
      exact List.all_eq_true.mpr fun _ _ => rfl
    · rw [List.getElem?_map, List.getElem?_eq_getElem hi, List.getElem_idxOf]
      rfl
    · show (z == z) = true
      exact beq_self_eq_true z
    · rw [List.getElem?_map] at hm'
      cases hw : ws[m]? with
      | none => rw [hw] at hm'; cases hm'
      | some y =>
        rw [hw] at hm'
        cases hm'
        show (y == z) = false
        refine beq_eq_false_iff_ne.mpr fun e => ?_
        subst e
        obtain ⟨hl2, he⟩ := List.getElem?_eq_some_iff.mp hw
        have := List.not_of_lt_findIdx (p := fun x => x == y) (xs := ws) (i := m) hlt
        rw [he] at this
        simp at this
end
end DL
set_option Elab.async false
set_option maxRecDepth 100000
set_option maxHeartbeats 400000
set_option linter.all false
namespace DL
open PySem L2 StX PyProof.Rows PySem.Spec

/-! ### a def whose promise is its own -/
theorem cal_raw {P : Program} {w : World} {K : PySem.W.Frag} {mg : Str → Option Value} {base : Heap} {k : Nat} {x : Str} {ps : List Str} {sp : Sp} {st : Stmt} {N : List Str} (F : Def K mg x st) (S : FnScope N ps (defScope st)) (hb : BindsH x st ps) (hl : ∀ vs H Q E, sp vs H Q E → vs.length = ps.length)
    (body : ∀ (f : Addr) (cdv : Value) (A : Around) (outer : List Env) (s : Shared) (H : Hp) (E : XK), Room k (A.deeper (envOfC x (defScope st) s.heap.objs.size f cdv)) →
      ∃ t, PSs (cxOf CX0 P w K mg base N x (defScope st) f cdv A outer s H E).nox (defBody st) t ∧ ∀ (H : Hp) (vs : List V) (Q : VK) (E : XK), sp vs H Q E → t { nx := fun _ H' => Q .non H', rt := Q } (start N vs) H) :
    Cal P w K mg base (k + 1) x ps sp := by
  obtain ⟨f, fd, F, hm⟩ := F.ex
  refine ⟨f, fd, F.ok S hl (fun cdv A outer s H vs Q E hr h => ?_), hm, F.kp, F.bindsN hb⟩
  obtain ⟨t, ht, hx⟩ := body f cdv A outer s H E hr
  exact ⟨t, ht.nox, hx H vs Q E h⟩
theorem use_et {K : PySem.W.Frag} {S : Addr → Prop} {O : Os} {σ : L2.St} {H : Hp} {Γ : List Sl} {c : TT} {b : Bool} {Q : Bool → Hp → Prop} (E : EnvOk K S O H σ Γ) (h : ET K c Γ b) (k : ∀ H1, Ex H H1 → Q b H1) : c σ H Q := h S O σ H E Q k
theorem use_if1 {K : PySem.W.Frag} {S : Addr → Prop} {O : Os} {σ : L2.St} {H : Hp} {Γ : List Sl} {c : TT} {t u : TS} {D : Ends} (E : EnvOk K S O H σ Γ) (h : ET K c Γ true) (k : ∀ H1, Ex H H1 → t D σ H1) : tIfS c t u D σ H := h S O σ H E _ fun H1 e => by
  rw [if_pos rfl]
  exact k H1 e
/-! ### lists of ints are compared -/
theorem plL_ints : ∀ ns : List Int, D.plL (ns.map D.int) = true ∧ PyData.canLayAll0 (D.pyL (ns.map D.int)) = true ∧ PyData.depthAll (D.pyL (ns.map D.int)) = 0
  | [] => ⟨by rw [List.map_nil, D.plL], by rw [List.map_nil, D.pyL, PyData.canLayAll0], by rw [List.map_nil, D.pyL, PyData.depthAll]⟩
  | n :: r => by
    obtain ⟨h1, h2, h3⟩ := plL_ints r
    refine ⟨by rw [List.map_cons, D.plL, h1]; rfl, by rw [List.map_cons, D.pyL, PyData.canLayAll0, h2]; rfl, by rw [List.map_cons, D.pyL, PyData.depthAll, h3]; rfl⟩
theorem ok_ints (ns : List Int) : (D.lst (ns.map D.int)).ok = true := by
  obtain ⟨h1, h2, h3⟩ := plL_ints ns
  unfold D.ok SeqAt.shaped
  rw [D.pl, D.py, PyData.canLay0, h1, h2, PyData.depth, h3]
  rfl
theorem eqD_nil (ds : List D) : eqD (.lst ds) (.lst []) = ds.isEmpty := by
  unfold eqD
  cases ds with
  | nil => rw [D.py, D.pyL, PyData.eqv, PyData.eqvAll]; rfl
  | cons d ds => rw [D.py, D.py, D.pyL, D.pyL, PyData.eqv, PyData.eqvAll]; rfl

/-! ### the spring of draws, as the text's own def changes it -/
def stD (ns : List Int) (x1 x2 x3 : Int) : D := .lst [.lst (ns.map D.int), .int x1, .int x2, .int x3]
structure DSt (s c : Addr) (many : Int) (H0 : Hp) (ns : List Int) (x1 x2 x3 : Int) (σ : L2.St) (H : Hp) : Prop where
  ne : s ≠ c
  l5 : σ.length = 5
  g0 : σ[0]? = some (some (.ref s))
  g1 : σ[1]? = some (some (.int many))
  hs : H s = some (.lst [.ref c, .int x1, .int x2, .int x3])
  hc : H c = some (.lst (ns.map V.int))
  fr : ∀ a o, H0 a = some o → a ≠ s → a ≠ c → H a = some o
/-- a name that holds an int, or whatever -/
def Hs (σ : L2.St) (i : Nat) : Option Int → Prop
  | none => True
  | some n => σ[i]? = some (some (.int n))
def slI : Option Int → Sl
  | none => .no
  | some n => .dat (.int n)
section
variable {K : PySem.W.Frag} {s c : Addr} {many : Int} {H0 H H' : Hp} {ns : List Int} {x1 x2 x3 : Int} {σ : L2.St}
theorem DSt.ex (h : DSt s c many H0 ns x1 x2 x3 σ H) (e : Ex H H') : DSt s c many H0 ns x1 x2 x3 σ H' := ⟨h.ne, h.l5, h.g0, h.g1, e _ _ h.hs, e _ _ h.hc, fun a o q n m => e _ _ (h.fr a o q n m)⟩
theorem DSt.env (h : DSt s c many H0 ns x1 x2 x3 σ H) (a b d : Option Int) (ha : Hs σ 2 a) (hb : Hs σ 3 b) (hd : Hs σ 4 d) : EnvOk K S0 O0 H σ [.dat (stD ns x1 x2 x3), .dat (.int many), slI a, slI b, slI d] := by
  have one : ∀ (i : Nat) (o : Option Int), Hs σ i o → slI o = .no ∨ ∃ d x, slI o = .dat d ∧ σ[i]? = some (some x) ∧ Rp K (T S0 O0) H x d := fun i o h => by
    cases o with
    | none => exact .inl rfl
    | some n => exact .inr ⟨_, _, rfl, h, .int n⟩
  refine env_flat h.l5 fun i t q => ?_
  match i, q with
  | 0, q => cases q; exact .inr ⟨_, _, rfl, h.g0, .lst noT h.hs (.cons (.lst noT h.hc (RpL.ofInts ns)) (.cons (.int _) (.cons (.int _) (.cons (.int _) .nil))))⟩
  | 1, q => cases q; exact .inr ⟨_, _, rfl, h.g1, .int _⟩
  | 2, q => cases q; exact one 2 a ha
  | 3, q => cases q; exact one 3 b hb
  | 4, q => cases q; exact one 4 d hd
  | n + 5, q => simp at q
theorem DSt.put (h : DSt s c many H0 ns x1 x2 x3 σ H) {i : Nat} {v : Int} (hi : 2 ≤ i) : DSt s c many H0 ns x1 x2 x3 (σ.set i (some (.int v))) H :=
  ⟨h.ne, by rw [List.length_set]; exact h.l5, by rw [List.getElem?_set_ne (by omega)]; exact h.g0, by rw [List.getElem?_set_ne (by omega)]; exact h.g1, h.hs, h.hc, h.fr⟩
theorem DSt.put_at (h : DSt s c many H0 ns x1 x2 x3 σ H) {i : Nat} {v : Int} (hi : i < 5) : Hs (σ.set i (some (.int v))) i (some v) := List.getElem?_set_self (by rw [h.l5]; exact hi)
theorem nat_ix {n j : Nat} (h : j < n) : ixN n (j : Int) = some j := by
  unfold ixN
  rw [if_pos (by omega), if_pos (by omega)]
  rfl
/-- the list itself is written -/
theorem DSt.write (h : DSt s c many H0 ns x1 x2 x3 σ H) (y1 y2 y3 : Int) : DSt s c many H0 ns y1 y2 y3 σ (upd H s (.lst [.ref c, .int y1, .int y2, .int y3])) :=
  ⟨h.ne, h.l5, h.g0, h.g1, upd_same, by rw [upd_ne h.ne.symm]; exact h.hc, fun a o q n m => by rw [upd_ne n]; exact h.fr a o q n m⟩
theorem DSt.set {te : TE} {D : Ends} {v y1 y2 y3 : Int} {k : Nat} (h : DSt s c many H0 ns x1 x2 x3 σ H) {Γ : List Sl} (E : EnvOk K S0 O0 H σ Γ) (he : ED K te Γ (.int v)) (hk : k < 4) (hy : ([.ref c, .int x1, .int x2, .int x3] : List V).set k (.int v) = [.ref c, .int y1, .int y2, .int y3])
    (q : ∀ H', DSt s c many H0 ns y1 y2 y3 σ H' → D.nx σ H') : tAsg te (gSub (tVar 0) (tC (.int (k : Nat))) rSetL) D σ H := by
  refine use_ed E he fun w H1 e1 r1 => ?_
  cases r1
  have h1 := h.ex e1
  refine ⟨.ref s, h1.g0, s, _, k, k, rfl, rfl, h1.hs, nat_ix hk, q _ ?_⟩
  rw [hy]
  exact h1.write y1 y2 y3
/-- cells.pop(0) -/
theorem DSt.pop {z : Int} {Q : VK} (h : DSt s c many H0 (z :: ns) x1 x2 x3 σ H) (hn : ns.length ≤ 63) (q : ∀ H', DSt s c many H0 ns x1 x2 x3 σ H' → Q (.int z) H') : tBM K "list" rPopAt (tOp (rIxU K) (tVar 0) (tC (.int 0))) (tCons (tC (.int 0)) tNil) σ H Q := by
  refine ⟨.ref s, h.g0, .inl (.inl ⟨s, _, 0, .ref c, rfl, rfl, SqL.of h.hs, atI_nat (j := 0) rfl, .inl ⟨rfl, _, SqL.of h.hc⟩, c, _, 0, 0, .int z, rfl, rfl, h.hc, by decide, by decide, ?_, rfl, q _ ?_⟩)⟩
  · rw [seqIndex_of (by omega) (by simp)]
    rfl
  · exact ⟨h.ne, h.l5, h.g0, h.g1, by rw [upd_ne h.ne]; exact h.hs, upd_same, fun a o q n m => by rw [upd_ne m]; exact h.fr a o q n m⟩
theorem ed_st (h : True) {Γ : List Sl} {k : Nat} {d : D} (h0 : Γ[0]? = some (.dat (stD ns x1 x2 x3))) (hk : [.lst (ns.map D.int), .int x1, .int x2, .int x3][k]? = some d) : ED K (tOp (rIxU K) (tVar 0) (tC (.int (k : Nat)))) Γ d :=
  ed_op (ed_var h0) (ed_int _) (vr_ixL (atI_nat hk))
end
end DL
set_option Elab.async false
set_option maxRecDepth 100000
set_option maxHeartbeats 400000
set_option linter.all false
namespace DL
open PySem L2 StX PyProof.Rows PySem.Spec
section
variable {K : PySem.W.Frag} {pn : List Nat} {Γ : List Sl} {P : Po}
/-- targets laid from what changes the own objects -/
theorem xs_asgGX {te : TE} {g : TG} {vs : List Nat} {R : List Sl → D → Prop} (he : XE K te Γ R) (hp : ∀ i ∈ pn, i ∉ vs) (h : ∀ Γ1 d, R Γ1 d → ∃ Γ2, GD K g vs Γ1 d Γ2 ∧ P.nx Γ2) : XS K pn (tAsg te g) Γ P := fun S O σ H E e hn _ _ _ => he S O σ H E _ fun Γ1 v d H1 q E1 f1 r1 => by
  obtain ⟨Γ2, hg, hx⟩ := h Γ1 d q
  exact hg S O σ H1 v E1 r1 _ fun σ' E' k _ => hn _ O _ H1 hx ⟨E', f1, fun i a z => .inl ⟨i, z⟩, fun j hj => ⟨k j (hp j hj), rfl⟩⟩
theorem eqD_bl (i j : Bool) : eqD (.bl i) (.bl j) = decide (i = j) := by
  unfold eqD
  rw [D.py, D.py, PyData.eqv]
  cases i <;> cases j <;> rfl
/-! ### what is walked comes of an expression that changes the own objects -/
theorem it_value {S : Addr → Prop} {O : Os} {σ : L2.St} {H : Hp} {v : V} {ds : List D} (E : EnvOk K S O H σ Γ) (r : Rp K (T S O) H v (.lst ds)) : ITFat K Fr (iList K (tC v)) ds S O σ H := fun R q => by
  cases r with
  | @lst a xs _ n hs hl =>
    refine ⟨a, rfl, ⟨xs, SqL.of hs⟩, q (Itl K a) H _ _ (Ex.refl H) (by rw [← hl.length]; exact walk_list (xs := xs)) (fun H2 f => SqL.of ((E.gr f).ls _ _ n hs)) fun i H2 x H3 hi f y => ?_⟩
    obtain ⟨rfl, hx⟩ := y
    obtain ⟨d, h1, h2⟩ := hl.getV hx
    exact ⟨d, h1, Ex.refl _, fun T' ht hn g => ((h2.hide (S' := fun a => T S O a ∨ T' a) fun a z => z.elim Or.inl (ht a)).mono g fun _ z => z).sub fun a z => .inr z⟩
theorem xe_lcI {α : Type} {te t2 : TE} {g : TG} {tt : TT} {vs : List Nat} {M R : List Sl → D → Prop} (enc : α → D) (r : α → Option D) (h : XE K te Γ M)
    (k : ∀ Γ1 d, M Γ1 d → ∃ xs : List α, d = .lst (xs.map enc) ∧ (∀ i ∈ vs, Free Γ1 i) ∧ xs.length ≤ sizeLine ∧ R Γ1 (.lst (xs.filterMap r)) ∧
      ∀ x ∈ xs, ∃ Γ2, GD K g vs (wipeΓ Γ1 vs) (enc x) Γ2 ∧ ((r x = none ∧ ET K tt Γ2 false) ∨ ∃ e, r x = some e ∧ ET K tt Γ2 true ∧ ED K t2 Γ2 e)) : XE K (tLc (iList K te) g tt t2 vs) Γ R := fun S O σ H E Q q =>
  h S O σ H E _ fun Γ1 v d H1 m E1 f1 r1 => by
    obtain ⟨xs, rfl, hf, hz, hR, hs⟩ := k Γ1 d m
    have hw : ITFat K (fun _ => Ex) (iList K (tC v)) (xs.map enc) S O σ H1 := fun R q => it_value E1 r1 R fun J H1 G Y e w g y => q J H1 G Y e w (fun H2 f => g H2 f.fr) fun i H2 x H3 hi f => y i H2 x H3 hi f.fr
    exact lc_at E1 enc r hw hf hz hs _ fun v2 os H2 e2 ho hs2 => by
      obtain ⟨l, ys, hl, hv, hL, hr⟩ := hs2
      cases hv
      refine q Γ1 _ _ H2 hR (E1.ex e2) (f1.trans e2.fr) (.lst (fun z => ?_) hL (hr.sub fun a z => .inl z))
      exact E1.tin _ z (ho l (by rw [hl]; exact List.mem_cons_self ..)).1
theorem xs_forX {te : TE} {g : TG} {tb : TS} {vs : List Nat} {M : List Sl → D → Prop} (h : XE K te Γ M) (hp : ∀ i ∈ pn, i ∉ vs)
    (k : ∀ Γ1 d, M Γ1 d → ∃ (ds : List D) (Iv : Nat → List Sl → Prop), d = .lst ds ∧ Iv 0 Γ1 ∧ (∀ k d Γ1, ds[k]? = some d → Iv k Γ1 → ∃ Γ2, GD K g vs Γ1 d Γ2 ∧ XS K pn tb Γ2 { nx := Iv (k + 1), rt := P.rt, bk := P.nx, ct := Iv (k + 1) }) ∧
      ∀ Γ1, Iv ds.length Γ1 → P.nx Γ1) : XS K pn (tFor (iList K te) g tb) Γ P := fun S O σ H E e hn hr _ _ => h S O σ H E _ fun Γ1 v d H1 m E1 f1 r1 => by
  obtain ⟨ds, Iv, rfl, h0, hs, hd⟩ := k Γ1 d m
  have n1 : Nx K S pn O H σ O H1 σ Γ1 := Nx.ofFr E1 f1
  exact for_at (P := P) E1 Iv (it_value E1 r1) h0 hp hs hd e (fun Γ2 O2 σ2 H2 q n2 => hn Γ2 O2 σ2 H2 q (n1.trans n2)) (fun Γ2 d2 O2 σ2 v2 H2 q n2 r2 => hr Γ2 d2 O2 σ2 v2 H2 q (n1.trans n2) r2)
theorem xe_extendX {i : Nat} {te : TE} {ds0 : List D} {M R : List Sl → D → Prop} (h : Γ[i]? = some (.ml ds0)) (ha : XE K te Γ M)
    (hr : ∀ g a, M g a → ∃ ds es, g[i]? = some (.ml ds) ∧ a = .lst es ∧ ds.length + es.length ≤ sizeLine ∧ R (g.set i (.ml (ds ++ es))) .non) : XE K (tBM K "list" rExtend (tVar i) (tCons te tNil)) Γ R :=
  xe_methX h (xb_xe (R := fun g as => ∃ a, as = [a] ∧ M g a) ha fun g a m => xb_nil ⟨a, rfl, m⟩) rfl fun g as ⟨a, e, m⟩ => by
    subst e
    obtain ⟨ds, es, hg, rfl, hz, hR⟩ := hr g a m
    refine ⟨ds, hg, fun U H l xs vs hl rx rv _ Q q => ?_⟩
    cases rv with
    | cons a b =>
      cases b
      cases a with
      | @lst b ys _ n hb hr2 => exact ⟨l, b, xs, ys, rfl, rfl, hl, hb, by rw [rx.length, hr2.length]; exact hz, q _ _ _ _ (rx.append hr2) .non hR⟩
/-- a comprehension whose source and whose items change the own objects -/
theorem xe_lcXX {te t2 : TE} {g : TG} {vs : List Nat} {M R : List Sl → D → Prop} (h : XE K te Γ M)
    (k : ∀ Γ1 d, M Γ1 d → ∃ (ds : List D) (Iv : Nat → List Sl → List D → Prop), d = .lst ds ∧ (∀ g k acc, Iv k g acc → ∀ i ∈ vs, g[i]? = some .no) ∧ ds.length ≤ sizeLine ∧ Iv 0 Γ1 [] ∧
      (∀ k d Γ1 acc, ds[k]? = some d → Iv k Γ1 acc → acc.length = k → ∃ Γ2, GD K g vs Γ1 d Γ2 ∧ XE K t2 Γ2 fun Γ3 e => (∀ i ∈ vs, Free Γ3 i) ∧ Iv (k + 1) (wipeΓ Γ3 vs) (acc ++ [e])) ∧
      ∀ Γ1 acc, Iv ds.length Γ1 acc → R Γ1 (.lst acc)) : XE K (tLc (iList K te) g tYes t2 vs) Γ R := fun S O σ H E Q q => h S O σ H E _ fun Γ1 v d H1 m E1 f1 r1 => by
  obtain ⟨ds, Iv, rfl, hf, hz, h0, hs, hd⟩ := k Γ1 d m
  exact xlc_at E1 Iv (it_value E1 r1) hf hz h0 hs hd _ fun Γ2 v2 d2 H2 hR E2 f2 r2 => q Γ2 v2 d2 H2 hR E2 (f1.trans f2) r2
/-- a slice of what changes the own objects -/
theorem xe_sl {te : TE} {tl th : TO} {rr : V → Option Int → Option Int → Hp → VK → Prop} {lo hi : Option Int} {M R : List Sl → D → Prop} (h : XE K te Γ M) (hl : ∀ g, EO K tl g lo) (hh : ∀ g, EO K th g hi) (k : ∀ g d, M g d → ∃ c, VS K rr d lo hi c ∧ R g c) : XE K (tSl rr te tl th) Γ R := fun S O σ H E Q q =>
  h S O σ H E _ fun Γ1 v d H1 m E1 f1 r1 => hl Γ1 S O σ H1 E1 _ fun H2 e2 => hh Γ1 S O σ H2 (E1.ex e2) _ fun H3 e3 => by
    obtain ⟨c, hc, hR⟩ := k Γ1 d m
    exact hc _ H3 v ((E1.ex e2).ex e3).tin ((r1.ex e2).ex e3) Q fun v4 H4 e4 r4 => q Γ1 v4 c H4 hR (((E1.ex e2).ex e3).ex e4) (((f1.trans e2.fr).trans e3.fr).trans e4.fr) r4
/-! ### tests that change the own objects -/
theorem xt_test {te : TE} {R : List Sl → Bool → Prop} (h : XE K te Γ fun g d => ∃ b, d = .bl b ∧ R g b) : XT K (tTest te) Γ R := fun S O σ H E Q q => h S O σ H E _ fun Γ1 v d H1 ⟨b, e, hR⟩ E1 f1 r1 => by
  subst e
  cases r1
  exact ⟨b, rfl, q Γ1 b H1 hR E1 f1⟩
theorem xt_or0 {tt tu : TT} {R : List Sl → Bool → Prop} (h1 : ET K tt Γ false) (h2 : XT K tu Γ R) : XT K (tOr tt tu) Γ R := fun S O σ H E Q q => h1 S O σ H E _ fun H1 e1 => h2 S O σ H1 (E.ex e1) Q fun Γ2 b H2 hR E2 f2 => q Γ2 b H2 hR E2 (e1.fr.trans f2)
/-- if c: .. where c changes the own objects and does not hold -/
theorem xs_skipX {c : TT} {t v : TS} {M : List Sl → Prop} (hc : XT K c Γ fun g b => b = false ∧ M g) (h : ∀ g, M g → XS K pn v g P) : XS K pn (tSeq (tIfS c t tNext) v) Γ P := fun S O σ H E e hn hr hb hct => hc S O σ H E _ fun Γ1 b H1 ⟨hb0, m⟩ E1 f1 => by
  subst hb0
  rw [if_neg Bool.false_ne_true]
  have n1 : Nx K S pn O H σ O H1 σ Γ1 := Nx.ofFr E1 f1
  exact h Γ1 m S O σ H1 E1 e (fun Γ2 O2 σ2 H2 q n2 => hn Γ2 O2 σ2 H2 q (n1.trans n2)) (fun Γ2 d O2 σ2 v H2 q n2 r2 => hr Γ2 d O2 σ2 v H2 q (n1.trans n2) r2) (fun Γ2 O2 σ2 H2 q n2 => hb Γ2 O2 σ2 H2 q (n1.trans n2)) (fun Γ2 O2 σ2 H2 q n2 => hct Γ2 O2 σ2 H2 q (n1.trans n2))
/-! ### sorted ints -/
theorem sorted_same {ns ns' : List Int} (hp : ns'.Perm ns) (h' : ns'.Pairwise (· ≤ ·)) (h : ns.Pairwise (· ≤ ·)) : ns' = ns := by
  induction ns' generalizing ns with
  | nil => exact (List.Perm.nil_eq hp).symm ▸ rfl
  | cons a r ih =>
    cases ns with
    | nil => exact absurd hp.length_eq (by simp)
    | cons b s =>
      obtain ⟨a1, a2⟩ := List.pairwise_cons.mp h'
      obtain ⟨b1, b2⟩ := List.pairwise_cons.mp h
      have hab : a = b := by
        have ma : a ∈ b :: s := hp.mem_iff.mp (List.mem_cons_self ..)
        have mb : b ∈ a :: r := hp.mem_iff.mpr (List.mem_cons_self ..)
        have x1 : b ≤ a := by
          rcases List.mem_cons.mp ma with e | e
          · omega
          · exact b1 a e
        have x2 : a ≤ b := by
          rcases List.mem_cons.mp mb with e | e
          · omega
          · exact a1 b e
        omega
      subst hab
      rw [ih ((List.perm_cons a).mp hp) a2 b2]
theorem ed_sorted {te : TE} {ns : List Int} (h : ED K te Γ (.lst (ns.map D.int))) (hs : ns.Pairwise (· ≤ ·)) : ED K (tCB (rSortedI K) (tCons te tNil)) Γ (.lst (ns.map D.int)) := fun S O σ H E Q q => h S O σ H E _ fun v H1 e1 r1 => by
  cases r1 with
  | lst n hl r =>
    have e := r.ints
    subst e
    refine ⟨_, ns, rfl, SqL.of hl, fun ns' p hp hw hn => ?_⟩
    rw [sorted_same hp hw hs]
    exact q _ _ (e1.trans (Ex.new hn)) (.lst ((E.ex e1).tfresh hn) upd_same (RpL.ofInts ns))
theorem k_sortedI {X : Cx} (K : PySem.W.Frag) (h : X.K = K) : CallR X (.builtin "sorted") (rSortedI K) := by subst h; exact cr_sortedI
end
theorem perm_map_inv {α β : Type} (f : α → β) {L M : List β} (h : L.Perm M) : ∀ {zs : List α}, M = zs.map f → ∃ zs' : List α, L = zs'.map f ∧ zs'.Perm zs := by
  induction h with
  | nil =>
    intro zs e
    cases zs with
    | nil => exact ⟨[], rfl, List.Perm.refl _⟩
    | cons a b => cases e
  | cons x _ ih =>
    intro zs e
    cases zs with
    | nil => cases e
    | cons z zs =>
      obtain ⟨e1, e2⟩ := List.cons.inj e
      obtain ⟨zs', h1, h2⟩ := ih e2
      exact ⟨z :: zs', by rw [h1, e1]; rfl, h2.cons z⟩
  | swap x y l =>
    intro zs e
    cases zs with
    | nil => cases e
    | cons a zs =>
      cases zs with
      | nil => cases e
      | cons b zs =>
        obtain ⟨e1, e2⟩ := List.cons.inj e
        obtain ⟨e3, e4⟩ := List.cons.inj e2
        exact ⟨b :: a :: zs, by rw [e1, e3, e4]; rfl, List.Perm.swap a b zs⟩
  | trans _ _ ih1 ih2 =>
    intro zs e
    obtain ⟨z2, h1, h2⟩ := ih2 e
    obtain ⟨z1, h3, h4⟩ := ih1 h1
    exact ⟨z1, h3, h4.trans h2⟩
end DL
set_option Elab.async false
set_option maxRecDepth 100000
set_option maxHeartbeats 400000
set_option linter.all false
namespace K29
open PySem L2 DL
/-! ### words by weight -/
def arits : List (Str × Nat) := [("a", 0), ("b", 0), ("f", 1), ("g", 2)]
def rowsF (f : Int → List W) : Nat → Int → List (List W)
  | 0, w => if w = 0 then [[]] else []
  | m + 1, w => (((List.range (w - 1).toNat).map fun (i : Nat) => (1 + (i : Int))).flatMap fun first => (f first).flatMap fun x => (rowsF f m (w - first)).map (x :: ·)) ++ (if m = 0 ∧ 0 < w then (f w).map (fun x => [x]) else [])
def ofF (v : Str → Int) : Nat → Int → List W
  | 0, _ => []
  | t + 1, w => arits.flatMap fun p => (rowsF (ofF v t) p.2 (w - v p.1)).map (W.app p.1)
def vv (a b f g : Int) (z : Str) : Int := if z = "a" then a else if z = "b" then b else if z = "f" then f else g
def G (v : Str → Int) (w : Int) : List W := ofF v 5 w
theorem G_step0 : ∀ a ∈ [(1 : Int), 2], ∀ b ∈ [(1 : Int), 2], ∀ f ∈ [(1 : Int), 2], ∀ g ∈ [(1 : Int), 2], ∀ w ∈ [(1 : Int), 2, 3, 4], G (vv a b f g) w = arits.flatMap fun p => (rowsF (G (vv a b f g)) p.2 (w - vv a b f g p.1)).map (W.app p.1) := by decide +kernel
theorem rowsF_low (f : Int → List W) : ∀ (m : Nat) (w : Int), w ≤ 0 → (rowsF f m w).length ≤ 1
  | 0, w, _ => by
    rw [rowsF]
    split <;> simp
  | m + 1, w, h => by
    rw [rowsF, if_neg (by omega), show (w - 1).toNat = 0 by omega]
    simp
theorem G_len0 : ∀ a ∈ [(1 : Int), 2], ∀ b ∈ [(1 : Int), 2], ∀ f ∈ [(1 : Int), 2], ∀ g ∈ [(1 : Int), 2], ∀ w ∈ [(1 : Int), 2, 3, 4], (G (vv a b f g) w).length ≤ 1000 ∧ ∀ m ∈ [0, 1, 2], (rowsF (G (vv a b f g)) m w).length ≤ 1000 := by decide +kernel
def allW (v : Str → Int) : List W := G v 1 ++ G v 2 ++ G v 3 ++ G v 4
theorem G_all0 : ∀ a ∈ [(1 : Int), 2], ∀ b ∈ [(1 : Int), 2], ∀ f ∈ [(1 : Int), 2], ∀ g ∈ [(1 : Int), 2], (allW (vv a b f g)).Nodup ∧ (allW (vv a b f g)).length ≤ 1000 ∧ (allW (vv a b f g)).isEmpty = false ∧ (allW (vv a b f g)).all (okW 4) = true := by decide +kernel
theorem ofF_congr {v v' : Str → Int} (h : ∀ p ∈ arits, v p.1 = v' p.1) : ∀ t, ofF v t = ofF v' t
  | 0 => rfl
  | t + 1 => by
    funext w
    rw [ofF, ofF, ofF_congr h t]
    unfold List.flatMap
    congr 1
    exact List.map_congr_left fun p hp => by rw [h p hp]
structure VOk (v : Str → Int) : Prop where
  pos : ∀ p ∈ arits, v p.1 = 1 ∨ v p.1 = 2
  step : ∀ w : Int, 1 ≤ w → w ≤ 4 → G v w = arits.flatMap fun p => (rowsF (G v) p.2 (w - v p.1)).map (W.app p.1)
  glen : ∀ w : Int, 1 ≤ w → w ≤ 4 → (G v w).length ≤ 1000
  len : ∀ (m : Nat) (w : Int), m ≤ 2 → w ≤ 4 → (rowsF (G v) m w).length ≤ 1000
  nd : (allW v).Nodup
  al : (allW v).length ≤ 1000
  ne : allW v ≠ []
  ok : ∀ x ∈ allW v, okW 4 x = true
theorem in12 {a : Int} (h : a = 1 ∨ a = 2) : a ∈ [(1 : Int), 2] := by
  rcases h with rfl | rfl <;> simp
theorem in14 {w : Int} (h : 1 ≤ w) (h2 : w ≤ 4) : w ∈ [(1 : Int), 2, 3, 4] := by
  have : w = 1 ∨ w = 2 ∨ w = 3 ∨ w = 4 := by omega
  rcases this with rfl | rfl | rfl | rfl <;> simp
theorem vok_vv {a b f g : Int} (ha : a = 1 ∨ a = 2) (hb : b = 1 ∨ b = 2) (hf : f = 1 ∨ f = 2) (hg : g = 1 ∨ g = 2) : VOk (vv a b f g) := by
  have A := G_all0 a (in12 ha) b (in12 hb) f (in12 hf) g (in12 hg)
  have L := G_len0 a (in12 ha) b (in12 hb) f (in12 hf) g (in12 hg)
  refine ⟨fun p hp => ?_, fun w h1 h2 => G_step0 a (in12 ha) b (in12 hb) f (in12 hf) g (in12 hg) w (in14 h1 h2), fun w h1 h2 => (L w (in14 h1 h2)).1, fun m w hm hw => ?_, A.1, A.2.1, fun z => (by have h := A.2.2.1; rw [z] at h; cases h), fun x hx => List.all_eq_true.mp A.2.2.2 x hx⟩
  · rcases (by simpa [arits] using hp : p = (("a" : Str), 0) ∨ p = (("b" : Str), 0) ∨ p = (("f" : Str), 1) ∨ p = (("g" : Str), 2)) with rfl | rfl | rfl | rfl
    · exact ha
    · exact hb
    · exact hf
    · exact hg
  · by_cases h : w ≤ 0
    · have := rowsF_low (G (vv a b f g)) m w h
      omega
    · refine (L w (in14 (by omega) hw)).2 m ?_
      have : m = 0 ∨ m = 1 ∨ m = 2 := by omega
      rcases this with rfl | rfl | rfl <;> simp
theorem vok_congr {v v' : Str → Int} (h : ∀ p ∈ arits, v p.1 = v' p.1) (V : VOk v') : VOk v := by
  have e : G v = G v' := by
    funext w
    unfold G
    rw [ofF_congr h]
  have ea : allW v = allW v' := by unfold allW; rw [e]
  refine ⟨fun p hp => by rw [h p hp]; exact V.pos p hp, fun w h1 h2 => ?_, fun w h1 h2 => by rw [e]; exact V.glen w h1 h2, fun m w hm hw => by rw [e]; exact V.len m w hm hw, by rw [ea]; exact V.nd, by rw [ea]; exact V.al, by rw [ea]; exact V.ne, by rw [ea]; exact V.ok⟩
  rw [e, V.step w h1 h2]
  unfold List.flatMap
  congr 1
  exact List.map_congr_left fun p hp => by rw [h p hp]
theorem wv_pos {r : Rows} (R : RowsOk r) {f : Str} (hf : f ∈ nm) : wv r f = 1 ∨ wv r f = 2 := by
  have hm := (R.mem f).mp hf
  unfold wv
  have hp := R.pos
  clear R hf
  induction r with
  | nil => cases hm
  | cons p r ih =>
    obtain ⟨g, v⟩ := p
    rw [List.lookup_cons]
    cases e : f == g with
    | true => exact hp (g, v) (List.mem_cons_self ..)
    | false =>
      refine ih ?_ fun q hq => hp q (List.mem_cons_of_mem _ hq)
      rcases List.mem_cons.mp hm with z | z
      · exact absurd z (beq_eq_false_iff_ne.mp e)
      · exact z
theorem vok {r : Rows} (R : RowsOk r) : VOk (wv r) := by
  refine vok_congr (v' := vv (wv r "a") (wv r "b") (wv r "f") (wv r "g")) (fun p hp => ?_) (vok_vv (wv_pos R (by decide +kernel)) (wv_pos R (by decide +kernel)) (wv_pos R (by decide +kernel)) (wv_pos R (by decide +kernel)))
  rcases (by simpa [arits] using hp : p = (("a" : Str), 0) ∨ p = (("b" : Str), 0) ∨ p = (("f" : Str), 1) ∨ p = (("g" : Str), 2)) with rfl | rfl | rfl | rfl <;> rfl
/-! parts of what is gathered -/
theorem flatMap_take_le {α β : Type} (h : α → List β) (xs : List α) (k : Nat) : ((xs.take k).flatMap h).length ≤ (xs.flatMap h).length := by
  have := congrArg (fun l => (List.flatMap h l).length) (List.take_append_drop k xs)
  simp only [List.flatMap_append, List.length_append] at this
  omega
theorem flatMap_take_succ {α β : Type} (h : α → List β) {xs : List α} {k : Nat} {x : α} (hx : xs[k]? = some x) : (xs.take (k + 1)).flatMap h = (xs.take k).flatMap h ++ h x := by
  rw [List.take_succ, hx, List.flatMap_append]
  simp
end K29
set_option Elab.async false
set_option maxRecDepth 100000
set_option maxHeartbeats 400000
set_option linter.all false
namespace K29
open PySem L2 StX PyProof.Rows PySem.Spec DL
def top (i : Nat) : Stmt := PySem.Challenge.pw_eithershown_k29_whole_no_row_down.main.body.getD i (.Pass ⟨0, 0, 0, 0⟩)
def theWords : List Str := List.map Str.ofString ["all", "some", "not", "and", "or", "then", "iff", "false", "axiom", "goal", "function", "predicate", "things", "is", "by", "on", "of", "put", "for", "in", "at", "into", "given", "instance", "resolve", "replace", "same", "alike", "either", "turned", "chained", "parts", "holds", "class", "fact", "cell", "clash", "size", "follows", "fails", "open", "watch", "hold"]
/-- what the names of the module stand for -/
structure Txt (K : PySem.W.Frag) (mg : Str → Option Value) (C : Addr) : Prop where
  g_SMALL : ∃ t, mg "SMALL" = some (.str "abcdefghijklmnopqrstuvwxyz" t)
  g_FIGURES : ∃ t, mg "FIGURES" = some (.str "0123456789" t)
  g_CAPITALS : ∃ t, mg "CAPITALS" = some (.str "ABCDEFGHIJKLMNOPQRSTUVWXYZ" t)
  g_WORDS : ∃ a, mg "WORDS" = some (.ref a) ∧ ∀ H, SqT K H a (theWords.map V.str)
  g_Order : mg "Order" = some (.ref C)
  cI : ClsI K C
  cO : PySem.W.kitOne K (.ref C) (.ref C) = some true
  n_weights : NoAttr K C "own_weights"
  n_ranks : NoAttr K C "own_ranks"
  f_len : mg "len" = none
  f_all : mg "all" = none
  f_any : mg "any" = none
  f_sum : mg "sum" = none
  f_list : mg "list" = none
  f_dict : mg "dict" = none
  f_tuple : mg "tuple" = none
  f_int : mg "int" = none
  f_str : mg "str" = none
  f_bool : mg "bool" = none
  f_isinstance : mg "isinstance" = none
  f_sorted : mg "sorted" = none
  f_range : mg "range" = none
  f_enumerate : mg "enumerate" = none
  f_zip : mg "zip" = none
section
variable {P : Program} {w : World} {K : PySem.W.Frag} {mg : Str → Option Value} {base : Heap} {C : Addr}
abbrev s_is_list : Stmt := top 12
abbrev N_is_list : List Str := ["thing"]
theorem sc_is_list : FnScope N_is_list ["thing"] (defScope s_is_list) := ⟨rfl, rfl, rfl, by decide +kernel, rfl, by decide +kernel, by decide +kernel⟩
theorem b_is_list : BindsH "is_list" s_is_list ["thing"] := fun _ _ _ _ _ _ us hl => match us, hl with | [_], _ => rfl
def isList : D → Bool
  | .lst _ => true
  | .tup _ => true
  | _ => false
theorem ok_is_list (F : Def K mg "is_list" s_is_list) (T : Txt K mg C) : Cal P w K mg base 1 "is_list" ["thing"] (spP K fun ds d => ∃ x, ds = [x] ∧ isIns x = false ∧ d = .bl (isList x)) := by
  refine cal_pure F sc_is_list b_is_list (fun ds d ⟨x, h, _⟩ => by rw [h]; rfl) fun f cdv A outer s H E hr => ?_
  have nd := sc_is_list.nd
  refine ⟨_, (pss_one (ps_ret (pe_callB (k_isiT K rfl) (by rfl) T.f_isinstance (by decide +kernel) (pa_cons (pv 0) (pa_cons (pe_tup (pa_cons (pe_bltn (v := .ty "list") (u := .type "list") (by rfl) T.f_list (by decide +kernel) rfl) (pa_cons (pe_bltn (v := .ty "tuple") (u := .type "tuple") (by rfl) T.f_tuple (by decide +kernel) rfl) pa_nil))) pa_nil))))), ?_⟩
  rintro ds d ⟨x, rfl, hi, rfl⟩
  refine xs_ret (ed_isiT (ns := ["list", "tuple"]) (ed_var (d := x) rfl) hi (by decide) (fun σ H Q q => q) ?_) rfl
  cases x <;> first | rfl | cases hi
abbrev s_is_integer : Stmt := top 13
abbrev N_is_integer : List Str := ["thing"]
theorem sc_is_integer : FnScope N_is_integer ["thing"] (defScope s_is_integer) := ⟨rfl, rfl, rfl, by decide +kernel, rfl, by decide +kernel, by decide +kernel⟩
theorem b_is_integer : BindsH "is_integer" s_is_integer ["thing"] := fun _ _ _ _ _ _ us hl => match us, hl with | [_], _ => rfl
theorem ok_is_integer (F : Def K mg "is_integer" s_is_integer) (T : Txt K mg C) : Cal P w K mg base 1 "is_integer" ["thing"] (spP K fun ds d => ∃ i, ds = [.int i] ∧ d = .bl true) := by
  refine cal_pure F sc_is_integer b_is_integer (fun ds d ⟨x, h, _⟩ => by rw [h]; rfl) fun f cdv A outer s H E hr => ?_
  have nd := sc_is_integer.nd
  refine ⟨_, (pss_one (ps_ret (pe_and (pe_callB (k_isi K rfl) (by rfl) T.f_isinstance (by decide +kernel) (pa_cons (pv 0) (pa_cons (pe_bltn (v := .ty "int") (u := .type "int") (by rfl) T.f_int (by decide +kernel) rfl) pa_nil))) (pe_one (pe_not (pe_callB (k_isi K rfl) (by rfl) T.f_isinstance (by decide +kernel) (pa_cons (pv 0) (pa_cons (pe_bltn (v := .ty "bool") (u := .type "bool") (by rfl) T.f_bool (by decide +kernel) rfl) pa_nil)))))))), ?_⟩
  rintro ds d ⟨i, rfl, rfl⟩
  refine xs_ret (ed_is (ed_andV (x := true) (y := true) (ed_isi (n := "int") (ed_var (d := .int i) rfl) rfl rfl) fun _ => ed_notV (x := false) (ed_isi (n := "bool") (ed_var (d := .int i) rfl) rfl rfl)) rfl) rfl
abbrev s_is_name : Stmt := top 14
abbrev N_is_name : List Str := ["thing", "sign"]
theorem sc_is_name : FnScope N_is_name ["thing"] (defScope s_is_name) := ⟨rfl, rfl, rfl, by decide +kernel, rfl, by decide +kernel, by decide +kernel⟩
theorem b_is_name : BindsH "is_name" s_is_name ["thing"] := fun _ _ _ _ _ _ us hl => match us, hl with | [_], _ => rfl
theorem sign_nm {z : Str} (h : z ∈ nm) : ∃ c, z = ⟨#[c]⟩ ∧ c ∈ ("abcdefghijklmnopqrstuvwxyz" : Str).cps.toList ∧ z ∉ theWords := by
  rcases (by simpa [nm] using h : z = "a" ∨ z = "b" ∨ z = "f" ∨ z = "g" ∨ z = "p") with rfl | rfl | rfl | rfl | rfl
  · exact ⟨97, rfl, by decide +kernel, by decide +kernel⟩
  · exact ⟨98, rfl, by decide +kernel, by decide +kernel⟩
  · exact ⟨102, rfl, by decide +kernel, by decide +kernel⟩
  · exact ⟨103, rfl, by decide +kernel, by decide +kernel⟩
  · exact ⟨112, rfl, by decide +kernel, by decide +kernel⟩
theorem ok_is_name (F : Def K mg "is_name" s_is_name) (T : Txt K mg C) : Cal P w K mg base 1 "is_name" ["thing"] (spP K fun ds d => ∃ z ∈ nm, ds = [.str z] ∧ d = .bl true) := by
  refine cal_pure F sc_is_name b_is_name (fun ds d ⟨x, _, h, _⟩ => by rw [h]; rfl) fun f cdv A outer s H E hr => ?_
  have nd := sc_is_name.nd
  obtain ⟨aw, g_WORDS, hW⟩ := T.g_WORDS
  refine ⟨_, (pss_cons (ps_if (PW.pt (pw_or (pt_not (pt_val (pe_callB (k_isi K rfl) (by rfl) T.f_isinstance (by decide +kernel) (pa_cons (pv 0) (pa_cons (pe_bltn (v := .ty "str") (u := .type "str") (by rfl) T.f_str (by decide +kernel) rfl) pa_nil))))) (pw_or (pt_not (pt_chain o_lt o_lt pe_int (pe_callB (k_len K rfl) (by rfl) T.f_len (by decide +kernel) (pa_cons (pv 0) pa_nil)) pe_int)) (pw_or (pt_cmpR (k_in K rfl (hu65 hr)) (pv 0) (pe_glob (v := .ref _) (by rfl) g_WORDS rfl) (by with_unfolding_all rfl)) (pw_or1 (pt_cmpR (k_notIn K rfl (hu65 hr)) (pe_ix (k_ix K rfl (hu1 hr)) (pv 0) pe_int (fun _ _ => rfl)) (pe_gs (by rfl) T.g_SMALL) (by with_unfolding_all rfl))))))) (pss_one (ps_ret pe_bl)) pss_nil)
    (pss_one (ps_ret (pe_callB (k_all K rfl rfl) (by rfl) T.f_all (by decide +kernel) (pa_cons (pe_lc (own := [("sign", 1)]) rfl nd (pi_str (pv 0)) (blkOk_by (own := [("sign", 1)]) (N := N_is_name) (sc := defScope s_is_name) (by decide +kernel)) (fun _ _ _ _ _ => (pg_name (i := 1) nd rfl (by first | exact Or.inl rfl | exact Or.inr rfl))) (fun _ _ _ _ _ => pts_nil) (fun _ _ _ _ _ => (pe_or (pe_cmpR (k_in K rfl (hu65 hr)) (pv 1) (pe_gs (by rfl) T.g_SMALL) (by with_unfolding_all rfl)) (pe_one (pe_cmpR (k_in K rfl (hu65 hr)) (pv 1) (pe_gs (by rfl) T.g_FIGURES) (by with_unfolding_all rfl)))))) pa_nil))))), ?_⟩
  rintro ds d ⟨z, hz, rfl, rfl⟩
  obtain ⟨c, rfl, hc, hw⟩ := sign_nm hz
  have h97 : ("abcdefghijklmnopqrstuvwxyz" : Str).length ≤ sizeLine := by decide +kernel
  have hin : VR K (rInU K false) (.str ⟨#[c]⟩) (.str "abcdefghijklmnopqrstuvwxyz") (.bl true) := by
    have q := vr_sIn (K := K) (neg := false) (c := c) (z := "abcdefghijklmnopqrstuvwxyz")
    rw [show (if false = true then !decide (c ∈ ("abcdefghijklmnopqrstuvwxyz" : Str).cps.toList) else decide (c ∈ ("abcdefghijklmnopqrstuvwxyz" : Str).cps.toList)) = true by rw [if_neg Bool.false_ne_true]; exact decide_eq_true hc] at q
    exact q
  have hnot : VR K (rInU K true) (.str ⟨#[c]⟩) (.str "abcdefghijklmnopqrstuvwxyz") (.bl false) := by
    have q := vr_sIn (K := K) (neg := true) (c := c) (z := "abcdefghijklmnopqrstuvwxyz")
    rw [show (if true = true then !decide (c ∈ ("abcdefghijklmnopqrstuvwxyz" : Str).cps.toList) else decide (c ∈ ("abcdefghijklmnopqrstuvwxyz" : Str).cps.toList)) = false by rw [if_pos rfl, decide_eq_true hc]; rfl] at q
    exact q
  have hwd : VR K (rInU K false) (.str ⟨#[c]⟩) (.tup (theWords.map D.str)) (.bl false) := by
    have q := vr_tIn (K := K) (neg := false) (x := ⟨#[c]⟩) (ws := theWords)
    rw [show (if false = true then !decide ((⟨#[c]⟩ : Str) ∈ theWords) else decide ((⟨#[c]⟩ : Str) ∈ theWords)) = false by rw [if_neg Bool.false_ne_true]; exact decide_eq_false hw] at q
    exact q
  have one : (⟨#[c]⟩ : Str).length ≤ sizeLine := by show 1 ≤ sizeLine; decide
  refine xs_then (xs_if (b := false) (et_or (x := false) (y := false) (et_not (x := true) (et_test (ed_isi (n := "str") (ed_var (d := .str _) rfl) rfl rfl))) fun _ => et_or (x := false) (y := false) (et_not (x := true) (et_test (ed_is (ed_chain (x := true) (y := true) (ed_int 0) (ed_cb (ea_cons (ed_var (d := .str _) rfl) ea_nil) (vc_lenS one)) (vr_lt (i := 0)) (fun _ => ed_int 9) fun _ => vr_lt (j := 9)) rfl))) fun _ => et_or (x := false) (y := false) (et_test (ed_op (ed_var (d := .str _) rfl) (ed_gt hW) hwd)) fun _ => et_test (ed_op (ed_op (ed_var (d := .str _) rfl) (ed_int 0) (vr_ixS one (i := 0) (c := c) rfl)) (ed_str _) hnot)) (fun h => nomatch h) fun _ => xs_next rfl) ?_
  refine xs_ret (ed_is (ed_cb (ds := [.lst ([true].map D.bl)]) (ea_cons (ed_is (EN.edL (en_lc (xs := [c]) (fun c => .str ⟨#[c]⟩) (fun _ => some (.bl true)) (IT.ip (it_str (z := ⟨#[c]⟩) (ed_var rfl))) (free1 rfl) (show 1 ≤ sizeLine by decide) fun x hx => ?_)) rfl) ea_nil) vc_all) rfl) rfl
  rw [List.mem_singleton.mp hx]
  refine ⟨_, gd_name (Free.of rfl), .inr ⟨_, rfl, et_yes, ed_is (ed_orV (x := true) (y := true) (ed_op (ed_var (d := .str _) rfl) (ed_str _) hin) (fun h => nomatch h)) rfl⟩⟩
abbrev s_is_variable : Stmt := top 15
abbrev N_is_variable : List Str := ["thing", "sign"]
theorem sc_is_variable : FnScope N_is_variable ["thing"] (defScope s_is_variable) := ⟨rfl, rfl, rfl, by decide +kernel, rfl, by decide +kernel, by decide +kernel⟩
theorem b_is_variable : BindsH "is_variable" s_is_variable ["thing"] := fun _ _ _ _ _ _ us hl => match us, hl with | [_], _ => rfl
theorem ok_is_variable (F : Def K mg "is_variable" s_is_variable) (T : Txt K mg C) : Cal P w K mg base 1 "is_variable" ["thing"] (spP K fun ds d => ∃ xs, ds = [.tup xs] ∧ d = .bl false) := by
  refine cal_pure F sc_is_variable b_is_variable (fun ds d ⟨x, h, _⟩ => by rw [h]; rfl) fun f cdv A outer s H E hr => ?_
  have nd := sc_is_variable.nd
  refine ⟨_, (pss_cons (ps_if (PW.pt (pw_or (pt_not (pt_val (pe_callB (k_isi K rfl) (by rfl) T.f_isinstance (by decide +kernel) (pa_cons (pv 0) (pa_cons (pe_bltn (v := .ty "str") (u := .type "str") (by rfl) T.f_str (by decide +kernel) rfl) pa_nil))))) (pw_or (pt_not (pt_chain o_lt o_lt pe_int (pe_callB (k_len K rfl) (by rfl) T.f_len (by decide +kernel) (pa_cons (pv 0) pa_nil)) pe_int)) (pw_or1 (pt_cmpR (k_notIn K rfl (hu65 hr)) (pe_ix (k_ix K rfl (hu1 hr)) (pv 0) pe_int (fun _ _ => rfl)) (pe_gs (by rfl) T.g_CAPITALS) (by with_unfolding_all rfl)))))) (pss_one (ps_ret pe_bl)) pss_nil)
    (pss_one (ps_ret (pe_callB (k_all K rfl rfl) (by rfl) T.f_all (by decide +kernel) (pa_cons (pe_lc (own := [("sign", 1)]) rfl nd (pi_str (pe_slice (k_sl K rfl) (pv 0) (po_some pe_int) po_none)) (blkOk_by (own := [("sign", 1)]) (N := N_is_variable) (sc := defScope s_is_variable) (by decide +kernel)) (fun _ _ _ _ _ => (pg_name (i := 1) nd rfl (by first | exact Or.inl rfl | exact Or.inr rfl))) (fun _ _ _ _ _ => pts_nil) (fun _ _ _ _ _ => (pe_cmpR (k_in K rfl (hu65 hr)) (pv 1) (pe_gs (by rfl) T.g_FIGURES) (by with_unfolding_all rfl)))) pa_nil))))), ?_⟩
  rintro ds d ⟨xs, rfl, rfl⟩
  exact xs_out (xs_if1 (et_or (x := true) (y := false) (et_not (x := false) (et_test (ed_isi (n := "str") (ed_var (d := .tup xs) rfl) rfl rfl))) fun h => nomatch h) (xs_ret (ed_bl false) rfl))
end
end K29
set_option Elab.async false
set_option maxRecDepth 100000
set_option maxHeartbeats 400000
set_option linter.all false
namespace K29
open PySem L2 StX PyProof.Rows PySem.Spec DL
theorem okL_lay {n : Nat} : ∀ {as : List W}, (∀ a ∈ as, okW n a = true) → D.plL (as.map enc) = true ∧ PyData.canLayAll0 (D.pyL (as.map enc)) = true ∧ PyData.depthAll (D.pyL (as.map enc)) ≤ n
  | [], _ => ⟨by rw [List.map_nil, D.plL], by rw [List.map_nil, D.pyL, PyData.canLayAll0], by rw [List.map_nil, D.pyL, PyData.depthAll]; exact Nat.zero_le _⟩
  | a :: r, h => by
    obtain ⟨i1, i2, i3⟩ := okL_lay fun x hx => h x (List.mem_cons_of_mem _ hx)
    obtain ⟨j1, j2, j3⟩ := okW_lay (h a (List.mem_cons_self ..))
    refine ⟨?_, ?_, ?_⟩
    · rw [List.map_cons, D.plL, j1, i1]; rfl
    · rw [List.map_cons, D.pyL, PyData.canLayAll0, j2, i2]; rfl
    · rw [List.map_cons, D.pyL, PyData.depthAll]
      exact Nat.max_le.mpr ⟨j3, i3⟩
theorem okL_ok {n : Nat} {as : List W} (h : ∀ a ∈ as, okW n a = true) (hn : n ≤ 38) : (D.lst (as.map enc)).ok = true := by
  obtain ⟨h1, h2, h3⟩ := okL_lay h
  unfold D.ok SeqAt.shaped
  rw [D.pl, D.py, PyData.canLay0, h1, h2, PyData.depth, decide_eq_true (by omega)]
  rfl
theorem eqD_encN (a : W) : eqD (enc a) .non = false := by
  cases a with
  | app f as => rw [enc_app]; unfold eqD; rw [D.py, D.py]; rfl
theorem enc_ins (a : W) : isIns (enc a) = false := by
  cases a with
  | app f as => rw [enc_app]; rfl
theorem enc_isN (a : W) : isN (enc a) = false := by
  cases a with
  | app f as => rw [enc_app]; rfl
section
variable {P : Program} {w : World} {K : PySem.W.Frag} {mg : Str → Option Value} {base : Heap} {C : Addr}
abbrev s_as_word : Stmt := top 17
abbrev N_as_word : List Str := ["thing", "parts", "one"]
theorem sc_as_word : FnScope N_as_word ["thing"] (defScope s_as_word) := ⟨rfl, rfl, rfl, by decide +kernel, rfl, by decide +kernel, by decide +kernel⟩
theorem b_as_word : BindsH "as_word" s_as_word ["thing"] := fun _ _ _ _ _ _ us hl => match us, hl with | [_], _ => rfl
theorem ok_as_word (F : Def K mg "as_word" s_as_word) (T : Txt K mg C) (C_is_variable : Cal P w K mg base 1 "is_variable" ["thing"] (spP K fun ds d => ∃ xs, ds = [.tup xs] ∧ d = .bl false))
    (C_is_list : Cal P w K mg base 1 "is_list" ["thing"] (spP K fun ds d => ∃ x, ds = [x] ∧ isIns x = false ∧ d = .bl (isList x))) (C_is_name : Cal P w K mg base 1 "is_name" ["thing"] (spP K fun ds d => ∃ z ∈ nm, ds = [.str z] ∧ d = .bl true)) :
    ∀ n : Nat, n ≤ 30 → Cal P w K mg base (n + 2) "as_word" ["thing"] (spP K fun ds d => ∃ a, okW n a = true ∧ ds = [enc a] ∧ d = enc a)
  | 0, _ => (cal_void F sc_as_word b_as_word).imp fun vs H Q E ⟨S, ds, d, h1, h2, ⟨a, h, _⟩, h4⟩ => by rw [okW] at h; cases h
  | n + 1, hn => by
    have C_as_word := ok_as_word F T C_is_variable C_is_list C_is_name n (by omega)
    refine cal_pure F sc_as_word b_as_word (fun ds d ⟨x, _, h, _⟩ => by rw [h]; rfl) fun f cdv A outer s H E hr => ?_
    have nd := sc_as_word.nd
    refine ⟨_, (pss_cons (ps_if (pt_val (pe_cal C_is_variable (hr.mono (by omega)) (pa_cons (pv 0) pa_nil))) (pss_one (ps_ret (pv 0))) pss_nil)
    (pss_cons (ps_if (PW.pt (pw_or (pt_not (pt_val (pe_cal C_is_list (hr.mono (by omega)) (pa_cons (pv 0) pa_nil)))) (pw_or (pt_cmpR (k_eq K rfl (hu64 hr)) (pe_callB (k_len K rfl) (by rfl) T.f_len (by decide +kernel) (pa_cons (pv 0) pa_nil)) pe_int (nomark _)) (pw_or1 (pt_not (pt_val (pe_cal C_is_name (hr.mono (by omega)) (pa_cons (pe_ix (k_ix K rfl (hu1 hr)) (pv 0) pe_int (fun _ _ => rfl)) pa_nil)))))))) (pss_one (ps_ret pe_non)) pss_nil)
    (pss_cons (ps_setLc (i := 1) (own := [("one", 2)]) rfl nd rfl rfl (sw_true rfl rfl rfl (by decide +kernel)) (pi_tup (pe_slice (k_sl K rfl) (pv 0) (po_some pe_int) po_none)) (blkOk_by (own := [("one", 2)]) (N := N_as_word) (sc := defScope s_as_word) (by decide +kernel)) (fun _ _ _ _ _ => (pg_name (i := 2) nd rfl (by first | exact Or.inl rfl | exact Or.inr rfl))) (fun _ _ _ _ _ => pts_nil) (fun _ _ _ _ _ => (pe_cal C_as_word (hr.mono (by omega)) (pa_cons (pv 2) pa_nil))))
    (pss_one (ps_ret (pe_ifExp (pt_cmpR (k_notIn K rfl (hu65 hr)) pe_non (pv 1) (by with_unfolding_all rfl)) (pe_tup (pa_cons (pe_ix (k_ix K rfl (hu1 hr)) (pv 0) pe_int (fun _ _ => rfl)) (k_star K rfl (pv 1) pa_nil))) pe_non)))))), ?_⟩
    rintro ds d ⟨⟨g, as⟩, ha, rfl, rfl⟩
    obtain ⟨hg, hl, has⟩ := okW_app ha
    have hl2 : as.length ≤ 2 := by rw [hl]; exact ar_le g
    rw [enc_app]
    have v0 : ED K (tVar 0) (List.map Sl.dat [D.tup (.str g :: as.map enc)] ++ List.replicate (N_as_word.length - [D.tup (.str g :: as.map enc)].length) Sl.no) (.tup (.str g :: as.map enc)) := ed_var rfl
    refine xs_skip (et_B (ed_call (ea_cons v0 ea_nil) ⟨_, rfl, rfl⟩)) ?_
    refine xs_skip (et_or (x := false) (y := false) (et_not (x := true) (et_B (ed_call (ea_cons v0 ea_nil) ⟨_, rfl, rfl, rfl⟩))) fun _ => et_or (x := false) (y := false) (et_eq (ed_cb (ea_cons v0 ea_nil) vc_lenT) (ed_int 0) rfl rfl (by rw [eqD_int, List.length_cons]; exact decide_eq_false (by omega))) fun _ => et_not (x := true) (et_B (ed_call (ea_cons (ed_headT v0) ea_nil) ⟨g, hg, rfl, rfl⟩))) ?_
    refine xs_then (xs_asg (ed_map enc enc (IT.ip (it_tup (ed_tailT v0))) (free1 rfl) (Nat.le_trans hl2 (by decide)) fun x hx => ⟨_, gd_name (Free.of rfl), ed_call (ea_cons (ed_var rfl) ea_nil) ⟨x, has x hx, rfl, rfl⟩⟩) (Free.of rfl) List.not_mem_nil rfl) ?_
    refine xs_ret (ed_if (x := true) (et_test (ed_is (ed_op ed_non (ed_var rfl) (vr_dpIn (neg := true) (ds := as.map enc) rfl (okL_ok has (by omega)))) ?_)) (fun _ => ed_tup (ea_cons (ed_headT (ed_var rfl)) (ea_starL (ed_var rfl) ea_nil)) ?_) (fun h => nomatch h)) (by rw [List.append_nil])
    · have e : (as.map enc).any (fun z => eqD z .non) = false := by
        rw [List.any_map]
        exact List.any_eq_false.mpr fun x _ => by
          show ¬ eqD (enc x) .non = true
          rw [eqD_encN]
          exact Bool.false_ne_true
      rw [if_pos rfl, e]
      rfl
    · rw [List.append_nil, List.length_cons, List.length_map]
      have : (3 : Nat) ≤ sizeLine := by decide
      omega
end
end K29
set_option Elab.async false
set_option maxRecDepth 100000
set_option maxHeartbeats 400000
set_option linter.all false
namespace K29
open PySem L2 StX PyProof.Rows PySem.Spec DL
/-! ### an order as data -/
def wtsD (r : Rows) : List (Key × D) := r.map fun p => (.inr p.1, .int p.2)
def rksD (r : Rows) : List (Key × D) := r.zipIdx.map fun p => (.inr p.1.1, .int (p.2 : Nat))
def ordD (C : Addr) (r : Rows) : D := .ins C [("own_weights", .dic (wtsD r)), ("own_ranks", .dic (rksD r))]
theorem val_wts {r : Rows} {f : Str} (h : f ∈ r.map (·.1)) : valD (wtsD r) (.inr f) = some (.int (wv r f)) := by
  unfold wtsD wv
  induction r with
  | nil => cases h
  | cons p r ih =>
    obtain ⟨g, v⟩ := p
    rw [List.map_cons]
    by_cases e : g = f
    · subst e
      rw [valD_pos, List.lookup_cons]
      simp
    · rw [valD_neg (fun z => e (Sum.inr.inj z)), List.lookup_cons]
      have e' : (f == g) = false := beq_eq_false_iff_ne.mpr fun z => e z.symm
      rw [e']
      exact ih ((List.mem_cons.mp h).elim (fun z => absurd z.symm e) id)
theorem val_rks {r : Rows} {f : Str} (h : f ∈ r.map (·.1)) : valD (rksD r) (.inr f) = some (.int (rk r f : Nat)) := by
  unfold rksD rk
  suffices H : ∀ n : Nat, valD ((r.zipIdx n).map fun p => ((.inr p.1.1 : Key), D.int (p.2 : Nat))) (.inr f) = some (.int ((n + (r.map (·.1)).idxOf f : Nat) : Int)) by
    have := H 0
    rw [Nat.zero_add] at this
    exact this
  induction r with
  | nil => cases h
  | cons p r ih =>
    obtain ⟨g, v⟩ := p
    intro n
    rw [List.zipIdx_cons, List.map_cons, List.map_cons]
    by_cases e : g = f
    · subst e
      rw [valD_pos, List.idxOf_cons_self]
      rfl
    · rw [valD_neg (fun z => e (Sum.inr.inj z)), ih ((List.mem_cons.mp h).elim (fun z => absurd z.symm e) id) (n + 1)]
      have e' : ((r.map (·.1)).idxOf f) + 1 = (g :: r.map (·.1)).idxOf f := by
        rw [List.idxOf_cons]
        have : (g == f) = false := beq_eq_false_iff_ne.mpr e
        rw [this]
        rfl
      show some (D.int ((n + 1 + List.idxOf f (r.map (·.1)) : Nat) : Int)) = some (D.int ((n + (g :: r.map (·.1)).idxOf f : Nat) : Int))
      rw [← e']
      congr 2
      omega
section
variable {P : Program} {w : World} {K : PySem.W.Frag} {mg : Str → Option Value} {base : Heap} {C : Addr}
theorem ed_wts {Γ : List Sl} {te : TE} {r : Rows} (T : Txt K mg C) (h : ED K te Γ (ordD C r)) : ED K (tFld K te "own_weights") Γ (.dic (wtsD r)) := ed_fld h T.cI.cl T.n_weights rfl
theorem ed_rks {Γ : List Sl} {te : TE} {r : Rows} (T : Txt K mg C) (h : ED K te Γ (ordD C r)) : ED K (tFld K te "own_ranks") Γ (.dic (rksD r)) := ed_fld h T.cI.cl T.n_ranks rfl
abbrev s_checked_word : Stmt := top 19
abbrev N_checked_word : List Str := ["thing", "found"]
theorem sc_checked_word : FnScope N_checked_word ["thing"] (defScope s_checked_word) := ⟨rfl, rfl, rfl, by decide +kernel, rfl, by decide +kernel, by decide +kernel⟩
theorem b_checked_word : BindsH "checked_word" s_checked_word ["thing"] := fun _ _ _ _ _ _ us hl => match us, hl with | [_], _ => rfl
theorem ok_checked_word (F : Def K mg "checked_word" s_checked_word) (T : Txt K mg C) (n : Nat) (hn : n ≤ 30) (C_as_word : Cal P w K mg base (n + 2) "as_word" ["thing"] (spP K fun ds d => ∃ a, okW n a = true ∧ ds = [enc a] ∧ d = enc a)) :
    Cal P w K mg base (n + 3) "checked_word" ["thing"] (spP K fun ds d => ∃ a, okW n a = true ∧ ds = [enc a] ∧ d = enc a) := by
  refine cal_pure F sc_checked_word b_checked_word (fun ds d ⟨x, _, h, _⟩ => by rw [h]; rfl) fun f cdv A outer s H E hr => ?_
  have nd := sc_checked_word.nd
  refine ⟨_, (pss_cons (ps_set (i := 1) nd rfl (by first | exact Or.inl rfl | exact Or.inr rfl) (pe_cal C_as_word (hr.mono (by omega)) (pa_cons (pv 0) pa_nil)))
    (pss_cons (ps_if (pt_cmpR o_isN (pv 1) pe_non (nomark _)) (pss_one ps_never) pss_nil)
    (pss_cons (ps_if (pt_cmpR o_isN (pv 1) pe_non (nomark _)) (pss_one ps_never) pss_nil)
    (pss_one (ps_ret (pv 1)))))), ?_⟩
  rintro ds d ⟨a, ha, rfl, rfl⟩
  refine xs_then (xs_asg (ed_call (ea_cons (ed_var (d := enc a) rfl) ea_nil) ⟨a, ha, rfl, rfl⟩) (Free.of rfl) List.not_mem_nil rfl) ?_
  have t : ET K (tTest (tOp rIsN (tVar 1) (tC .non))) [.dat (enc a), .dat (enc a)] false := et_test (ed_is (ed_op (ed_var rfl) ed_non vr_isN) (by rw [enc_isN]))
  exact xs_skip t (xs_skip t (xs_ret (ed_var rfl) rfl))
abbrev s_checked_order : Stmt := top 22
abbrev N_checked_order : List Str := ["order"]
theorem sc_checked_order : FnScope N_checked_order ["order"] (defScope s_checked_order) := ⟨rfl, rfl, rfl, by decide +kernel, rfl, by decide +kernel, by decide +kernel⟩
theorem b_checked_order : BindsH "checked_order" s_checked_order ["order"] := fun _ _ _ _ _ _ us hl => match us, hl with | [_], _ => rfl
theorem ok_checked_order (F : Def K mg "checked_order" s_checked_order) (T : Txt K mg C) : Cal P w K mg base 1 "checked_order" ["order"] (spP K fun ds d => ∃ r, ds = [ordD C r] ∧ d = ordD C r) := by
  refine cal_pure F sc_checked_order b_checked_order (fun ds d ⟨x, h, _⟩ => by rw [h]; rfl) fun f cdv A outer s H E hr => ?_
  have nd := sc_checked_order.nd
  refine ⟨_, (pss_cons (ps_if (pt_not (pt_val (pe_callB (k_isi K rfl) (by rfl) T.f_isinstance (by decide +kernel) (pa_cons (pv 0) (pa_cons (pe_glob (v := .ref _) (by rfl) T.g_Order rfl) pa_nil))))) (pss_one ps_never) pss_nil)
    (pss_one (ps_ret (pv 0)))), ?_⟩
  rintro ds d ⟨r, rfl, rfl⟩
  exact xs_skip (et_not (x := true) (et_B (ed_isiO (ed_var rfl) T.cI T.cO))) (xs_ret (ed_var rfl) rfl)
abbrev s_first_without : Stmt := top 23
abbrev N_first_without : List Str := ["order", "word", "part", "found"]
theorem sc_first_without : FnScope N_first_without ["order", "word"] (defScope s_first_without) := ⟨rfl, rfl, rfl, by decide +kernel, rfl, by decide +kernel, by decide +kernel⟩
theorem b_first_without : BindsH "first_without" s_first_without ["order", "word"] := fun _ _ _ _ _ _ us hl => match us, hl with | [_, _], _ => rfl
theorem ok_first_without (F : Def K mg "first_without" s_first_without) (T : Txt K mg C) : ∀ n : Nat, n ≤ 30 → Cal P w K mg base (n + 2) "first_without" ["order", "word"] (spP K fun ds d => ∃ r a, RowsOk r ∧ okW n a = true ∧ ds = [ordD C r, enc a] ∧ d = .non)
  | 0, _ => (cal_void F sc_first_without b_first_without).imp fun vs H Q E ⟨S, ds, d, h1, h2, ⟨r, a, _, h, _⟩, h4⟩ => by rw [okW] at h; cases h
  | n + 1, hn => by
    have C_first_without := ok_first_without F T n (by omega)
    refine cal_pure F sc_first_without b_first_without (fun ds d ⟨x, _, _, _, h, _⟩ => by rw [h]; rfl) fun f cdv A outer s H E hr => ?_
    have nd := sc_first_without.nd
    refine ⟨_, (pss_cons (ps_if (pt_val (pe_callB (k_isi K rfl) (by rfl) T.f_isinstance (by decide +kernel) (pa_cons (pv 1) (pa_cons (pe_bltn (v := .ty "str") (u := .type "str") (by rfl) T.f_str (by decide +kernel) rfl) pa_nil)))) (pss_one (ps_ret pe_non)) pss_nil)
    (pss_cons (ps_if (pt_cmpR (k_notIn K rfl (hu65 hr)) (pe_ix (k_ix K rfl (hu1 hr)) (pv 1) pe_int (fun _ _ => rfl)) (pe_fld (pv 0) rfl) (by with_unfolding_all rfl)) (pss_one (ps_ret (pe_ix (k_ix K rfl (hu1 hr)) (pv 1) pe_int (fun _ _ => rfl)))) pss_nil)
    (pss_cons (ps_for PassesOwn.never rfl (pi_tup (pe_slice (k_sl K rfl) (pv 1) (po_some pe_int) po_none)) (pg_name (i := 2) nd rfl (by first | exact Or.inl rfl | exact Or.inr rfl)) (pss_cons (ps_set (i := 3) nd rfl (by first | exact Or.inl rfl | exact Or.inr rfl) (pe_cal C_first_without (hr.mono (by omega)) (pa_cons (pv 0) (pa_cons (pv 2) pa_nil))))
    (pss_one (ps_if (pt_cmpR o_notN (pv 3) pe_non (nomark _)) (pss_one (ps_ret (pv 3))) pss_nil))))
    (pss_one (ps_ret pe_non))))), ?_⟩
    rintro ds d ⟨r, ⟨g, as⟩, hR, ha, rfl, rfl⟩
    obtain ⟨hg, hl, has⟩ := okW_app ha
    rw [enc_app]
    have v1 : ∀ s2 s3, ED K (tVar 1) [.dat (ordD C r), .dat (.tup (.str g :: as.map enc)), s2, s3] (.tup (.str g :: as.map enc)) := fun _ _ => ed_var rfl
    have v0 : ∀ s2 s3, ED K (tVar 0) [.dat (ordD C r), .dat (.tup (.str g :: as.map enc)), s2, s3] (ordD C r) := fun _ _ => ed_var rfl
    refine xs_skip (et_B (ed_isi (n := "str") (v1 _ _) rfl rfl)) ?_
    refine xs_skip (et_test (ed_is (ed_op (ed_headT (v1 _ _)) (ed_rks T (v0 _ _)) (vr_dIn (neg := true) (k := .inr g))) (by rw [val_rks ((hR.mem g).mp hg)]; rfl))) ?_
    refine xs_seq (xs_for (vs := [2]) (fun _ Γ => ∃ s2 s3, Nd s2 ∧ Nd s3 ∧ Γ = [.dat (ordD C r), .dat (.tup (.str g :: as.map enc)), s2, s3]) (it_tup (ed_tailT (v1 .no .no))) ⟨.no, .no, Nd.no, Nd.no, rfl⟩ nopin (fun k d Γ1 hd ⟨s2, s3, n2, n3, e⟩ => ?_) fun Γ1 h => h) fun Γ' ⟨s2, s3, n2, n3, e⟩ => xs_ret ed_non rfl
    subst e
    rw [List.getElem?_map] at hd
    cases hx : as[k]? with
    | none => rw [hx] at hd; cases hd
    | some x =>
      rw [hx] at hd
      cases hd
      refine ⟨_, gd_name (freeNd rfl n2), xs_then (xs_asg (ed_call (ea_cons (ed_var (d := ordD C r) rfl) (ea_cons (ed_var (d := enc x) rfl) ea_nil)) ⟨r, x, hR, has x (List.mem_of_getElem? hx), rfl, rfl⟩) (freeNd rfl n3) List.not_mem_nil rfl) ?_⟩
      exact xs_if0 (et_test (ed_is (ed_op (ed_var (d := .non) rfl) ed_non vr_notN) rfl)) (xs_next ⟨_, _, Nd.dat _, Nd.dat _, rfl⟩)
abbrev s_weight_in : Stmt := top 24
abbrev N_weight_in : List Str := ["order", "word", "part"]
theorem sc_weight_in : FnScope N_weight_in ["order", "word"] (defScope s_weight_in) := ⟨rfl, rfl, rfl, by decide +kernel, rfl, by decide +kernel, by decide +kernel⟩
theorem b_weight_in : BindsH "weight_in" s_weight_in ["order", "word"] := fun _ _ _ _ _ _ us hl => match us, hl with | [_, _], _ => rfl
theorem ok_weight_in (F : Def K mg "weight_in" s_weight_in) (T : Txt K mg C) : ∀ n : Nat, n ≤ 30 → Cal P w K mg base (n + 2) "weight_in" ["order", "word"] (spP K fun ds d => ∃ r a, RowsOk r ∧ okW n a = true ∧ ds = [ordD C r, enc a] ∧ d = .int (wt r a))
  | 0, _ => (cal_void F sc_weight_in b_weight_in).imp fun vs H Q E ⟨S, ds, d, h1, h2, ⟨r, a, _, h, _⟩, h4⟩ => by rw [okW] at h; cases h
  | n + 1, hn => by
    have C_weight_in := ok_weight_in F T n (by omega)
    refine cal_pure F sc_weight_in b_weight_in (fun ds d ⟨x, _, _, _, h, _⟩ => by rw [h]; rfl) fun f cdv A outer s H E hr => ?_
    have nd := sc_weight_in.nd
    refine ⟨_, (pss_cons (ps_if (pt_val (pe_callB (k_isi K rfl) (by rfl) T.f_isinstance (by decide +kernel) (pa_cons (pv 1) (pa_cons (pe_bltn (v := .ty "str") (u := .type "str") (by rfl) T.f_str (by decide +kernel) rfl) pa_nil)))) (pss_one (ps_ret pe_int)) pss_nil)
    (pss_one (ps_ret (pe_op (k_add K rfl) (pe_ix (k_ix K rfl (hu1 hr)) (pe_fld (pv 0) rfl) (pe_ix (k_ix K rfl (hu1 hr)) (pv 1) pe_int (fun _ _ => rfl)) (fun _ _ => rfl)) (pe_callB (k_sum K rfl rfl) (by rfl) T.f_sum (by decide +kernel) (pa_cons (pe_lc (own := [("part", 2)]) rfl nd (pi_tup (pe_slice (k_sl K rfl) (pv 1) (po_some pe_int) po_none)) (blkOk_by (own := [("part", 2)]) (N := N_weight_in) (sc := defScope s_weight_in) (by decide +kernel)) (fun _ _ _ _ _ => (pg_name (i := 2) nd rfl (by first | exact Or.inl rfl | exact Or.inr rfl))) (fun _ _ _ _ _ => pts_nil) (fun _ _ _ _ _ => (pe_cal C_weight_in (hr.mono (by omega)) (pa_cons (pv 0) (pa_cons (pv 2) pa_nil))))) pa_nil)))))), ?_⟩
    rintro ds d ⟨r, ⟨g, as⟩, hR, ha, rfl, rfl⟩
    obtain ⟨hg, hl, has⟩ := okW_app ha
    have hl2 : as.length ≤ 2 := by rw [hl]; exact ar_le g
    rw [enc_app]
    have v1 : ∀ s2, ED K (tVar 1) [.dat (ordD C r), .dat (.tup (.str g :: as.map enc)), s2] (.tup (.str g :: as.map enc)) := fun _ => ed_var rfl
    have v0 : ∀ s2, ED K (tVar 0) [.dat (ordD C r), .dat (.tup (.str g :: as.map enc)), s2] (ordD C r) := fun _ => ed_var rfl
    refine xs_skip (et_B (ed_isi (n := "str") (v1 _) rfl rfl)) ?_
    have e : (as.map fun a => D.int (wt r a)) = (as.map (wt r)).map D.int := by rw [List.map_map]; rfl
    refine xs_ret (ed_is (ed_op (ed_op (ed_wts T (v0 _)) (ed_headT (v1 _)) (vr_dGet (k := .inr g) (val_wts ((hR.mem g).mp hg)))) (ed_cb (ds := [.lst ((as.map (wt r)).map D.int)]) (ea_cons (ed_is (ed_map enc (fun a => D.int (wt r a)) (IT.ip (it_tup (ed_tailT (v1 .no)))) (free1 rfl) (Nat.le_trans hl2 (by decide)) fun x hx =>
      ⟨_, gd_name (Free.of rfl), ed_call (ea_cons (ed_var (d := ordD C r) rfl) (ea_cons (ed_var (d := enc x) rfl) ea_nil)) ⟨r, x, hR, has x hx, rfl, rfl⟩⟩) (by rw [e])) ea_nil) vc_sum) vr_addI) rfl) (by rw [wt_app])
abbrev s_counted : Stmt := top 25
abbrev N_counted : List Str := ["word", "known", "part"]
theorem sc_counted : FnScope N_counted ["word", "known"] (defScope s_counted) := ⟨rfl, rfl, rfl, by decide +kernel, rfl, by decide +kernel, by decide +kernel⟩
theorem b_counted : BindsH "counted" s_counted ["word", "known"] := fun _ _ _ _ _ _ us hl => match us, hl with | [_, _], _ => rfl
theorem ok_counted (F : Def K mg "counted" s_counted) (T : Txt K mg C) : ∀ n : Nat, n ≤ 30 → Cal P w K mg base (n + 2) "counted" ["word", "known"] (spP K fun ds d => ∃ a, okW n a = true ∧ ds = [enc a, .dic []] ∧ d = .dic [])
  | 0, _ => (cal_void F sc_counted b_counted).imp fun vs H Q E ⟨S, ds, d, h1, h2, ⟨a, h, _⟩, h4⟩ => by rw [okW] at h; cases h
  | n + 1, hn => by
    have C_counted := ok_counted F T n (by omega)
    refine cal_pure F sc_counted b_counted (fun ds d ⟨x, _, h, _⟩ => by rw [h]; rfl) fun f cdv A outer s H E hr => ?_
    have nd := sc_counted.nd
    refine ⟨_, (pss_cons (ps_if (pt_val (pe_callB (k_isi K rfl) (by rfl) T.f_isinstance (by decide +kernel) (pa_cons (pv 0) (pa_cons (pe_bltn (v := .ty "str") (u := .type "str") (by rfl) T.f_str (by decide +kernel) rfl) pa_nil)))) (pss_one ps_never) (pss_one (ps_for PassesOwn.never rfl (pi_tup (pe_slice (k_sl K rfl) (pv 0) (po_some pe_int) po_none)) (pg_name (i := 2) nd rfl (by first | exact Or.inl rfl | exact Or.inr rfl)) (pss_one (ps_expr (pe_cal C_counted (hr.mono (by omega)) (pa_cons (pv 2) (pa_cons (pv 1) pa_nil))))))))
    (pss_one (ps_ret (pv 1)))), ?_⟩
    rintro ds d ⟨⟨g, as⟩, ha, rfl, rfl⟩
    obtain ⟨hg, hl, has⟩ := okW_app ha
    rw [enc_app]
    refine xs_seq (xs_if0 (et_B (ed_isi (n := "str") (ed_var (d := .tup (.str g :: as.map enc)) rfl) rfl rfl)) (xs_for (vs := [2]) (fun _ Γ => ∃ s2, Nd s2 ∧ Γ = [.dat (.tup (.str g :: as.map enc)), .dat (.dic []), s2]) (it_tup (ed_tailT (ed_var (d := .tup (.str g :: as.map enc)) rfl))) ⟨.no, Nd.no, rfl⟩ nopin (fun k d Γ1 hd ⟨s2, n2, e⟩ => ?_) fun Γ1 h => h)) fun Γ' ⟨s2, n2, e⟩ => by
      subst e
      exact xs_ret (ed_var rfl) rfl
    subst e
    rw [List.getElem?_map] at hd
    cases hx : as[k]? with
    | none => rw [hx] at hd; cases hd
    | some x =>
      rw [hx] at hd
      cases hd
      exact ⟨_, gd_name (freeNd rfl n2), xs_drop (ed_call (ea_cons (ed_var (d := enc x) rfl) (ea_cons (ed_var (d := .dic []) rfl) ea_nil)) ⟨x, has x (List.mem_of_getElem? hx), rfl, rfl⟩) ⟨_, Nd.dat _, rfl⟩⟩
end
end K29
set_option Elab.async false
set_option maxRecDepth 100000
set_option maxHeartbeats 400000
set_option linter.all false
namespace K29
open PySem L2 StX PyProof.Rows PySem.Spec DL
/-! ### the first unlike pair -/
def uneq (q : W × W) : Bool := decide (q.1 ≠ q.2)
theorem unlike_head (r : Rows) : ∀ {as bs : List W}, as.length = bs.length → as ≠ bs → ∃ x y rest, (as.zip bs).filter uneq = (x, y) :: rest ∧ aboveL r as bs = above r x y ∧ x ∈ as ∧ y ∈ bs
  | [], [], _, h => absurd rfl h
  | a :: as, b :: bs, hl, h => by
    rw [List.zip_cons_cons, List.filter_cons]
    by_cases e : a = b
    · subst e
      have e1 : ¬ uneq (a, a) = true := by
        unfold uneq
        simp
      rw [if_neg e1, aboveL, if_pos rfl]
      obtain ⟨x, y, rest, h1, h2, h3, h4⟩ := unlike_head r (Nat.succ.inj hl) (fun z => h (by rw [z]))
      exact ⟨x, y, rest, h1, h2, List.mem_cons_of_mem _ h3, List.mem_cons_of_mem _ h4⟩
    · have e1 : uneq (a, b) = true := decide_eq_true e
      rw [if_pos e1, aboveL, if_neg e]
      exact ⟨a, b, _, rfl, rfl, List.mem_cons_self .., List.mem_cons_self ..⟩
  | [], _ :: _, hl, _ => by cases hl
  | _ :: _, [], hl, _ => by cases hl
def encP (q : W × W) : D := .tup [enc q.1, enc q.2]
theorem zip_enc : ∀ as bs : List W, zipD (as.map enc) (bs.map enc) = (as.zip bs).map encP
  | [], _ => by rw [List.map_nil, zipD, List.zip_nil_left, List.zip_nil_left]; rfl
  | _ :: _, [] => by rw [List.map_nil, zipD, List.zip_nil_right, List.zip_nil_right]; rfl
  | a :: as, b :: bs => by
    have := zip_enc as bs
    rw [zipD] at this ⊢
    rw [List.map_cons, List.map_cons, List.zip_cons_cons, List.zip_cons_cons, List.map_cons, List.map_cons, this]
    rfl
section
variable {P : Program} {w : World} {K : PySem.W.Frag} {mg : Str → Option Value} {base : Heap} {C : Addr}
abbrev s_is_above : Stmt := top 26
abbrev N_is_above : List Str := ["order", "one", "other", "many", "few", "heavy", "light", "unlike", "variable", "pair"]
theorem sc_is_above : FnScope N_is_above ["order", "one", "other"] (defScope s_is_above) := ⟨rfl, rfl, rfl, by decide +kernel, rfl, by decide +kernel, by decide +kernel⟩
theorem b_is_above : BindsH "is_above" s_is_above ["order", "one", "other"] := fun _ _ _ _ _ _ us hl => match us, hl with | [_, _, _], _ => rfl
theorem ok_is_above (F : Def K mg "is_above" s_is_above) (T : Txt K mg C)
    (CC : ∀ n : Nat, n ≤ 30 → Cal P w K mg base (n + 2) "counted" ["word", "known"] (spP K fun ds d => ∃ a, okW n a = true ∧ ds = [enc a, .dic []] ∧ d = .dic []))
    (CW : ∀ n : Nat, n ≤ 30 → Cal P w K mg base (n + 2) "weight_in" ["order", "word"] (spP K fun ds d => ∃ r a, RowsOk r ∧ okW n a = true ∧ ds = [ordD C r, enc a] ∧ d = .int (wt r a))) :
    ∀ n : Nat, n ≤ 30 → Cal P w K mg base (n + 3) "is_above" ["order", "one", "other"] (spP K fun ds d => ∃ r a b, RowsOk r ∧ okW n a = true ∧ okW n b = true ∧ ds = [ordD C r, enc a, enc b] ∧ d = .bl (above r a b))
  | 0, _ => (cal_void F sc_is_above b_is_above).imp fun vs H Q E ⟨S, ds, d, h1, h2, ⟨r, a, _, _, h, _⟩, h4⟩ => by rw [okW] at h; cases h
  | n + 1, hn => by
    have C_is_above := ok_is_above F T CC CW n (by omega)
    have C_counted := CC (n + 1) hn
    have C_weight_in := CW (n + 1) hn
    refine cal_pure F sc_is_above b_is_above (fun ds d ⟨x, _, _, _, _, _, h, _⟩ => by rw [h]; rfl) fun f cdv A outer s H E hr => ?_
    have nd := sc_is_above.nd
    refine ⟨_, (pss_cons (ps_if (PW.pt (pw_or (pt_cmpR (k_eq K rfl (hu64 hr)) (pv 1) (pv 2) (nomark _)) (pw_or1 (pt_val (pe_callB (k_isi K rfl) (by rfl) T.f_isinstance (by decide +kernel) (pa_cons (pv 1) (pa_cons (pe_bltn (v := .ty "str") (u := .type "str") (by rfl) T.f_str (by decide +kernel) rfl) pa_nil))))))) (pss_one (ps_ret pe_bl)) pss_nil)
    (pss_cons (ps_asg (pe_tup (pa_cons (pe_cal C_counted (hr.mono (by omega)) (pa_cons (pv 1) (pa_cons pe_dnewK pa_nil))) (pa_cons (pe_cal C_counted (hr.mono (by omega)) (pa_cons (pv 2) (pa_cons pe_dnewK pa_nil))) pa_nil))) (k_tup K (n := 2) rfl rfl (pgs_cons (pg_name (i := 3) nd rfl (by first | exact Or.inl rfl | exact Or.inr rfl)) (pgs_cons (pg_name (i := 4) nd rfl (by first | exact Or.inl rfl | exact Or.inr rfl)) pgs_nil))))
    (pss_cons (ps_if (pt_not (pt_val (pe_callB (k_all K rfl rfl) (by rfl) T.f_all (by decide +kernel) (pa_cons (pe_lockE (pe_lc (own := [("variable", 8)]) rfl nd (pi_keys (pv 4)) (blkOk_by (own := [("variable", 8)]) (N := N_is_above) (sc := defScope s_is_above) (by decide +kernel)) (fun _ _ _ _ _ => (pg_name (i := 8) nd rfl (by first | exact Or.inl rfl | exact Or.inr rfl))) (fun _ _ _ _ _ => pts_nil) (fun _ _ _ _ _ => pe_nev))) pa_nil)))) (pss_one (ps_ret pe_bl)) pss_nil)
    (pss_cons (ps_par (i := 5) (j := 6) rfl nd rfl rfl (by decide) rfl rfl (pa_cons (pe_cal C_weight_in (hr.mono (by omega)) (pa_cons (pv 0) (pa_cons (pv 1) pa_nil))) (pa_cons (pe_cal C_weight_in (hr.mono (by omega)) (pa_cons (pv 0) (pa_cons (pv 2) pa_nil))) pa_nil)) (by with_unfolding_all rfl))
    (pss_cons (ps_if (PW.pt (pw_or (pt_cmpR (k_ne K rfl (hu64 hr)) (pv 5) (pv 6) (nomark _)) (pw_or1 (pt_val (pe_callB (k_isi K rfl) (by rfl) T.f_isinstance (by decide +kernel) (pa_cons (pv 2) (pa_cons (pe_bltn (v := .ty "str") (u := .type "str") (by rfl) T.f_str (by decide +kernel) rfl) pa_nil))))))) (pss_one (ps_ret (pe_cmpR o_gt (pv 5) (pv 6) (nomark _)))) pss_nil)
    (pss_cons (ps_if (pt_cmpR (k_ne K rfl (hu64 hr)) (pe_ix (k_ix K rfl (hu1 hr)) (pv 1) pe_int (fun _ _ => rfl)) (pe_ix (k_ix K rfl (hu1 hr)) (pv 2) pe_int (fun _ _ => rfl)) (nomark _)) (pss_one (ps_ret (pe_cmpR o_gt (pe_ix (k_ix K rfl (hu1 hr)) (pe_fld (pv 0) rfl) (pe_ix (k_ix K rfl (hu1 hr)) (pv 1) pe_int (fun _ _ => rfl)) (fun _ _ => rfl)) (pe_ix (k_ix K rfl (hu1 hr)) (pe_fld (pv 0) rfl) (pe_ix (k_ix K rfl (hu1 hr)) (pv 2) pe_int (fun _ _ => rfl)) (fun _ _ => rfl)) (nomark _)))) pss_nil)
    (pss_cons (ps_setLc (i := 7) (own := [("pair", 9)]) rfl nd rfl rfl (sw_true rfl rfl rfl (by decide +kernel)) (pi_zipN (by rfl) T.f_zip (pa_cons (pe_slice (k_sl K rfl) (pv 1) (po_some pe_int) po_none) (pa_cons (pe_slice (k_sl K rfl) (pv 2) (po_some pe_int) po_none) pa_nil))) (blkOk_by (own := [("pair", 9)]) (N := N_is_above) (sc := defScope s_is_above) (by decide +kernel)) (fun _ _ _ _ _ => (pg_name (i := 9) nd rfl (by first | exact Or.inl rfl | exact Or.inr rfl))) (fun _ _ _ _ _ => (pts_one (pt_cmpR (k_ne K rfl (hu64 hr)) (pe_ix (k_ix K rfl (hu1 hr)) (pv 9) pe_int (fun _ _ => rfl)) (pe_ix (k_ix K rfl (hu1 hr)) (pv 9) pe_int (fun _ _ => rfl)) (nomark _)))) (fun _ _ _ _ _ => (pv 9)))
    (pss_one (ps_ret (pe_cal C_is_above (hr.mono (by omega)) (pa_cons (pv 0) (pa_cons (pe_ix (k_ix K rfl (hu1 hr)) (pe_ix (k_ix K rfl (hu1 hr)) (pv 7) pe_int (fun _ _ => rfl)) pe_int (fun _ _ => rfl)) (pa_cons (pe_ix (k_ix K rfl (hu1 hr)) (pe_ix (k_ix K rfl (hu1 hr)) (pv 7) pe_int (fun _ _ => rfl)) pe_int (fun _ _ => rfl)) pa_nil))))))))))))), ?_⟩
    rintro ds d ⟨r, a, b, hR, ha, hb, rfl, rfl⟩
    show XS K [] _ ([.dat (ordD C r), .dat (enc a), .dat (enc b), .no, .no, .no, .no, .no, .no, .no] : List Sl) _
    have oa := okW_ok ha (by omega)
    have ob := okW_ok hb (by omega)
    by_cases hab : a = b
    · refine xs_out (xs_if1 (et_or (x := true) (y := false) (et_eq (ed_var (d := enc a) rfl) (ed_var (d := enc b) rfl) oa ob (by rw [eqD_enc]; exact decide_eq_true hab)) fun h => nomatch h) (xs_ret (ed_bl false) ?_))
      rw [hab, above_self]
    obtain ⟨g, as⟩ := a
    obtain ⟨g', bs⟩ := b
    obtain ⟨hg, hl, has⟩ := okW_app ha
    obtain ⟨hg', hl', hbs⟩ := okW_app hb
    have isb : ∀ {Γ : List Sl} {te : TE} {h : Str} {cs : List W}, ED K te Γ (enc (.app h cs)) → ET K (tB (tCB (rIsi K) (tCons te (tCons (tC (.ty "str")) tNil)))) Γ false := fun {Γ te h cs} q => by
      rw [enc_app] at q
      exact et_B (ed_isi (n := "str") q rfl rfl)
    have hd : ∀ {Γ : List Sl} {te : TE} {h : Str} {cs : List W}, ED K te Γ (enc (.app h cs)) → ED K (tOp (rIxU K) te (tC (.int 0))) Γ (.str h) := fun {Γ te h cs} q => by
      rw [enc_app] at q
      exact ed_headT q
    have tl : ∀ {Γ : List Sl} {te : TE} {h : Str} {cs : List W}, ED K te Γ (enc (.app h cs)) → ED K (tSl (rSlU K) te (tPart (tC (.int 1))) tNoPart) Γ (.tup (cs.map enc)) := fun {Γ te h cs} q => by
      rw [enc_app] at q
      exact ed_tailT q
    refine xs_skip (et_or (x := false) (y := false) (et_eq (ed_var (d := enc (.app g as)) rfl) (ed_var (d := enc (.app g' bs)) rfl) oa ob (by rw [eqD_enc]; exact decide_eq_false hab)) fun _ => isb (ed_var rfl)) ?_
    refine xs_then (xs_asgG (d := .tup [.dic [], .dic []]) (vs := [3, 4]) (ed_tup (ea_cons (ed_call (ea_cons (ed_var (d := enc (.app g as)) rfl) (ea_cons en_dnew.edD ea_nil)) ⟨_, ha, rfl, rfl⟩) (ea_cons (ed_call (ea_cons (ed_var (d := enc (.app g' bs)) rfl) (ea_cons en_dnew.edD ea_nil)) ⟨_, hb, rfl, rfl⟩) ea_nil)) (by decide)) (gd_tup (gds_cons (gd_name (Free.of rfl)) (gds_cons (gd_name (Free.of rfl)) gds_nil)) rfl) nopin rfl) ?_
    refine xs_skip (et_not (x := true) (et_B (ed_is (ed_cb (ds := [.lst (([] : List Bool).map D.bl)]) (ea_cons (en_lcK (es := []) (fun _ => none) rfl (free1 rfl) (Nat.zero_le _) (fun k hk => absurd hk List.not_mem_nil)).edL ea_nil) vc_all) rfl))) ?_
    refine xs_then (xs_par (xb_ed (ed_call (ea_cons (ed_var (d := ordD C r) rfl) (ea_cons (ed_var (d := enc (.app g as)) rfl) ea_nil)) ⟨r, _, hR, ha, rfl, rfl⟩) (xb_ed (ed_call (ea_cons (ed_var (d := ordD C r) rfl) (ea_cons (ed_var (d := enc (.app g' bs)) rfl) ea_nil)) ⟨r, _, hR, hb, rfl, rfl⟩) (xb_nil ⟨_, _, rfl, Free.of rfl, Free.of rfl, rfl⟩))) List.not_mem_nil List.not_mem_nil) ?_
    rw [above]
    by_cases hw : wt r (.app g as) = wt r (.app g' bs)
    · rw [if_neg (show ¬ (wt r (.app g as) ≠ wt r (.app g' bs)) from fun z => z hw)]
      refine xs_skip (et_or (x := false) (y := false) (et_ne (ed_var (d := .int (wt r (.app g as))) rfl) (ed_var (d := .int (wt r (.app g' bs))) rfl) rfl rfl (by rw [eqD_int, decide_eq_true hw]; rfl)) fun _ => isb (ed_var rfl)) ?_
      have g_ok : ∀ {h : Str}, h ∈ nm → (D.str h).ok = true := fun {h} hh => by
        have := nm_ok h hh
        unfold D.ok SeqAt.shaped
        rw [D.pl, D.py, PyData.canLay0, this, PyData.depth]
        · rfl
        all_goals (intros; rename_i z; cases z)
      by_cases hgg : g = g'
      · rw [if_neg (show ¬ (g ≠ g') from fun z => z hgg)]
        subst hgg
        refine xs_skip (et_ne (hd (ed_var (d := enc (.app g as)) rfl)) (hd (ed_var (d := enc (.app g bs)) rfl)) (g_ok hg) (g_ok hg) (by rw [eqD_str, decide_eq_true rfl]; rfl)) ?_
        have hlen : as.length = bs.length := by rw [hl, hl']
        obtain ⟨x, y, rest, u1, u2, u3, u4⟩ := unlike_head r hlen (fun z => hab (by rw [z]))
        have zs : (as.zip bs).length ≤ 2 := by rw [List.length_zip]; have := ar_le g; omega
        refine xs_then (xs_asg (d := .lst (((as.zip bs).filter uneq).map encP)) (ed_filter encP uneq encP (IT.ip (by rw [← zip_enc]; exact it_zipN (ea_cons (tl (ed_var rfl)) (ea_cons (tl (ed_var rfl)) ea_nil)))) (free1 rfl) (Nat.le_trans zs (by decide)) fun q hq => ⟨_, gd_name (Free.of rfl), ?_, fun _ => ed_var rfl⟩) (Free.of rfl) List.not_mem_nil rfl) ?_
        · have m := List.of_mem_zip (show (q.1, q.2) ∈ as.zip bs from hq)
          exact et_ne (ed_op (ed_var (d := .tup [enc q.1, enc q.2]) rfl) (ed_int 0) (vr_ixT (atI_nat (j := 0) rfl))) (ed_op (ed_var (d := .tup [enc q.1, enc q.2]) rfl) (ed_int 1) (vr_ixT (atI_nat (j := 1) rfl))) (okW_ok (has _ m.1) (by omega)) (okW_ok (hbs _ m.2) (by omega)) (by
            rw [eqD_enc]
            unfold uneq
            by_cases e : q.1 = q.2 <;> simp [e])
        · rw [u1, u2]
          have e0 : ED K (tOp (rIxU K) (tVar 7) (tC (.int 0))) [.dat (ordD C r), .dat (enc (.app g as)), .dat (enc (.app g bs)), .dat (.dic []), .dat (.dic []), .dat (.int (wt r (.app g as))), .dat (.int (wt r (.app g bs))), .dat (.lst (((x, y) :: rest).map encP)), .no, .no] (.tup [enc x, enc y]) := ed_op (ed_var rfl) (ed_int 0) (vr_ixL (atI_nat (j := 0) rfl))
          exact xs_ret (ed_call (ea_cons (ed_var (d := ordD C r) rfl) (ea_cons (ed_op e0 (ed_int 0) (vr_ixT (atI_nat (j := 0) rfl))) (ea_cons (ed_op e0 (ed_int 1) (vr_ixT (atI_nat (j := 1) rfl))) ea_nil))) ⟨r, x, y, hR, has _ u3, hbs _ u4, rfl, rfl⟩) rfl
      · rw [if_pos (show g ≠ g' from hgg)]
        refine xs_out (xs_if1 (et_ne (hd (ed_var (d := enc (.app g as)) rfl)) (hd (ed_var (d := enc (.app g' bs)) rfl)) (g_ok hg) (g_ok hg') (by rw [eqD_str, decide_eq_false hgg]; rfl)) (xs_ret (ed_is (ed_op (ed_op (ed_rks T (ed_var (d := ordD C r) rfl)) (hd (ed_var rfl)) (vr_dGet (k := .inr g) (val_rks ((hR.mem g).mp hg)))) (ed_op (ed_rks T (ed_var (d := ordD C r) rfl)) (hd (ed_var rfl)) (vr_dGet (k := .inr g') (val_rks ((hR.mem g').mp hg')))) vr_gt) ?_) rfl))
        congr 1
        by_cases e : rk r g' < rk r g
        · rw [decide_eq_true e]; exact decide_eq_true (by omega)
        · rw [decide_eq_false e]; exact decide_eq_false (by omega)
    · rw [if_pos (show wt r (.app g as) ≠ wt r (.app g' bs) from hw)]
      exact xs_out (xs_if1 (et_or (x := true) (y := false) (et_ne (ed_var (d := .int (wt r (.app g as))) rfl) (ed_var (d := .int (wt r (.app g' bs))) rfl) rfl rfl (by rw [eqD_int, decide_eq_false hw]; rfl)) fun h => nomatch h) (xs_ret (ed_op (ed_var rfl) (ed_var rfl) vr_gt) rfl))
end
end K29
set_option Elab.async false
set_option maxRecDepth 100000
set_option maxHeartbeats 400000
set_option linter.all false
namespace K29
open PySem L2 StX PyProof.Rows PySem.Spec DL
abbrev RAbove (C : Addr) (n : Nat) : List D → D → Prop := fun ds d => ∃ r a b, RowsOk r ∧ okW n a = true ∧ okW n b = true ∧ ds = [ordD C r, enc a, enc b] ∧ d = .bl (above r a b)
section
variable {P : Program} {w : World} {K : PySem.W.Frag} {mg : Str → Option Value} {base : Heap} {C : Addr}
abbrev s_compare_in : Stmt := top 27
abbrev N_compare_in : List Str := ["order", "one", "other"]
theorem sc_compare_in : FnScope N_compare_in ["order", "one", "other"] (defScope s_compare_in) := ⟨rfl, rfl, rfl, by decide +kernel, rfl, by decide +kernel, by decide +kernel⟩
theorem b_compare_in : BindsH "compare_in" s_compare_in ["order", "one", "other"] := fun _ _ _ _ _ _ us hl => match us, hl with | [_, _, _], _ => rfl
theorem ok_compare_in (F : Def K mg "compare_in" s_compare_in) (T : Txt K mg C) (n : Nat) (hn : n ≤ 30)
    (C_is_above : Cal P w K mg base (n + 3) "is_above" ["order", "one", "other"] (spP K fun ds d => ∃ r a b, RowsOk r ∧ okW n a = true ∧ okW n b = true ∧ ds = [ordD C r, enc a, enc b] ∧ d = .bl (above r a b))) :
    Cal P w K mg base (n + 4) "compare_in" ["order", "one", "other"] (spP K fun ds d => ∃ r a b, RowsOk r ∧ okW n a = true ∧ okW n b = true ∧ ds = [ordD C r, enc a, enc b] ∧ d = .str (cmp r a b)) := by
  refine cal_pure F sc_compare_in b_compare_in (fun ds d ⟨x, _, _, _, _, _, h, _⟩ => by rw [h]; rfl) fun f cdv A outer s H E hr => ?_
  have nd := sc_compare_in.nd
  refine ⟨_, (pss_cons (ps_if (pt_cmpR (k_eq K rfl (hu64 hr)) (pv 1) (pv 2) (nomark _)) (pss_one (ps_ret pe_str)) pss_nil)
    (pss_cons (ps_if (pt_val (pe_cal C_is_above (hr.mono (by omega)) (pa_cons (pv 0) (pa_cons (pv 1) (pa_cons (pv 2) pa_nil))))) (pss_one (ps_ret pe_str)) pss_nil)
    (pss_one (ps_ret (pe_ifExp (pt_val (pe_cal C_is_above (hr.mono (by omega)) (pa_cons (pv 0) (pa_cons (pv 2) (pa_cons (pv 1) pa_nil))))) pe_str pe_str))))), ?_⟩
  rintro ds d ⟨r, a, b, hR, ha, hb, rfl, rfl⟩
  show XS K [] _ ([.dat (ordD C r), .dat (enc a), .dat (enc b)] : List Sl) _
  have c1 : ED K _ ([.dat (ordD C r), .dat (enc a), .dat (enc b)] : List Sl) (.bl (above r a b)) := ed_call (E := E0) (R := RAbove C n) (ea_cons (ed_var (i := 0) rfl) (ea_cons (ed_var (i := 1) rfl) (ea_cons (ed_var (i := 2) rfl) ea_nil))) ⟨r, a, b, hR, ha, hb, rfl, rfl⟩
  have c2 : ED K _ ([.dat (ordD C r), .dat (enc a), .dat (enc b)] : List Sl) (.bl (above r b a)) := ed_call (E := E0) (R := RAbove C n) (ea_cons (ed_var (i := 0) rfl) (ea_cons (ed_var (i := 2) rfl) (ea_cons (ed_var (i := 1) rfl) ea_nil))) ⟨r, b, a, hR, hb, ha, rfl, rfl⟩
  unfold cmp
  by_cases hab : a = b
  · rw [if_pos hab]
    exact xs_out (xs_if1 (et_eq (ed_var (i := 1) rfl) (ed_var (i := 2) rfl) (okW_ok ha (by omega)) (okW_ok hb (by omega)) (by rw [eqD_enc]; exact decide_eq_true hab)) (xs_ret (ed_str _) rfl))
  · rw [if_neg hab]
    refine xs_skip (et_eq (ed_var (i := 1) rfl) (ed_var (i := 2) rfl) (okW_ok ha (by omega)) (okW_ok hb (by omega)) (by rw [eqD_enc]; exact decide_eq_false hab)) ?_
    cases h1 : above r a b with
    | true =>
      rw [h1] at c1
      exact xs_out (xs_if1 (et_B c1) (xs_ret (ed_str _) rfl))
    | false =>
      rw [h1] at c1
      refine xs_skip (et_B c1) ?_
      cases h2 : above r b a with
      | true =>
        rw [h2] at c2
        exact xs_ret (ed_if (x := true) (et_B c2) (fun _ => ed_str _) fun z => nomatch z) rfl
      | false =>
        rw [h2] at c2
        exact xs_ret (ed_if (x := false) (et_B c2) (fun z => nomatch z) fun _ => ed_str _) rfl
abbrev s_compare : Stmt := top 28
abbrev N_compare : List Str := ["order", "one", "other", "pair", "thing", "word", "name"]
theorem sc_compare : FnScope N_compare ["order", "one", "other"] (defScope s_compare) := ⟨rfl, rfl, rfl, by decide +kernel, rfl, by decide +kernel, by decide +kernel⟩
theorem b_compare : BindsH "compare" s_compare ["order", "one", "other"] := fun _ _ _ _ _ _ us hl => match us, hl with | [_, _, _], _ => rfl
theorem ok_compare (F : Def K mg "compare" s_compare) (T : Txt K mg C) (n : Nat) (hn : n ≤ 30)
    (C_checked_order : Cal P w K mg base 1 "checked_order" ["order"] (spP K fun ds d => ∃ r, ds = [ordD C r] ∧ d = ordD C r))
    (C_checked_word : Cal P w K mg base (n + 3) "checked_word" ["thing"] (spP K fun ds d => ∃ a, okW n a = true ∧ ds = [enc a] ∧ d = enc a))
    (C_first_without : Cal P w K mg base (n + 2) "first_without" ["order", "word"] (spP K fun ds d => ∃ r a, RowsOk r ∧ okW n a = true ∧ ds = [ordD C r, enc a] ∧ d = .non))
    (C_compare_in : Cal P w K mg base (n + 4) "compare_in" ["order", "one", "other"] (spP K fun ds d => ∃ r a b, RowsOk r ∧ okW n a = true ∧ okW n b = true ∧ ds = [ordD C r, enc a, enc b] ∧ d = .str (cmp r a b))) :
    Cal P w K mg base (n + 5) "compare" ["order", "one", "other"] (spP K fun ds d => ∃ r a b, RowsOk r ∧ okW n a = true ∧ okW n b = true ∧ ds = [ordD C r, enc a, enc b] ∧ d = .str (cmp r a b)) := by
  refine cal_pure F sc_compare b_compare (fun ds d ⟨x, _, _, _, _, _, h, _⟩ => by rw [h]; rfl) fun f cdv A outer s H E hr => ?_
  have nd := sc_compare.nd
  refine ⟨_, (pss_cons (ps_expr (pe_cal C_checked_order (hr.mono (by omega)) (pa_cons (pv 0) pa_nil)))
    (pss_cons (ps_set (i := 3) nd rfl (by first | exact Or.inl rfl | exact Or.inr rfl) (pe_lst pa_nil))
    (pss_cons (ps_for PassesOwn.never rfl (pi_tup (pe_tup (pa_cons (pv 1) (pa_cons (pv 2) pa_nil)))) (pg_name (i := 4) nd rfl (by first | exact Or.inl rfl | exact Or.inr rfl)) (pss_cons (ps_set (i := 5) nd rfl (by first | exact Or.inl rfl | exact Or.inr rfl) (pe_cal C_checked_word (hr.mono (by omega)) (pa_cons (pv 4) pa_nil)))
    (pss_cons (ps_set (i := 6) nd rfl (by first | exact Or.inl rfl | exact Or.inr rfl) (pe_cal C_first_without (hr.mono (by omega)) (pa_cons (pv 0) (pa_cons (pv 5) pa_nil))))
    (pss_cons (ps_if (pt_cmpR o_notN (pv 6) pe_non (nomark _)) (pss_one ps_never) pss_nil)
    (pss_one (ps_expr (pe_bm PySem.F.plainAttrs_list PySem.F.slot_list_append PySem.F.type_list_append mt_append (pv 3) (pa_cons (pv 5) pa_nil))))))))
    (pss_one (ps_ret (pe_cal C_compare_in (hr.mono (by omega)) (pa_cons (pv 0) (pa_cons (pe_ix (k_ix K rfl (hu1 hr)) (pv 3) pe_int (fun _ _ => rfl)) (pa_cons (pe_ix (k_ix K rfl (hu1 hr)) (pv 3) pe_int (fun _ _ => rfl)) pa_nil))))))))), ?_⟩
  rintro ds d ⟨r, a, b, hR, ha, hb, rfl, rfl⟩
  show XS K [] _ ([.dat (ordD C r), .dat (enc a), .dat (enc b), .no, .no, .no, .no] : List Sl) _
  refine xs_then (xs_drop (ed_call (ea_cons (ed_var (i := 0) rfl) ea_nil) ⟨r, rfl, rfl⟩) rfl) ?_
  refine xs_then (xs_asgN (en_lst ea_nil (Nat.zero_le _)) (Free.of rfl) List.not_mem_nil rfl) ?_
  refine xs_seq (xs_for (vs := [4]) (ds := [a, b].map enc) (fun k Γ => ∃ s4 s5 s6, Nd s4 ∧ Nd s5 ∧ Nd s6 ∧ Γ = [.dat (ordD C r), .dat (enc a), .dat (enc b), .ml (([a, b].take k).map enc), s4, s5, s6]) (it_tup (ed_tup (ea_cons (ed_var (i := 1) rfl) (ea_cons (ed_var (i := 2) rfl) ea_nil)) (show 2 ≤ sizeLine by decide))) ⟨.no, .no, .no, Nd.no, Nd.no, Nd.no, rfl⟩ nopin (fun k d Γ1 hd ⟨s4, s5, s6, n4, n5, n6, e⟩ => ?_) fun Γ1 h => h) fun Γ' ⟨s4, s5, s6, n4, n5, n6, e⟩ => by
    subst e
    exact xs_ret (ed_call (ea_cons (ed_var (d := ordD C r) rfl) (ea_cons (ed_ixM (i := 3) (ds := [enc a, enc b]) rfl (ed_int 0) (atI_nat (j := 0) rfl)) (ea_cons (ed_ixM (i := 3) (ds := [enc a, enc b]) rfl (ed_int 1) (atI_nat (j := 1) rfl)) ea_nil))) ⟨r, a, b, hR, ha, hb, rfl, rfl⟩) rfl
  subst e
  rw [List.getElem?_map] at hd
  cases hx : [a, b][k]? with
  | none => rw [hx] at hd; cases hd
  | some x =>
    rw [hx] at hd
    cases hd
    have hk : k < 2 := (List.getElem?_eq_some_iff.mp hx).1
    have hxo : okW n x = true := by
      rcases (by simpa using List.mem_of_getElem? hx : x = a ∨ x = b) with e | e <;> rw [e] <;> assumption
    have step : ([a, b].take (k + 1)).map enc = ([a, b].take k).map enc ++ [enc x] := by
      rw [List.take_succ, hx, List.map_append]
      rfl
    refine ⟨_, gd_name (freeNd rfl n4), xs_then (xs_asg (ed_call (ea_cons (ed_var (i := 4) rfl) ea_nil) ⟨x, hxo, rfl, rfl⟩) (freeNd rfl n5) List.not_mem_nil rfl) (xs_then (xs_asg (ed_call (ea_cons (ed_var (i := 0) rfl) (ea_cons (ed_var (i := 5) rfl) ea_nil)) ⟨r, x, hR, hxo, rfl, rfl⟩) (freeNd rfl n6) List.not_mem_nil rfl) ?_)⟩
    refine xs_skip (et_test (ed_is (ed_op (ed_var (i := 6) rfl) ed_non vr_notN) rfl)) ?_
    refine xs_dropX (xe_append (R := fun g _ => g = [.dat (ordD C r), .dat (enc a), .dat (enc b), .ml (([a, b].take (k + 1)).map enc), .dat (enc x), .dat (enc x), .dat .non]) (i := 3) rfl (ed_var (i := 5) rfl) ?_ ?_) fun g _ e => ⟨_, _, _, Nd.dat _, Nd.dat _, Nd.dat _, e⟩
    · rw [List.length_map, List.length_take]
      have : (2 : Nat) < sizeLine := by decide
      simp
      omega
    · rw [step]
      rfl
end
end K29
set_option Elab.async false
set_option maxRecDepth 100000
set_option maxHeartbeats 400000
set_option linter.all false
namespace K29
open PySem L2 StX PyProof.Rows PySem.Spec DL
/-! ### Order(rows) -/
def rowD (p : Str × Int) : D := .tup [.str p.1, .int p.2]
def rowsD (r : Rows) : D := .lst (r.map rowD)
def wtsV (r : Rows) : List (Key × V) := r.map fun p => (.inr p.1, .int p.2)
def rksV (r : Rows) : List (Key × V) := r.zipIdx.map fun p => (.inr p.1.1, .int (p.2 : Nat))
theorem wts_rp {K : PySem.W.Frag} {T : Addr → Prop} {H : Hp} : ∀ r : Rows, RpD K T H (wtsV r) (wtsD r)
  | [] => .nil
  | p :: r => .cons (.int _) (wts_rp r)
theorem rks_rp {K : PySem.W.Frag} {T : Addr → Prop} {H : Hp} (r : Rows) : RpD K T H (rksV r) (rksD r) := by
  unfold rksV rksD
  suffices h : ∀ n : Nat, RpD K T H ((r.zipIdx n).map fun p => ((.inr p.1.1 : Key), V.int (p.2 : Nat))) ((r.zipIdx n).map fun p => ((.inr p.1.1 : Key), D.int (p.2 : Nat))) from h 0
  induction r with
  | nil => exact fun _ => .nil
  | cons p r ih => exact fun n => .cons (.int _) (ih (n + 1))
theorem wts_keys (r : Rows) : (wtsV r).map (·.1) = r.map fun p => (.inr p.1 : Key) := by
  unfold wtsV
  rw [List.map_map]
  rfl
theorem wtsD_keys (r : Rows) : (wtsD r).map (·.1) = r.map fun p => (.inr p.1 : Key) := by
  unfold wtsD
  rw [List.map_map]
  rfl
theorem take_succ_of {α : Type} {xs : List α} {i : Nat} {x : α} (h : xs[i]? = some x) : xs.take (i + 1) = xs.take i ++ [x] := by
  rw [List.take_succ, h]
  rfl
theorem not_before {r : Rows} (hn : (r.map (·.1)).Nodup) {i : Nat} {p : Str × Int} (h : r[i]? = some p) : (.inr p.1 : Key) ∉ (r.take i).map fun q => (.inr q.1 : Key) := by
  intro z
  obtain ⟨q, hq, e⟩ := List.mem_map.mp z
  have e' : q.1 = p.1 := Sum.inr.inj e
  obtain ⟨j, hj⟩ := List.getElem?_of_mem hq
  rw [List.getElem?_take] at hj
  split at hj
  · rename_i hlt
    have h1 : (r.map (·.1))[j]? = some p.1 := by rw [List.getElem?_map, hj]; exact congrArg some e'
    have h2 : (r.map (·.1))[i]? = some p.1 := by rw [List.getElem?_map, h]; rfl
    obtain ⟨l1, g1⟩ := List.getElem?_eq_some_iff.mp h1
    have := (List.getElem?_inj l1 hn).mp (h1.trans h2.symm)
    omega
  · cases hj
theorem rksV_take {r : Rows} {i : Nat} {p : Str × Int} (h : r[i]? = some p) : rksV (r.take (i + 1)) = rksV (r.take i) ++ [(.inr p.1, .int (i : Nat))] := by
  unfold rksV
  rw [take_succ_of h, List.zipIdx_append, List.map_append]
  have hl : (r.take i).length = i := by
    have := (List.getElem?_eq_some_iff.mp h).1
    rw [List.length_take]
    omega
  rw [hl]
  simp
theorem rks_keys (r : Rows) : (rksV r).map (·.1) = r.map fun p => (.inr p.1 : Key) := by
  unfold rksV
  rw [List.map_map]
  suffices h : ∀ n : Nat, (r.zipIdx n).map ((fun x : Key × V => x.1) ∘ fun p => ((.inr p.1.1 : Key), V.int (p.2 : Nat))) = r.map fun p => (.inr p.1 : Key) from h 0
  induction r with
  | nil => exact fun _ => rfl
  | cons p r ih =>
    intro n
    rw [List.zipIdx_cons, List.map_cons, List.map_cons, ih (n + 1)]
    rfl
/-- what __init__ promises -/
def spI (K : PySem.W.Frag) (C : Addr) : Sp := fun vs H Q _ => ∃ (S : Addr → Prop) (x dx : Addr) (rv : V) (r : Rows), vs = [.ref x, rv] ∧ H x = some (.ins C dx []) ∧ Rp K S H rv (rowsD r) ∧ S x ∧ RowsOk r ∧ r.length ≤ 5 ∧
  ∀ H' p q, H p = none → H q = none → H' x = some (.ins C dx [("own_weights", .ref p), ("own_ranks", .ref q)]) → H' p = some (.dK (wtsV r)) → H' q = some (.dK (rksV r)) → (∀ a o, a ≠ x → H a = some o → H' a = some o) → Q .non H'
section
variable {P : Program} {w : World} {K : PySem.W.Frag} {mg : Str → Option Value} {base : Heap} {C : Addr}
abbrev s_Order_init : Stmt := inClass (top 21) 0
abbrev N_Order_init : List Str := ["self", "rows", "index", "row", "name"]
theorem sc_Order_init : FnScope N_Order_init ["self", "rows"] (defScope s_Order_init) := ⟨rfl, rfl, rfl, by decide +kernel, rfl, by decide +kernel, by decide +kernel⟩
theorem b_Order_init : ∀ (kV doc pm : Value) (an : Option Addr) (cdv ct : Value) (us : List Value), us.length = ["self", "rows"].length → bindArgs (PySem.W.fnOf "__init__" "Order.__init__" (defArgs s_Order_init) (defBody s_Order_init) (defScope s_Order_init) .none kV doc pm an cdv ct) ⟨us, []⟩ = pure ((["self", "rows"] : List Str).zip us) := fun _ _ _ _ _ _ us hl => match us, hl with | [_, _], _ => rfl
theorem init_body (T : Txt K mg C) {k : Nat} (C_is_list : Cal P w K mg base 1 "is_list" ["thing"] (spP K fun ds d => ∃ x, ds = [x] ∧ isIns x = false ∧ d = .bl (isList x)))
    (C_is_integer : Cal P w K mg base 1 "is_integer" ["thing"] (spP K fun ds d => ∃ i, ds = [.int i] ∧ d = .bl true))
    (C_is_name : Cal P w K mg base 1 "is_name" ["thing"] (spP K fun ds d => ∃ z ∈ nm, ds = [.str z] ∧ d = .bl true))
    (f : Addr) (cdv : Value) (A : Around) (outer : List Env) (s : Shared) (H : Hp) (E : XK) (hr : Room (k + 1) (A.deeper (envOfC "Order.__init__" (defScope s_Order_init) s.heap.objs.size f cdv))) :
    ∃ t, PSs (cxOf CX0 P w K mg base N_Order_init "Order.__init__" (defScope s_Order_init) f cdv A outer s H E).nox (defBody s_Order_init) t ∧ ∀ (H : Hp) (vs : List V) (Q : VK) (E : XK), spI K C vs H Q E → t { nx := fun _ H' => Q .non H', rt := Q } (start N_Order_init vs) H := by
  have nd := sc_Order_init.nd
  refine ⟨_, (pss_cons (ps_if (pt_not (pt_val (pe_cal C_is_list (hr.mono (by omega)) (pa_cons (pv 1) pa_nil)))) (pss_one ps_never) pss_nil)
    (pss_cons (ps_fld (pv 0) pe_dnewK rfl)
    (pss_cons (ps_for PassesOwn.never rfl (pi_enumU (by rfl) T.f_enumerate (pa_cons (pv 1) pa_nil)) (k_tup K (n := 2) rfl rfl (pgs_cons (pg_name (i := 2) nd rfl (by first | exact Or.inl rfl | exact Or.inr rfl)) (pgs_cons (pg_name (i := 3) nd rfl (by first | exact Or.inl rfl | exact Or.inr rfl)) pgs_nil))) (pss_cons (ps_if (PW.pt (pw_or (pt_not (pt_val (pe_cal C_is_list (hr.mono (by omega)) (pa_cons (pv 3) pa_nil)))) (pw_or (pt_cmpR (k_ne K rfl (hu64 hr)) (pe_callB (k_len K rfl) (by rfl) T.f_len (by decide +kernel) (pa_cons (pv 3) pa_nil)) pe_int (nomark _)) (pw_or (pt_not (pt_val (pe_cal C_is_name (hr.mono (by omega)) (pa_cons (pe_ix (k_ix K rfl (hu1 hr)) (pv 3) pe_int (fun _ _ => rfl)) pa_nil)))) (pw_or1 (pt_cmpR (k_in K rfl (hu65 hr)) (pe_ix (k_ix K rfl (hu1 hr)) (pv 3) pe_int (fun _ _ => rfl)) (pe_fld (pv 0) rfl) (by with_unfolding_all rfl))))))) (pss_one ps_never) pss_nil)
    (pss_cons (ps_if (PW.pt (pw_or (pt_not (pt_val (pe_cal C_is_integer (hr.mono (by omega)) (pa_cons (pe_ix (k_ix K rfl (hu1 hr)) (pv 3) pe_int (fun _ _ => rfl)) pa_nil)))) (pw_or1 (pt_cmpR o_lt (pe_ix (k_ix K rfl (hu1 hr)) (pv 3) pe_int (fun _ _ => rfl)) pe_int (nomark _))))) (pss_one ps_never) pss_nil)
    (pss_one (ps_dput (hu1 hr) (pe_fld (pv 0) rfl) (pe_ix (k_ix K rfl (hu1 hr)) (pv 3) pe_int (fun _ _ => rfl)) (pe_ix (k_ix K rfl (hu1 hr)) (pv 3) pe_int (fun _ _ => rfl)) rfl)))))
    (pss_one (ps_fld (pv 0) (pe_lockE (pe_dc (own := [("index", 2), ("name", 4)]) rfl nd (pi_enumK (by rfl) T.f_enumerate (pa_cons (pe_fld (pv 0) rfl) pa_nil)) (blkOk_by (own := [("index", 2), ("name", 4)]) (N := N_Order_init) (sc := defScope s_Order_init) (by decide +kernel)) (fun _ _ _ _ _ => (k_tup K (n := 2) rfl rfl (pgs_cons (pg_name (i := 2) nd rfl (by first | exact Or.inl rfl | exact Or.inr rfl)) (pgs_cons (pg_name (i := 4) nd rfl (by first | exact Or.inl rfl | exact Or.inr rfl)) pgs_nil)))) (fun _ _ _ _ _ => pts_nil) (fun _ _ _ _ _ => (pv 4)) (fun _ _ _ _ _ => (pv 2)))) rfl))))), ?_⟩
  rintro H vs Q E ⟨S, x, dx, rv, r, rfl, hx, hrv, hSx, hR, hlen, fin⟩
  have five : (5 : Nat) < sizeLine := by decide
  have hnd := hR.nd
  obtain ⟨a0, xs, rfl, nS, hl, rl⟩ : ∃ a0 xs, rv = .ref a0 ∧ ¬ S a0 ∧ H a0 = some (.lst xs) ∧ RpL K S H xs (r.map rowD) := by
    unfold rowsD at hrv
    cases hrv with
    | lst n h r => exact ⟨_, _, rfl, n, h, r⟩
  have hxl : xs.length = r.length := by rw [rl.length, List.length_map]
  have hax : a0 ≠ x := fun e => nS (e ▸ hSx)
  have grow : ∀ H2 : Hp, (∀ a o, a ≠ x → H a = some o → H2 a = some o) → Gr S H H2 := fun H2 fr => by
    have nx : ∀ {a u}, H a = some u → (∀ C' d' f', u ≠ .ins C' d' f') → a ≠ x := fun {a u} h n z => by
      rw [z, hx] at h
      cases h
      exact n _ _ _ rfl
    refine ⟨fun a ys n h => fr a _ (fun z => n (z ▸ hSx)) h, fun a ys n h => ?_, fun a ys h => ?_, fun a C' d' f' n h => fr a _ (fun z => n (z ▸ hSx)) h⟩
    · rcases h with h | ⟨o, h⟩
      · exact .inl (fr a _ (fun z => n (z ▸ hSx)) h)
      · exact .inr ⟨o, fr a _ (fun z => n (z ▸ hSx)) h⟩
    · rcases h with h | ⟨o, h⟩
      · exact .inl (fr a _ (nx h fun _ _ _ z => nomatch z) h)
      · exact .inr ⟨o, fr a _ (nx h fun _ _ _ z => nomatch z) h⟩
  have E0 : EnvOk K S0 O0 H (start N_Order_init [.ref x, .ref a0]) [.no, .dat (rowsD r), .no, .no, .no] := env_flat rfl fun i s h => by
    match i, h with
    | 0, h => cases h; exact .inl rfl
    | 1, h => cases h; exact .inr ⟨_, _, rfl, rfl, hrv.top⟩
    | 2, h => cases h; exact .inl rfl
    | 3, h => cases h; exact .inl rfl
    | 4, h => cases h; exact .inl rfl
    | n + 5, h => simp at h
  refine use_if0 E0 (et_not (x := true) (et_B (ed_call (ea_cons (ed_var rfl) ea_nil) ⟨_, rfl, rfl, rfl⟩))) fun H1 e1 p hp => ?_
  have hx1 : H1 x = some (.ins C dx []) := e1 _ _ hx
  have hpx : p ≠ x := fun z => by rw [z, hx1] at hp; cases hp
  refine ⟨.ref x, rfl, x, C, dx, [], rfl, Ex.new hp _ _ hx1, T.cI.cl, T.n_weights, by decide, ?_⟩
  have fr2 : ∀ a o, a ≠ x → H a = some o → (upd (upd H1 p (.dK [])) x (.ins C dx (putF "own_weights" (.ref p) []))) a = some o := fun a o n h => by
    rw [upd_ne n]
    exact Ex.new hp _ _ (e1 _ _ h)
  have hp0 : H p = none := Ex.back e1 hp
  refine .inl ⟨_, rfl, a0, xs, rfl, SqL.of (fr2 _ _ hax hl), ?_⟩
  refine for_it (walk_enum (xs := xs)) (fun i σ2 H2 => σ2.length = 5 ∧ σ2[0]? = some (some (.ref x)) ∧ σ2[1]? = some (some (.ref a0)) ∧ H2 x = some (.ins C dx [("own_weights", .ref p)]) ∧ H2 p = some (.dK (wtsV (r.take i))) ∧ ∀ a o, a ≠ x → H a = some o → H2 a = some o)
    ⟨rfl, rfl, rfl, upd_same, by rw [upd_ne hpx, upd_same]; rfl, fr2⟩ (fun i σ2 H2 _ ⟨_, _, _, _, _, fr⟩ => SqL.of (fr _ _ hax hl)) (fun i x' σ2 H2 H3 hi ⟨l5, g0, g1, hx2, hp2, fr⟩ y => ?_) fun σ2 H2 ⟨l5, g0, g1, hx2, hp2, fr⟩ => ?_
  · obtain ⟨t, u, v, rfl, ht, rfl, hu, hv⟩ := y
    cases hu
    obtain ⟨d, hd, rd⟩ := rl.getV hv
    have hir : i < r.length := by omega
    obtain ⟨q, hq⟩ : ∃ q, r[i]? = some q := ⟨r[i], List.getElem?_eq_getElem hir⟩
    have hdq : d = rowD q := by
      rw [List.getElem?_map, hq] at hd
      exact (Option.some.inj hd).symm
    subst hdq
    have hqm : q.1 ∈ nm := (hR.mem _).mpr (List.mem_map.mpr ⟨q, List.mem_of_getElem? hq, rfl⟩)
    have hqv := hR.pos q (List.mem_of_getElem? hq)
    refine ⟨t, _, rfl, SqT.of upd_same, rfl, _, _, rfl, _, _, rfl, rfl, ?_⟩
    have up : Ex H2 (upd H2 t (.tup [.int (i : Nat), v])) := Ex.new ht
    have E4 : EnvOk K S0 O0 (upd H2 t (.tup [.int (i : Nat), v])) ((σ2.set 2 (some (.int (i : Nat)))).set 3 (some v)) [.dat (.ins C [("own_weights", .dic (wtsD (r.take i)))]), .no, .no, .dat (rowD q), .no] := env_flat (by rw [List.length_set, List.length_set]; exact l5) fun j s h => by
      match j, h with
      | 0, h =>
        cases h
        refine .inr ⟨_, .ref x, rfl, ?_, .ins noT (up _ _ hx2) (.cons (.dic noT (.inl (up _ _ hp2)) (wts_rp _)) .nil)⟩
        rw [List.getElem?_set_ne (by decide), List.getElem?_set_ne (by decide)]
        exact g0
      | 1, h => cases h; exact .inl rfl
      | 2, h => cases h; exact .inl rfl
      | 3, h =>
        cases h
        refine .inr ⟨_, v, rfl, ?_, ((rd.mono (grow _ fr) fun a z => absurd z noT).ex up)⟩
        rw [List.getElem?_set_self (by rw [List.length_set, l5]; decide)]
      | 4, h => cases h; exact .inl rfl
      | n + 5, h => simp at h
    have r0 : ED K (tOp (rIxU K) (tVar 3) (tC (.int 0))) [.dat (.ins C [("own_weights", .dic (wtsD (r.take i)))]), .no, .no, .dat (rowD q), .no] (.str q.1) := ed_op (ed_var rfl) (ed_int 0) (vr_ixT (atI_nat (j := 0) rfl))
    have r1 : ED K (tOp (rIxU K) (tVar 3) (tC (.int 1))) [.dat (.ins C [("own_weights", .dic (wtsD (r.take i)))]), .no, .no, .dat (rowD q), .no] (.int q.2) := ed_op (ed_var rfl) (ed_int 1) (vr_ixT (atI_nat (j := 1) rfl))
    have fresh : (.inr q.1 : Key) ∉ (wtsD (r.take i)).map (·.1) := by rw [wtsD_keys]; exact not_before hnd hq
    refine use_if0 E4 (et_or (x := false) (y := false) (et_not (x := true) (et_B (ed_call (ea_cons (ed_var (d := rowD q) rfl) ea_nil) ⟨_, rfl, rfl, rfl⟩))) fun _ => et_or (x := false) (y := false) (et_ne (ed_cb (ea_cons (ed_var (d := rowD q) rfl) ea_nil) vc_lenT) (ed_int 2) rfl rfl (by rw [eqD_int]; rfl)) fun _ =>
      et_or (x := false) (y := false) (et_not (x := true) (et_B (ed_call (ea_cons r0 ea_nil) ⟨_, hqm, rfl, rfl⟩))) fun _ => et_test (ed_is (ed_op r0 (ed_fld (ed_var rfl) T.cI.cl T.n_weights rfl) (vr_dIn (neg := false) (k := .inr q.1) (es := wtsD (r.take i)))) (by rw [valD_none fresh]; rfl))) fun H4 e4 => ?_
    refine use_if0 (E4.ex e4) (et_or (x := false) (y := false) (et_not (x := true) (et_B (ed_call (ea_cons r1 ea_nil) ⟨_, rfl, rfl⟩))) fun _ => et_test (ed_is (ed_op r1 (ed_int 1) vr_lt) (by rw [decide_eq_false (by omega)]))) fun H5 e5 => ?_
    refine use_ed ((E4.ex e4).ex e5) r1 fun v6 H6 e6 r6 => ?_
    cases r6
    have ex6 : Ex H2 H6 := ((up.trans e4).trans e5).trans e6
    refine ⟨.ref x, by rw [List.getElem?_set_ne (by decide), List.getElem?_set_ne (by decide)]; exact g0, x, C, dx, _, .ref p, rfl, ex6 _ _ hx2, T.cI.cl, T.n_weights, rfl, ?_⟩
    refine use_ed (((E4.ex e4).ex e5).ex e6) r0 fun v7 H7 e7 r7 => ?_
    cases r7
    have hp7 := e7 _ _ (ex6 _ _ hp2)
    refine ⟨p, _, rfl, DPut.k (k := .inr q.1) hp7 (by unfold wtsV; rw [List.length_map, List.length_take]; omega), ?_, ?_, ?_, ?_, ?_, fun a o n h => ?_⟩
    · rw [List.length_set, List.length_set]; exact l5
    · rw [List.getElem?_set_ne (by decide), List.getElem?_set_ne (by decide)]; exact g0
    · rw [List.getElem?_set_ne (by decide), List.getElem?_set_ne (by decide)]; exact g1
    · rw [upd_ne hpx.symm]
      exact e7 _ _ (ex6 _ _ hx2)
    · rw [upd_same, putK_new (by rw [wts_keys]; exact not_before hnd hq)]
      unfold wtsV
      rw [take_succ_of hq, List.map_append]
      rfl
    · have np : a ≠ p := fun z => by rw [z, hp0] at h; cases h
      rw [upd_ne np]
      exact e7 _ _ (ex6 _ _ (fr a o n h))
  · have htake : r.take xs.length = r := by rw [hxl, List.take_length]
    rw [htake] at hp2
    refine .inl ⟨p, .dK (wtsV r), hp2, True.intro, fun od => ?_⟩
    have hx3 : (upd H2 p (.frz od (.dK (wtsV r)))) x = some (.ins C dx [("own_weights", .ref p)]) := by rw [upd_ne hpx.symm]; exact hx2
    refine ⟨.ref x, g0, x, C, dx, _, .ref p, rfl, hx3, T.cI.cl, T.n_weights, rfl, p, od, wtsV r, rfl, upd_same, fun D hD => ?_⟩
    have hDp : D ≠ p := fun z => by rw [z, upd_same] at hD; cases hD
    have kl : ((wtsV r).map fun kv => kV kv.1).length = r.length := by unfold wtsV; rw [List.length_map, List.length_map]
    refine dc_it (walk_E (src := fun H xs => ∃ kvs : List (Key × V), H p = some (.frz od (.dK kvs)) ∧ xs = kvs.map fun kv => kV kv.1) (xs := (wtsV r).map fun kv => kV kv.1) fun H ys ⟨k1, h1, e1⟩ ⟨k2, h2, e2⟩ => by
        rw [h1] at h2
        cases h2
        rw [e1, e2]) (fun i H4 => (∀ a o, (upd H2 p (.frz od (.dK (wtsV r)))) a = some o → H4 a = some o) ∧ H4 D = some (.dK (rksV (r.take i)))) ⟨fun a o h => Ex.new hD _ _ h, by rw [upd_same]; rfl⟩ (fun i H4 _ ⟨ex, _⟩ => ⟨_, ex _ _ upd_same, rfl⟩) (fun i x' H4 H5 hi ⟨ex, hD4⟩ y => ?_) fun H4 ⟨ex, hD4⟩ => ?_
    · obtain ⟨t, u, v, rfl, ht, rfl, hu, hv⟩ := y
      cases hu
      have hir : i < r.length := by omega
      obtain ⟨q, hq⟩ : ∃ q, r[i]? = some q := ⟨r[i], List.getElem?_eq_getElem hir⟩
      have hvq : v = .str q.1 := by
        have hv' : ((wtsV r).map fun kv => kV kv.1)[i]? = some v := hv
        unfold wtsV at hv'
        rw [List.getElem?_map, List.getElem?_map, hq] at hv'
        exact (Option.some.inj hv').symm
      subst hvq
      have lw : (wipe σ2 [2, 4]).length = 5 := by rw [wipe_length]; exact l5
      refine ⟨t, _, rfl, SqT.of upd_same, rfl, _, _, rfl, _, _, rfl, rfl, ?_, ?_⟩
      · show wipe (((wipe σ2 [2, 4]).set 2 _).set 4 _) [2, 4] = wipe σ2 [2, 4]
        refine (wipe_eq (σ := wipe σ2 [2, 4]) (by rw [List.length_set, List.length_set]) fun j hj => ?_).trans wipe_wipe
        rw [List.getElem?_set_ne (fun z => hj (by rw [← z]; decide)), List.getElem?_set_ne (fun z => hj (by rw [← z]; decide))]
      · unfold tYes
        show (if true = true then (tVar 4 _ _ _ : Prop) else _)
        rw [if_pos rfl]
        refine ⟨.str q.1, List.getElem?_set_self (by rw [List.length_set]; exact (show 4 < (wipe σ2 [2, 4]).length by rw [lw]; decide)), .int (i : Nat), by rw [List.getElem?_set_ne (by decide)]; exact List.getElem?_set_self (show 2 < (wipe σ2 [2, 4]).length by rw [lw]; decide), rksV (r.take i), .inr q.1, rfl, Ex.new ht _ _ hD4, ?_, fun a o h => ?_, ?_⟩
        · unfold rksV
          rw [List.length_map, List.length_zipIdx, List.length_take]
          omega
        · have na : a ≠ D := fun z => by rw [z, hD] at h; cases h
          rw [upd_ne na]
          exact Ex.new ht _ _ (ex a o h)
        · rw [upd_same, putK_new (by rw [rks_keys]; exact not_before hnd hq), ← rksV_take hq]
    · rw [kl, List.take_length] at hD4
      refine ⟨ex _ _ upd_same, .ref x, g0, x, C, dx, [("own_weights", .ref p)], rfl, by rw [upd_ne hpx.symm]; exact ex _ _ hx3, T.cI.cl, T.n_ranks, (show 1 < 1000 by decide), ?_⟩
      have hDx : D ≠ x := fun z => by rw [z, hx3] at hD; cases hD
      have hD0 : H D = none := by
        cases h : H D with
        | none => rfl
        | some o =>
          have := fr D o hDx h
          rw [upd_ne hDp] at hD
          rw [hD] at this
          cases this
      refine fin _ p D hp0 hD0 upd_same (by rw [upd_ne hpx, upd_same]) (by rw [upd_ne hDx, upd_ne hDp]; exact hD4) fun a o n h => ?_
      have np : a ≠ p := fun z => by rw [z, hp0] at h; cases h
      rw [upd_ne n, upd_ne np]
      exact ex a o (by rw [upd_ne np]; exact fr a o n h)
/-- the class's __init__, as it stands in the text -/
structure DefI (K : PySem.W.Frag) (C : Addr) : Prop where
  ex : ∃ (f : Addr) (fd : FuncData), FunD K "__init__" "Order.__init__" (defArgs s_Order_init) (defBody s_Order_init) (defScope s_Order_init) [] [] f fd ∧ Mk K C f
structure New (P : Program) (w : World) (K : PySem.W.Frag) (mg : Str → Option Value) (base : Heap) (k : Nat) (C : Addr) : Prop where
  ex : ∃ (f : Addr) (fd : FuncData), FnOk P w K mg base CX0 k f fd ["self", "rows"] (spI K C) ∧ Mk K C f ∧ Binds K fd ["self", "rows"] []
theorem ok_Order (D : DefI K C) (T : Txt K mg C) (C_is_list : Cal P w K mg base 1 "is_list" ["thing"] (spP K fun ds d => ∃ x, ds = [x] ∧ isIns x = false ∧ d = .bl (isList x)))
    (C_is_integer : Cal P w K mg base 1 "is_integer" ["thing"] (spP K fun ds d => ∃ i, ds = [.int i] ∧ d = .bl true))
    (C_is_name : Cal P w K mg base 1 "is_name" ["thing"] (spP K fun ds d => ∃ z ∈ nm, ds = [.str z] ∧ d = .bl true)) : New P w K mg base 2 C := by
  obtain ⟨f, fd, F, M⟩ := D.ex
  refine ⟨f, fd, F.ok sc_Order_init (fun vs H Q E h => ?_) (fun cdv A outer s H vs Q E hr h => ?_), M, F.bindsN b_Order_init⟩
  · obtain ⟨_, _, _, _, _, rfl, _⟩ := h
    rfl
  · obtain ⟨t, ht, hx⟩ := init_body (k := 0) T C_is_list C_is_integer C_is_name f cdv A outer s H E hr
    exact ⟨t, ht.nox, hx H vs Q E h⟩
theorem ed_make {Γ : List Sl} {te : TE} {r : Rows} (h : ED K te Γ (rowsD r)) (hR : RowsOk r) (hl : r.length ≤ 5) : ED K (tMake C (spI K C) [] E0 (tCons te tNil)) Γ (ordD C r) := fun S O σ H E Q q => h S O σ H E _ fun rv H1 e1 r1 x dx hx hdx hne => by
  have e2 : Ex H1 (upd (upd H1 dx (.own x)) x (.ins C dx [])) := Ex.mut (Ex.new hdx) hx
  refine ⟨fun a => a = x, x, dx, rv, r, rfl, upd_same, (r1.hide (S' := fun a => a = x) fun a z => .inr (by rw [z]; exact hx)).ex e2, rfl, hR, hl, fun H' p p2 hp hp2 gx gp gq fr => ⟨rfl, q _ H' (e1.trans fun a o g => ?_) ?_⟩⟩
  · have n : a ≠ x := fun z => by rw [z, hx] at g; cases g
    exact fr a o n (e2 a o g)
  · have nT := (E.ex e1).tfresh hx
    exact .ins nT gx (.cons (.dic ((E.ex e1).tfresh (Ex.back e2 hp)) (.inl gp) (wts_rp r)) (.cons (.dic ((E.ex e1).tfresh (Ex.back e2 hp2)) (.inl gq) (rks_rp r)) .nil))
end
end K29
set_option Elab.async false
set_option maxRecDepth 100000
set_option maxHeartbeats 400000
set_option linter.all false
namespace K29
open PySem L2 StX PyProof.Rows PySem.Spec DL
/-! ### the parts of a word -/
mutual
def parts : W → List (List Nat × W)
  | .app f as => ([], .app f as) :: partsL 0 as
def partsL : Nat → List W → List (List Nat × W)
  | _, [] => []
  | i, a :: as => (parts a).map (fun q => (i :: q.1, q.2)) ++ partsL (i + 1) as
end
def nat (i : Nat) : D := .int (i : Int)
def encQ (q : List Nat × W) : D := .tup [.lst (q.1.map nat), enc q.2]
theorem parts_bound : ∀ {n : Nat} {a : W}, okW n a = true → (parts a).length ≤ 3 ^ n ∧ ∀ q ∈ parts a, q.1.length ≤ n
  | 0, _, h => by rw [okW] at h; cases h
  | n + 1, .app f as, h => by
    obtain ⟨h1, h2, h3⟩ := okW_app h
    have hl : as.length ≤ 2 := by rw [h2]; exact ar_le f
    have go : ∀ (bs : List W) (i : Nat), (∀ b ∈ bs, okW n b = true) → (partsL i bs).length ≤ bs.length * 3 ^ n ∧ ∀ q ∈ partsL i bs, q.1.length ≤ n + 1 := fun bs => by
      induction bs with
      | nil => exact fun i _ => ⟨by rw [partsL]; exact Nat.zero_le _, fun q hq => by rw [partsL] at hq; cases hq⟩
      | cons b bs ih =>
        intro i hb
        obtain ⟨b1, b2⟩ := parts_bound (hb b (List.mem_cons_self ..))
        obtain ⟨i1, i2⟩ := ih (i + 1) fun x hx => hb x (List.mem_cons_of_mem _ hx)
        rw [partsL]
        refine ⟨?_, fun q hq => ?_⟩
        · rw [List.length_append, List.length_map, List.length_cons, Nat.succ_mul]
          omega
        · rcases List.mem_append.mp hq with z | z
          · obtain ⟨q', hq', rfl⟩ := List.mem_map.mp z
            have := b2 q' hq'
            rw [List.length_cons]
            omega
          · exact i2 q z
    obtain ⟨g1, g2⟩ := go as 0 h3
    rw [parts]
    refine ⟨?_, fun q hq => ?_⟩
    · rw [List.length_cons, Nat.pow_succ]
      have h4 : as.length * 3 ^ n ≤ 2 * 3 ^ n := Nat.mul_le_mul_right _ hl
      have h5 : 1 ≤ 3 ^ n := Nat.one_le_pow _ _ (by decide)
      omega
    · rcases List.mem_cons.mp hq with z | z
      · rw [z]; exact Nat.zero_le _
      · exact g2 q z
theorem partsL_snoc : ∀ (as : List W) (i : Nat) (a : W), partsL i (as ++ [a]) = partsL i as ++ (parts a).map (fun q => ((i + as.length) :: q.1, q.2))
  | [], i, a => by rw [List.nil_append, partsL, partsL, partsL, List.append_nil, List.nil_append]; rfl
  | b :: as, i, a => by
    rw [List.cons_append, partsL, partsL, partsL_snoc as (i + 1) a, List.append_assoc, List.length_cons, show i + 1 + as.length = i + (as.length + 1) by omega]
theorem partsL_app : ∀ (as : List W) (i : Nat) (bs : List W), partsL i (as ++ bs) = partsL i as ++ partsL (i + as.length) bs
  | [], i, bs => by rw [List.nil_append, partsL, List.nil_append]; rfl
  | b :: as, i, bs => by
    rw [List.cons_append, partsL, partsL, partsL_app as (i + 1) bs, List.append_assoc, List.length_cons, show i + 1 + as.length = i + (as.length + 1) by omega]
theorem partsL_take (as : List W) (j : Nat) : (partsL 0 (as.take j)).length ≤ (partsL 0 as).length := by
  have := congrArg List.length (partsL_app (as.take j) 0 (as.drop j))
  rw [List.take_append_drop, List.length_append] at this
  omega
abbrev RParts (n : Nat) : List D → D → Prop := fun ds d => ∃ a, okW n a = true ∧ ds = [enc a] ∧ d = .lst ((parts a).map encQ)
abbrev RWt (n : Nat) : List D → D → Prop := fun ds d => ∃ r a, RowsOk r ∧ okW n a = true ∧ ds = [.dic (wtsD r), enc a] ∧ d = .int (wt r a)
section
variable {P : Program} {w : World} {K : PySem.W.Frag} {mg : Str → Option Value} {base : Heap} {C : Addr}
abbrev s_law_d_parts : Stmt := top 30
abbrev N_law_d_parts : List Str := ["word", "found", "index", "part", "place", "deep"]
theorem sc_law_d_parts : FnScope N_law_d_parts ["word"] (defScope s_law_d_parts) := ⟨rfl, rfl, rfl, by decide +kernel, rfl, by decide +kernel, by decide +kernel⟩
theorem b_law_d_parts : BindsH "_law_d_parts" s_law_d_parts ["word"] := fun _ _ _ _ _ _ us hl => match us, hl with | [_], _ => rfl
theorem ok_d_parts (F : Def K mg "_law_d_parts" s_law_d_parts) (T : Txt K mg C) : ∀ n : Nat, n ≤ 12 → Cal P w K mg base (n + 1) "_law_d_parts" ["word"] (spP K (RParts n))
  | 0, _ => (cal_void F sc_law_d_parts b_law_d_parts).imp fun vs H Q E ⟨S, ds, d, h1, h2, ⟨a, h, _⟩, h4⟩ => by rw [okW] at h; cases h
  | n + 1, hn => by
    have C_law_d_parts := ok_d_parts F T n (by omega)
    refine cal_pure F sc_law_d_parts b_law_d_parts (fun ds d ⟨x, _, h, _⟩ => by rw [h]; rfl) fun f cdv A outer s H E hr => ?_
    have nd := sc_law_d_parts.nd
    refine ⟨_, (pss_cons (ps_set (i := 1) nd rfl (by first | exact Or.inl rfl | exact Or.inr rfl) (pe_lst (pa_cons (pe_tup (pa_cons (pe_lst pa_nil) (pa_cons (pv 0) pa_nil))) pa_nil)))
    (pss_cons (ps_if (pt_not (pt_val (pe_callB (k_isi K rfl) (by rfl) T.f_isinstance (by decide +kernel) (pa_cons (pv 0) (pa_cons (pe_bltn (v := .ty "str") (u := .type "str") (by rfl) T.f_str (by decide +kernel) rfl) pa_nil))))) (pss_one (ps_for PassesOwn.never rfl (pi_enumU (by rfl) T.f_enumerate (pa_cons (pe_slice (k_sl K rfl) (pv 0) (po_some pe_int) po_none) pa_nil)) (k_tup K (n := 2) rfl rfl (pgs_cons (pg_name (i := 2) nd rfl (by first | exact Or.inl rfl | exact Or.inr rfl)) (pgs_cons (pg_name (i := 3) nd rfl (by first | exact Or.inl rfl | exact Or.inr rfl)) pgs_nil))) (pss_one (ps_expr (pe_bm PySem.F.plainAttrs_list PySem.F.slot_list_extend PySem.F.type_list_extend mt_extend (pv 1) (pa_cons (pe_lc (own := [("place", 4), ("deep", 5)]) rfl nd (pi_list (pe_cal C_law_d_parts (hr.mono (by omega)) (pa_cons (pv 3) pa_nil))) (blkOk_by (own := [("place", 4), ("deep", 5)]) (N := N_law_d_parts) (sc := defScope s_law_d_parts) (by decide +kernel)) (fun _ _ _ _ _ => (k_tup K (n := 2) rfl rfl (pgs_cons (pg_name (i := 4) nd rfl (by first | exact Or.inl rfl | exact Or.inr rfl)) (pgs_cons (pg_name (i := 5) nd rfl (by first | exact Or.inl rfl | exact Or.inr rfl)) pgs_nil)))) (fun _ _ _ _ _ => pts_nil) (fun _ _ _ _ _ => (pe_tup (pa_cons (pe_op (k_add K rfl) (pe_lst (pa_cons (pv 2) pa_nil)) (pv 4)) (pa_cons (pv 5) pa_nil))))) pa_nil)))))) pss_nil)
    (pss_one (ps_ret (pv 1))))), ?_⟩
    rintro ds d ⟨⟨g, as⟩, ha, rfl, rfl⟩
    obtain ⟨hg, hl, has⟩ := okW_app ha
    have hb := parts_bound ha
    have h12 : 3 ^ (n + 1) ≤ 3 ^ 12 := Nat.pow_le_pow_right (by decide) hn
    have hsz : 3 ^ 12 ≤ sizeLine := by decide
    show XS K [] _ ([.dat (enc (.app g as)), .no, .no, .no, .no, .no] : List Sl) _
    have q0 : encQ ([], .app g as) = .tup [.lst [], enc (.app g as)] := rfl
    refine xs_then (xs_asgN (en_lst (ea_cons (ed_tup (ea_cons (ed_lst ea_nil (Nat.zero_le _)) (ea_cons (ed_var (i := 0) rfl) ea_nil)) (show 2 ≤ sizeLine by decide)) ea_nil) (show 1 ≤ sizeLine by decide)) (Free.of rfl) List.not_mem_nil rfl) ?_
    have isx : ∀ {Γ : List Sl} {te : TE}, ED K te Γ (enc (.app g as)) → ET K (tNot (tB (tCB (rIsi K) (tCons te (tCons (tC (.ty "str")) tNil))))) Γ true := fun {Γ te} q => by
      rw [enc_app] at q
      exact et_not (x := false) (et_B (ed_isi (n := "str") q rfl rfl))
    have tl : ∀ {Γ : List Sl} {te : TE}, ED K te Γ (enc (.app g as)) → ED K (tSl (rSlU K) te (tPart (tC (.int 1))) tNoPart) Γ (.tup (as.map enc)) := fun {Γ te} q => by
      rw [enc_app] at q
      exact ed_tailT q
    refine xs_seq (xs_if1 (isx (ed_var rfl)) (xs_for (vs := [2, 3]) (fun k Γ => ∃ s2 s3, Nd s2 ∧ Nd s3 ∧ Γ = [.dat (enc (.app g as)), .ml ((([], .app g as) :: partsL 0 (as.take k)).map encQ), s2, s3, .no, .no]) (it_enumUT (ea_cons (tl (ed_var rfl)) ea_nil)) ⟨.no, .no, Nd.no, Nd.no, rfl⟩ nopin (fun k d Γ1 hd ⟨s2, s3, n2, n3, e⟩ => ?_) fun Γ1 h => h)) fun Γ' ⟨s2, s3, n2, n3, e⟩ => by
      subst e
      have el : (enumD (as.map enc)).length = as.length := by simp [enumD]
      rw [el, List.take_length]
      have e2 : (([], .app g as) :: partsL 0 as) = parts (.app g as) := by rw [parts]
      rw [e2]
      exact xs_freeze (i := 1) rfl List.not_mem_nil (xs_ret (ed_var rfl) rfl)
    subst e
    have hk : k < as.length := by
      have := (List.getElem?_eq_some_iff.mp hd).1
      simpa [enumD] using this
    have hx : as[k]? = some as[k] := List.getElem?_eq_getElem hk
    have hde : d = .tup [.int (k : Nat), enc as[k]] := by
      have := enumD_get (ds := as.map enc) (i := k) (d := enc as[k]) (by rw [List.getElem?_map, hx]; rfl)
      rw [this] at hd
      exact (Option.some.inj hd).symm
    subst hde
    have hxo := has _ (List.getElem_mem hk)
    obtain ⟨pb, pl⟩ := parts_bound hxo
    have h12' : 3 ^ n ≤ 3 ^ 12 := Nat.pow_le_pow_right (by decide) (by omega)
    have step : (([], W.app g as) :: partsL 0 (as.take (k + 1))).map encQ = (([], .app g as) :: partsL 0 (as.take k)).map encQ ++ (parts as[k]).map (fun q => encQ (k :: q.1, q.2)) := by
      rw [take_succ_of hx, partsL_snoc, ← List.cons_append, List.map_append, List.map_map]
      have : (as.take k).length = k := by rw [List.length_take]; omega
      rw [this, Nat.zero_add]
      rfl
    refine ⟨_, gd_tup (gds_cons (gd_name (freeNd rfl n2)) (gds_cons (gd_name (freeNd rfl n3)) gds_nil)) rfl, ?_⟩
    refine xs_dropX (xe_extend (R := fun g' _ => g' = [.dat (enc (.app g as)), .ml ((([], .app g as) :: partsL 0 (as.take (k + 1))).map encQ), .dat (.int (k : Nat)), .dat (enc as[k]), .no, .no]) (i := 1) rfl
      (ed_map encQ (fun q => encQ (k :: q.1, q.2)) (IT.ip (it_list (ed_call (ea_cons (ed_var (i := 3) rfl) ea_nil) ⟨_, hxo, rfl, rfl⟩))) (free2 rfl rfl) (by omega) fun q hq => ⟨_, gd_tup (ds := [.lst (q.1.map nat), enc q.2]) (gds_cons (gd_name (Free.of rfl)) (gds_cons (gd_name (Free.of rfl)) gds_nil)) rfl,
        ed_tup (ea_cons (ed_op (ed_lst (ea_cons (ed_var (i := 2) rfl) ea_nil) (show 1 ≤ sizeLine by decide)) (ed_var (i := 4) rfl) (vr_addL (xs := [.int (k : Nat)]) (ys := q.1.map nat) ?_)) (ea_cons (ed_var (i := 5) rfl) ea_nil)) (show 2 ≤ sizeLine by decide)⟩) ?_ ?_) fun g' _ e => ⟨_, _, Nd.dat _, Nd.dat _, e⟩
    · have := pl q hq
      rw [List.length_map]
      have : (20 : Nat) ≤ sizeLine := by decide
      show 1 + q.1.length ≤ sizeLine
      omega
    · rw [List.length_map, List.length_map]
      have h1 : (([], W.app g as) :: partsL 0 (as.take (k + 1))).length ≤ 3 ^ (n + 1) := by
        have h3 := hb.1
        rw [parts, List.length_cons] at h3
        have h4 := partsL_take as (k + 1)
        rw [List.length_cons]
        omega
      have h2 := congrArg List.length step
      rw [List.length_map, List.length_append, List.length_map, List.length_map] at h2
      omega
    · rw [step]
      rfl
abbrev s_law_d_weight : Stmt := top 31
abbrev N_law_d_weight : List Str := ["weights", "word", "part"]
theorem sc_law_d_weight : FnScope N_law_d_weight ["weights", "word"] (defScope s_law_d_weight) := ⟨rfl, rfl, rfl, by decide +kernel, rfl, by decide +kernel, by decide +kernel⟩
theorem b_law_d_weight : BindsH "_law_d_weight" s_law_d_weight ["weights", "word"] := fun _ _ _ _ _ _ us hl => match us, hl with | [_, _], _ => rfl
theorem ok_d_weight (F : Def K mg "_law_d_weight" s_law_d_weight) (T : Txt K mg C) : ∀ n : Nat, n ≤ 30 → Cal P w K mg base (n + 1) "_law_d_weight" ["weights", "word"] (spP K (RWt n))
  | 0, _ => (cal_void F sc_law_d_weight b_law_d_weight).imp fun vs H Q E ⟨S, ds, d, h1, h2, ⟨r, a, _, h, _⟩, h4⟩ => by rw [okW] at h; cases h
  | n + 1, hn => by
    have C_law_d_weight := ok_d_weight F T n (by omega)
    refine cal_pure F sc_law_d_weight b_law_d_weight (fun ds d ⟨x, _, _, _, h, _⟩ => by rw [h]; rfl) fun f cdv A outer s H E hr => ?_
    have nd := sc_law_d_weight.nd
    refine ⟨_, (pss_cons (ps_if (pt_val (pe_callB (k_isi K rfl) (by rfl) T.f_isinstance (by decide +kernel) (pa_cons (pv 1) (pa_cons (pe_bltn (v := .ty "str") (u := .type "str") (by rfl) T.f_str (by decide +kernel) rfl) pa_nil)))) (pss_one (ps_ret pe_int)) pss_nil)
    (pss_one (ps_ret (pe_op (k_add K rfl) (pe_ix (k_ix K rfl (hu1 hr)) (pv 0) (pe_ix (k_ix K rfl (hu1 hr)) (pv 1) pe_int (fun _ _ => rfl)) (fun _ _ => rfl)) (pe_callB (k_sum K rfl rfl) (by rfl) T.f_sum (by decide +kernel) (pa_cons (pe_lc (own := [("part", 2)]) rfl nd (pi_tup (pe_slice (k_sl K rfl) (pv 1) (po_some pe_int) po_none)) (blkOk_by (own := [("part", 2)]) (N := N_law_d_weight) (sc := defScope s_law_d_weight) (by decide +kernel)) (fun _ _ _ _ _ => (pg_name (i := 2) nd rfl (by first | exact Or.inl rfl | exact Or.inr rfl))) (fun _ _ _ _ _ => pts_nil) (fun _ _ _ _ _ => (pe_cal C_law_d_weight (hr.mono (by omega)) (pa_cons (pv 0) (pa_cons (pv 2) pa_nil))))) pa_nil)))))), ?_⟩
    rintro ds d ⟨r, ⟨g, as⟩, hR, ha, rfl, rfl⟩
    obtain ⟨hg, hl, has⟩ := okW_app ha
    have hl2 : as.length ≤ 2 := by rw [hl]; exact ar_le g
    rw [enc_app]
    show XS K [] _ ([.dat (.dic (wtsD r)), .dat (.tup (.str g :: as.map enc)), .no] : List Sl) _
    refine xs_skip (et_B (ed_isi (n := "str") (ed_var (i := 1) rfl) rfl rfl)) ?_
    have e : (as.map fun a => D.int (wt r a)) = (as.map (wt r)).map D.int := by rw [List.map_map]; rfl
    refine xs_ret (ed_is (ed_op (ed_op (ed_var (i := 0) rfl) (ed_headT (ed_var (i := 1) rfl)) (vr_dGet (k := .inr g) (val_wts ((hR.mem g).mp hg)))) (ed_cb (ds := [.lst ((as.map (wt r)).map D.int)]) (ea_cons (ed_is (ed_map enc (fun a => D.int (wt r a)) (IT.ip (it_tup (ed_tailT (ed_var (i := 1) rfl)))) (free1 rfl) (Nat.le_trans hl2 (by decide)) fun x hx =>
      ⟨_, gd_name (Free.of rfl), ed_call (ea_cons (ed_var (i := 0) rfl) (ea_cons (ed_var (i := 2) rfl) ea_nil)) ⟨r, x, hR, has x hx, rfl, rfl⟩⟩) (by rw [e])) ea_nil) vc_sum) vr_addI) rfl) (by rw [wt_app])
end
end K29
set_option Elab.async false
set_option maxRecDepth 100000
set_option maxHeartbeats 400000
set_option linter.all false
namespace K29
open PySem L2 StX PyProof.Rows PySem.Spec DL
theorem rows_pairs (r : Rows) : rowsD r = .lst ((wtsD r).map pairD) := by
  unfold rowsD wtsD
  rw [List.map_map]
  rfl
theorem keys_nodup {r : Rows} (h : (r.map (·.1)).Nodup) : ((wtsD r).map (·.1)).Nodup := by
  rw [wtsD_keys]
  have e : (r.map fun p => (.inr p.1 : Key)) = (r.map (·.1)).map (Sum.inr : Str → Key) := by rw [List.map_map]; rfl
  rw [e]
  exact List.Pairwise.map _ (fun a b n z => n (Sum.inr.inj z)) h
theorem ed_dictR {K : PySem.W.Frag} {Γ : List Sl} {te : TE} {r : Rows} (h : ED K te Γ (rowsD r)) (hR : RowsOk r) : ED K (tCB (rDictU K) (tCons te tNil)) Γ (.dic (wtsD r)) := by
  rw [rows_pairs] at h
  exact ed_cb (ea_cons h ea_nil) (vc_dict (keys_nodup hR.nd))
theorem g_ok {h : Str} (hh : h ∈ nm) : (D.str h).ok = true := by
  have := nm_ok h hh
  unfold D.ok SeqAt.shaped
  rw [D.pl, D.py, PyData.canLay0, this, PyData.depth]
  · rfl
  all_goals (intros; rename_i z; cases z)
abbrev RLaw (n : Nat) : List D → D → Prop := fun ds d => ∃ r a b, RowsOk r ∧ r.length ≤ 5 ∧ okW n a = true ∧ okW n b = true ∧ ds = [rowsD r, enc a, enc b] ∧ d = .bl (above r a b)
section
variable {P : Program} {w : World} {K : PySem.W.Frag} {mg : Str → Option Value} {base : Heap} {C : Addr}
abbrev s_law_d_above : Stmt := top 32
abbrev N_law_d_above : List Str := ["rows", "one", "other", "weights", "names", "many", "few", "heavy", "light", "unlike", "name", "weight", "place", "part", "variable", "near", "far"]
theorem sc_law_d_above : FnScope N_law_d_above ["rows", "one", "other"] (defScope s_law_d_above) := ⟨rfl, rfl, rfl, by decide +kernel, rfl, by decide +kernel, by decide +kernel⟩
theorem b_law_d_above : BindsH "_law_d_above" s_law_d_above ["rows", "one", "other"] := fun _ _ _ _ _ _ us hl => match us, hl with | [_, _, _], _ => rfl
theorem ok_d_above (F : Def K mg "_law_d_above" s_law_d_above) (T : Txt K mg C) (CP : ∀ n : Nat, n ≤ 12 → Cal P w K mg base (n + 1) "_law_d_parts" ["word"] (spP K (RParts n)))
    (CW : ∀ n : Nat, n ≤ 30 → Cal P w K mg base (n + 1) "_law_d_weight" ["weights", "word"] (spP K (RWt n))) :
    ∀ n : Nat, n ≤ 12 → Cal P w K mg base (n + 2) "_law_d_above" ["rows", "one", "other"] (spP K (RLaw n))
  | 0, _ => (cal_void F sc_law_d_above b_law_d_above).imp fun vs H Q E ⟨S, ds, d, h1, h2, ⟨r, a, _, _, _, h, _⟩, h4⟩ => by rw [okW] at h; cases h
  | n + 1, hn => by
    have C_law_d_above := ok_d_above F T CP CW n (by omega)
    have C_law_d_parts := CP (n + 1) hn
    have C_law_d_weight := CW (n + 1) (by omega)
    refine cal_pure F sc_law_d_above b_law_d_above (fun ds d ⟨x, _, _, _, _, _, _, h, _⟩ => by rw [h]; rfl) fun f cdv A outer s H E hr => ?_
    have nd := sc_law_d_above.nd
    refine ⟨_, (pss_cons (ps_if (PW.pt (pw_or (pt_cmpR (k_eq K rfl (hu64 hr)) (pv 1) (pv 2) (nomark _)) (pw_or1 (pt_val (pe_callB (k_isi K rfl) (by rfl) T.f_isinstance (by decide +kernel) (pa_cons (pv 1) (pa_cons (pe_bltn (v := .ty "str") (u := .type "str") (by rfl) T.f_str (by decide +kernel) rfl) pa_nil))))))) (pss_one (ps_ret pe_bl)) pss_nil)
    (pss_cons (ps_par (i := 3) (j := 4) rfl nd rfl rfl (by decide) rfl rfl (pa_cons (pe_callTy (k_dict K rfl rfl) (by rfl) T.f_dict (by decide +kernel) (pa_cons (pv 0) pa_nil)) (pa_cons (pe_lc (own := [("name", 10), ("weight", 11)]) rfl nd (pi_list (pv 0)) (blkOk_by (own := [("name", 10), ("weight", 11)]) (N := N_law_d_above) (sc := defScope s_law_d_above) (by decide +kernel)) (fun _ _ _ _ _ => (k_tup K (n := 2) rfl rfl (pgs_cons (pg_name (i := 10) nd rfl (by first | exact Or.inl rfl | exact Or.inr rfl)) (pgs_cons (pg_name (i := 11) nd rfl (by first | exact Or.inl rfl | exact Or.inr rfl)) pgs_nil)))) (fun _ _ _ _ _ => pts_nil) (fun _ _ _ _ _ => (pv 10))) pa_nil)) (by with_unfolding_all rfl))
    (pss_cons (ps_set (i := 5) nd rfl (by first | exact Or.inl rfl | exact Or.inr rfl) (pe_lc (own := [("place", 12), ("part", 13)]) rfl nd (pi_list (pe_cal C_law_d_parts (hr.mono (by omega)) (pa_cons (pv 1) pa_nil))) (blkOk_by (own := [("place", 12), ("part", 13)]) (N := N_law_d_above) (sc := defScope s_law_d_above) (by decide +kernel)) (fun _ _ _ _ _ => (k_tup K (n := 2) rfl rfl (pgs_cons (pg_name (i := 12) nd rfl (by first | exact Or.inl rfl | exact Or.inr rfl)) (pgs_cons (pg_name (i := 13) nd rfl (by first | exact Or.inl rfl | exact Or.inr rfl)) pgs_nil)))) (fun _ _ _ _ _ => (pts_one (pt_val (pe_callB (k_isi K rfl) (by rfl) T.f_isinstance (by decide +kernel) (pa_cons (pv 13) (pa_cons (pe_bltn (v := .ty "str") (u := .type "str") (by rfl) T.f_str (by decide +kernel) rfl) pa_nil)))))) (fun _ _ _ _ _ => (pv 13))))
    (pss_cons (ps_set (i := 6) nd rfl (by first | exact Or.inl rfl | exact Or.inr rfl) (pe_lc (own := [("place", 12), ("part", 13)]) rfl nd (pi_list (pe_cal C_law_d_parts (hr.mono (by omega)) (pa_cons (pv 2) pa_nil))) (blkOk_by (own := [("place", 12), ("part", 13)]) (N := N_law_d_above) (sc := defScope s_law_d_above) (by decide +kernel)) (fun _ _ _ _ _ => (k_tup K (n := 2) rfl rfl (pgs_cons (pg_name (i := 12) nd rfl (by first | exact Or.inl rfl | exact Or.inr rfl)) (pgs_cons (pg_name (i := 13) nd rfl (by first | exact Or.inl rfl | exact Or.inr rfl)) pgs_nil)))) (fun _ _ _ _ _ => (pts_one (pt_val (pe_callB (k_isi K rfl) (by rfl) T.f_isinstance (by decide +kernel) (pa_cons (pv 13) (pa_cons (pe_bltn (v := .ty "str") (u := .type "str") (by rfl) T.f_str (by decide +kernel) rfl) pa_nil)))))) (fun _ _ _ _ _ => (pv 13))))
    (pss_cons (ps_if (pt_val (pe_callB (k_any K rfl rfl) (by rfl) T.f_any (by decide +kernel) (pa_cons (pe_lc (own := [("variable", 14)]) rfl nd (pi_list (pv 6)) (blkOk_by (own := [("variable", 14)]) (N := N_law_d_above) (sc := defScope s_law_d_above) (by decide +kernel)) (fun _ _ _ _ _ => (pg_name (i := 14) nd rfl (by first | exact Or.inl rfl | exact Or.inr rfl))) (fun _ _ _ _ _ => pts_nil) (fun _ _ _ _ _ => pe_nev)) pa_nil))) (pss_one (ps_ret pe_bl)) pss_nil)
    (pss_cons (ps_par (i := 7) (j := 8) rfl nd rfl rfl (by decide) rfl rfl (pa_cons (pe_cal C_law_d_weight (hr.mono (by omega)) (pa_cons (pv 3) (pa_cons (pv 1) pa_nil))) (pa_cons (pe_cal C_law_d_weight (hr.mono (by omega)) (pa_cons (pv 3) (pa_cons (pv 2) pa_nil))) pa_nil)) (by with_unfolding_all rfl))
    (pss_cons (ps_if (PW.pt (pw_or (pt_cmpR (k_ne K rfl (hu64 hr)) (pv 7) (pv 8) (nomark _)) (pw_or1 (pt_val (pe_callB (k_isi K rfl) (by rfl) T.f_isinstance (by decide +kernel) (pa_cons (pv 2) (pa_cons (pe_bltn (v := .ty "str") (u := .type "str") (by rfl) T.f_str (by decide +kernel) rfl) pa_nil))))))) (pss_one (ps_ret (pe_cmpR o_gt (pv 7) (pv 8) (nomark _)))) pss_nil)
    (pss_cons (ps_if (pt_cmpR (k_ne K rfl (hu64 hr)) (pe_ix (k_ix K rfl (hu1 hr)) (pv 1) pe_int (fun _ _ => rfl)) (pe_ix (k_ix K rfl (hu1 hr)) (pv 2) pe_int (fun _ _ => rfl)) (nomark _)) (pss_one (ps_ret (pe_cmpR o_gt (pe_bm PySem.F.plainAttrs_list PySem.F.slot_list_index PySem.F.type_list_index mt_index (pv 4) (pa_cons (pe_ix (k_ix K rfl (hu1 hr)) (pv 1) pe_int (fun _ _ => rfl)) pa_nil)) (pe_bm PySem.F.plainAttrs_list PySem.F.slot_list_index PySem.F.type_list_index mt_index (pv 4) (pa_cons (pe_ix (k_ix K rfl (hu1 hr)) (pv 2) pe_int (fun _ _ => rfl)) pa_nil)) (nomark _)))) pss_nil)
    (pss_cons (ps_setLc (i := 9) (own := [("near", 15), ("far", 16)]) rfl nd rfl rfl (sw_true rfl rfl rfl (by decide +kernel)) (RZ.pi_zipA (by rfl) T.f_zip (pa_cons (pe_slice (k_sl K rfl) (pv 1) (po_some pe_int) po_none) (pa_cons (pe_slice (k_sl K rfl) (pv 2) (po_some pe_int) po_none) pa_nil))) (blkOk_by (own := [("near", 15), ("far", 16)]) (N := N_law_d_above) (sc := defScope s_law_d_above) (by decide +kernel)) (fun _ _ _ _ _ => (k_tup K (n := 2) rfl rfl (pgs_cons (pg_name (i := 15) nd rfl (by first | exact Or.inl rfl | exact Or.inr rfl)) (pgs_cons (pg_name (i := 16) nd rfl (by first | exact Or.inl rfl | exact Or.inr rfl)) pgs_nil)))) (fun _ _ _ _ _ => (pts_one (pt_cmpR (k_ne K rfl (hu64 hr)) (pv 15) (pv 16) (nomark _)))) (fun _ _ _ _ _ => (pe_tup (pa_cons (pv 15) (pa_cons (pv 16) pa_nil)))))
    (pss_one (ps_ret (pe_cal C_law_d_above (hr.mono (by omega)) (pa_cons (pv 0) (pa_cons (pe_ix (k_ix K rfl (hu1 hr)) (pe_ix (k_ix K rfl (hu1 hr)) (pv 9) pe_int (fun _ _ => rfl)) pe_int (fun _ _ => rfl)) (pa_cons (pe_ix (k_ix K rfl (hu1 hr)) (pe_ix (k_ix K rfl (hu1 hr)) (pv 9) pe_int (fun _ _ => rfl)) pe_int (fun _ _ => rfl)) pa_nil))))))))))))))), ?_⟩
    rintro ds d ⟨r, a, b, hR, hrl, ha, hb, rfl, rfl⟩
    show XS K [] _ ([.dat (rowsD r), .dat (enc a), .dat (enc b), .no, .no, .no, .no, .no, .no, .no, .no, .no, .no, .no, .no, .no, .no] : List Sl) _
    have oa := okW_ok ha (by omega)
    have ob := okW_ok hb (by omega)
    by_cases hab : a = b
    · refine xs_out (xs_if1 (et_or (x := true) (y := false) (et_eq (ed_var (d := enc a) rfl) (ed_var (d := enc b) rfl) oa ob (by rw [eqD_enc]; exact decide_eq_true hab)) fun h => nomatch h) (xs_ret (ed_bl false) ?_))
      rw [hab, above_self]
    obtain ⟨g, as⟩ := a
    obtain ⟨g', bs⟩ := b
    obtain ⟨hg, hl, has⟩ := okW_app ha
    obtain ⟨hg', hl', hbs⟩ := okW_app hb
    have isb : ∀ {Γ : List Sl} {te : TE} {q : W}, ED K te Γ (enc q) → ET K (tB (tCB (rIsi K) (tCons te (tCons (tC (.ty "str")) tNil)))) Γ false := fun {Γ te q} z => by
      obtain ⟨h, cs⟩ := q
      rw [enc_app] at z
      exact et_B (ed_isi (n := "str") z rfl rfl)
    have hd : ∀ {Γ : List Sl} {te : TE} {h : Str} {cs : List W}, ED K te Γ (enc (.app h cs)) → ED K (tOp (rIxU K) te (tC (.int 0))) Γ (.str h) := fun {Γ te h cs} q => by
      rw [enc_app] at q
      exact ed_headT q
    have tl : ∀ {Γ : List Sl} {te : TE} {h : Str} {cs : List W}, ED K te Γ (enc (.app h cs)) → ED K (tSl (rSlU K) te (tPart (tC (.int 1))) tNoPart) Γ (.tup (cs.map enc)) := fun {Γ te h cs} q => by
      rw [enc_app] at q
      exact ed_tailT q
    refine xs_skip (et_or (x := false) (y := false) (et_eq (ed_var (d := enc (.app g as)) rfl) (ed_var (d := enc (.app g' bs)) rfl) oa ob (by rw [eqD_enc]; exact decide_eq_false hab)) fun _ => isb (ed_var (d := enc (.app g as)) rfl)) ?_
    have lz : (5 : Nat) ≤ sizeLine := by decide
    refine xs_then (xs_par (xb_ed (ed_dictR (ed_var (i := 0) rfl) hR) (xb_ed (ed_is (ed_map rowD (fun p => D.str p.1) (IT.ip (it_list (ed_var (d := rowsD r) rfl))) (free2 rfl rfl) (by omega) fun q hq => ⟨_, gd_tup (ds := [.str q.1, .int q.2]) (gds_cons (gd_name (Free.of rfl)) (gds_cons (gd_name (Free.of rfl)) gds_nil)) rfl, ed_var rfl⟩) (show D.lst (r.map fun p => D.str p.1) = .lst ((r.map (·.1)).map D.str) by rw [List.map_map]; rfl)) (xb_nil ⟨_, _, rfl, Free.of rfl, Free.of rfl, rfl⟩))) List.not_mem_nil List.not_mem_nil) ?_
    have h12 : 3 ^ (n + 1) ≤ 3 ^ 12 := Nat.pow_le_pow_right (by decide) hn
    have hsz : 3 ^ 12 ≤ sizeLine := by decide
    have none_of : ∀ L : List (List Nat × W), (L.filter fun _ => false).map (fun q => enc q.2) = [] := fun L => by simp
    refine xs_then (xs_asg (d := .lst []) (ed_is (ed_filter encQ (fun _ => false) (fun q => enc q.2) (IT.ip (it_list (ed_call (ea_cons (ed_var (i := 1) rfl) ea_nil) ⟨_, ha, rfl, rfl⟩))) (free2 rfl rfl) (by have := (parts_bound ha).1; omega) fun q hq => ⟨_, gd_tup (ds := [.lst (q.1.map nat), enc q.2]) (gds_cons (gd_name (Free.of rfl)) (gds_cons (gd_name (Free.of rfl)) gds_nil)) rfl, isb (ed_var (d := enc q.2) rfl), fun z => nomatch z⟩) (by rw [none_of])) (Free.of rfl) List.not_mem_nil rfl) ?_
    refine xs_then (xs_asg (d := .lst []) (ed_is (ed_filter encQ (fun _ => false) (fun q => enc q.2) (IT.ip (it_list (ed_call (ea_cons (ed_var (i := 2) rfl) ea_nil) ⟨_, hb, rfl, rfl⟩))) (free2 rfl rfl) (by have := (parts_bound hb).1; omega) fun q hq => ⟨_, gd_tup (ds := [.lst (q.1.map nat), enc q.2]) (gds_cons (gd_name (Free.of rfl)) (gds_cons (gd_name (Free.of rfl)) gds_nil)) rfl, isb (ed_var (d := enc q.2) rfl), fun z => nomatch z⟩) (by rw [none_of])) (Free.of rfl) List.not_mem_nil rfl) ?_
    refine xs_skip (et_B (ed_is (ed_cb (ds := [.lst (([] : List Bool).map D.bl)]) (ea_cons (ed_map (α := D) (xs := []) id (fun _ => D.non) (IT.ip (it_list (ed_var (i := 6) rfl))) (free1 rfl) (Nat.zero_le _) fun x hx => absurd hx List.not_mem_nil) ea_nil) vc_any) rfl)) ?_
    refine xs_then (xs_par (xb_ed (ed_call (ea_cons (ed_var (i := 3) rfl) (ea_cons (ed_var (i := 1) rfl) ea_nil)) ⟨r, _, hR, ha, rfl, rfl⟩) (xb_ed (ed_call (ea_cons (ed_var (i := 3) rfl) (ea_cons (ed_var (i := 2) rfl) ea_nil)) ⟨r, _, hR, hb, rfl, rfl⟩) (xb_nil ⟨_, _, rfl, Free.of rfl, Free.of rfl, rfl⟩))) List.not_mem_nil List.not_mem_nil) ?_
    rw [above]
    by_cases hw : wt r (.app g as) = wt r (.app g' bs)
    · rw [if_neg (show ¬ (wt r (.app g as) ≠ wt r (.app g' bs)) from fun z => z hw)]
      refine xs_skip (et_or (x := false) (y := false) (et_ne (ed_var (d := .int (wt r (.app g as))) rfl) (ed_var (d := .int (wt r (.app g' bs))) rfl) rfl rfl (by rw [eqD_int, decide_eq_true hw]; rfl)) fun _ => isb (ed_var (d := enc (.app g' bs)) rfl)) ?_
      by_cases hgg : g = g'
      · rw [if_neg (show ¬ (g ≠ g') from fun z => z hgg)]
        subst hgg
        refine xs_skip (et_ne (hd (ed_var (d := enc (.app g as)) rfl)) (hd (ed_var (d := enc (.app g bs)) rfl)) (g_ok hg) (g_ok hg) (by rw [eqD_str, decide_eq_true rfl]; rfl)) ?_
        have hlen : as.length = bs.length := by rw [hl, hl']
        obtain ⟨x, y, rest, u1, u2, u3, u4⟩ := unlike_head r hlen (fun z => hab (by rw [z]))
        have zs : (as.zip bs).length ≤ 2 := by rw [List.length_zip]; have := ar_le g; omega
        refine xs_then (xs_asg (d := .lst (((as.zip bs).filter uneq).map encP)) (ed_filter encP uneq encP (IT.ip (by rw [← zip_enc]; exact it_zipT (ea_cons (tl (ed_var rfl)) (ea_cons (tl (ed_var rfl)) ea_nil)))) (free2 rfl rfl) (Nat.le_trans zs (by decide)) fun q hq => ⟨_, gd_tup (ds := [enc q.1, enc q.2]) (gds_cons (gd_name (Free.of rfl)) (gds_cons (gd_name (Free.of rfl)) gds_nil)) rfl, ?_, fun _ => ed_tup (ea_cons (ed_var rfl) (ea_cons (ed_var rfl) ea_nil)) (show 2 ≤ sizeLine by decide)⟩) (Free.of rfl) List.not_mem_nil rfl) ?_
        · have m := List.of_mem_zip (show (q.1, q.2) ∈ as.zip bs from hq)
          exact et_ne (ed_var (d := enc q.1) rfl) (ed_var (d := enc q.2) rfl) (okW_ok (has _ m.1) (by omega)) (okW_ok (hbs _ m.2) (by omega)) (by
            rw [eqD_enc]
            unfold uneq
            by_cases e : q.1 = q.2 <;> simp [e])
        · rw [u1, u2]
          have e0 : ∀ {Γ : List Sl}, Γ[9]? = some (.dat (.lst (((x, y) :: rest).map encP))) → ED K (tOp (rIxU K) (tVar 9) (tC (.int 0))) Γ (.tup [enc x, enc y]) := fun {Γ} h => ed_op (ed_var h) (ed_int 0) (vr_ixL (atI_nat (j := 0) rfl))
          exact xs_ret (ed_call (ea_cons (ed_var (d := rowsD r) rfl) (ea_cons (ed_op (e0 rfl) (ed_int 0) (vr_ixT (atI_nat (j := 0) rfl))) (ea_cons (ed_op (e0 rfl) (ed_int 1) (vr_ixT (atI_nat (j := 1) rfl))) ea_nil))) ⟨r, x, y, hR, hrl, has _ u3, hbs _ u4, rfl, rfl⟩) rfl
      · rw [if_pos (show g ≠ g' from hgg)]
        refine xs_out (xs_if1 (et_ne (hd (ed_var (d := enc (.app g as)) rfl)) (hd (ed_var (d := enc (.app g' bs)) rfl)) (g_ok hg) (g_ok hg') (by rw [eqD_str, decide_eq_false hgg]; rfl)) (xs_ret (ed_is (ed_op (ed_index (ws := r.map (·.1)) (ed_var (i := 4) rfl) (hd (ed_var rfl)) ((hR.mem g).mp hg)) (ed_index (ws := r.map (·.1)) (ed_var (i := 4) rfl) (hd (ed_var rfl)) ((hR.mem g').mp hg')) vr_gt) ?_) rfl))
        congr 1
        show decide (((rk r g' : Nat) : Int) < ((rk r g : Nat) : Int)) = _
        by_cases e : rk r g' < rk r g
        · rw [decide_eq_true e]; exact decide_eq_true (by omega)
        · rw [decide_eq_false e]; exact decide_eq_false (by omega)
    · rw [if_pos (show wt r (.app g as) ≠ wt r (.app g' bs) from hw)]
      exact xs_out (xs_if1 (et_or (x := true) (y := false) (et_ne (ed_var (d := .int (wt r (.app g as))) rfl) (ed_var (d := .int (wt r (.app g' bs))) rfl) rfl rfl (by rw [eqD_int, decide_eq_false hw]; rfl)) fun h => nomatch h) (xs_ret (ed_op (ed_var rfl) (ed_var rfl) vr_gt) rfl))
end
end K29
set_option Elab.async false
set_option maxRecDepth 100000
set_option maxHeartbeats 400000
set_option linter.all false
namespace K29
open PySem L2 StX PyProof.Rows PySem.Spec DL
/-! ### the law's draws -/
def spStart (K : PySem.W.Frag) : Sp := fun vs H Q _ => ∃ (a : Addr) (ns : List Int), vs = [.ref a] ∧ SqL K H a (ns.map V.int) ∧ ns.length ≤ 63 ∧ (∀ z ∈ ns, z.natAbs < 2 ^ 1048576) ∧ ∀ s c H', Ex H H' → H s = none → H c = none → Strm H' s c 0 → Q (.ref s) H'
abbrev PreDraw : Sl → List D → List D → Prop := fun s ds es => ∃ (n : Nat) (many : Int), s = .st n ∧ n < 4294967296 ∧ ds = [] ∧ es = [.int many] ∧ 0 < many ∧ many < 4294967296
abbrev RDraw : Sl → List D → List D → Sl → D → Prop := fun s _ es s' d => ∃ (n : Nat) (many v : Int), s = .st n ∧ es = [.int many] ∧ s' = .st (n + 1) ∧ d = .int v ∧ 0 ≤ v ∧ v < many
abbrev PrePick : Sl → List D → List D → Prop := fun s ds es => ∃ (n : Nat) (L : List D), s = .st n ∧ n < 4294967296 ∧ ds = [] ∧ es = [.lst L] ∧ L ≠ [] ∧ L.length < 4294967296
abbrev RPick : Sl → List D → List D → Sl → D → Prop := fun s _ es s' d => ∃ (n : Nat) (L : List D), s = .st n ∧ es = [.lst L] ∧ s' = .st (n + 1) ∧ d ∈ L
abbrev PreMix : Sl → List D → List D → Prop := fun s ds es => ∃ (n : Nat) (L : List D), s = .st n ∧ n + L.length < 4294967296 ∧ ds = [] ∧ es = [.lst L] ∧ L.length ≤ 16777216
abbrev RMix : Sl → List D → List D → Sl → D → Prop := fun s _ es s' d => ∃ (n : Nat) (L L' : List D), s = .st n ∧ es = [.lst L] ∧ s' = .st (n + L.length) ∧ d = .lst L' ∧ L'.Perm L
section
variable {P : Program} {w : World} {K : PySem.W.Frag} {mg : Str → Option Value} {base : Heap} {C : Addr}
abbrev s_law_start : Stmt := top 33
abbrev N_law_start : List Str := ["script"]
theorem sc_law_start : FnScope N_law_start ["script"] (defScope s_law_start) := ⟨rfl, rfl, rfl, by decide +kernel, rfl, by decide +kernel, by decide +kernel⟩
theorem b_law_start : BindsH "_law_start" s_law_start ["script"] := fun _ _ _ _ _ _ us hl => match us, hl with | [_], _ => rfl
theorem ok_start (F : Def K mg "_law_start" s_law_start) (T : Txt K mg C) : Cal P w K mg base 1 "_law_start" ["script"] (spStart K) := by
  refine cal_raw F sc_law_start b_law_start (fun vs H Q E ⟨a, ns, h, _⟩ => by rw [h]; rfl) fun f cdv A outer s H E hr => ?_
  have nd := sc_law_start.nd
  refine ⟨_, (pss_one (ps_ret (pe_lst (pa_cons (pe_callTy (k_list K rfl rfl) (by rfl) T.f_list (by decide +kernel) (pa_cons (pv 0) pa_nil)) (pa_cons pe_int (pa_cons pe_int (pa_cons pe_int pa_nil))))))), ?_⟩
  rintro H vs Q E ⟨a, ns, rfl, ha, hl, hb, q⟩
  refine ⟨_, rfl, .inl ⟨a, _, rfl, .inl ha, fun c hc => ⟨show 4 ≤ sizeLine by decide, fun s hs => ?_⟩⟩⟩
  have ex : Ex H (upd (upd H c (.lst (ns.map V.int))) s (.lst [.ref c, .int 0, .int 0, .int 11])) := (Ex.new hc).trans (Ex.new hs)
  have hsc : s ≠ c := fun z => by rw [z, upd_same] at hs; cases hs
  refine q s c _ ex (Ex.back (Ex.new hc) hs) hc ⟨hsc, ns, 0, 0, 11, upd_same, by rw [upd_ne hsc.symm, upd_same], hl, hb, by decide, ?_, by decide, by decide, by decide, by decide⟩
  exact Nat.pow_pos (by decide)
abbrev s_law_draw : Stmt := top 34
abbrev N_law_draw : List Str := ["stream", "many", "cell", "digit", "mixed"]
theorem sc_law_draw : FnScope N_law_draw ["stream", "many"] (defScope s_law_draw) := ⟨rfl, rfl, rfl, by decide +kernel, rfl, by decide +kernel, by decide +kernel⟩
theorem b_law_draw : BindsH "_law_draw" s_law_draw ["stream", "many"] := fun _ _ _ _ _ _ us hl => match us, hl with | [_, _], _ => rfl
theorem big (x : Int) (h0 : 0 ≤ x) (h : x < 2 ^ 40) : x.natAbs.log2 < 100 := by
  rcases Nat.eq_zero_or_pos x.natAbs with z | z
  · rw [z]; decide
  · refine (Nat.log2_lt (by omega)).mpr ?_
    have : (2 : Nat) ^ 40 ≤ 2 ^ 100 := Nat.pow_le_pow_right (by decide) (by decide)
    omega
theorem ok_draw (F : Def K mg "_law_draw" s_law_draw) (T : Txt K mg C) : Cal P w K mg base 1 "_law_draw" ["stream", "many"] (spO K RDraw PreDraw) := by
  refine cal_raw F sc_law_draw b_law_draw (fun vs H Q E h => ?_) fun f cdv A outer s H E hr => ?_
  · obtain ⟨_, _, _, xs, ys, s, ds, es, rfl, _, _, _, r1, r2, ⟨n, many, _, _, rfl, rfl, _⟩, _⟩ := h
    rw [List.length_append, List.length_cons, r1.length, r2.length]
    rfl
  have nd := sc_law_draw.nd
  refine ⟨_, (pss_cons (ps_asg (pe_op (k_add K rfl) (pe_ix (k_ix K rfl (hu1 hr)) (pv 0) pe_int (fun _ _ => rfl)) pe_int) (pg_sub (pv 0) pe_int set_list))
    (pss_cons (ps_while PassesOwn.never (PW.pt (pw_and (pt_cmpR (k_eq K rfl (hu64 hr)) (pe_ix (k_ix K rfl (hu1 hr)) (pv 0) pe_int (fun _ _ => rfl)) pe_int (nomark _)) (pw_and1 (pt_cmpR (k_ne K rfl (hu64 hr)) (pe_ix (k_ix K rfl (hu1 hr)) (pv 0) pe_int (fun _ _ => rfl)) (pe_lst pa_nil) (nomark _))))) (pss_cons (ps_set (i := 2) nd rfl (by first | exact Or.inl rfl | exact Or.inr rfl) (k_popAt K rfl (pe_ix (k_ix K rfl (hu1 hr)) (pv 0) pe_int (fun _ _ => rfl)) (pa_cons pe_int pa_nil)))
    (pss_cons (ps_asg (pe_op o_mod (pe_callTy c_int (by rfl) T.f_int (by decide +kernel) (pa_cons (pe_op (k_add K rfl) (pe_op (k_add K rfl) (pe_op o_mul (pe_ix (k_ix K rfl (hu1 hr)) (pv 0) pe_int (fun _ _ => rfl)) pe_int) (pv 2)) pe_int) pa_nil)) pe_int) (pg_sub (pv 0) pe_int set_list))
    (pss_one (ps_asg (pe_ifExp (pt_cmpR o_ge (pv 2) (pe_op o_pow pe_int pe_int) (nomark _)) (pv 2) pe_int) (pg_sub (pv 0) pe_int set_list))))))
    (pss_cons (ps_if (pt_cmpR o_gt (pe_ix (k_ix K rfl (hu1 hr)) (pv 0) pe_int (fun _ _ => rfl)) pe_int (nomark _)) (pss_cons (ps_set (i := 3) nd rfl (by first | exact Or.inl rfl | exact Or.inr rfl) (pe_op o_mod (pe_callTy c_int (by rfl) T.f_int (by decide +kernel) (pa_cons (pe_ix (k_ix K rfl (hu1 hr)) (pv 0) pe_int (fun _ _ => rfl)) pa_nil)) (pv 1)))
    (pss_cons (ps_asg (pe_op o_div (pe_ix (k_ix K rfl (hu1 hr)) (pv 0) pe_int (fun _ _ => rfl)) (pv 1)) (pg_sub (pv 0) pe_int set_list))
    (pss_one (ps_ret (pv 3))))) pss_nil)
    (pss_cons (ps_set (i := 4) nd rfl (by first | exact Or.inl rfl | exact Or.inr rfl) (pe_op o_mod (pe_callTy c_int (by rfl) T.f_int (by decide +kernel) (pa_cons (pe_op o_pow (pe_op (k_add K rfl) (pe_op (k_add K rfl) (pe_ix (k_ix K rfl (hu1 hr)) (pv 0) pe_int (fun _ _ => rfl)) (pe_op o_mul pe_int (pe_ix (k_ix K rfl (hu1 hr)) (pv 0) pe_int (fun _ _ => rfl)))) pe_int) pe_int) pa_nil)) pe_int))
    (pss_one (ps_ret (pe_op o_mod (pe_op o_mod (pe_callTy c_int (by rfl) T.f_int (by decide +kernel) (pa_cons (pe_op o_pow (pe_op (k_add K rfl) (pe_op (k_add K rfl) (pe_op o_mul (pv 4) pe_int) (pe_op o_mul pe_int (pe_ix (k_ix K rfl (hu1 hr)) (pv 0) pe_int (fun _ _ => rfl)))) pe_int) pe_int) pa_nil)) pe_int) (pv 1)))))))), ?_⟩
  rintro H vs Q E ⟨S, os, v0, xs, ys, sl, ds, es, rfl, hS, hos, hsl, r1, r2, ⟨n, many, rfl, hn, rfl, rfl, hm, hm2⟩, q⟩
  cases r1
  cases r2 with
  | cons r2 r3 =>
  cases r3
  cases r2
  obtain ⟨s, c, rfl, hv, hst⟩ := hsl
  cases hv
  obtain ⟨ne, ns, x1, x2, x3, hs, hc, hl, hb, p1, p1b, p2, p2n, p3, p3b⟩ := hst
  have st0 : DSt s c many H ns x1 x2 x3 (start N_law_draw ([] ++ V.ref s :: [.int many])) H := ⟨ne, rfl, rfl, rfl, hs, hc, fun a o h _ _ => h⟩
  have fin : ∀ {ns : List Int} {y1 y2 y3 v : Int} {σ : L2.St} {H' : Hp}, DSt s c many H ns y1 y2 y3 σ H' → ns.length ≤ 63 → (∀ z ∈ ns, z.natAbs < 2 ^ 1048576) → 0 ≤ y1 → y1.natAbs < 2 ^ 1048576 → 0 ≤ y2 → y2 ≤ ((n + 1 : Nat) : Int) → 0 ≤ y3 → y3 < 2147483647 → 0 ≤ v → v < many → Q (.int v) H' := by
    intro ns y1 y2 y3 v σ H' h a1 a2 a3 a4 a5 a6 a7 a8 a9 a10
    refine q (.st (n + 1)) (.int v) (.int v) H' ⟨n, many, v, rfl, rfl, rfl, rfl, a9, a10⟩ (fun a z => ?_) ⟨s, c, rfl, rfl, h.ne, ns, y1, y2, y3, h.hs, h.hc, a1, a2, a3, a4, a5, a6, a7, a8⟩ (fun a o z hno => h.fr a o z (fun e => hno (by rw [e]; exact List.mem_cons_self ..)) fun e => hno (by rw [e]; exact List.mem_cons_of_mem _ (List.mem_cons_self ..))) (.int v)
    rcases List.mem_cons.mp z with e | e
    · rw [e]; exact .inl ⟨_, h.hs⟩
    · rw [List.mem_singleton.mp e]; exact .inl ⟨_, h.hc⟩
  refine st0.set (v := x2 + 1) (y1 := x1) (y2 := x2 + 1) (y3 := x3) (k := 2) (st0.env (K := K) none none none True.intro True.intro True.intro) (ed_op (ed_st True.intro (k := 2) rfl rfl) (ed_int 1) vr_addI) (by decide) rfl fun H1 st1 => ?_
  clear st0 hs hc
  -- the cells are read
  refine ⟨fun m σ H' => ∃ (ns : List Int) (x1 x3 : Int), m = ns.length ∧ DSt s c many H ns x1 (x2 + 1) x3 σ H' ∧ ns.length ≤ 63 ∧ (∀ z ∈ ns, z.natAbs < 2 ^ 1048576) ∧ 0 ≤ x1 ∧ x1.natAbs < 2 ^ 1048576 ∧ 0 ≤ x3 ∧ x3 < 2147483647, ⟨_, ns, x1, x3, rfl, st1, hl, hb, p1, p1b, p3, p3b⟩, ?_⟩
  clear st1 hl hb p1 p1b p3 p3b
  rintro m σ H2 ⟨ns, x1, x3, rfl, st, hl, hb, p1, p1b, p3, p3b⟩
  have E2 := st.env (K := K) none none none True.intro True.intro True.intro
  refine use_et E2 (et_and (x := decide (x1 = 0)) (y := !ns.isEmpty) (et_eq (ed_st True.intro (k := 1) rfl rfl) (ed_int 0) rfl rfl (by rw [eqD_int])) fun _ => et_ne (ed_st True.intro (k := 0) rfl rfl) (ed_lst ea_nil (Nat.zero_le _)) (ok_ints ns) (ok_ints []) (by
    rw [eqD_nil]
    cases ns <;> rfl)) fun H3 e3 => ?_
  have st3 := st.ex e3
  by_cases hgo : (decide (x1 = 0) && !ns.isEmpty) = true
  · rw [if_pos hgo]
    rw [Bool.and_eq_true, decide_eq_true_eq] at hgo
    obtain ⟨hx1, hne⟩ := hgo
    cases ns with
    | nil => cases hne
    | cons z ns =>
    have hl' : ns.length ≤ 63 := by rw [List.length_cons] at hl; omega
    refine ⟨fun σ' H' => ∃ (x1 x3 : Int), DSt s c many H ns x1 (x2 + 1) x3 σ' H' ∧ 0 ≤ x1 ∧ x1.natAbs < 2 ^ 1048576 ∧ 0 ≤ x3 ∧ x3 < 2147483647, fun σ' H' ⟨y1, y3, h1, h2, h3, h4, h5⟩ => ⟨ns.length, Nat.lt_succ_self _, ns, y1, y3, rfl, h1, hl', fun y hy => hb y (List.mem_cons_of_mem _ hy), h2, h3, h4, h5⟩, ?_⟩
    refine st3.pop hl' fun H4 st4 => ?_
    have st5 := st4.put (i := 2) (v := z) (by decide)
    have at5 := st4.put_at (i := 2) (v := z) (by decide)
    have E5 := st5.env (K := K) (some z) none none at5 True.intro True.intro
    have m3 := Int.emod_nonneg (x3 * 8191 + z + 3) (show (2147483647 : Int) ≠ 0 by decide)
    have m3b := Int.emod_lt_of_pos (x3 * 8191 + z + 3) (show (0 : Int) < 2147483647 by decide)
    refine st5.set (v := (x3 * 8191 + z + 3) % 2147483647) (y1 := x1) (y2 := x2 + 1) (y3 := (x3 * 8191 + z + 3) % 2147483647) (k := 3) E5 (ed_op (ed_cb (ea_cons (ed_op (ed_op (ed_op (ed_st True.intro (k := 3) rfl rfl) (ed_int 8191) (vr_mulI ?_)) (ed_var (i := 2) rfl) vr_addI) (ed_int 3) vr_addI) ea_nil) vc_int) (ed_int 2147483647) (vr_mod (by decide))) (by decide) rfl fun H6 st6 => ?_
    · have := big x3 p3 (by omega)
      have h8 : (8191 : Int).natAbs.log2 < 100 := by decide
      show x3.natAbs.log2 + (8191 : Int).natAbs.log2 < 1000000
      omega
    have E6 := st6.env (K := K) (some z) none none at5 True.intro True.intro
    have hz : 0 ≤ (if 1000000000000000000 ≤ z then z else 0) ∧ (if 1000000000000000000 ≤ z then z else 0).natAbs < 2 ^ 1048576 := by
      split
      · exact ⟨by omega, hb z (List.mem_cons_self ..)⟩
      · exact ⟨by decide, Nat.pow_pos (by decide)⟩
    show tAsg (tIf (tTest (tOp rGeI (tVar 2) (tOp rPowI (tC (.int 10)) (tC (.int 18))))) (tVar 2) (tC (.int 0))) (gSub (tVar 0) (tC (.int 1)) rSetL) _ _ _
    refine st6.set (v := if 1000000000000000000 ≤ z then z else 0) (y1 := if 1000000000000000000 ≤ z then z else 0) (y2 := x2 + 1) (y3 := (x3 * 8191 + z + 3) % 2147483647) (k := 1) E6 ?_ (by decide) rfl fun H7 st7 => ?_
    rotate_left
    · exact ⟨_, _, st7, hz.1, hz.2, m3, m3b⟩
    have ge : ET K (tTest (tOp rGeI (tVar 2) (tOp rPowI (tC (.int 10)) (tC (.int 18))))) [.dat (stD ns x1 (x2 + 1) ((x3 * 8191 + z + 3) % 2147483647)), .dat (.int many), slI (some z), slI none, slI none] (decide ((1000000000000000000 : Int) ≤ z)) := et_test (ed_op (ed_var (d := .int z) rfl) (ed_is (ed_op (ed_int 10) (ed_int 18) (vr_pow ⟨by decide, by decide, by decide⟩)) rfl) vr_ge)
    by_cases hc : (1000000000000000000 : Int) ≤ z
    · rw [if_pos hc]
      exact ed_if ge (fun _ => ed_var rfl) (fun h => by rw [decide_eq_true hc] at h; cases h)
    · rw [if_neg hc]
      exact ed_if ge (fun h => by rw [decide_eq_false hc] at h; cases h) fun _ => ed_int 0
  · rw [if_neg hgo]
    have E3 := st3.env (K := K) none none none True.intro True.intro True.intro
    have hm3 : many.natAbs.log2 < 9000 := by have := big many (by omega) (by omega); omega
    have gt : ET K (tTest (tOp rGtI (tOp (rIxU K) (tVar 0) (tC (.int 1))) (tC (.int 0)))) [.dat (stD ns x1 (x2 + 1) x3), .dat (.int many), slI none, slI none, slI none] (decide (0 < x1)) := et_test (ed_op (ed_st True.intro (k := 1) rfl rfl) (ed_int 0) vr_gt)
    by_cases h1 : 0 < x1
    · rw [decide_eq_true h1] at gt
      refine use_if1 E3 gt fun H4 e4 => ?_
      have st4 := st3.ex e4
      have d0 := Int.emod_nonneg x1 (show many ≠ 0 by omega)
      have d1 := Int.emod_lt_of_pos x1 hm
      refine use_ed (E3.ex e4) (ed_op (ed_cb (ea_cons (ed_st True.intro (k := 1) rfl rfl) ea_nil) vc_int) (ed_var (i := 1) rfl) (vr_mod hm)) fun v5 H5 e5 r5 => ?_
      cases r5
      have st5 := (st4.ex e5).put (i := 3) (v := x1 % many) (by decide)
      have at5 := (st4.ex e5).put_at (i := 3) (v := x1 % many) (by decide)
      have q0 : 0 ≤ x1 / many := Int.ediv_nonneg p1 (by omega)
      have q1 : (x1 / many).natAbs < 2 ^ 1048576 := by
        have : x1 / many ≤ x1 := Int.ediv_le_self _ p1
        exact Nat.lt_of_le_of_lt (by omega) p1b
      refine st5.set (v := x1 / many) (y1 := x1 / many) (y2 := x2 + 1) (y3 := x3) (k := 1) (st5.env (K := K) none (some (x1 % many)) none True.intro at5 True.intro) (ed_op (ed_st True.intro (k := 1) rfl rfl) (ed_var (i := 1) rfl) (vr_div hm hm3)) (by decide) rfl fun H6 st6 => ?_
      refine ⟨_, at5, fin st6 hl hb q0 q1 (by omega) (by omega) p3 p3b d0 d1⟩
    · rw [decide_eq_false h1] at gt
      refine use_if0 E3 gt fun H4 e4 => ?_
      have st4 := st3.ex e4
      have lg : ∀ {i j : Int}, 0 ≤ i → i < 2 ^ 40 → 0 ≤ j → j < 2 ^ 40 → CMulW i j := fun {i j} a b c d => by
        have h1 := big i a b
        have h2 := big j c d
        show i.natAbs.log2 + j.natAbs.log2 < 1000000
        omega
      refine use_ed (E3.ex e4) (ed_op (ed_cb (ea_cons (ed_op (ed_op (ed_op (ed_st True.intro (k := 3) rfl rfl) (ed_op (ed_int 7919) (ed_st True.intro (k := 2) rfl rfl) (vr_mulI (lg (by decide) (by decide) (by omega) (by omega)))) vr_addI) (ed_int 104729) vr_addI) (ed_int 5) (vr_pow ⟨by decide, by decide, by omega⟩)) ea_nil) vc_int) (ed_int 2147483629) (vr_mod (by decide))) fun v5 H5 e5 r5 => ?_
      cases r5
      have mx0 := Int.emod_nonneg ((x3 + 7919 * (x2 + 1) + 104729) ^ (5 : Int).toNat) (show (2147483629 : Int) ≠ 0 by decide)
      have mx1 := Int.emod_lt_of_pos ((x3 + 7919 * (x2 + 1) + 104729) ^ (5 : Int).toNat) (show (0 : Int) < 2147483629 by decide)
      generalize (x3 + 7919 * (x2 + 1) + 104729) ^ (5 : Int).toNat % 2147483629 = mx at mx0 mx1 ⊢
      have st5 := (st4.ex e5).put (i := 4) (v := mx) (by decide)
      have at5 := (st4.ex e5).put_at (i := 4) (v := mx) (by decide)
      refine use_ed (st5.env (K := K) none none (some mx) True.intro True.intro at5) (ed_op (ed_op (ed_cb (ea_cons (ed_op (ed_op (ed_op (ed_op (ed_var (i := 4) rfl) (ed_int 48271) (vr_mulI (lg mx0 (by omega) (by decide) (by decide)))) (ed_op (ed_int 30011) (ed_st True.intro (k := 2) rfl rfl) (vr_mulI (lg (by decide) (by decide) (by omega) (by omega)))) vr_addI) (ed_int 29) vr_addI) (ed_int 3) (vr_pow ⟨by decide, by decide, by omega⟩)) ea_nil) vc_int) (ed_int 1000000007) (vr_mod (by decide))) (ed_var (i := 1) rfl) (vr_mod hm)) fun v6 H6 e6 r6 => ?_
      cases r6
      exact fin (st5.ex e6) hl hb p1 p1b (by omega) (by omega) p3 p3b (Int.emod_nonneg _ (by omega)) (Int.emod_lt_of_pos _ hm)
end
end K29
set_option Elab.async false
set_option maxRecDepth 100000
set_option maxHeartbeats 400000
set_option linter.all false
namespace K29
open PySem L2 StX PyProof.Rows PySem.Spec DL
theorem perm_erase {α : Type} : ∀ (l : List α) (i : Nat) (h : i < l.length), (l[i] :: l.eraseIdx i).Perm l
  | x :: l, 0, _ => List.Perm.refl _
  | x :: l, i + 1, h => (List.Perm.swap x (l[i]'(Nat.lt_of_succ_lt_succ h)) (l.eraseIdx i)).trans ((perm_erase l i (Nat.lt_of_succ_lt_succ h)).cons x)
section
variable {P : Program} {w : World} {K : PySem.W.Frag} {mg : Str → Option Value} {base : Heap} {C : Addr}
/-- one draw below the length of what is at hand -/
theorem xe_draw {Γ : List Sl} {j n m : Nat} {te : TE} (hj : Γ[j]? = some (.st n)) (hn : n < 4294967296) (he : ED K te Γ (.int (m : Nat))) (hm : 0 < m) (hm2 : m < 4294967296) :
    XE K (tCall (spO K RDraw PreDraw) [] E0 (tCons (tVar j) (tCons te tNil))) Γ fun g d => g = Γ.set j (.st (n + 1)) ∧ ∃ v : Nat, d = .int (v : Nat) ∧ v < m :=
  xe_call (j := j) (R := fun g ds es => g = Γ ∧ ds = [] ∧ es = [.int (m : Nat)]) (xa_own hj True.intro (xb_ea (ea_cons he ea_nil) ⟨rfl, rfl, rfl⟩)) fun g ds es ⟨e1, e2, e3⟩ => by
    subst e1 e2 e3
    refine ⟨.st n, hj, True.intro, ⟨n, m, rfl, hn, rfl, rfl, by omega, by omega⟩, fun s' d ⟨n', many, v, h1, h2, h3, h4, h5, h6⟩ => ?_⟩
    cases h1
    cases h2
    subst h3 h4
    refine ⟨rfl, v.toNat, ?_, by omega⟩
    rw [Int.toNat_of_nonneg h5]
abbrev s_law_pick : Stmt := top 35
abbrev N_law_pick : List Str := ["stream", "some"]
theorem sc_law_pick : FnScope N_law_pick ["stream", "some"] (defScope s_law_pick) := ⟨rfl, rfl, rfl, by decide +kernel, rfl, by decide +kernel, by decide +kernel⟩
theorem b_law_pick : BindsH "_law_pick" s_law_pick ["stream", "some"] := fun _ _ _ _ _ _ us hl => match us, hl with | [_, _], _ => rfl
theorem ok_pick (F : Def K mg "_law_pick" s_law_pick) (T : Txt K mg C) (C_law_draw : Cal P w K mg base 1 "_law_draw" ["stream", "many"] (spO K RDraw PreDraw)) : Cal P w K mg base 2 "_law_pick" ["stream", "some"] (spO K RPick PrePick) := by
  refine cal_own 0 F sc_law_pick b_law_pick (fun s ds es ⟨n, L, h1, _, h2, _⟩ => ⟨by rw [h2]; rfl, by rw [h1]; exact True.intro⟩) (fun s ds es ⟨n, L, h1, _, h2, h3, _⟩ => by rw [h2, h3]; rfl) fun f cdv A outer s H E hr => ?_
  have nd := sc_law_pick.nd
  refine ⟨_, (pss_one (ps_ret (pe_ix (k_ix K rfl (hu1 hr)) (pv 1) (pe_cal C_law_draw (hr.mono (by omega)) (pa_cons (pv 0) (pa_cons (pe_callB (k_len K rfl) (by rfl) T.f_len (by decide +kernel) (pa_cons (pv 1) pa_nil)) pa_nil))) (fun _ _ => rfl)))), ?_⟩
  rintro s ds es ⟨n, L, rfl, hn, rfl, rfl, hne, hlt⟩
  have hpos : 0 < L.length := List.length_pos_iff.mpr hne
  show XS K [0] _ ([.st n, .dat (.lst L)] : List Sl) _
  refine xs_retX (xe_op (M := fun g a => g = ([.st n, .dat (.lst L)] : List Sl) ∧ a = .lst L) (R := fun g d => g = ([.st (n + 1), .dat (.lst L)] : List Sl) ∧ d ∈ L) (xe_ed (ed_var (i := 1) rfl) ⟨rfl, rfl⟩) fun g a ⟨e1, e2⟩ => ?_) fun g d ⟨e1, e2⟩ => ?_
  · subst e1 e2
    refine xe_mono (xe_draw (j := 0) rfl hn (ed_cb (ea_cons (ed_var (i := 1) rfl) ea_nil) vc_lenL) hpos hlt) fun g d ⟨e1, v, e2, hv⟩ => ?_
    subst e1 e2
    exact ⟨L[v], vr_ixL (atI_nat (List.getElem?_eq_getElem hv)), rfl, List.getElem_mem hv⟩
  · subst e1
    exact ⟨.st (n + 1), rfl, True.intro, n, L, rfl, rfl, rfl, e2⟩
abbrev s_law_mixed : Stmt := top 36
abbrev N_law_mixed : List Str := ["stream", "some", "left", "k"]
theorem sc_law_mixed : FnScope N_law_mixed ["stream", "some"] (defScope s_law_mixed) := ⟨rfl, rfl, rfl, by decide +kernel, rfl, by decide +kernel, by decide +kernel⟩
theorem b_law_mixed : BindsH "_law_mixed" s_law_mixed ["stream", "some"] := fun _ _ _ _ _ _ us hl => match us, hl with | [_, _], _ => rfl
theorem ok_mixed (F : Def K mg "_law_mixed" s_law_mixed) (T : Txt K mg C) (C_law_draw : Cal P w K mg base 1 "_law_draw" ["stream", "many"] (spO K RDraw PreDraw)) : Cal P w K mg base 2 "_law_mixed" ["stream", "some"] (spO K RMix PreMix) := by
  refine cal_own 0 F sc_law_mixed b_law_mixed (fun s ds es ⟨n, L, h1, _, h2, _⟩ => ⟨by rw [h2]; rfl, by rw [h1]; exact True.intro⟩) (fun s ds es ⟨n, L, h1, _, h2, h3, _⟩ => by rw [h2, h3]; rfl) fun f cdv A outer s H E hr => ?_
  have nd := sc_law_mixed.nd
  refine ⟨_, (pss_cons (ps_set (i := 2) nd rfl (by first | exact Or.inl rfl | exact Or.inr rfl) (pe_callTy (k_list K rfl rfl) (by rfl) T.f_list (by decide +kernel) (pa_cons (pv 1) pa_nil)))
    (pss_one (ps_ret (pe_lc (own := [("k", 3)]) rfl nd (pi_range1 (by rfl) T.f_range (pa_cons (pe_callB (k_len K rfl) (by rfl) T.f_len (by decide +kernel) (pa_cons (pv 2) pa_nil)) pa_nil)) (blkOk_by (own := [("k", 3)]) (N := N_law_mixed) (sc := defScope s_law_mixed) (by decide +kernel)) (fun _ _ _ _ _ => (pg_name (i := 3) nd rfl (by first | exact Or.inl rfl | exact Or.inr rfl))) (fun _ _ _ _ _ => pts_nil) (fun _ _ _ _ _ => (k_popAt K rfl (pv 2) (pa_cons (pe_cal C_law_draw (hr.mono (by omega)) (pa_cons (pv 0) (pa_cons (pe_callB (k_len K rfl) (by rfl) T.f_len (by decide +kernel) (pa_cons (pv 2) pa_nil)) pa_nil))) pa_nil))))))), ?_⟩
  rintro s ds es ⟨n, L, rfl, hn, rfl, rfl, hlt⟩
  show XS K [0] _ ([.st n, .dat (.lst L), .no, .no] : List Sl) _
  have hz : (16777216 : Nat) ≤ sizeLine := by decide
  refine xs_then (Γ1 := [.st n, .dat (.lst L), .ml L, .no]) (xs_asgN (en_list (.inl (ed_var (i := 1) rfl))) (Free.of rfl) (by decide) rfl) ?_
  refine xs_retX (xe_lc (vs := [3]) (R := fun g d => g = ([.st (n + L.length), .dat (.lst L), .ml [], .no] : List Sl) ∧ ∃ L' : List D, d = .lst L' ∧ L'.Perm L) (fun k Γ acc => ∃ rest, Γ = ([.st (n + k), .dat (.lst L), .ml rest, .no] : List Sl) ∧ (acc ++ rest).Perm L ∧ acc.length = k)
    (it_rng1 (j := ((L.length : Nat) : Int)) (ea_cons (ed_lenM (i := 2) rfl) ea_nil) (by omega) (by omega)) (fun g k acc ⟨rest, h, _⟩ i hi => by subst h; rw [List.mem_singleton.mp hi]; rfl) (by simp [rangeD]; omega) ⟨L, rfl, List.Perm.refl L, rfl⟩ (fun k d Γ1 acc hd ⟨rest, e, hp, hk⟩ _ => ?_) fun Γ1 acc ⟨rest, e, hp, hk⟩ => ?_) fun g d ⟨e1, L', e2, e3⟩ => ?_
  · subst e
    have hrl : (rangeD 0 ((L.length : Nat) : Int).toNat).length = L.length := by simp [rangeD]
    have hkl : k < L.length := by
      have := (List.getElem?_eq_some_iff.mp hd).1
      omega
    have hlr : rest.length = L.length - k := by
      have := hp.length_eq
      rw [List.length_append] at this
      omega
    refine ⟨_, gd_name (Free.of rfl), ?_⟩
    refine xe_popAt (i := 2) (ds0 := rest) (M := fun g d' => g = ([.st (n + k + 1), .dat (.lst L), .ml rest, .dat d] : List Sl) ∧ ∃ v : Nat, d' = .int (v : Nat) ∧ v < rest.length) rfl (xe_draw (j := 0) (m := rest.length) rfl (by omega) (ed_lenM (i := 2) rfl) (by omega) (by omega)) fun g a ⟨e1, v, e2, hv⟩ => ?_
    subst e1 e2
    refine ⟨rest, v, rest[v], rfl, rfl, List.getElem?_eq_getElem hv, by omega, fun i hi => by rw [List.mem_singleton.mp hi]; exact Free.ofD rfl, rest.eraseIdx v, rfl, ?_, by rw [List.length_append, hk]; rfl⟩
    have := perm_erase rest v hv
    rw [List.append_assoc]
    exact (List.Perm.append_left acc this).trans hp
  · subst e
    have hrl : (rangeD 0 ((L.length : Nat) : Int).toNat).length = L.length := by simp [rangeD]
    rw [hrl] at hk ⊢
    have hlr : rest.length = 0 := by
      have := hp.length_eq
      rw [List.length_append] at this
      omega
    rw [List.eq_nil_of_length_eq_zero hlr] at hp ⊢
    rw [List.append_nil] at hp
    exact ⟨rfl, acc, rfl, hp⟩
  · subst e1
    exact ⟨_, rfl, True.intro, n, L, L', rfl, rfl, rfl, e2, e3⟩
end
end K29
set_option Elab.async false
set_option maxRecDepth 100000
set_option maxHeartbeats 400000
set_option linter.all false
namespace K29
open PySem L2 StX PyProof.Rows PySem.Spec DL
/-! ### answers of compare -/
def ans : List Str := ["above", "same", "below", "none"]
theorem ans_ok {z : Str} (h : z ∈ ans) : (D.str z).ok = true := by
  have : PyData.strOk z = true := (show ∀ z ∈ ans, PyData.strOk z = true by decide +kernel) z h
  unfold D.ok SeqAt.shaped
  rw [D.pl, D.py, PyData.canLay0, this, PyData.depth]
  · rfl
  all_goals (intros; rename_i z; cases z)
theorem cmp_ans (r : Rows) (a b : W) : cmp r a b ∈ ans := by
  unfold cmp ans
  split
  · simp
  · split
    · simp
    · split <;> simp
theorem cmp_self (r : Rows) (a : W) : cmp r a a = "same" := by
  unfold cmp
  rw [if_pos rfl]
theorem above_ne {r : Rows} {a b : W} (h : above r a b = true) : a ≠ b := fun e => by
  rw [e, above_self] at h
  cases h
theorem cmp_up {r : Rows} {a b : W} (h : above r a b = true) : cmp r a b = "above" := by
  unfold cmp
  rw [if_neg (above_ne h), if_pos h]
theorem cmp_dn {r : Rows} (R : RowsOk r) {n : Nat} {a b : W} (ha : okW n a = true) (hb : okW n b = true) (h : above r b a = true) : cmp r a b = "below" := by
  have h2 := above_total R ha hb (above_ne h).symm
  rw [h] at h2
  unfold cmp
  rw [if_neg (above_ne h).symm, h2, if_neg (show ¬ (!true) = true from Bool.false_ne_true), if_pos h]
/-- ascending -/
def Up (r : Rows) (ws : List W) : Prop := ws.Pairwise fun a b => above r b a = true
theorem lower_is {r : Rows} (R : RowsOk r) {n : Nat} {ws : List W} (ok : ∀ x ∈ ws, okW n x = true) (up : Up r ws) {j : Nat} {x : W} (hx : ws[j]? = some x) : ws.filter (fun y => decide (cmp r x y = "above")) = ws.take j := by
  obtain ⟨hj, he⟩ := List.getElem?_eq_some_iff.mp hx
  have split : ws = ws.take j ++ x :: ws.drop (j + 1) := by
    rw [← he, List.getElem_cons_drop, List.take_append_drop]
  have up2 := up
  rw [split] at up2
  obtain ⟨u1, u2, u3⟩ := List.pairwise_append.mp up2
  have xm : x ∈ ws := List.mem_of_getElem? hx
  have A : (ws.take j).filter (fun y => decide (cmp r x y = "above")) = ws.take j := List.filter_eq_self.mpr fun y hy => decide_eq_true (cmp_up (u3 y hy x (List.mem_cons_self ..)))
  have B : (x :: ws.drop (j + 1)).filter (fun y => decide (cmp r x y = "above")) = [] := List.filter_eq_nil_iff.mpr fun y hy => by
    rcases List.mem_cons.mp hy with e | e
    · rw [e, cmp_self]
      decide +kernel
    · rw [cmp_dn R (ok x xm) (ok y (List.mem_of_mem_drop e)) ((List.pairwise_cons.mp u2).1 y e)]
      decide +kernel
  conv => lhs; rw [split]
  rw [List.filter_append, A, B, List.append_nil]
def insW (r : Rows) (acc : List W) (x : W) : List W := acc.take (acc.filter (above r x)).length ++ [x] ++ acc.drop (acc.filter (above r x)).length
def sortW (r : Rows) (ws : List W) : List W := ws.foldl (insW r) []
theorem insW_perm (r : Rows) (acc : List W) (x : W) : (insW r acc x).Perm (x :: acc) := by
  unfold insW
  have h := List.perm_middle (a := x) (l₁ := acc.take (acc.filter (above r x)).length) (l₂ := acc.drop (acc.filter (above r x)).length)
  rw [List.take_append_drop] at h
  rw [List.append_assoc]
  exact h
theorem sortW_perm (r : Rows) (ws : List W) : (sortW r ws).Perm ws := by
  unfold sortW
  suffices h : ∀ acc : List W, (ws.foldl (insW r) acc).Perm (acc ++ ws) from h []
  induction ws with
  | nil => exact fun acc => by rw [List.foldl_nil, List.append_nil]
  | cons x ws ih => exact fun acc => (ih (insW r acc x)).trans (((insW_perm r acc x).append_right ws).trans List.perm_middle.symm)
section
variable {P : Program} {w : World} {K : PySem.W.Frag} {mg : Str → Option Value} {base : Heap} {C : Addr}
abbrev RSame1 : List D → D → Prop := fun ds d => ∃ z ∈ ans, ds = [.str z, .str z] ∧ d = .bl true
abbrev RSame2 : List D → D → Prop := fun ds d => ∃ zs : List Str, (∀ z ∈ zs, z ∈ ans) ∧ zs.length ≤ 1000 ∧ ds = [.lst (zs.map D.str), .lst (zs.map D.str)] ∧ d = .bl true
abbrev s_law_same : Stmt := top 37
abbrev N_law_same : List Str := ["found", "due", "x", "y"]
theorem sc_law_same : FnScope N_law_same ["found", "due"] (defScope s_law_same) := ⟨rfl, rfl, rfl, by decide +kernel, rfl, by decide +kernel, by decide +kernel⟩
theorem b_law_same : BindsH "_law_same" s_law_same ["found", "due"] := fun _ _ _ _ _ _ us hl => match us, hl with | [_, _], _ => rfl
theorem ok_same1 (F : Def K mg "_law_same" s_law_same) (T : Txt K mg C) : Cal P w K mg base 2 "_law_same" ["found", "due"] (spP K RSame1) := by
  have C_law_same : Cal P w K mg base 1 "_law_same" ["found", "due"] (spP K fun _ _ => False) := cal_void F sc_law_same b_law_same
  refine cal_pure F sc_law_same b_law_same (fun ds d ⟨x, _, h, _⟩ => by rw [h]; rfl) fun f cdv A outer s H E hr => ?_
  have nd := sc_law_same.nd
  refine ⟨_, (pss_cons (ps_if (pt_val (pe_callB (k_isiT K rfl) (by rfl) T.f_isinstance (by decide +kernel) (pa_cons (pv 1) (pa_cons (pe_tup (pa_cons (pe_bltn (v := .ty "list") (u := .type "list") (by rfl) T.f_list (by decide +kernel) rfl) (pa_cons (pe_bltn (v := .ty "tuple") (u := .type "tuple") (by rfl) T.f_tuple (by decide +kernel) rfl) pa_nil))) pa_nil)))) (pss_cons (ps_if (PW.pt (pw_or (pt_cmpR (k_ne K rfl (hu64 hr)) (pe_callB (k_isi K rfl) (by rfl) T.f_isinstance (by decide +kernel) (pa_cons (pv 0) (pa_cons (pe_bltn (v := .ty "list") (u := .type "list") (by rfl) T.f_list (by decide +kernel) rfl) pa_nil))) (pe_callB (k_isi K rfl) (by rfl) T.f_isinstance (by decide +kernel) (pa_cons (pv 1) (pa_cons (pe_bltn (v := .ty "list") (u := .type "list") (by rfl) T.f_list (by decide +kernel) rfl) pa_nil))) (nomark _)) (pw_or1 (pt_cmpR (k_ne K rfl (hu64 hr)) (pe_callB (k_isi K rfl) (by rfl) T.f_isinstance (by decide +kernel) (pa_cons (pv 0) (pa_cons (pe_bltn (v := .ty "tuple") (u := .type "tuple") (by rfl) T.f_tuple (by decide +kernel) rfl) pa_nil))) (pe_callB (k_isi K rfl) (by rfl) T.f_isinstance (by decide +kernel) (pa_cons (pv 1) (pa_cons (pe_bltn (v := .ty "tuple") (u := .type "tuple") (by rfl) T.f_tuple (by decide +kernel) rfl) pa_nil))) (nomark _))))) (pss_one (ps_ret pe_bl)) pss_nil)
    (pss_one (ps_ret (pe_and (pe_cmpR (k_eq K rfl (hu64 hr)) (pe_callB (k_len K rfl) (by rfl) T.f_len (by decide +kernel) (pa_cons (pv 0) pa_nil)) (pe_callB (k_len K rfl) (by rfl) T.f_len (by decide +kernel) (pa_cons (pv 1) pa_nil)) (nomark _)) (pe_one (pe_callB (k_all K rfl rfl) (by rfl) T.f_all (by decide +kernel) (pa_cons (pe_lc (own := [("x", 2), ("y", 3)]) rfl nd (RZ.pi_zipA (by rfl) T.f_zip (pa_cons (pv 0) (pa_cons (pv 1) pa_nil))) (blkOk_by (own := [("x", 2), ("y", 3)]) (N := N_law_same) (sc := defScope s_law_same) (by decide +kernel)) (fun _ _ _ _ _ => (k_tup K (n := 2) rfl rfl (pgs_cons (pg_name (i := 2) nd rfl (by first | exact Or.inl rfl | exact Or.inr rfl)) (pgs_cons (pg_name (i := 3) nd rfl (by first | exact Or.inl rfl | exact Or.inr rfl)) pgs_nil)))) (fun _ _ _ _ _ => pts_nil) (fun _ _ _ _ _ => (pe_cal C_law_same (hr.mono (by omega)) (pa_cons (pv 2) (pa_cons (pv 3) pa_nil))))) pa_nil))))))) pss_nil)
    (pss_cons (ps_if (pt_val (pe_callB (k_isi K rfl) (by rfl) T.f_isinstance (by decide +kernel) (pa_cons (pv 1) (pa_cons (pe_bltn (v := .ty "dict") (u := .type "dict") (by rfl) T.f_dict (by decide +kernel) rfl) pa_nil)))) (pss_one ps_never) pss_nil)
    (pss_cons (ps_if (pt_val (pe_callB (k_isi K rfl) (by rfl) T.f_isinstance (by decide +kernel) (pa_cons (pv 1) (pa_cons (pe_bltn (v := .ty "int") (u := .type "int") (by rfl) T.f_int (by decide +kernel) rfl) pa_nil)))) (pss_one ps_never) pss_nil)
    (pss_one (ps_ret (pe_and (pe_not (pe_callB (k_isiT K rfl) (by rfl) T.f_isinstance (by decide +kernel) (pa_cons (pv 0) (pa_cons (pe_tup (pa_cons (pe_bltn (v := .ty "int") (u := .type "int") (by rfl) T.f_int (by decide +kernel) rfl) (pa_cons (pe_bltn (v := .ty "list") (u := .type "list") (by rfl) T.f_list (by decide +kernel) rfl) (pa_cons (pe_bltn (v := .ty "tuple") (u := .type "tuple") (by rfl) T.f_tuple (by decide +kernel) rfl) (pa_cons (pe_bltn (v := .ty "dict") (u := .type "dict") (by rfl) T.f_dict (by decide +kernel) rfl) pa_nil))))) pa_nil)))) (pe_one (pe_cmpR (k_eq K rfl (hu64 hr)) (pv 0) (pv 1) (nomark _))))))))), ?_⟩
  rintro ds d ⟨z, hz, rfl, rfl⟩
  show XS K [] _ ([.dat (.str z), .dat (.str z), .no, .no] : List Sl) _
  refine xs_skip (et_B (ed_isiT (ns := ["list", "tuple"]) (ed_var (i := 1) (d := .str z) rfl) rfl (by decide) (fun σ H Q q => q) rfl)) ?_
  refine xs_skip (et_B (ed_isi (n := "dict") (ed_var (i := 1) (d := .str z) rfl) rfl rfl)) ?_
  refine xs_skip (et_B (ed_isi (n := "int") (ed_var (i := 1) (d := .str z) rfl) rfl rfl)) ?_
  exact xs_ret (ed_is (ed_andV (x := true) (y := true) (ed_notV (x := false) (ed_isiT (ns := ["int", "list", "tuple", "dict"]) (ed_var (i := 0) (d := .str z) rfl) rfl (by decide) (fun σ H Q q => q) rfl)) fun _ => ed_is (ed_op (ed_var (i := 0) rfl) (ed_var (i := 1) rfl) (vr_eq (ans_ok hz) (ans_ok hz))) (by rw [eqD_str, decide_eq_true rfl])) rfl) rfl
theorem ok_same2 (F : Def K mg "_law_same" s_law_same) (T : Txt K mg C) : Cal P w K mg base 3 "_law_same" ["found", "due"] (spP K RSame2) := by
  have C_law_same : Cal P w K mg base 2 "_law_same" ["found", "due"] (spP K RSame1) := ok_same1 F T
  refine cal_pure F sc_law_same b_law_same (fun ds d ⟨x, _, _, h, _⟩ => by rw [h]; rfl) fun f cdv A outer s H E hr => ?_
  have nd := sc_law_same.nd
  refine ⟨_, (pss_cons (ps_if (pt_val (pe_callB (k_isiT K rfl) (by rfl) T.f_isinstance (by decide +kernel) (pa_cons (pv 1) (pa_cons (pe_tup (pa_cons (pe_bltn (v := .ty "list") (u := .type "list") (by rfl) T.f_list (by decide +kernel) rfl) (pa_cons (pe_bltn (v := .ty "tuple") (u := .type "tuple") (by rfl) T.f_tuple (by decide +kernel) rfl) pa_nil))) pa_nil)))) (pss_cons (ps_if (PW.pt (pw_or (pt_cmpR (k_ne K rfl (hu64 hr)) (pe_callB (k_isi K rfl) (by rfl) T.f_isinstance (by decide +kernel) (pa_cons (pv 0) (pa_cons (pe_bltn (v := .ty "list") (u := .type "list") (by rfl) T.f_list (by decide +kernel) rfl) pa_nil))) (pe_callB (k_isi K rfl) (by rfl) T.f_isinstance (by decide +kernel) (pa_cons (pv 1) (pa_cons (pe_bltn (v := .ty "list") (u := .type "list") (by rfl) T.f_list (by decide +kernel) rfl) pa_nil))) (nomark _)) (pw_or1 (pt_cmpR (k_ne K rfl (hu64 hr)) (pe_callB (k_isi K rfl) (by rfl) T.f_isinstance (by decide +kernel) (pa_cons (pv 0) (pa_cons (pe_bltn (v := .ty "tuple") (u := .type "tuple") (by rfl) T.f_tuple (by decide +kernel) rfl) pa_nil))) (pe_callB (k_isi K rfl) (by rfl) T.f_isinstance (by decide +kernel) (pa_cons (pv 1) (pa_cons (pe_bltn (v := .ty "tuple") (u := .type "tuple") (by rfl) T.f_tuple (by decide +kernel) rfl) pa_nil))) (nomark _))))) (pss_one (ps_ret pe_bl)) pss_nil)
    (pss_one (ps_ret (pe_and (pe_cmpR (k_eq K rfl (hu64 hr)) (pe_callB (k_len K rfl) (by rfl) T.f_len (by decide +kernel) (pa_cons (pv 0) pa_nil)) (pe_callB (k_len K rfl) (by rfl) T.f_len (by decide +kernel) (pa_cons (pv 1) pa_nil)) (nomark _)) (pe_one (pe_callB (k_all K rfl rfl) (by rfl) T.f_all (by decide +kernel) (pa_cons (pe_lc (own := [("x", 2), ("y", 3)]) rfl nd (RZ.pi_zipA (by rfl) T.f_zip (pa_cons (pv 0) (pa_cons (pv 1) pa_nil))) (blkOk_by (own := [("x", 2), ("y", 3)]) (N := N_law_same) (sc := defScope s_law_same) (by decide +kernel)) (fun _ _ _ _ _ => (k_tup K (n := 2) rfl rfl (pgs_cons (pg_name (i := 2) nd rfl (by first | exact Or.inl rfl | exact Or.inr rfl)) (pgs_cons (pg_name (i := 3) nd rfl (by first | exact Or.inl rfl | exact Or.inr rfl)) pgs_nil)))) (fun _ _ _ _ _ => pts_nil) (fun _ _ _ _ _ => (pe_cal C_law_same (hr.mono (by omega)) (pa_cons (pv 2) (pa_cons (pv 3) pa_nil))))) pa_nil))))))) pss_nil)
    (pss_cons (ps_if (pt_val (pe_callB (k_isi K rfl) (by rfl) T.f_isinstance (by decide +kernel) (pa_cons (pv 1) (pa_cons (pe_bltn (v := .ty "dict") (u := .type "dict") (by rfl) T.f_dict (by decide +kernel) rfl) pa_nil)))) (pss_one ps_never) pss_nil)
    (pss_cons (ps_if (pt_val (pe_callB (k_isi K rfl) (by rfl) T.f_isinstance (by decide +kernel) (pa_cons (pv 1) (pa_cons (pe_bltn (v := .ty "int") (u := .type "int") (by rfl) T.f_int (by decide +kernel) rfl) pa_nil)))) (pss_one ps_never) pss_nil)
    (pss_one (ps_ret (pe_and (pe_not (pe_callB (k_isiT K rfl) (by rfl) T.f_isinstance (by decide +kernel) (pa_cons (pv 0) (pa_cons (pe_tup (pa_cons (pe_bltn (v := .ty "int") (u := .type "int") (by rfl) T.f_int (by decide +kernel) rfl) (pa_cons (pe_bltn (v := .ty "list") (u := .type "list") (by rfl) T.f_list (by decide +kernel) rfl) (pa_cons (pe_bltn (v := .ty "tuple") (u := .type "tuple") (by rfl) T.f_tuple (by decide +kernel) rfl) (pa_cons (pe_bltn (v := .ty "dict") (u := .type "dict") (by rfl) T.f_dict (by decide +kernel) rfl) pa_nil))))) pa_nil)))) (pe_one (pe_cmpR (k_eq K rfl (hu64 hr)) (pv 0) (pv 1) (nomark _))))))))), ?_⟩
  rintro ds d ⟨zs, hzs, hl, rfl, rfl⟩
  show XS K [] _ ([.dat (.lst (zs.map D.str)), .dat (.lst (zs.map D.str)), .no, .no] : List Sl) _
  have hsz : (1000 : Nat) ≤ sizeLine := by decide
  have isx : ∀ (i : Nat) (n : String) (b : Bool), ([.dat (.lst (zs.map D.str)), .dat (.lst (zs.map D.str)), .no, .no] : List Sl)[i]? = some (.dat (.lst (zs.map D.str))) → PySem.W.kitOne K (.type "list") (.type n) = some b → ED K (tCB (rIsi K) (tCons (tVar i) (tCons (tC (.ty n)) tNil))) [.dat (.lst (zs.map D.str)), .dat (.lst (zs.map D.str)), .no, .no] (.bl b) := fun i n b h hk => ed_isi (ed_var h) rfl hk
  refine xs_out (xs_if1 (et_B (ed_isiT (ns := ["list", "tuple"]) (ed_var (i := 1) (d := .lst (zs.map D.str)) rfl) rfl (by decide) (fun σ H Q q => q) rfl)) ?_)
  refine xs_skip (et_or (x := false) (y := false) (et_ne (isx 0 "list" true rfl rfl) (isx 1 "list" true rfl rfl) rfl rfl (by rw [eqD_bl]; rfl)) fun _ => et_ne (isx 0 "tuple" false rfl rfl) (isx 1 "tuple" false rfl rfl) rfl rfl (by rw [eqD_bl]; rfl)) ?_
  have zz : zipD (zs.map D.str) (zs.map D.str) = zs.map fun z => .tup [.str z, .str z] := by
    unfold zipD
    clear hzs hl isx
    induction zs with
    | nil => rfl
    | cons z zs ih => rw [List.map_cons, List.zip_cons_cons, List.map_cons, List.map_cons, ih]
  have bb : (zs.map fun _ => D.bl true) = (zs.map fun _ => true).map D.bl := by rw [List.map_map]; rfl
  refine xs_ret (ed_is (ed_andV (x := true) (y := true) (ed_is (ed_op (ed_cb (ea_cons (ed_var (i := 0) rfl) ea_nil) vc_lenL) (ed_cb (ea_cons (ed_var (i := 1) rfl) ea_nil) vc_lenL) (vr_eq rfl rfl)) (by rw [eqD_int, decide_eq_true rfl])) fun _ => ed_is (ed_cb (ds := [.lst ((zs.map fun _ => true).map D.bl)]) (ea_cons (ed_is (ed_map (fun z : Str => .tup [.str z, .str z]) (fun _ => .bl true) (IT.ip (by rw [← zz]; exact it_zipL (ea_cons (ed_var (i := 0) rfl) (ea_cons (ed_var (i := 1) rfl) ea_nil)))) (free2 rfl rfl) (by omega) fun z hz =>
    ⟨_, gd_tup (ds := [.str z, .str z]) (gds_cons (gd_name (Free.of rfl)) (gds_cons (gd_name (Free.of rfl)) gds_nil)) rfl, ed_call (ea_cons (ed_var (i := 2) rfl) (ea_cons (ed_var (i := 3) rfl) ea_nil)) ⟨z, hzs z hz, rfl, rfl⟩⟩) (by rw [bb])) ea_nil) vc_all) ?_) rfl) rfl
  have : (zs.map fun _ => true).all id = true := by
    rw [List.all_map]
    exact List.all_eq_true.mpr fun _ _ => rfl
  rw [this]
abbrev RSorted (n : Nat) : List D → D → Prop := fun ds d => ∃ r ws, RowsOk r ∧ r.length ≤ 5 ∧ (∀ x ∈ ws, okW n x = true) ∧ ws.length ≤ 1000 ∧ ds = [rowsD r, .lst (ws.map enc)] ∧ d = .lst ((sortW r ws).map enc)
abbrev s_law_sorted : Stmt := top 40
abbrev N_law_sorted : List Str := ["rows", "words", "found", "word", "at", "one"]
theorem sc_law_sorted : FnScope N_law_sorted ["rows", "words"] (defScope s_law_sorted) := ⟨rfl, rfl, rfl, by decide +kernel, rfl, by decide +kernel, by decide +kernel⟩
theorem b_law_sorted : BindsH "_law_sorted" s_law_sorted ["rows", "words"] := fun _ _ _ _ _ _ us hl => match us, hl with | [_, _], _ => rfl
theorem ok_sorted (F : Def K mg "_law_sorted" s_law_sorted) (T : Txt K mg C) (n : Nat) (hn : n ≤ 12) (C_law_d_above : Cal P w K mg base (n + 2) "_law_d_above" ["rows", "one", "other"] (spP K (RLaw n))) : Cal P w K mg base (n + 3) "_law_sorted" ["rows", "words"] (spP K (RSorted n)) := by
  refine cal_pure F sc_law_sorted b_law_sorted (fun ds d ⟨x, _, _, _, _, _, h, _⟩ => by rw [h]; rfl) fun f cdv A outer s H E hr => ?_
  have nd := sc_law_sorted.nd
  refine ⟨_, (pss_cons (ps_set (i := 2) nd rfl (by first | exact Or.inl rfl | exact Or.inr rfl) (pe_lst pa_nil))
    (pss_cons (ps_for PassesOwn.never rfl (pi_list (pv 1)) (pg_name (i := 3) nd rfl (by first | exact Or.inl rfl | exact Or.inr rfl)) (pss_cons (ps_set (i := 4) nd rfl (by first | exact Or.inl rfl | exact Or.inr rfl) (pe_callB (k_len K rfl) (by rfl) T.f_len (by decide +kernel) (pa_cons (pe_lc (own := [("one", 5)]) rfl nd (pi_list (pv 2)) (blkOk_by (own := [("one", 5)]) (N := N_law_sorted) (sc := defScope s_law_sorted) (by decide +kernel)) (fun _ _ _ _ _ => (pg_name (i := 5) nd rfl (by first | exact Or.inl rfl | exact Or.inr rfl))) (fun _ _ _ _ _ => (pts_one (pt_val (pe_cal C_law_d_above (hr.mono (by omega)) (pa_cons (pv 0) (pa_cons (pv 3) (pa_cons (pv 5) pa_nil))))))) (fun _ _ _ _ _ => (pv 5))) pa_nil)))
    (pss_one (ps_expr (pe_bm PySem.F.plainAttrs_list PySem.F.slot_list_insert PySem.F.type_list_insert mt_insert (pv 2) (pa_cons (pv 4) (pa_cons (pv 3) pa_nil)))))))
    (pss_one (ps_ret (pv 2))))), ?_⟩
  rintro ds d ⟨r, ws, hR, hrl, hws, hl, rfl, rfl⟩
  show XS K [] _ ([.dat (rowsD r), .dat (.lst (ws.map enc)), .no, .no, .no, .no] : List Sl) _
  have hsz : (1001 : Nat) ≤ sizeLine := by decide
  refine xs_then (xs_asgN (en_lst ea_nil (Nat.zero_le _)) (Free.of rfl) List.not_mem_nil rfl) ?_
  refine xs_seq (xs_for (vs := [3]) (fun k Γ => ∃ s3 s4, Nd s3 ∧ Nd s4 ∧ Γ = [.dat (rowsD r), .dat (.lst (ws.map enc)), .ml ((sortW r (ws.take k)).map enc), s3, s4, .no]) (it_list (ed_var (i := 1) rfl)) ⟨.no, .no, Nd.no, Nd.no, rfl⟩ nopin (fun k d Γ1 hd ⟨s3, s4, n3, n4, e⟩ => ?_) fun Γ1 h => h) fun Γ' ⟨s3, s4, n3, n4, e⟩ => by
    subst e
    rw [List.length_map, List.take_length]
    exact xs_freeze (i := 2) rfl List.not_mem_nil (xs_ret (ed_var (i := 2) rfl) rfl)
  subst e
  rw [List.getElem?_map] at hd
  cases hx : ws[k]? with
  | none => rw [hx] at hd; cases hd
  | some x =>
    rw [hx] at hd
    cases hd
    have hk : k < ws.length := (List.getElem?_eq_some_iff.mp hx).1
    have hxo := hws x (List.mem_of_getElem? hx)
    have hacc : ∀ y ∈ sortW r (ws.take k), okW n y = true := fun y hy => hws y (List.mem_of_mem_take ((sortW_perm r _).mem_iff.mp hy))
    have hal : (sortW r (ws.take k)).length ≤ 1000 := by
      rw [(sortW_perm r _).length_eq, List.length_take]
      omega
    have step : sortW r (ws.take (k + 1)) = insW r (sortW r (ws.take k)) x := by
      rw [take_succ_of hx]
      unfold sortW
      rw [List.foldl_append]
      rfl
    have fl : ((sortW r (ws.take k)).filter (above r x)).length ≤ 1000 := Nat.le_trans (List.length_filter_le _ _) hal
    refine ⟨_, gd_name (freeNd rfl n3), xs_then (xs_asg (d := .int (((sortW r (ws.take k)).filter (above r x)).length : Nat)) (ed_is (ed_cb (ea_cons (EN.edL (en_filter enc (above r x) enc (ip_ml (i := 2) rfl) (free1 rfl) (by omega) fun y hy => ⟨_, gd_name (Free.of rfl), et_B (ed_call (ea_cons (ed_var (i := 0) rfl) (ea_cons (ed_var (i := 3) rfl) (ea_cons (ed_var (i := 5) rfl) ea_nil))) ⟨r, x, y, hR, hrl, hxo, hacc y hy, rfl, rfl⟩), fun _ => ed_var (i := 5) rfl⟩)) ea_nil) vc_lenL) (by rw [List.length_map])) (freeNd rfl n4) List.not_mem_nil rfl) ?_⟩
    refine xs_dropX (xe_insert (i := 2) (R := fun g _ => g = [.dat (rowsD r), .dat (.lst (ws.map enc)), .ml ((sortW r (ws.take (k + 1))).map enc), .dat (enc x), .dat (.int (((sortW r (ws.take k)).filter (above r x)).length : Nat)), .no]) rfl (ed_var (i := 4) rfl) (ed_var (i := 3) rfl) (by rw [List.length_map]; omega) (by omega) ?_ rfl) fun g _ e => ⟨_, _, Nd.dat _, Nd.dat _, e⟩
    rw [step]
    unfold insW
    rw [List.map_append, List.map_append, List.map_take, List.map_drop]
    rfl
end
end K29
set_option Elab.async false
set_option maxRecDepth 100000
set_option maxHeartbeats 400000
set_option linter.all false
namespace K29
open PySem L2 StX PyProof.Rows PySem.Spec DL
abbrev PreDown (C : Addr) (m : Nat) : Sl → List D → List D → Prop := fun s ds es => ∃ (n : Nat) (r : Rows) (ws : List W), s = .st n ∧ ds = [] ∧ es = [ordD C r, .lst (ws.map enc)] ∧ RowsOk r ∧ (∀ x ∈ ws, okW m x = true) ∧ ws ≠ [] ∧ Up r ws ∧ ws.length ≤ 1000 ∧ n < 2000000000
abbrev RDown (C : Addr) (m : Nat) : Sl → List D → List D → Sl → D → Prop := fun s _ es s' d => ∃ (n : Nat) (r : Rows) (ws : List W) (n' v : Nat), s = .st n ∧ es = [ordD C r, .lst (ws.map enc)] ∧ s' = .st n' ∧ n' ≤ n + 1001 ∧ d = .int (v : Nat) ∧ v ≤ ws.length
abbrev RCmp (C : Addr) (n : Nat) : List D → D → Prop := fun ds d => ∃ r a b, RowsOk r ∧ okW n a = true ∧ okW n b = true ∧ ds = [ordD C r, enc a, enc b] ∧ d = .str (cmp r a b)
section
variable {P : Program} {w : World} {K : PySem.W.Frag} {mg : Str → Option Value} {base : Heap} {C : Addr}
/-- a word of a list is drawn -/
theorem xe_pickW {Γ : List Sl} {j n i : Nat} {ws : List W} (hj : Γ[j]? = some (.st n)) (hn : n < 4294967296) (hi : Γ[i]? = some (.dat (.lst (ws.map enc)))) (hne : ws ≠ []) (hl : ws.length ≤ 1000) :
    XE K (tCall (spO K RPick PrePick) [] E0 (tCons (tVar j) (tCons (tVar i) tNil))) Γ fun g d => g = Γ.set j (.st (n + 1)) ∧ ∃ x ∈ ws, d = enc x :=
  xe_call (j := j) (R := fun g ds es => g = Γ ∧ ds = [] ∧ es = [.lst (ws.map enc)]) (xa_own hj True.intro (xb_ea (ea_cons (ed_var hi) ea_nil) ⟨rfl, rfl, rfl⟩)) fun g ds es ⟨e1, e2, e3⟩ => by
    subst e1 e2 e3
    refine ⟨.st n, hj, True.intro, ⟨n, _, rfl, hn, rfl, rfl, fun z => hne (List.map_eq_nil_iff.mp z), by rw [List.length_map]; omega⟩, fun s' d ⟨n', L, h1, h2, h3, h4⟩ => ?_⟩
    cases h1
    cases h2
    subst h3
    obtain ⟨x, hx, rfl⟩ := List.mem_map.mp h4
    exact ⟨rfl, x, hx, rfl⟩
abbrev s_law_down : Stmt := top 41
abbrev N_law_down : List Str := ["stream", "order", "words", "many", "here", "k", "lower", "word"]
theorem sc_law_down : FnScope N_law_down ["stream", "order", "words"] (defScope s_law_down) := ⟨rfl, rfl, rfl, by decide +kernel, rfl, by decide +kernel, by decide +kernel⟩
theorem b_law_down : BindsH "_law_down" s_law_down ["stream", "order", "words"] := fun _ _ _ _ _ _ us hl => match us, hl with | [_, _, _], _ => rfl
theorem ok_down (F : Def K mg "_law_down" s_law_down) (T : Txt K mg C) (m : Nat) (hm : m ≤ 12) (C_law_pick : Cal P w K mg base 2 "_law_pick" ["stream", "some"] (spO K RPick PrePick)) (C_compare : Cal P w K mg base (m + 5) "compare" ["order", "one", "other"] (spP K (RCmp C m))) :
    Cal P w K mg base (m + 6) "_law_down" ["stream", "order", "words"] (spO K (RDown C m) (PreDown C m)) := by
  refine cal_own 0 F sc_law_down b_law_down (fun s ds es ⟨n, r, ws, h1, h2, _⟩ => ⟨by rw [h2]; rfl, by rw [h1]; exact True.intro⟩) (fun s ds es ⟨n, r, ws, h1, h2, h3, _⟩ => by rw [h2, h3]; rfl) fun f cdv A outer s H E hr => ?_
  have nd := sc_law_down.nd
  refine ⟨_, (pss_cons (ps_asg (pe_tup (pa_cons pe_int (pa_cons (pe_cal C_law_pick (hr.mono (by omega)) (pa_cons (pv 0) (pa_cons (pv 2) pa_nil))) pa_nil))) (k_tup K (n := 2) rfl rfl (pgs_cons (pg_name (i := 3) nd rfl (by first | exact Or.inl rfl | exact Or.inr rfl)) (pgs_cons (pg_name (i := 4) nd rfl (by first | exact Or.inl rfl | exact Or.inr rfl)) pgs_nil))))
    (pss_cons (ps_for PassesOwn.never rfl (pi_range1 (by rfl) T.f_range (pa_cons (pe_callB (k_len K rfl) (by rfl) T.f_len (by decide +kernel) (pa_cons (pv 2) pa_nil)) pa_nil)) (pg_name (i := 5) nd rfl (by first | exact Or.inl rfl | exact Or.inr rfl)) (pss_cons (ps_setLc (i := 6) (own := [("word", 7)]) rfl nd rfl rfl (sw_true rfl rfl rfl (by decide +kernel)) (pi_list (pv 2)) (blkOk_by (own := [("word", 7)]) (N := N_law_down) (sc := defScope s_law_down) (by decide +kernel)) (fun _ _ _ _ _ => (pg_name (i := 7) nd rfl (by first | exact Or.inl rfl | exact Or.inr rfl))) (fun _ _ _ _ _ => (pts_one (pt_cmpR (k_eq K rfl (hu64 hr)) (pe_cal C_compare (hr.mono (by omega)) (pa_cons (pv 1) (pa_cons (pv 4) (pa_cons (pv 7) pa_nil)))) pe_str (nomark _)))) (fun _ _ _ _ _ => (pv 7)))
    (pss_cons (ps_set (i := 3) nd rfl (by first | exact Or.inl rfl | exact Or.inr rfl) (pe_op (k_add K rfl) (pv 3) pe_int))
    (pss_cons (ps_if (pt_cmpR (k_eq K rfl (hu64 hr)) (pv 6) (pe_lst pa_nil) (nomark _)) (pss_one (ps_ret (pv 3))) pss_nil)
    (pss_one (ps_set (i := 4) nd rfl (by first | exact Or.inl rfl | exact Or.inr rfl) (pe_cal C_law_pick (hr.mono (by omega)) (pa_cons (pv 0) (pa_cons (pv 6) pa_nil)))))))))
    (pss_one (ps_ret (pe_op (k_add K rfl) (pe_callB (k_len K rfl) (by rfl) T.f_len (by decide +kernel) (pa_cons (pv 2) pa_nil)) pe_int))))), ?_⟩
  rintro s ds es ⟨n, r, ws, rfl, rfl, rfl, hR, hws, hne, hup, hl, hn⟩
  show XS K [0] _ ([.st n, .dat (ordD C r), .dat (.lst (ws.map enc)), .no, .no, .no, .no, .no] : List Sl) _
  have hsz : (1001 : Nat) ≤ sizeLine := by decide
  have fin : ∀ (n' v : Nat) {d : D} (g : List Sl), g[0]? = some (.st n') → n' ≤ n + 1001 → d = .int (v : Nat) → v ≤ ws.length → ∃ s', g[0]? = some s' ∧ OwnSl s' ∧ RDown C m (.st n) [] [ordD C r, .lst (ws.map enc)] s' d := fun n' v d g h1 h2 h3 h4 => ⟨_, h1, True.intro, n, r, ws, n', v, rfl, rfl, rfl, h2, h3, h4⟩
  refine xs_seq (M := fun g => ∃ x ∈ ws, g = [.st (n + 1), .dat (ordD C r), .dat (.lst (ws.map enc)), .dat (.int 0), .dat (enc x), .no, .no, .no]) (xs_asgGX (vs := [3, 4]) (R := fun g d => ∃ x ∈ ws, g = ([.st (n + 1), .dat (ordD C r), .dat (.lst (ws.map enc)), .no, .no, .no, .no, .no] : List Sl) ∧ d = .tup [.int 0, enc x]) (xe_tup (xb_ed (ed_int 0) (xb_xe (xe_pickW (j := 0) rfl (by omega) (i := 2) rfl hne hl) fun g d ⟨e1, x, hx, e2⟩ => xb_nil ⟨show 2 ≤ sizeLine by decide, x, hx, e1, by rw [e2]⟩))) (by decide) fun g d ⟨x, hx, e1, e2⟩ => ?_) fun g ⟨x, hx, e⟩ => ?_
  · subst e1 e2
    exact ⟨_, gd_tup (gds_cons (gd_name (Free.of rfl)) (gds_cons (gd_name (Free.of rfl)) gds_nil)) rfl, x, hx, rfl⟩
  subst e
  refine xs_seq (M := fun _ => False) (xs_for (vs := [5]) (fun k Γ => ∃ j x s5 s6, ws[j]? = some x ∧ j + k < ws.length ∧ Nd s5 ∧ Nd s6 ∧ Γ = [.st (n + 1 + k), .dat (ordD C r), .dat (.lst (ws.map enc)), .dat (.int (k : Nat)), .dat (enc x), s5, s6, .no]) (it_rng1 (j := ((ws.length : Nat) : Int)) (ea_cons (ed_is (ed_cb (ea_cons (ed_var (i := 2) rfl) ea_nil) vc_lenL) (by rw [List.length_map])) ea_nil) (by omega) (by omega)) ?_ (by decide) (fun k d Γ1 hd ⟨j, x, s5, s6, hj, hjk, n5, n6, e⟩ => ?_) fun Γ1 ⟨j, x, s5, s6, hj, hjk, n5, n6, e⟩ => ?_) fun _ h => h.elim
  · obtain ⟨j, hj⟩ := List.getElem?_of_mem hx
    exact ⟨j, x, .no, .no, hj, (List.getElem?_eq_some_iff.mp hj).1, Nd.no, Nd.no, rfl⟩
  · subst e
    have hxo := hws x (List.mem_of_getElem? hj)
    have lw := lower_is hR hws hup hj
    have hd' : d = .int (k : Nat) := by
      have hk : k < ws.length := by omega
      have := rangeD_get (lo := 0) (n := ((ws.length : Nat) : Int).toNat) (i := k) (by omega)
      rw [this] at hd
      have e := Option.some.inj hd
      rw [← e, Int.zero_add]
    subst hd'
    refine ⟨_, gd_name (freeNd rfl n5), ?_⟩
    refine xs_then (xs_asg (d := .lst ((ws.take j).map enc)) (ed_is (ed_filter enc (fun y => decide (cmp r x y = "above")) enc (IT.ip (it_list (ed_var (i := 2) rfl))) (free1 rfl) (by omega) fun y hy => ⟨_, gd_name (Free.of rfl), et_eq (ed_call (ea_cons (ed_var (i := 1) rfl) (ea_cons (ed_var (i := 4) rfl) (ea_cons (ed_var (i := 7) rfl) ea_nil))) ⟨r, x, y, hR, hxo, hws y hy, rfl, rfl⟩) (ed_str _) (ans_ok (cmp_ans r x y)) (ans_ok (by decide +kernel)) (by rw [eqD_str]), fun _ => ed_var (i := 7) rfl⟩) (by rw [lw])) (freeNd rfl n6) (by decide) rfl) ?_
    refine xs_then (xs_asg (d := .int ((k + 1 : Nat) : Int)) (ed_is (ed_op (ed_var (i := 3) rfl) (ed_int 1) vr_addI) (by congr 1)) (Free.ofD rfl) (by decide) rfl) ?_
    have hok : ∀ y ∈ ws.take j, okW m y = true := fun y hy => hws y (List.mem_of_mem_take hy)
    have hjl : (ws.take j).length = j := by rw [List.length_take]; omega
    by_cases h0 : j = 0
    · subst h0
      refine xs_out (xs_if1 (et_eq (ed_var (i := 6) rfl) (ed_lst ea_nil (Nat.zero_le _)) (okL_ok hok (by omega)) rfl (by rw [eqD_nil]; rfl)) (xs_ret (ed_var (i := 3) rfl) (fin (n + 1 + k) (k + 1) _ rfl (by omega) rfl (by omega))))
    · have hne2 : ws.take j ≠ [] := fun z => by rw [z] at hjl; exact h0 hjl.symm
      refine xs_skip (et_eq (ed_var (i := 6) rfl) (ed_lst ea_nil (Nat.zero_le _)) (okL_ok hok (by omega)) rfl (by
        rw [eqD_nil]
        cases h : ws.take j with
        | nil => exact absurd h hne2
        | cons a b => rfl)) ?_
      refine xs_asgX (i := 4) (xe_pickW (j := 0) rfl (by omega) (i := 6) rfl hne2 (by omega)) (by decide) fun g d ⟨e1, y, hy, e2⟩ => ?_
      subst e1 e2
      refine ⟨Free.ofD rfl, ?_⟩
      obtain ⟨i, hi⟩ := List.getElem?_of_mem hy
      have hil := (List.getElem?_eq_some_iff.mp hi).1
      rw [hjl] at hil
      rw [List.getElem?_take, if_pos hil] at hi
      exact ⟨i, y, _, _, hi, by omega, Nd.dat _, Nd.dat _, rfl⟩
  · have : (rangeD 0 ((ws.length : Nat) : Int).toNat).length = ws.length := by simp [rangeD]
    omega
end
end K29
set_option Elab.async false
set_option maxRecDepth 100000
set_option maxHeartbeats 400000
set_option linter.all false
namespace K29
open PySem L2 StX PyProof.Rows PySem.Spec DL
/-! ### the words of a weight, remembered -/
def encR (row : List W) : D := .tup (row.map enc)
def artD : D := .lst (arits.map fun p => .tup [.str p.1, .int (p.2 : Nat)])
structure KOk (v : Str → Int) (es : List (Key × D)) : Prop where
  val : ∀ k d, valD es k = some d → ∃ w : Int, k = .inl w ∧ 1 ≤ w ∧ w ≤ 4 ∧ d = .lst ((G v w).map enc)
  nd : (es.map (·.1)).Nodup
  ks : ∀ k ∈ es.map (·.1), k = .inl 1 ∨ k = .inl 2 ∨ k = .inl 3 ∨ k = .inl 4
theorem four {es : List Key} (nd : es.Nodup) (ks : ∀ k ∈ es, k = .inl 1 ∨ k = .inl 2 ∨ k = .inl 3 ∨ k = .inl 4) : es.length ≤ 4 := by
  have drop : ∀ (l : List Key) (x : Key), l.Nodup → l.length ≤ (l.filter fun y => decide (y ≠ x)).length + 1 := fun l x h => by
    induction l with
    | nil => simp
    | cons y l ih =>
      obtain ⟨h1, h2⟩ := List.nodup_cons.mp h
      rw [List.filter_cons]
      by_cases e : y = x
      · rw [if_neg (by simp [e])]
        have : l.filter (fun y => decide (y ≠ x)) = l := List.filter_eq_self.mpr fun z hz => decide_eq_true fun q => h1 (by rw [e, ← q]; exact hz)
        rw [this, List.length_cons]
        exact Nat.le_refl _
      · rw [if_pos (decide_eq_true e), List.length_cons, List.length_cons]
        have := ih h2
        omega
  have nf : ∀ (l : List Key) (x : Key), l.Nodup → (l.filter fun y => decide (y ≠ x)).Nodup := fun l x h => h.filter _
  have a1 := drop es (.inl 1) nd
  have n1 := nf es (.inl 1) nd
  have a2 := drop _ (.inl 2) n1
  have n2 := nf _ (.inl 2) n1
  have a3 := drop _ (.inl 3) n2
  have n3 := nf _ (.inl 3) n2
  have a4 := drop _ (.inl 4) n3
  have e : (((es.filter fun y => decide (y ≠ .inl 1)).filter fun y => decide (y ≠ .inl 2)).filter fun y => decide (y ≠ .inl 3)).filter (fun y => decide (y ≠ .inl 4)) = [] := List.filter_eq_nil_iff.mpr fun y hy => by
    obtain ⟨hy, h3⟩ := List.mem_filter.mp hy
    obtain ⟨hy, h2⟩ := List.mem_filter.mp hy
    obtain ⟨hy, h1⟩ := List.mem_filter.mp hy
    rcases ks y hy with q | q | q | q
    · exact absurd q (of_decide_eq_true h1)
    · exact absurd q (of_decide_eq_true h2)
    · exact absurd q (of_decide_eq_true h3)
    · rw [q]; simp
  rw [e] at a4
  simp only [List.length_nil] at a4
  omega
theorem putD_keys (es : List (Key × D)) (k : Key) (d : D) : (k ∈ es.map (·.1) ∧ (putD es k d).map (·.1) = es.map (·.1)) ∨ (k ∉ es.map (·.1) ∧ (putD es k d).map (·.1) = es.map (·.1) ++ [k]) := by
  unfold putD
  rcases Classical.em (k ∈ es.map (·.1)) with h | h
  · have ha : (es.any fun kv => decide (kv.1 = k)) = true := by
      obtain ⟨p, hp, e⟩ := List.mem_map.mp h
      exact List.any_eq_true.mpr ⟨p, hp, decide_eq_true e⟩
    refine .inl ⟨h, ?_⟩
    rw [if_pos ha, List.map_map]
    refine List.map_congr_left fun p _ => ?_
    show (if p.1 = k then (p.1, d) else p).1 = p.1
    split <;> rfl
  · have ha : ¬ (es.any fun kv => decide (kv.1 = k)) = true := fun z => by
      obtain ⟨p, hp, e⟩ := List.any_eq_true.mp z
      exact h (List.mem_map.mpr ⟨p, hp, of_decide_eq_true e⟩)
    refine .inr ⟨h, ?_⟩
    rw [if_neg ha, List.map_append]
    rfl
theorem KOk.put {v : Str → Int} {es : List (Key × D)} (h : KOk v es) {w : Int} (h1 : 1 ≤ w) (h2 : w ≤ 4) : KOk v (putD es (.inl w) (.lst ((G v w).map enc))) := by
  refine ⟨fun k d hk => ?_, ?_, fun k hk => ?_⟩
  · rw [valD_putD] at hk
    split at hk
    · rename_i e
      exact ⟨w, e, h1, h2, (Option.some.inj hk).symm⟩
    · exact h.val k d hk
  · rcases putD_keys es (.inl w) (.lst ((G v w).map enc)) with ⟨_, e⟩ | ⟨hn, e⟩ <;> rw [e]
    · exact h.nd
    · exact List.nodup_append.mpr ⟨h.nd, List.nodup_cons.mpr ⟨List.not_mem_nil, List.nodup_nil⟩, fun a ha b hb e => hn (by rw [← List.mem_singleton.mp hb, ← e]; exact ha)⟩
  · have : k ∈ es.map (·.1) ∨ k = .inl w := by
      rcases putD_keys es (.inl w) (.lst ((G v w).map enc)) with ⟨_, e⟩ | ⟨_, e⟩ <;> rw [e] at hk
      · exact .inl hk
      · exact (List.mem_append.mp hk).imp id List.mem_singleton.mp
    rcases this with z | z
    · exact h.ks k z
    · rw [z]
      have : w = 1 ∨ w = 2 ∨ w = 3 ∨ w = 4 := by omega
      rcases this with rfl | rfl | rfl | rfl <;> simp
theorem KOk.nil (v : Str → Int) : KOk v [] := ⟨fun k d h => (by cases h), List.nodup_nil, fun k h => absurd h List.not_mem_nil⟩
abbrev PreO (B : Nat) : Sl → List D → List D → Prop := fun s ds es => ∃ (r : Rows) (k : List (Key × D)) (wg : Int), s = .md k ∧ ds = [rowsD r, artD, .int wg] ∧ es = [] ∧ RowsOk r ∧ r.length ≤ 5 ∧ KOk (wv r) k ∧ 1 ≤ wg ∧ wg ≤ (B : Int)
abbrev RO : Sl → List D → List D → Sl → D → Prop := fun s ds _ s' d => ∃ (r : Rows) (wg : Int) (k' : List (Key × D)), ds = [rowsD r, artD, .int wg] ∧ s' = .md k' ∧ KOk (wv r) k' ∧ d = .lst ((G (wv r) wg).map enc)
abbrev PreR (B : Nat) : Sl → List D → List D → Prop := fun s ds es => ∃ (r : Rows) (k : List (Key × D)) (m : Nat) (wg : Int), s = .md k ∧ ds = [rowsD r, artD, .int (m : Nat), .int wg] ∧ es = [] ∧ RowsOk r ∧ r.length ≤ 5 ∧ KOk (wv r) k ∧ m ≤ 2 ∧ -10 ≤ wg ∧ wg ≤ (B : Int)
abbrev RR : Sl → List D → List D → Sl → D → Prop := fun s ds _ s' d => ∃ (r : Rows) (m : Nat) (wg : Int) (k' : List (Key × D)), ds = [rowsD r, artD, .int (m : Nat), .int wg] ∧ s' = .md k' ∧ KOk (wv r) k' ∧ d = .lst ((rowsF (G (wv r)) m wg).map encR)
theorem rowsD_inj : ∀ {r r' : Rows}, rowsD r = rowsD r' → r = r'
  | [], [], _ => rfl
  | p :: r, q :: r', h => by
    have h' : (p :: r).map rowD = (q :: r').map rowD := D.lst.inj h
    rw [List.map_cons, List.map_cons] at h'
    obtain ⟨h1, h2⟩ := List.cons.inj h'
    have e1 := D.tup.inj h1
    obtain ⟨e2, e3⟩ := List.cons.inj e1
    have e4 := (List.cons.inj e3).1
    have e5 := D.str.inj e2
    have e6 := D.int.inj e4
    have ep : p = q := Prod.ext e5 e6
    rw [ep, rowsD_inj (show rowsD r = rowsD r' from congrArg D.lst h2)]
  | [], _ :: _, h => by cases h
  | _ :: _, [], h => by cases h
theorem rowsF_row (f : Int → List W) : ∀ (m : Nat) (w : Int), ∀ row ∈ rowsF f m w, row.length = m
  | 0, w, row, h => by
    rw [rowsF] at h
    split at h
    · rw [List.mem_singleton.mp h]; rfl
    · cases h
  | m + 1, w, row, h => by
    rw [rowsF] at h
    rcases List.mem_append.mp h with h | h
    · obtain ⟨fst, _, h⟩ := List.mem_flatMap.mp h
      obtain ⟨x, _, h⟩ := List.mem_flatMap.mp h
      obtain ⟨row', h2, rfl⟩ := List.mem_map.mp h
      rw [List.length_cons, rowsF_row f m _ row' h2]
    · split at h
      · rename_i hm
        obtain ⟨x, _, rfl⟩ := List.mem_map.mp h
        rw [hm.1]
        rfl
      · cases h
section
variable {P : Program} {w : World} {K : PySem.W.Frag} {mg : Str → Option Value} {base : Heap} {C : Addr}
theorem xe_ofW {Γ : List Sl} {j B : Nat} {r : Rows} {k : List (Key × D)} {wg : Int} {t0 t1 t2 : TE} (hj : Γ[j]? = some (.md k)) (h0 : ED K t0 Γ (rowsD r)) (h1 : ED K t1 Γ artD) (h2 : ED K t2 Γ (.int wg)) (hR : RowsOk r) (hl : r.length ≤ 5) (hk : KOk (wv r) k) (a : 1 ≤ wg) (b : wg ≤ (B : Int)) :
    XE K (tCall (spO K RO (PreO B)) [] E0 (tCons t0 (tCons t1 (tCons t2 (tCons (tVar j) tNil))))) Γ fun g d => ∃ k', g = Γ.set j (.md k') ∧ KOk (wv r) k' ∧ d = .lst ((G (wv r) wg).map enc) :=
  xe_call (j := j) (R := fun g ds es => g = Γ ∧ ds = [rowsD r, artD, .int wg] ∧ es = []) (xa_ed h0 (xa_ed h1 (xa_ed h2 (xa_own hj True.intro (xb_nil ⟨rfl, rfl, rfl⟩))))) fun g ds es ⟨e1, e2, e3⟩ => by
    subst e1 e2 e3
    refine ⟨.md k, hj, True.intro, ⟨r, k, wg, rfl, rfl, rfl, hR, hl, hk, a, b⟩, fun s' d ⟨r', wg', k', q1, q2, q3, q4⟩ => ?_⟩
    obtain ⟨e1, e2⟩ := List.cons.inj q1
    have er := rowsD_inj e1
    subst er
    have ew := D.int.inj (List.cons.inj (List.cons.inj e2).2).1
    subst ew q2
    exact ⟨k', rfl, q3, q4⟩
theorem xe_rows {Γ : List Sl} {j : Nat} {Pre : Sl → List D → List D → Prop} {r : Rows} {k : List (Key × D)} {wg : Int} {m : Nat} {t0 t1 t2 t3 : TE} (hj : Γ[j]? = some (.md k)) (h0 : ED K t0 Γ (rowsD r)) (h1 : ED K t1 Γ artD) (h2 : ED K t2 Γ (.int (m : Nat))) (h3 : ED K t3 Γ (.int wg))
    (hp : Pre (.md k) [rowsD r, artD, .int (m : Nat), .int wg] []) :
    XE K (tCall (spO K RR Pre) [] E0 (tCons t0 (tCons t1 (tCons t2 (tCons t3 (tCons (tVar j) tNil)))))) Γ fun g d => ∃ k', g = Γ.set j (.md k') ∧ KOk (wv r) k' ∧ d = .lst ((rowsF (G (wv r)) m wg).map encR) :=
  xe_call (j := j) (R := fun g ds es => g = Γ ∧ ds = [rowsD r, artD, .int (m : Nat), .int wg] ∧ es = []) (xa_ed h0 (xa_ed h1 (xa_ed h2 (xa_ed h3 (xa_own hj True.intro (xb_nil ⟨rfl, rfl, rfl⟩)))))) fun g ds es ⟨e1, e2, e3⟩ => by
    subst e1 e2 e3
    refine ⟨.md k, hj, True.intro, hp, fun s' d ⟨r', m', wg', k', q1, q2, q3, q4⟩ => ?_⟩
    obtain ⟨e1, e2⟩ := List.cons.inj q1
    have er := rowsD_inj e1
    subst er
    obtain ⟨e3, e4⟩ := List.cons.inj (List.cons.inj e2).2
    have em : m = m' := Int.ofNat.inj (D.int.inj e3)
    have ew := D.int.inj (List.cons.inj e4).1
    subst em ew q2
    exact ⟨k', rfl, q3, q4⟩
/-- the head stands ahead of each row -/
theorem ed_head {Γ : List Sl} {i j : Nat} {x : D} {row : List W} (hi : Γ[i]? = some (.dat x)) (hj : Γ[j]? = some (.dat (encR row))) (hl : row.length ≤ 2) : ED K (tOp (rAddU K) (tTup (tCons (tVar i) tNil)) (tVar j)) Γ (.tup (x :: row.map enc)) :=
  ed_op (ed_tup (ea_cons (ed_var hi) ea_nil) (show 1 ≤ sizeLine by decide)) (ed_var hj) (vr_addT (xs := [x]) (ys := row.map enc) (by
    rw [List.length_map]
    have : (3 : Nat) ≤ sizeLine := by decide
    show 1 + row.length ≤ sizeLine
    omega))
abbrev s_law_of_weight : Stmt := top 38
abbrev N_law_of_weight : List Str := ["rows", "arities", "weight", "known", "found", "name", "many", "left", "row"]
theorem sc_law_of_weight : FnScope N_law_of_weight ["rows", "arities", "weight", "known"] (defScope s_law_of_weight) := ⟨rfl, rfl, rfl, by decide +kernel, rfl, by decide +kernel, by decide +kernel⟩
theorem b_law_of_weight : BindsH "_law_of_weight" s_law_of_weight ["rows", "arities", "weight", "known"] := fun _ _ _ _ _ _ us hl => match us, hl with | [_, _, _, _], _ => rfl
def stepF (r : Rows) (wg : Int) (p : Str × Nat) : List W := (rowsF (G (wv r)) p.2 (wg - wv r p.1)).map (W.app p.1)
theorem body_of (F : Def K mg "_law_of_weight" s_law_of_weight) (T : Txt K mg C) (B : Nat) (hB : B ≤ 3) (C_law_rows_of : Cal P w K mg base (2 * B + 2) "_law_rows_of" ["rows", "arities", "many", "weight", "known"] (spO K RR (PreR B))) :
    Cal P w K mg base (2 * B + 3) "_law_of_weight" ["rows", "arities", "weight", "known"] (spO K RO (PreO (B + 1))) := by
  refine cal_own 3 F sc_law_of_weight b_law_of_weight (fun s ds es ⟨r, k, wg, h1, h2, _⟩ => ⟨by rw [h2]; rfl, by rw [h1]; exact True.intro⟩) (fun s ds es ⟨r, k, wg, h1, h2, h3, _⟩ => by rw [h2, h3]; rfl) fun f cdv A outer s H E hr => ?_
  have nd := sc_law_of_weight.nd
  refine ⟨_, (pss_cons (ps_if (pt_cmpR (k_notIn K rfl (hu65 hr)) (pv 2) (pv 3) (by with_unfolding_all rfl)) (pss_cons (ps_set (i := 4) nd rfl (by first | exact Or.inl rfl | exact Or.inr rfl) (pe_lst pa_nil))
    (pss_cons (ps_for PassesOwn.never rfl (pi_list (pv 1)) (k_tup K (n := 2) rfl rfl (pgs_cons (pg_name (i := 5) nd rfl (by first | exact Or.inl rfl | exact Or.inr rfl)) (pgs_cons (pg_name (i := 6) nd rfl (by first | exact Or.inl rfl | exact Or.inr rfl)) pgs_nil))) (pss_cons (ps_set (i := 7) nd rfl (by first | exact Or.inl rfl | exact Or.inr rfl) (pe_op o_sub (pv 2) (pe_ix (k_ix K rfl (hu1 hr)) (pe_callTy (k_dict K rfl rfl) (by rfl) T.f_dict (by decide +kernel) (pa_cons (pv 0) pa_nil)) (pv 5) (fun _ _ => rfl))))
    (pss_one (ps_expr (pe_bm PySem.F.plainAttrs_list PySem.F.slot_list_extend PySem.F.type_list_extend mt_extend (pv 4) (pa_cons (pe_lc (own := [("row", 8)]) rfl nd (pi_list (pe_cal C_law_rows_of (hr.mono (by omega)) (pa_cons (pv 0) (pa_cons (pv 1) (pa_cons (pv 6) (pa_cons (pv 7) (pa_cons (pv 3) pa_nil))))))) (blkOk_by (own := [("row", 8)]) (N := N_law_of_weight) (sc := defScope s_law_of_weight) (by decide +kernel)) (fun _ _ _ _ _ => (pg_name (i := 8) nd rfl (by first | exact Or.inl rfl | exact Or.inr rfl))) (fun _ _ _ _ _ => pts_nil) (fun _ _ _ _ _ => (pe_op (k_add K rfl) (pe_tup (pa_cons (pv 5) pa_nil)) (pv 8)))) pa_nil))))))
    (pss_one (ps_dput (hu1 hr) (pv 3) (pv 2) (pv 4) rfl)))) pss_nil)
    (pss_one (ps_ret (pe_ix (k_ix K rfl (hu1 hr)) (pv 3) (pv 2) (fun _ _ => rfl))))), ?_⟩
  rintro s ds es ⟨r, k, wg, rfl, rfl, rfl, hR, hl, hk, h1, h4⟩
  have hB' : wg ≤ (B : Int) + 1 := by simpa using h4
  have w4 : wg ≤ 4 := by omega
  have V := vok hR
  have hsz : (5000 : Nat) ≤ sizeLine := by decide
  have total : arits.flatMap (stepF r wg) = G (wv r) wg := (V.step wg h1 w4).symm
  show XS K [3] _ ([.dat (rowsD r), .dat artD, .dat (.int wg), .md k, .no, .no, .no, .no, .no] : List Sl) _
  refine xs_seq (M := fun g => ∃ k' s4 s5 s6 s7, KOk (wv r) k' ∧ valD k' (.inl wg) = some (.lst ((G (wv r) wg).map enc)) ∧ g = [.dat (rowsD r), .dat artD, .dat (.int wg), .md k', s4, s5, s6, s7, .no]) ?_ fun g ⟨k', s4, s5, s6, s7, hk', hv, e⟩ => ?_
  · refine xs_if (et_test (ed_inM (i := 3) (k := .inl wg) (neg := true) (ed_var (i := 2) rfl) rfl)) (fun _ => ?_) fun hb => ?_
    · refine xs_then (xs_asgN (en_lst ea_nil (Nat.zero_le _)) (Free.of rfl) (by decide) rfl) ?_
      refine xs_seq (xs_for (vs := [5, 6]) (fun i Γ => ∃ k' s5 s6 s7, KOk (wv r) k' ∧ Nd s5 ∧ Nd s6 ∧ Nd s7 ∧ Γ = [.dat (rowsD r), .dat artD, .dat (.int wg), .md k', .ml (((arits.take i).flatMap (stepF r wg)).map enc), s5, s6, s7, .no]) (it_list (ed_var (i := 1) (d := artD) rfl)) ⟨k, .no, .no, .no, hk, Nd.no, Nd.no, Nd.no, rfl⟩ (by decide) (fun i d Γ1 hd ⟨k', s5, s6, s7, hk', n5, n6, n7, e⟩ => ?_) fun Γ1 h => h) fun Γ' ⟨k', s5, s6, s7, hk', n5, n6, n7, e⟩ => ?_
      · subst e
        rw [List.getElem?_map] at hd
        cases hx : arits[i]? with
        | none => rw [hx] at hd; cases hd
        | some p =>
          rw [hx] at hd
          cases hd
          have hpm := List.mem_of_getElem? hx
          have hpn : p.1 ∈ nm ∧ p.2 ≤ 2 := by
            rcases (by simpa [arits] using hpm : p = (("a" : Str), 0) ∨ p = (("b" : Str), 0) ∨ p = (("f" : Str), 1) ∨ p = (("g" : Str), 2)) with rfl | rfl | rfl | rfl <;> exact ⟨by decide +kernel, by decide⟩
          have hvp := V.pos p hpm
          refine ⟨_, gd_tup (ds := [.str p.1, .int (p.2 : Nat)]) (gds_cons (gd_name (freeNd rfl n5)) (gds_cons (gd_name (freeNd rfl n6)) gds_nil)) rfl, ?_⟩
          refine xs_then (xs_asg (ed_op (ed_var (i := 2) rfl) (ed_op (ed_dictR (ed_var (i := 0) rfl) hR) (ed_var (i := 5) rfl) (vr_dGet (k := .inr p.1) (val_wts ((hR.mem p.1).mp hpn.1)))) vr_sub) (freeNd rfl n7) (by decide) rfl) ?_
          have rl := V.len p.2 (wg - wv r p.1) hpn.2 (by omega)
          have step := flatMap_take_succ (stepF r wg) hx
          refine xs_dropX (xe_extendX (i := 4) (M := fun g d => ∃ k2, g = ([.dat (rowsD r), .dat artD, .dat (.int wg), .md k2, .ml (((arits.take i).flatMap (stepF r wg)).map enc), .dat (.str p.1), .dat (.int (p.2 : Nat)), .dat (.int (wg - wv r p.1)), .no] : List Sl) ∧ KOk (wv r) k2 ∧ d = .lst ((stepF r wg p).map enc))
            (R := fun g _ => ∃ k2, KOk (wv r) k2 ∧ g = [.dat (rowsD r), .dat artD, .dat (.int wg), .md k2, .ml (((arits.take (i + 1)).flatMap (stepF r wg)).map enc), .dat (.str p.1), .dat (.int (p.2 : Nat)), .dat (.int (wg - wv r p.1)), .no]) rfl
            (xe_lcI (vs := [8]) encR (fun row => some (enc (.app p.1 row))) (xe_rows (j := 3) (m := p.2) (wg := wg - wv r p.1) rfl (ed_var (i := 0) rfl) (ed_var (i := 1) rfl) (ed_var (i := 6) rfl) (ed_var (i := 7) rfl) ⟨r, k', p.2, _, rfl, rfl, rfl, hR, hl, hk', hpn.2, by omega, by omega⟩) fun Γ1 d ⟨k2, e1, hk2, e2⟩ => ?_) fun g a ⟨k2, e1, hk2, e2⟩ => ?_) fun g _ ⟨k2, hk2, e⟩ => ⟨k2, _, _, _, hk2, Nd.dat _, Nd.dat _, Nd.dat _, e⟩
          · subst e1
            refine ⟨rowsF (G (wv r)) p.2 (wg - wv r p.1), e2, free1 rfl, by omega, ⟨k2, rfl, hk2, ?_⟩, fun row hrow => ⟨_, gd_name (Free.of rfl), .inr ⟨_, rfl, et_yes, ed_is (ed_head (i := 5) (j := 8) (x := .str p.1) (row := row) rfl rfl (by rw [rowsF_row _ _ _ row hrow]; exact hpn.2)) (by rw [enc_app])⟩⟩⟩
            rw [filterMap_some]
            unfold stepF
            rw [List.map_map]
            rfl
          · subst e1 e2
            refine ⟨_, _, rfl, rfl, ?_, k2, hk2, ?_⟩
            · rw [List.length_map, List.length_map]
              have h7 := V.glen wg h1 w4
              rw [← total] at h7
              have h8 := flatMap_take_le (stepF r wg) arits i
              have h9 : (stepF r wg p).length ≤ 1000 := by unfold stepF; rw [List.length_map]; exact rl
              omega
            · rw [step, List.map_append]
              rfl
      · subst e
        have hlen : (arits.map fun p => D.tup [.str p.1, .int (p.2 : Nat)]).length = 4 := rfl
        rw [hlen, show arits.take 4 = arits from rfl, total]
        refine xs_freeze (i := 4) rfl (by decide) ?_
        have kl := four hk'.nd hk'.ks
        rw [List.length_map] at kl
        refine xs_dput (i := 3) (es := k') (k := .inl wg) (ed_var (i := 4) rfl) rfl (ed_var (i := 2) rfl) (by omega) ⟨_, _, _, _, _, hk'.put h1 w4, ?_, rfl⟩
        rw [valD_putD, if_pos rfl]
    · have hb' : (valD k (.inl wg)).isSome = true := by simpa using hb
      obtain ⟨d, hd⟩ := Option.isSome_iff_exists.mp hb'
      obtain ⟨w', e1, _, _, e2⟩ := hk.val _ _ hd
      have e3 : wg = w' := Sum.inl.inj e1
      subst e3
      exact xs_next ⟨k, _, _, _, _, hk, by rw [hd, e2], rfl⟩
  · subst e
    exact xs_ret (ed_getM (i := 3) (k := .inl wg) rfl (ed_var (i := 2) rfl) hv) ⟨.md k', rfl, True.intro, r, wg, k', rfl, rfl, hk', rfl⟩
end
end K29
set_option Elab.async false
set_option maxRecDepth 100000
set_option maxHeartbeats 400000
set_option linter.all false
namespace K29
open PySem L2 StX PyProof.Rows PySem.Spec DL
abbrev PreRp (b : Int) : Sl → List D → List D → Prop := fun s ds es => ∃ (r : Rows) (k : List (Key × D)) (m : Nat) (wg : Int), s = .md k ∧ ds = [rowsD r, artD, .int (m : Nat), .int wg] ∧ es = [] ∧ RowsOk r ∧ r.length ≤ 5 ∧ KOk (wv r) k ∧ m ≤ 2 ∧ 1 ≤ wg ∧ wg ≤ b
theorem spO_imp {K : PySem.W.Frag} {R : Sl → List D → List D → Sl → D → Prop} {Pre Pre' : Sl → List D → List D → Prop} (h : ∀ s ds es, Pre' s ds es → Pre s ds es) : ∀ vs H Q E, spO K R Pre' vs H Q E → spO K R Pre vs H Q E :=
  fun vs H Q E ⟨S, os, v0, xs, ys, s, ds, es, h1, h2, h3, h4, h5, h6, h7, h8⟩ => ⟨S, os, v0, xs, ys, s, ds, es, h1, h2, h3, h4, h5, h6, h _ _ _ h7, h8⟩
theorem cal_voidO {P : Program} {w : World} {K : PySem.W.Frag} {mg : Str → Option Value} {base : Heap} {k : Nat} {x : Str} {ps : List Str} {st : Stmt} {N : List Str} {R : Sl → List D → List D → Sl → D → Prop} {Pre : Sl → List D → List D → Prop} (F : Def K mg x st) (S : FnScope N ps (defScope st)) (hb : BindsH x st ps) (h : ∀ s ds es, ¬ Pre s ds es) : Cal P w K mg base (k + 1) x ps (spO K R Pre) :=
  cal_raw F S hb (fun vs H Q E ⟨S, os, v0, xs, ys, s, ds, es, h1, h2, h3, h4, h5, h6, h7, h8⟩ => absurd h7 (h _ _ _)) fun _ _ _ _ _ _ _ _ => ⟨_, DL.pss_never, fun H vs Q E ⟨S, os, v0, xs, ys, s, ds, es, h1, h2, h3, h4, h5, h6, h7, h8⟩ => absurd h7 (h _ _ _)⟩
def firsts (wg : Int) : List Int := (List.range (wg - 1).toNat).map fun (i : Nat) => (1 + (i : Int))
def hI (f : Int → List W) (m : Nat) (wg fst : Int) (x : W) : List (List W) := (rowsF f m (wg - fst)).map (x :: ·)
def hO (f : Int → List W) (m : Nat) (wg fst : Int) : List (List W) := (f fst).flatMap (hI f m wg fst)
theorem rowsF_succ (f : Int → List W) (m : Nat) (wg : Int) : rowsF f (m + 1) wg = (firsts wg).flatMap (hO f m wg) ++ (if m = 0 ∧ 0 < wg then (f wg).map (fun x => [x]) else []) := by rw [rowsF]; rfl
theorem firsts_D (wg : Int) : rangeD 1 (wg - 1).toNat = (firsts wg).map D.int := by
  unfold rangeD firsts
  rw [List.map_map]
  rfl
section
variable {P : Program} {w : World} {K : PySem.W.Frag} {mg : Str → Option Value} {base : Heap} {C : Addr}
abbrev s_law_rows_of : Stmt := top 39
abbrev N_law_rows_of : List Str := ["rows", "arities", "many", "weight", "known", "found", "first", "word", "row"]
theorem sc_law_rows_of : FnScope N_law_rows_of ["rows", "arities", "many", "weight", "known"] (defScope s_law_rows_of) := ⟨rfl, rfl, rfl, by decide +kernel, rfl, by decide +kernel, by decide +kernel⟩
theorem b_law_rows_of : BindsH "_law_rows_of" s_law_rows_of ["rows", "arities", "many", "weight", "known"] := fun _ _ _ _ _ _ us hl => match us, hl with | [_, _, _, _, _], _ => rfl
theorem body_rows (F : Def K mg "_law_rows_of" s_law_rows_of) (T : Txt K mg C) (B : Nat) (hB : B ≤ 4) (C_law_of_weight : Cal P w K mg base (2 * B + 1) "_law_of_weight" ["rows", "arities", "weight", "known"] (spO K RO (PreO B)))
    (C_law_rows_of : Cal P w K mg base (2 * B + 1) "_law_rows_of" ["rows", "arities", "many", "weight", "known"] (spO K RR (PreRp ((B : Int) - 1)))) :
    Cal P w K mg base (2 * B + 2) "_law_rows_of" ["rows", "arities", "many", "weight", "known"] (spO K RR (PreR B)) := by
  refine cal_own 4 F sc_law_rows_of b_law_rows_of (fun s ds es ⟨r, k, m, wg, h1, h2, _⟩ => ⟨by rw [h2]; rfl, by rw [h1]; exact True.intro⟩) (fun s ds es ⟨r, k, m, wg, h1, h2, h3, _⟩ => by rw [h2, h3]; rfl) fun f cdv A outer s H E hr => ?_
  have nd := sc_law_rows_of.nd
  refine ⟨_, (pss_cons (ps_if (pt_cmpR (k_eq K rfl (hu64 hr)) (pv 2) pe_int (nomark _)) (pss_one (ps_ret (pe_ifExp (pt_cmpR (k_eq K rfl (hu64 hr)) (pv 3) pe_int (nomark _)) (pe_lst (pa_cons (pe_tup pa_nil) pa_nil)) (pe_lst pa_nil)))) pss_nil)
    (pss_cons (ps_set (i := 5) nd rfl (by first | exact Or.inl rfl | exact Or.inr rfl) (pe_lst pa_nil))
    (pss_cons (ps_for PassesOwn.never rfl (pi_range2 (by rfl) T.f_range (pa_cons pe_int (pa_cons (pv 3) pa_nil))) (pg_name (i := 6) nd rfl (by first | exact Or.inl rfl | exact Or.inr rfl)) (pss_one (ps_for PassesOwn.never rfl (pi_list (pe_cal C_law_of_weight (hr.mono (by omega)) (pa_cons (pv 0) (pa_cons (pv 1) (pa_cons (pv 6) (pa_cons (pv 4) pa_nil)))))) (pg_name (i := 7) nd rfl (by first | exact Or.inl rfl | exact Or.inr rfl)) (pss_one (ps_expr (pe_bm PySem.F.plainAttrs_list PySem.F.slot_list_extend PySem.F.type_list_extend mt_extend (pv 5) (pa_cons (pe_lc (own := [("row", 8)]) rfl nd (pi_list (pe_cal C_law_rows_of (hr.mono (by omega)) (pa_cons (pv 0) (pa_cons (pv 1) (pa_cons (pe_op o_sub (pv 2) pe_int) (pa_cons (pe_op o_sub (pv 3) (pv 6)) (pa_cons (pv 4) pa_nil))))))) (blkOk_by (own := [("row", 8)]) (N := N_law_rows_of) (sc := defScope s_law_rows_of) (by decide +kernel)) (fun _ _ _ _ _ => (pg_name (i := 8) nd rfl (by first | exact Or.inl rfl | exact Or.inr rfl))) (fun _ _ _ _ _ => pts_nil) (fun _ _ _ _ _ => (pe_op (k_add K rfl) (pe_tup (pa_cons (pv 7) pa_nil)) (pv 8)))) pa_nil)))))))
    (pss_cons (ps_if (PW.pt (pw_and (pt_cmpR (k_eq K rfl (hu64 hr)) (pv 2) pe_int (nomark _)) (pw_and1 (pt_cmpR o_gt (pv 3) pe_int (nomark _))))) (pss_one (ps_expr (pe_bm PySem.F.plainAttrs_list PySem.F.slot_list_extend PySem.F.type_list_extend mt_extend (pv 5) (pa_cons (pe_lc (own := [("word", 7)]) rfl nd (pi_list (pe_cal C_law_of_weight (hr.mono (by omega)) (pa_cons (pv 0) (pa_cons (pv 1) (pa_cons (pv 3) (pa_cons (pv 4) pa_nil)))))) (blkOk_by (own := [("word", 7)]) (N := N_law_rows_of) (sc := defScope s_law_rows_of) (by decide +kernel)) (fun _ _ _ _ _ => (pg_name (i := 7) nd rfl (by first | exact Or.inl rfl | exact Or.inr rfl))) (fun _ _ _ _ _ => pts_nil) (fun _ _ _ _ _ => (pe_tup (pa_cons (pv 7) pa_nil)))) pa_nil)))) pss_nil)
    (pss_one (ps_ret (pv 5))))))), ?_⟩
  rintro s ds es ⟨r, k, m, wg, rfl, rfl, rfl, hR, hl, hk, hm, hw10, hwB⟩
  have V := vok hR
  have hsz : (5000 : Nat) ≤ sizeLine := by decide
  show XS K [4] _ ([.dat (rowsD r), .dat artD, .dat (.int (m : Nat)), .dat (.int wg), .md k, .no, .no, .no, .no] : List Sl) _
  have fin : ∀ {g : List Sl} {k' : List (Key × D)} {d : D}, g[4]? = some (.md k') → KOk (wv r) k' → d = .lst ((rowsF (G (wv r)) m wg).map encR) → ∃ s', g[4]? = some s' ∧ OwnSl s' ∧ RR (.md k) [rowsD r, artD, .int (m : Nat), .int wg] [] s' d := fun {g k' d} h1 h2 h3 => ⟨_, h1, True.intro, r, m, wg, k', rfl, rfl, h2, h3⟩
  cases m with
  | zero =>
    refine xs_out (xs_if1 (et_eq (ed_var (i := 2) rfl) (ed_int 0) rfl rfl (by rw [eqD_int]; rfl)) ?_)
    by_cases h0 : wg = 0
    · refine xs_ret (ed_if (x := true) (et_eq (ed_var (i := 3) rfl) (ed_int 0) rfl rfl (by rw [eqD_int, decide_eq_true h0])) (fun _ => ed_lst (ea_cons (ed_tup ea_nil (Nat.zero_le _)) ea_nil) (show 1 ≤ sizeLine by decide)) (fun z => nomatch z)) (fin rfl hk ?_)
      rw [rowsF, if_pos h0]
      rfl
    · refine xs_ret (ed_if (x := false) (et_eq (ed_var (i := 3) rfl) (ed_int 0) rfl rfl (by rw [eqD_int, decide_eq_false h0])) (fun z => nomatch z) (fun _ => ed_lst ea_nil (Nat.zero_le _))) (fin rfl hk ?_)
      rw [rowsF, if_neg h0]
      rfl
  | succ m =>
    have hB4 : (B : Int) ≤ 4 := by omega
    have tl := V.len (m + 1) wg hm (by omega)
    have tot := rowsF_succ (G (wv r)) m wg
    have tot1 : ((firsts wg).flatMap (hO (G (wv r)) m wg)).length ≤ 1000 := by
      rw [tot, List.length_append] at tl
      omega
    refine xs_skip (et_eq (ed_var (i := 2) rfl) (ed_int 0) rfl rfl (by rw [eqD_int]; exact decide_eq_false (by omega))) ?_
    refine xs_then (xs_asgN (en_lst ea_nil (Nat.zero_le _)) (Free.of rfl) (by decide) rfl) ?_
    refine xs_seq (xs_for (vs := [6]) (ds := (firsts wg).map D.int) (fun i Γ => ∃ k' s6 s7, KOk (wv r) k' ∧ Nd s6 ∧ Nd s7 ∧ Γ = [.dat (rowsD r), .dat artD, .dat (.int ((m + 1 : Nat) : Int)), .dat (.int wg), .md k', .ml ((((firsts wg).take i).flatMap (hO (G (wv r)) m wg)).map encR), s6, s7, .no])
      (by rw [← firsts_D]; exact it_rng2 (ea_cons (ed_int 1) (ea_cons (ed_var (i := 3) rfl) ea_nil)) (by decide) (by decide) (by omega) (by omega)) ⟨k, .no, .no, hk, Nd.no, Nd.no, rfl⟩ (by decide) (fun i d Γ1 hd ⟨k', s6, s7, hk', n6, n7, e⟩ => ?_) fun Γ1 h => h) fun Γ' ⟨k', s6, s7, hk', n6, n7, e⟩ => ?_
    · subst e
      rw [List.getElem?_map] at hd
      cases hx : (firsts wg)[i]? with
      | none => rw [hx] at hd; cases hd
      | some fst =>
        rw [hx] at hd
        cases hd
        have hf : 1 ≤ fst ∧ fst ≤ wg - 1 := by
          obtain ⟨j, hj, e⟩ := List.mem_map.mp (List.mem_of_getElem? hx)
          have := List.mem_range.mp hj
          omega
        have step := flatMap_take_succ (hO (G (wv r)) m wg) hx
        have gl := V.glen fst hf.1 (by omega)
        have pre := flatMap_take_le (hO (G (wv r)) m wg) (firsts wg) (i + 1)
        refine ⟨_, gd_name (freeNd rfl n6), ?_⟩
        refine xs_forX (vs := [7]) (xe_ofW (j := 4) (B := B) (wg := fst) rfl (ed_var (i := 0) rfl) (ed_var (i := 1) rfl) (ed_var (i := 6) rfl) hR hl hk' hf.1 (by omega)) (by decide) fun Γ1 d ⟨k2, e1, hk2, e2⟩ => ?_
        subst e1
        refine ⟨_, fun j Γ => ∃ k' s7, KOk (wv r) k' ∧ Nd s7 ∧ Γ = [.dat (rowsD r), .dat artD, .dat (.int ((m + 1 : Nat) : Int)), .dat (.int wg), .md k', .ml ((((firsts wg).take i).flatMap (hO (G (wv r)) m wg) ++ ((G (wv r) fst).take j).flatMap (hI (G (wv r)) m wg fst)).map encR), .dat (.int fst), s7, .no], e2, ⟨k2, s7, hk2, n7, ?_⟩, fun j d Γ1 hd ⟨k3, s7', hk3, n7', e⟩ => ?_, fun Γ1 ⟨k3, s7', hk3, n7', e⟩ => ?_⟩
        · rw [List.take_zero, List.flatMap_nil, List.append_nil]
          rfl
        · subst e
          rw [List.getElem?_map] at hd
          cases hy : (G (wv r) fst)[j]? with
          | none => rw [hy] at hd; cases hd
          | some x =>
            rw [hy] at hd
            cases hd
            have step2 := flatMap_take_succ (hI (G (wv r)) m wg fst) hy
            have pre2 := flatMap_take_le (hI (G (wv r)) m wg fst) (G (wv r) fst) (j + 1)
            have rl := V.len m (wg - fst) (by omega) (by omega)
            refine ⟨_, gd_name (freeNd rfl n7'), ?_⟩
            refine xs_dropX (xe_extendX (i := 5) (M := fun g d => ∃ k4, g = ([.dat (rowsD r), .dat artD, .dat (.int ((m + 1 : Nat) : Int)), .dat (.int wg), .md k4, .ml ((((firsts wg).take i).flatMap (hO (G (wv r)) m wg) ++ ((G (wv r) fst).take j).flatMap (hI (G (wv r)) m wg fst)).map encR), .dat (.int fst), .dat (enc x), .no] : List Sl) ∧ KOk (wv r) k4 ∧ d = .lst ((hI (G (wv r)) m wg fst x).map encR))
              (R := fun g _ => ∃ k4, KOk (wv r) k4 ∧ g = ([.dat (rowsD r), .dat artD, .dat (.int ((m + 1 : Nat) : Int)), .dat (.int wg), .md k4, .ml ((((firsts wg).take i).flatMap (hO (G (wv r)) m wg) ++ ((G (wv r) fst).take (j + 1)).flatMap (hI (G (wv r)) m wg fst)).map encR), .dat (.int fst), .dat (enc x), .no] : List Sl)) rfl
              (xe_lcI (vs := [8]) encR (fun row => some (encR (x :: row))) (xe_rows (j := 4) (m := m) (wg := wg - fst) rfl (ed_var (i := 0) rfl) (ed_var (i := 1) rfl) (ed_is (ed_op (ed_var (i := 2) rfl) (ed_int 1) vr_sub) (by congr 1; omega)) (ed_op (ed_var (i := 3) rfl) (ed_var (i := 6) rfl) vr_sub) ⟨r, k3, m, _, rfl, rfl, rfl, hR, hl, hk3, by omega, by omega, by omega⟩) fun Γ1 d ⟨k4, e1, hk4, e2⟩ => ?_) fun g a ⟨k4, e1, hk4, e2⟩ => ?_) fun g _ ⟨k4, hk4, e⟩ => ⟨k4, _, hk4, Nd.dat _, e⟩
            · subst e1
              refine ⟨rowsF (G (wv r)) m (wg - fst), e2, free1 rfl, by omega, ⟨k4, rfl, hk4, ?_⟩, fun row hrow => ⟨_, gd_name (Free.of rfl), .inr ⟨_, rfl, et_yes, ed_head (i := 7) (j := 8) (x := enc x) (row := row) rfl rfl (by rw [rowsF_row _ _ _ row hrow]; omega)⟩⟩⟩
              rw [filterMap_some]
              unfold hI
              rw [List.map_map]
              rfl
            · subst e1 e2
              refine ⟨_, _, rfl, rfl, ?_, k4, hk4, ?_⟩
              · rw [List.length_map, List.length_map]
                have c1 := congrArg List.length step
                have c2 := congrArg List.length step2
                rw [List.length_append] at c1 c2
                have : (hO (G (wv r)) m wg fst).length = ((G (wv r) fst).flatMap (hI (G (wv r)) m wg fst)).length := rfl
                rw [List.length_append]
                omega
              · rw [step2]
                simp only [List.map_append, ← List.append_assoc]
                rfl
        · subst e
          refine ⟨k3, .dat (.int fst), s7', hk3, Nd.dat (.int fst), n7', ?_⟩
          rw [List.length_map, List.take_length, step]
          rfl
    · subst e
      rw [List.length_map, List.take_length]
      by_cases hlast : m = 0 ∧ 0 < wg
      · rw [if_pos hlast] at tot
        obtain ⟨hm0, hw0⟩ := hlast
        subst hm0
        have gl := V.glen wg (by omega) (by omega)
        refine xs_seq (M := fun g => ∃ k' s6 s7, KOk (wv r) k' ∧ g = [.dat (rowsD r), .dat artD, .dat (.int ((0 + 1 : Nat) : Int)), .dat (.int wg), .md k', .ml ((rowsF (G (wv r)) (0 + 1) wg).map encR), s6, s7, .no]) (xs_if1 (et_and (x := true) (y := true) (et_eq (ed_var (i := 2) rfl) (ed_int 1) rfl rfl (by rw [eqD_int]; rfl)) fun _ => et_test (ed_is (ed_op (ed_var (i := 3) rfl) (ed_int 0) vr_gt) (by rw [decide_eq_true hw0]))) ?_) fun g ⟨k', s6, s7, hk', e⟩ => ?_
        · refine xs_dropX (xe_extendX (i := 5) (M := fun g d => ∃ k4, g = ([.dat (rowsD r), .dat artD, .dat (.int ((0 + 1 : Nat) : Int)), .dat (.int wg), .md k4, .ml (((firsts wg).flatMap (hO (G (wv r)) 0 wg)).map encR), s6, s7, .no] : List Sl) ∧ KOk (wv r) k4 ∧ d = .lst (((G (wv r) wg).map fun x => [x]).map encR))
              (R := fun g _ => ∃ k4, KOk (wv r) k4 ∧ g = ([.dat (rowsD r), .dat artD, .dat (.int ((0 + 1 : Nat) : Int)), .dat (.int wg), .md k4, .ml ((rowsF (G (wv r)) (0 + 1) wg).map encR), s6, s7, .no] : List Sl)) rfl
              (xe_lcI (vs := [7]) enc (fun x => some (encR [x])) (xe_ofW (j := 4) (B := B) (wg := wg) rfl (ed_var (i := 0) rfl) (ed_var (i := 1) rfl) (ed_var (i := 3) rfl) hR hl hk' (by omega) hwB) fun Γ1 d ⟨k4, e1, hk4, e2⟩ => ?_) fun g a ⟨k4, e1, hk4, e2⟩ => ?_) fun g _ ⟨k4, hk4, e⟩ => ⟨k4, _, _, hk4, e⟩
          · subst e1
            refine ⟨G (wv r) wg, e2, fun i hi => ?_, by omega, ⟨k4, rfl, hk4, ?_⟩, fun x hx => ⟨_, gd_name (Free.of rfl), .inr ⟨_, rfl, et_yes, ed_tup (ea_cons (ed_var (i := 7) rfl) ea_nil) (show 1 ≤ sizeLine by decide)⟩⟩⟩
            · rw [List.mem_singleton.mp hi]
              exact freeNd rfl n7
            · rw [filterMap_some, List.map_map]
              rfl
          · subst e1 e2
            refine ⟨_, _, rfl, rfl, ?_, k4, hk4, ?_⟩
            · rw [List.length_map, List.length_map, List.length_map]
              omega
            · rw [tot, List.map_append]
              rfl
        · subst e
          exact xs_freeze (i := 5) rfl (by decide) (xs_ret (ed_var (i := 5) rfl) (fin rfl hk' rfl))
      · rw [if_neg hlast, List.append_nil] at tot
        rw [← tot]
        refine xs_skip (et_is (et_and (x := decide (((m + 1 : Nat) : Int) = 1)) (y := decide (0 < wg)) (et_eq (ed_var (i := 2) rfl) (ed_int 1) rfl rfl (by rw [eqD_int])) fun _ => et_test (ed_op (ed_var (i := 3) rfl) (ed_int 0) vr_gt)) ?_) ?_
        · by_cases a : ((m + 1 : Nat) : Int) = 1
          · have : ¬ 0 < wg := fun z => hlast ⟨by omega, z⟩
            rw [decide_eq_false this, Bool.and_false]
          · rw [decide_eq_false a, Bool.false_and]
        · exact xs_freeze (i := 5) rfl (by decide) (xs_ret (ed_var (i := 5) rfl) (fin rfl hk' rfl))
theorem ok_words (FO : Def K mg "_law_of_weight" s_law_of_weight) (FR : Def K mg "_law_rows_of" s_law_rows_of) (T : Txt K mg C) : ∀ B : Nat, B ≤ 4 →
    Cal P w K mg base (2 * B + 1) "_law_of_weight" ["rows", "arities", "weight", "known"] (spO K RO (PreO B)) ∧ Cal P w K mg base (2 * B + 2) "_law_rows_of" ["rows", "arities", "many", "weight", "known"] (spO K RR (PreR B))
  | 0, _ => by
    have C1 : Cal P w K mg base (2 * 0 + 1) "_law_of_weight" ["rows", "arities", "weight", "known"] (spO K RO (PreO 0)) := cal_voidO FO sc_law_of_weight b_law_of_weight fun s ds es ⟨r, k, wg, _, _, _, _, _, _, h1, h2⟩ => by
      have : wg ≤ 0 := h2
      omega
    refine ⟨C1, body_rows FR T 0 (by decide) C1 (cal_voidO FR sc_law_rows_of b_law_rows_of fun s ds es ⟨r, k, m, wg, _, _, _, _, _, _, _, h1, h2⟩ => ?_)⟩
    have : wg ≤ 0 - 1 := h2
    omega
  | B + 1, hB => by
    obtain ⟨_, C2⟩ := ok_words FO FR T B (by omega)
    have C1 := body_of FO T B (by omega) C2
    refine ⟨C1, body_rows FR T (B + 1) hB C1 ((C2.mono (by omega)).imp (spO_imp fun s ds es ⟨r, k, m, wg, h1, h2, h3, h4, h5, h6, h7, h8, h9⟩ => ⟨r, k, m, wg, h1, h2, h3, h4, h5, h6, h7, by omega, ?_⟩))⟩
    have : wg ≤ ((B + 1 : Nat) : Int) - 1 := h9
    omega
end
end K29
set_option Elab.async false
set_option maxRecDepth 100000
set_option maxHeartbeats 400000
set_option linter.all false
namespace K29
open PySem L2 StX PyProof.Rows PySem.Spec DL
/-! ### sorting -/
theorem above_asym {r : Rows} (R : RowsOk r) {n : Nat} {a b : W} (ha : okW n a = true) (hb : okW n b = true) (h : above r a b = true) : above r b a = false := by
  have := above_total R ha hb (above_ne h)
  rw [h] at this
  cases h2 : above r b a with
  | true => rw [h2] at this; cases this
  | false => rfl
theorem split_up {r : Rows} (R : RowsOk r) {n : Nat} {x : W} (hx : okW n x = true) : ∀ {acc : List W}, Up r acc → (∀ y ∈ acc, okW n y = true) → x ∉ acc → ∃ A B, acc = A ++ B ∧ (∀ y ∈ A, above r x y = true) ∧ ∀ y ∈ B, above r y x = true
  | [], _, _, _ => ⟨[], [], rfl, fun y h => absurd h List.not_mem_nil, fun y h => absurd h List.not_mem_nil⟩
  | y :: acc, up, ok, hn => by
    obtain ⟨u1, u2⟩ := List.pairwise_cons.mp up
    have hy := ok y (List.mem_cons_self ..)
    have hxy : x ≠ y := fun e => hn (by rw [e]; exact List.mem_cons_self ..)
    cases h : above r x y with
    | true =>
      obtain ⟨A, B, e, hA, hB⟩ := split_up R hx u2 (fun z hz => ok z (List.mem_cons_of_mem _ hz)) fun z => hn (List.mem_cons_of_mem _ z)
      refine ⟨y :: A, B, by rw [e]; rfl, fun z hz => ?_, hB⟩
      rcases List.mem_cons.mp hz with q | q
      · rw [q]; exact h
      · exact hA z q
    | false =>
      have hyx : above r y x = true := by
        have := above_total R hx hy hxy
        rw [h] at this
        cases h2 : above r y x with
        | true => rfl
        | false => rw [h2] at this; cases this
      refine ⟨[], y :: acc, rfl, fun z hz => absurd hz List.not_mem_nil, fun z hz => ?_⟩
      rcases List.mem_cons.mp hz with q | q
      · rw [q]; exact hyx
      · exact above_trans R (ok z (List.mem_cons_of_mem _ q)) hy hx (u1 z q) hyx
theorem insW_up {r : Rows} (R : RowsOk r) {n : Nat} {x : W} (hx : okW n x = true) {acc : List W} (up : Up r acc) (ok : ∀ y ∈ acc, okW n y = true) (hn : x ∉ acc) : Up r (insW r acc x) := by
  obtain ⟨A, B, rfl, hA, hB⟩ := split_up R hx up ok hn
  have f : (A ++ B).filter (above r x) = A := by
    rw [List.filter_append, List.filter_eq_self.mpr hA, List.filter_eq_nil_iff.mpr fun y hy => by rw [above_asym R (ok y (List.mem_append_right _ hy)) hx (hB y hy)]; exact Bool.false_ne_true, List.append_nil]
  unfold insW
  rw [f, List.take_left, List.drop_left, List.append_assoc]
  obtain ⟨u1, u2, u3⟩ := List.pairwise_append.mp up
  refine List.pairwise_append.mpr ⟨u1, List.pairwise_cons.mpr ⟨fun y hy => hB y hy, u2⟩, fun a ha b hb => ?_⟩
  rcases List.mem_cons.mp hb with q | q
  · rw [q]; exact hA a ha
  · exact u3 a ha b q
theorem sortW_up {r : Rows} (R : RowsOk r) {n : Nat} {ws : List W} (ok : ∀ y ∈ ws, okW n y = true) (nd : ws.Nodup) : Up r (sortW r ws) := by
  unfold sortW
  suffices h : ∀ acc : List W, Up r acc → (∀ y ∈ acc, okW n y = true) → (acc ++ ws).Nodup → Up r (ws.foldl (insW r) acc) from h [] List.Pairwise.nil (fun y h => absurd h List.not_mem_nil) nd
  clear nd
  induction ws with
  | nil => exact fun acc h _ _ => h
  | cons x ws ih =>
    intro acc up oka nd
    have hx := ok x (List.mem_cons_self ..)
    have nd' := (List.perm_middle (a := x) (l₁ := acc) (l₂ := ws)).nodup_iff.mp nd
    obtain ⟨n1, n2⟩ := List.nodup_cons.mp nd'
    refine ih (fun y hy => ok y (List.mem_cons_of_mem _ hy)) (insW r acc x) (insW_up R hx up oka fun z => n1 (List.mem_append_left _ z)) (fun y hy => ?_) ?_
    · rcases List.mem_cons.mp ((insW_perm r acc x).mem_iff.mp hy) with q | q
      · rw [q]; exact hx
      · exact oka y q
    · exact (((insW_perm r acc x).append_right ws).trans List.perm_middle.symm).nodup_iff.mpr nd
/-! ### what compare answers along the ascending words -/
theorem row_is {r : Rows} (R : RowsOk r) {n : Nat} {du : List W} (ok : ∀ x ∈ du, okW n x = true) (up : Up r du) {i : Nat} {x : W} (hx : du[i]? = some x) :
    du.map (cmp r x) = List.replicate i ("above" : Str) ++ [("same" : Str)] ++ List.replicate (du.length - i - 1) ("below" : Str) := by
  obtain ⟨hi, he⟩ := List.getElem?_eq_some_iff.mp hx
  have split : du = du.take i ++ x :: du.drop (i + 1) := by rw [← he, List.getElem_cons_drop, List.take_append_drop]
  have up2 := up
  rw [split] at up2
  obtain ⟨u1, u2, u3⟩ := List.pairwise_append.mp up2
  have xm := ok x (List.mem_of_getElem? hx)
  have A : (du.take i).map (cmp r x) = List.replicate i ("above" : Str) := by
    refine List.eq_replicate_iff.mpr ⟨by rw [List.length_map, List.length_take]; omega, fun b hb => ?_⟩
    obtain ⟨y, hy, rfl⟩ := List.mem_map.mp hb
    exact cmp_up (u3 y hy x (List.mem_cons_self ..))
  have B : (du.drop (i + 1)).map (cmp r x) = List.replicate (du.length - i - 1) ("below" : Str) := by
    refine List.eq_replicate_iff.mpr ⟨by rw [List.length_map, List.length_drop]; omega, fun b hb => ?_⟩
    obtain ⟨y, hy, rfl⟩ := List.mem_map.mp hb
    exact cmp_dn R xm (ok y (List.mem_of_mem_drop hy)) ((List.pairwise_cons.mp u2).1 y hy)
  conv => lhs; rw [split]
  rw [List.map_append, List.map_cons, A, B, cmp_self, List.append_assoc]
  rfl
def pW (x : W) : W := .app "p" [x]
theorem pW_ok {n : Nat} {x : W} (h : okW n x = true) : okW (n + 1) (pW x) = true := by
  unfold pW
  rw [okW]
  have h1 : decide (("p" : Str) ∈ nm) = true := by decide +kernel
  have h2 : ar "p" = 1 := by decide +kernel
  rw [h1, h2]
  simp [h]
theorem pW_above {r : Rows} {x y : W} (h : above r x y = true) : above r (pW x) (pW y) = true := by
  have hw := above_wt h
  have e : ∀ z : W, wt r (pW z) = wv r "p" + wt r z := fun z => by
    unfold pW
    rw [wt_app]
    simp
  have ex := e x
  have ey := e y
  unfold pW at ex ey ⊢
  rw [above]
  by_cases q : wt r (.app "p" [x]) = wt r (.app "p" [y])
  · rw [if_neg (show ¬ (wt r (.app "p" [x]) ≠ wt r (.app "p" [y])) from fun z => z q), if_neg (show ¬ (("p" : Str) ≠ "p") from fun z => z rfl), aboveL, if_neg (above_ne h)]
    exact h
  · rw [if_pos q]
    exact decide_eq_true (by omega)
theorem atoms_is {r : Rows} {du : List W} (up : Up r du) {i : Nat} {x : W} (hx : du[i]? = some x) : (du.take i).map (fun y => cmp r (pW x) (pW y)) = List.replicate i ("above" : Str) := by
  obtain ⟨hi, he⟩ := List.getElem?_eq_some_iff.mp hx
  have split : du = du.take i ++ x :: du.drop (i + 1) := by rw [← he, List.getElem_cons_drop, List.take_append_drop]
  have up2 := up
  rw [split] at up2
  obtain ⟨u1, u2, u3⟩ := List.pairwise_append.mp up2
  refine List.eq_replicate_iff.mpr ⟨by rw [List.length_map, List.length_take]; omega, fun b hb => ?_⟩
  obtain ⟨y, hy, rfl⟩ := List.mem_map.mp hb
  exact cmp_up (pW_above (u3 y hy x (List.mem_cons_self ..)))
theorem wts_up {r : Rows} {du : List W} (up : Up r du) : (du.map (wt r)).Pairwise (· ≤ ·) := List.Pairwise.map _ (fun a b h => above_wt h) up
theorem ends_up {r : Rows} (R : RowsOk r) {n : Nat} {du : List W} (ok : ∀ x ∈ du, okW n x = true) (up : Up r du) {a b : W} (ha : du[0]? = some a) (hb : du[du.length - 1]? = some b) (hl : 1 < du.length) : cmp r a b = "below" := by
  obtain ⟨_, ea⟩ := List.getElem?_eq_some_iff.mp ha
  obtain ⟨_, eb⟩ := List.getElem?_eq_some_iff.mp hb
  have := List.pairwise_iff_getElem.mp up 0 (du.length - 1) (by omega) (by omega) (by omega)
  rw [ea, eb] at this
  exact cmp_dn R (ok a (List.mem_of_getElem? ha)) (ok b (List.mem_of_getElem? hb)) this
/-! ### rows that were drawn -/
theorem nm_nd : nm.Nodup := by decide +kernel
theorem rowsOk_of {r : Rows} (hp : (r.map (·.1)).Perm nm) (hv : ∀ p ∈ r, p.2 = 1 ∨ p.2 = 2) : RowsOk r := ⟨hp.nodup_iff.mpr nm_nd, fun f => (hp.mem_iff).symm, hv⟩
theorem rowsOk_rev {r : Rows} (R : RowsOk r) : RowsOk r.reverse := ⟨by rw [List.map_reverse]; exact (List.reverse_perm _).nodup_iff.mpr R.nd, fun f => by rw [List.map_reverse, List.mem_reverse]; exact R.mem f, fun p hp => R.pos p (List.mem_reverse.mp hp)⟩
theorem rowsD_rev (r : Rows) : D.lst (r.map rowD).reverse = rowsD r.reverse := by
  unfold rowsD
  rw [List.map_reverse]
theorem ok_strs {zs : List Str} (h : ∀ z ∈ zs, z ∈ ans) : (D.lst (zs.map D.str)).ok = true := by
  have all : D.plL (zs.map D.str) = true ∧ PyData.canLayAll0 (D.pyL (zs.map D.str)) = true ∧ PyData.depthAll (D.pyL (zs.map D.str)) = 0 := by
    induction zs with
    | nil => exact ⟨by rw [List.map_nil, D.plL], by rw [List.map_nil, D.pyL, PyData.canLayAll0], by rw [List.map_nil, D.pyL, PyData.depthAll]⟩
    | cons z zs ih =>
      obtain ⟨h1, h2, h3⟩ := ih fun x hx => h x (List.mem_cons_of_mem _ hx)
      have hz : PyData.strOk z = true := (show ∀ z ∈ ans, PyData.strOk z = true by decide +kernel) z (h z (List.mem_cons_self ..))
      refine ⟨?_, ?_, ?_⟩
      · rw [List.map_cons, D.plL, h1]; rfl
      · rw [List.map_cons, D.pyL, PyData.canLayAll0, h2, D.py, PyData.canLay0, hz]; rfl
      · rw [List.map_cons, D.pyL, PyData.depthAll, h3]; rfl
  unfold D.ok SeqAt.shaped
  rw [D.pl, D.py, PyData.canLay0, all.1, all.2.1, PyData.depth, all.2.2]
  rfl
theorem eqD_strs (zs : List Str) : eqD (.lst (zs.map D.str)) (.lst (zs.map D.str)) = true := by
  unfold eqD
  rw [D.py, PyData.eqv]
  induction zs with
  | nil => rw [List.map_nil, D.pyL, PyData.eqvAll]
  | cons z zs ih =>
    rw [List.map_cons, D.pyL, PyData.eqvAll, ih]
    have := eqD_str z z
    unfold eqD at this
    rw [this, decide_eq_true rfl]
    rfl
theorem eqD_ints (ns : List Int) : eqD (.lst (ns.map D.int)) (.lst (ns.map D.int)) = true := by
  unfold eqD
  rw [D.py, PyData.eqv]
  induction ns with
  | nil => rw [List.map_nil, D.pyL, PyData.eqvAll]
  | cons z zs ih =>
    rw [List.map_cons, D.pyL, PyData.eqvAll, ih]
    have := eqD_int z z
    unfold eqD at this
    rw [this, decide_eq_true rfl]
    rfl
end K29
set_option Elab.async false
set_option maxRecDepth 100000
set_option maxHeartbeats 400000
set_option linter.all false
namespace K29
open PySem L2 StX PyProof.Rows PySem.Spec DL
theorem nm_D : D.lst [.str "a", .str "b", .str "f", .str "g", .str "p"] = .lst (nm.map D.str) := rfl
section
variable {P : Program} {w : World} {K : PySem.W.Frag} {mg : Str → Option Value} {base : Heap} {C : Addr}
theorem xe_mix {Γ : List Sl} {j n : Nat} {te : TE} {L : List D} (hj : Γ[j]? = some (.st n)) (he : ED K te Γ (.lst L)) (hn : n + L.length < 4294967296) (hl : L.length ≤ 16777216) :
    XE K (tCall (spO K RMix PreMix) [] E0 (tCons (tVar j) (tCons te tNil))) Γ fun g d => g = Γ.set j (.st (n + L.length)) ∧ ∃ L', d = .lst L' ∧ L'.Perm L :=
  xe_call (j := j) (R := fun g ds es => g = Γ ∧ ds = [] ∧ es = [.lst L]) (xa_own hj True.intro (xb_ea (ea_cons he ea_nil) ⟨rfl, rfl, rfl⟩)) fun g ds es ⟨e1, e2, e3⟩ => by
    subst e1 e2 e3
    refine ⟨.st n, hj, True.intro, ⟨n, L, rfl, hn, rfl, rfl, hl⟩, fun s' d ⟨n', L1, L', h1, h2, h3, h4, h5⟩ => ?_⟩
    cases h1
    cases h2
    subst h3
    exact ⟨rfl, L', h4, h5⟩
/-- the rows -/
theorem xe_rowsDrawn {n : Nat} (hn : n ≤ 100000) {s2 s3 s4 s5 s6 s7 s8 s9 s10 s11 s12 s13 s14 s15 : Sl} : XE K (tLc (iList K (tCall (spO K RMix PreMix) [] E0 (tCons (tVar 1) (tCons (tLst (tCons (tC (.str "a")) (tCons (tC (.str "b")) (tCons (tC (.str "f")) (tCons (tC (.str "g")) (tCons (tC (.str "p")) tNil)))))) tNil)))) (gName 16) tYes
      (tTup (tCons (tVar 16) (tCons (tOp (rAddU K) (tC (.int 1)) (tCall (spO K RDraw PreDraw) [] E0 (tCons (tVar 1) (tCons (tC (.int 2)) tNil)))) tNil))) [16]) ([.no, .st (n), s2, s3, s4, s5, s6, s7, s8, s9, s10, s11, s12, s13, s14, s15, .no, .no, .no] : List Sl) fun g d => ∃ n' r, RowsOk r ∧ r.length = 5 ∧ n' ≤ n + 10 ∧ g = ([.no, .st (n'), s2, s3, s4, s5, s6, s7, s8, s9, s10, s11, s12, s13, s14, s15, .no, .no, .no] : List Sl) ∧ d = rowsD r := by
  refine xe_lcXX (vs := [16]) (M := fun g d => g = ([.no, .st (n + 5), s2, s3, s4, s5, s6, s7, s8, s9, s10, s11, s12, s13, s14, s15, .no, .no, .no] : List Sl) ∧ ∃ zs : List Str, d = .lst (zs.map D.str) ∧ zs.Perm nm) (xe_mono (xe_mix (j := 1) (L := nm.map D.str) rfl (ed_is (ed_lst (ea_cons (ed_str _) (ea_cons (ed_str _) (ea_cons (ed_str _) (ea_cons (ed_str _) (ea_cons (ed_str _) ea_nil))))) (show 5 ≤ sizeLine by decide)) nm_D) (by show n + 5 < _; omega) (by decide)) fun g d ⟨e1, L', e2, e3⟩ => ?_) fun Γ1 d ⟨e1, zs, e2, hp⟩ => ?_
  · obtain ⟨zs, h1, h2⟩ := perm_map_inv D.str e3 rfl
    exact ⟨e1, zs, by rw [e2, h1], h2⟩
  · subst e1
    have hzl : zs.length = 5 := hp.length_eq
    refine ⟨zs.map D.str, fun k Γ acc => ∃ r : Rows, acc = r.map rowD ∧ r.map (·.1) = zs.take k ∧ (∀ p ∈ r, p.2 = 1 ∨ p.2 = 2) ∧ k ≤ 5 ∧ Γ = ([.no, .st (n + 5 + k), s2, s3, s4, s5, s6, s7, s8, s9, s10, s11, s12, s13, s14, s15, .no, .no, .no] : List Sl), e2, fun g k acc ⟨r, _, _, _, _, e⟩ i hi => ?_, ?_, ⟨[], rfl, rfl, fun p hp => absurd hp List.not_mem_nil, by decide, rfl⟩, fun k d Γ1 acc hd ⟨r, ea, er, ev, hk, e⟩ _ => ?_, fun Γ1 acc ⟨r, ea, er, ev, hk, e⟩ => ?_⟩
    · rw [List.mem_singleton.mp hi, e]; rfl
    · rw [List.length_map, hzl]; decide
    · subst e
      rw [List.getElem?_map] at hd
      cases hx : zs[k]? with
      | none => rw [hx] at hd; cases hd
      | some z =>
        rw [hx] at hd
        cases hd
        have hk5 : k < 5 := by rw [← hzl]; exact (List.getElem?_eq_some_iff.mp hx).1
        refine ⟨_, gd_name (Free.of rfl), ?_⟩
        refine xe_tup (xb_ed (ed_var (i := 16) (d := .str z) rfl) (xb_xe (M := fun g d => g = ([.no, .st (n + 5 + k + 1), s2, s3, s4, s5, s6, s7, s8, s9, s10, s11, s12, s13, s14, s15, .dat (.str z), .no, .no] : List Sl) ∧ ∃ v : Int, (v = 1 ∨ v = 2) ∧ d = .int v) (xe_op (M := fun g a => g = ([.no, .st (n + 5 + k), s2, s3, s4, s5, s6, s7, s8, s9, s10, s11, s12, s13, s14, s15, .dat (.str z), .no, .no] : List Sl) ∧ a = .int 1) (R := fun g d => g = ([.no, .st (n + 5 + k + 1), s2, s3, s4, s5, s6, s7, s8, s9, s10, s11, s12, s13, s14, s15, .dat (.str z), .no, .no] : List Sl) ∧ ∃ v : Int, (v = 1 ∨ v = 2) ∧ d = .int v) (xe_ed (ed_int 1) ⟨rfl, rfl⟩) fun g a ⟨e1, e2⟩ => ?_) fun g d ⟨e1, v, hv, e2⟩ => xb_nil ⟨show 2 ≤ sizeLine by decide, ?_, ?_⟩))
        · subst e1 e2
          refine xe_mono (xe_draw (j := 1) (m := 2) rfl (by omega) (ed_int 2) (by decide) (by decide)) fun g d ⟨e1, v, e2, hv⟩ => ?_
          subst e2
          exact ⟨.int (1 + (v : Nat)), vr_addI, e1, _, by omega, rfl⟩
        · rw [e1]
          exact fun i hi => by rw [List.mem_singleton.mp hi]; exact Free.ofD rfl
        · subst e1 e2
          refine ⟨r ++ [(z, v)], by rw [ea, List.map_append]; rfl, by rw [List.map_append, er, take_succ_of hx]; rfl, fun p hp => ?_, by omega, rfl⟩
          rcases List.mem_append.mp hp with q | q
          · exact ev p q
          · rw [List.mem_singleton.mp q]; exact hv
    · rw [List.length_map, hzl] at er hk
      have hz5 : zs.take 5 = zs := by rw [← hzl, List.take_length]
      rw [hz5] at er
      refine ⟨n + 5 + 5, r, rowsOk_of (by rw [er]; exact hp) ev, by rw [← hzl, ← er, List.length_map], by omega, ?_, by rw [ea]; rfl⟩
      rw [e, List.length_map, hzl]
end
end K29
set_option Elab.async false
set_option maxRecDepth 100000
set_option maxHeartbeats 1000000
set_option linter.all false
namespace K29
open PySem L2 StX PyProof.Rows PySem.Spec DL
theorem rep_str (n : Nat) (z : Str) : (List.replicate n [D.str z]).flatten = (List.replicate n z).map D.str := by
  induction n with
  | zero => rfl
  | succ n ih => rw [List.replicate_succ, List.flatten_cons, ih, List.replicate_succ, List.map_cons]; rfl
theorem ed_rep {K : PySem.W.Frag} {Γ : List Sl} {te : TE} {n : Nat} (z : Str) (h : ED K te Γ (.int (n : Nat))) (hn : n ≤ 1000) : ED K (tOp rMulU (tLst (tCons (tC (.str z)) tNil)) te) Γ (.lst ((List.replicate n z).map D.str)) := by
  have hz : (1001 : Nat) ≤ sizeLine := by decide
  have q := ed_op (ed_lst (ea_cons (ed_str (K := K) z) ea_nil) (show 1 ≤ sizeLine by decide)) h (vr_rep (xs := [D.str z]) (k := (n : Int)) (by omega) (by omega) (by show 1 * ((n : Int).toNat) ≤ sizeLine; omega))
  rw [Int.toNat_natCast, rep_str] at q
  exact q
theorem ed_p {K : PySem.W.Frag} {Γ : List Sl} {te : TE} {x : W} (h : ED K te Γ (enc x)) : ED K (tTup (tCons (tC (.str "p")) (tCons te tNil))) Γ (enc (pW x)) := by
  unfold pW
  rw [enc_app]
  exact ed_tup (ea_cons (ed_str _) (ea_cons h ea_nil)) (show 2 ≤ sizeLine by decide)
theorem ed_neg1 {K : PySem.W.Frag} {Γ : List Sl} : ED K (tUn (rU fun i => .int (-i)) (tC (.int 1))) Γ (.int (-1)) := ed_un (ed_int 1) fun T H x _ r Q q => by
  cases r
  exact ⟨1, rfl, q _ H (Ex.refl H) (.int _)⟩
theorem at_last {ds : List D} {d : D} (h : ds[ds.length - 1]? = some d) : atI ds (-1) = some d := by
  have hl := (List.getElem?_eq_some_iff.mp h).1
  unfold atI ixN
  rw [if_neg (by decide), if_pos (by omega)]
  show ds[((-1 : Int) + (ds.length : Int)).toNat]? = some d
  rw [show ((-1 : Int) + (ds.length : Int)).toNat = ds.length - 1 by omega]
  exact h
section
variable {P : Program} {w : World} {K : PySem.W.Frag} {mg : Str → Option Value} {base : Heap} {C : Addr}
theorem xe_down {Γ : List Sl} {n i j : Nat} {r : Rows} {du : List W} (hs : Γ[1]? = some (.st n)) (hi : Γ[i]? = some (.dat (ordD C r))) (hj : Γ[j]? = some (.dat (.lst (du.map enc)))) (hR : RowsOk r) (ok : ∀ x ∈ du, okW 5 x = true) (hne : du ≠ []) (up : Up r du) (hl : du.length ≤ 1000) (hn : n < 2000000000) :
    XE K (tCall (spO K (RDown C 5) (PreDown C 5)) [] E0 (tCons (tVar 1) (tCons (tVar i) (tCons (tVar j) tNil)))) Γ fun g d => ∃ n' v : Nat, g = Γ.set 1 (.st n') ∧ n' ≤ n + 1001 ∧ d = .int (v : Nat) ∧ v ≤ du.length :=
  xe_call (j := 1) (R := fun g ds es => g = Γ ∧ ds = [] ∧ es = [ordD C r, .lst (du.map enc)]) (xa_own hs True.intro (xb_ea (ea_cons (ed_var hi) (ea_cons (ed_var hj) ea_nil)) ⟨rfl, rfl, rfl⟩)) fun g ds es ⟨e1, e2, e3⟩ => by
    subst e1 e2 e3
    refine ⟨.st n, hs, True.intro, ⟨n, r, du, rfl, rfl, rfl, hR, ok, hne, up, hl, hn⟩, fun s' d ⟨n0, r', ws', n', v, h1, h2, h3, h4, h5, h6⟩ => ?_⟩
    cases h1
    subst h3
    have e := congrArg List.length (D.lst.inj (List.cons.inj (List.cons.inj h2).2).1)
    rw [List.length_map, List.length_map] at e
    exact ⟨n', v, rfl, h4, h5, by omega⟩
theorem fn_raw {P : Program} {w : World} {K : PySem.W.Frag} {mg : Str → Option Value} {base : Heap} {k : Nat} {x : Str} {ps : List Str} {sp : Sp} {st : Stmt} {N : List Str} {f : Addr} {fd : FuncData} (F : FunD K x x (defArgs st) (defBody st) (defScope st) [] [] f fd) (S : FnScope N ps (defScope st)) (hl : ∀ vs H Q E, sp vs H Q E → vs.length = ps.length)
    (body : ∀ (f : Addr) (cdv : Value) (A : Around) (outer : List Env) (s : Shared) (H : Hp) (E : XK), Room k (A.deeper (envOfC x (defScope st) s.heap.objs.size f cdv)) →
      ∃ t, PSs (cxOf CX0 P w K mg base N x (defScope st) f cdv A outer s H E).nox (defBody st) t ∧ ∀ (H : Hp) (vs : List V) (Q : VK) (E : XK), sp vs H Q E → t { nx := fun _ H' => Q .non H', rt := Q } (start N vs) H) : FnOk P w K mg base CX0 (k + 1) f fd ps sp :=
  F.ok S hl fun cdv A outer s H vs Q E hr h => by
    obtain ⟨t, ht, hx⟩ := body f cdv A outer s H E hr
    exact ⟨t, ht.nox, hx H vs Q E h⟩
theorem use_xs {K : PySem.W.Frag} {S : Addr → Prop} {O : Os} {H : Hp} {σ : L2.St} {Γ : List Sl} {P : Po} {t : TS} {E : Ends} (e : EnvOk K S O H σ Γ) (main : XS K [] t Γ P) (a : ∀ Γ' O' σ' H', P.nx Γ' → Nx K S [] O H σ O' H' σ' Γ' → E.nx σ' H')
    (b : ∀ Γ' d O' σ' v H', P.rt Γ' d → Nx K S [] O H σ O' H' σ' Γ' → Rp K (T S O') H' v d → E.rt v H') (c : ∀ Γ' O' σ' H', P.bk Γ' → Nx K S [] O H σ O' H' σ' Γ' → E.bk σ' H') (d : ∀ Γ' O' σ' H', P.ct Γ' → Nx K S [] O H σ O' H' σ' Γ' → E.ct σ' H') : t E σ H := main S O σ H e E a b c d
def spLaw (K : PySem.W.Frag) : Sp := fun vs H Q _ => ∃ (a : Addr) (ns : List Int), vs = [.ref a] ∧ SqL K H a (ns.map V.int) ∧ ns.length ≤ 63 ∧ (∀ z ∈ ns, z.natAbs < 2 ^ 1048576) ∧ ∀ H', Q (.bl true) H'
abbrev s_law : Stmt := top 42
abbrev N_law : List Str := ["script", "stream", "turn", "rows", "arities", "known", "words", "weight", "order", "due", "at", "word", "found", "atoms", "weights", "other", "name", "far", "one"]
theorem sc_law : FnScope N_law ["script"] (defScope s_law) := ⟨rfl, rfl, rfl, by decide +kernel, rfl, by decide +kernel, by decide +kernel⟩
theorem b_law : BindsH "law" s_law ["script"] := fun _ _ _ _ _ _ us hl => match us, hl with | [_], _ => rfl
theorem law_open {rest : TS} {H : Hp} {Q : VK} {a : Addr} {ns : List Int} (ha : SqL K H a (ns.map V.int)) (hl : ns.length ≤ 63) (hb : ∀ z ∈ ns, z.natAbs < 2 ^ 1048576) (q : ∀ H', Q (.bl true) H')
    (main : XS K [] rest [.no, .st (0), .no, .no, .no, .no, .no, .no, .no, .no, .no, .no, .no, .no, .no, .no, .no, .no, .no] { nx := fun _ => False, rt := fun _ d => d = .bl true }) : tSeq (tAsg (tCall (spStart K) [] E0 (tCons (tVar 0) tNil)) (gName 1)) rest { nx := fun _ H' => Q .non H', rt := Q } (start N_law [.ref a]) H := by
  refine ⟨.ref a, rfl, a, ns, rfl, ha, hl, hb, fun s c H' ex hs hc st => ?_⟩
  have E0' : EnvOk K S0 O0 H (start N_law [.ref a]) (List.replicate 19 .no) := env_flat rfl fun i t h => .inl (by
    rw [List.getElem?_replicate] at h
    split at h
    · exact (Option.some.inj h).symm
    · cases h)
  have n1 := Nx.take (pn := []) (os := [s, c]) (v := .ref s) (s := .st 0) (i := 1) E0' ex (Free.of rfl) (fun a z => by
    obtain ⟨_, _, _, _, g1, g2, _⟩ := st.ex
    rcases List.mem_cons.mp z with e | e
    · rw [e]; exact ⟨hs, .inl ⟨_, g1⟩⟩
    · rw [List.mem_singleton.mp e]; exact ⟨hc, .inl ⟨_, g2⟩⟩) ⟨s, c, rfl, rfl, st⟩ List.not_mem_nil
  show rest { nx := fun _ H' => Q .non H', rt := Q } ((start N_law [.ref a]).set 1 (some (.ref s))) H'
  refine main S0 _ _ H' n1.env _ (fun _ _ _ _ z _ => z.elim) (fun Γ' d O' σ' v H2 e _ r => ?_) (fun _ _ _ _ z _ => z.elim) (fun _ _ _ _ z _ => z.elim)
  subst e
  cases r
  exact q H2
theorem ok_law {fL : Addr} {fdL : FuncData} (F : FunD K "law" "law" (defArgs s_law) (defBody s_law) (defScope s_law) [] [] fL fdL) (T : Txt K mg C)
    (C_law_start : Cal P w K mg base 1 "_law_start" ["script"] (spStart K)) (C_law_draw : Cal P w K mg base 1 "_law_draw" ["stream", "many"] (spO K RDraw PreDraw)) (C_law_mixed : Cal P w K mg base 2 "_law_mixed" ["stream", "some"] (spO K RMix PreMix))
    (C_law_of_weight : Cal P w K mg base 9 "_law_of_weight" ["rows", "arities", "weight", "known"] (spO K RO (PreO 4))) (NW : New P w K mg base 2 C) (C_law_sorted : Cal P w K mg base 8 "_law_sorted" ["rows", "words"] (spP K (RSorted 5)))
    (C_compare : Cal P w K mg base 10 "compare" ["order", "one", "other"] (spP K (RCmp C 5))) (C_law_same : Cal P w K mg base 3 "_law_same" ["found", "due"] (spP K RSame2)) (C_law_d_weight : Cal P w K mg base 6 "_law_d_weight" ["weights", "word"] (spP K (RWt 5)))
    (C_law_down : Cal P w K mg base 11 "_law_down" ["stream", "order", "words"] (spO K (RDown C 5) (PreDown C 5))) : FnOk P w K mg base CX0 12 fL fdL ["script"] (spLaw K) := by
  refine fn_raw F sc_law (fun vs H Q E ⟨a, ns, h, _⟩ => by rw [h]; rfl) fun f cdv A outer s H E hr => ?_
  have nd := sc_law.nd
  obtain ⟨fI, fdI, F_Order, M_Order, B_Order⟩ := NW.ex
  refine ⟨_, (pss_cons (ps_set (i := 1) nd rfl (by first | exact Or.inl rfl | exact Or.inr rfl) (pe_cal C_law_start (hr.mono (by omega)) (pa_cons (pv 0) pa_nil)))
    (pss_cons (ps_for PassesOwn.never rfl (pi_range1 (by rfl) T.f_range (pa_cons pe_int pa_nil)) (pg_name (i := 2) nd rfl (by first | exact Or.inl rfl | exact Or.inr rfl)) (pss_cons (ps_set (i := 3) nd rfl (by first | exact Or.inl rfl | exact Or.inr rfl) (pe_lc (own := [("name", 16)]) rfl nd (pi_list (pe_cal C_law_mixed (hr.mono (by omega)) (pa_cons (pv 1) (pa_cons (pe_lst (pa_cons pe_str (pa_cons pe_str (pa_cons pe_str (pa_cons pe_str (pa_cons pe_str pa_nil)))))) pa_nil)))) (blkOk_by (own := [("name", 16)]) (N := N_law) (sc := defScope s_law) (by decide +kernel)) (fun _ _ _ _ _ => (pg_name (i := 16) nd rfl (by first | exact Or.inl rfl | exact Or.inr rfl))) (fun _ _ _ _ _ => pts_nil) (fun _ _ _ _ _ => (pe_tup (pa_cons (pv 16) (pa_cons (pe_op (k_add K rfl) pe_int (pe_cal C_law_draw (hr.mono (by omega)) (pa_cons (pv 1) (pa_cons pe_int pa_nil)))) pa_nil))))))
    (pss_cons (ps_par3 (i := 4) (j := 5) (l := 6) rfl nd rfl rfl rfl (by decide) (by decide) (by decide) rfl rfl rfl (pa_cons (pe_lst (pa_cons (pe_tup (pa_cons pe_str (pa_cons pe_int pa_nil))) (pa_cons (pe_tup (pa_cons pe_str (pa_cons pe_int pa_nil))) (pa_cons (pe_tup (pa_cons pe_str (pa_cons pe_int pa_nil))) (pa_cons (pe_tup (pa_cons pe_str (pa_cons pe_int pa_nil))) pa_nil))))) (pa_cons pe_dnewK (pa_cons (pe_lst pa_nil) pa_nil))) (by with_unfolding_all rfl))
    (pss_cons (ps_for PassesOwn.never rfl (pi_range2 (by rfl) T.f_range (pa_cons pe_int (pa_cons pe_int pa_nil))) (pg_name (i := 7) nd rfl (by first | exact Or.inl rfl | exact Or.inr rfl)) (pss_one (ps_expr (pe_bm PySem.F.plainAttrs_list PySem.F.slot_list_extend PySem.F.type_list_extend mt_extend (pv 6) (pa_cons (pe_cal C_law_of_weight (hr.mono (by omega)) (pa_cons (pv 3) (pa_cons (pv 4) (pa_cons (pv 7) (pa_cons (pv 5) pa_nil))))) pa_nil)))))
    (pss_cons (ps_set (i := 6) nd rfl (by first | exact Or.inl rfl | exact Or.inr rfl) (pe_slice (k_sl K rfl) (pe_cal C_law_mixed (hr.mono (by omega)) (pa_cons (pv 1) (pa_cons (pv 6) pa_nil))) po_none (po_some pe_int)))
    (pss_cons (ps_asg (pe_tup (pa_cons (pe_make M_Order F_Order (hr.mono (by omega)) (by rfl) T.g_Order B_Order .nil pass0 (pa_cons (pv 3) pa_nil)) (pa_cons (pe_cal C_law_sorted (hr.mono (by omega)) (pa_cons (pv 3) (pa_cons (pv 6) pa_nil))) pa_nil))) (k_tup K (n := 2) rfl rfl (pgs_cons (pg_name (i := 8) nd rfl (by first | exact Or.inl rfl | exact Or.inr rfl)) (pgs_cons (pg_name (i := 9) nd rfl (by first | exact Or.inl rfl | exact Or.inr rfl)) pgs_nil))))
    (pss_cons (ps_for PassesOwn.never rfl (pi_enumU (by rfl) T.f_enumerate (pa_cons (pv 9) pa_nil)) (k_tup K (n := 2) rfl rfl (pgs_cons (pg_name (i := 10) nd rfl (by first | exact Or.inl rfl | exact Or.inr rfl)) (pgs_cons (pg_name (i := 11) nd rfl (by first | exact Or.inl rfl | exact Or.inr rfl)) pgs_nil))) (pss_cons (ps_setLc (i := 12) (own := [("far", 17)]) rfl nd rfl rfl (sw_true rfl rfl rfl (by decide +kernel)) (pi_list (pv 9)) (blkOk_by (own := [("far", 17)]) (N := N_law) (sc := defScope s_law) (by decide +kernel)) (fun _ _ _ _ _ => (pg_name (i := 17) nd rfl (by first | exact Or.inl rfl | exact Or.inr rfl))) (fun _ _ _ _ _ => pts_nil) (fun _ _ _ _ _ => (pe_cal C_compare (hr.mono (by omega)) (pa_cons (pv 8) (pa_cons (pv 11) (pa_cons (pv 17) pa_nil))))))
    (pss_cons (ps_if (pt_not (pt_val (pe_cal C_law_same (hr.mono (by omega)) (pa_cons (pv 12) (pa_cons (pe_op (k_add K rfl) (pe_op (k_add K rfl) (pe_op o_mul (pe_lst (pa_cons pe_str pa_nil)) (pv 10)) (pe_lst (pa_cons pe_str pa_nil))) (pe_op o_mul (pe_lst (pa_cons pe_str pa_nil)) (pe_op o_sub (pe_op o_sub (pe_callB (k_len K rfl) (by rfl) T.f_len (by decide +kernel) (pa_cons (pv 9) pa_nil)) (pv 10)) pe_int))) pa_nil))))) (pss_one (ps_ret pe_bl)) pss_nil)
    (pss_cons (ps_setLc (i := 13) (own := [("far", 17)]) rfl nd rfl rfl (sw_true rfl rfl rfl (by decide +kernel)) (pi_list (pe_slice (k_sl K rfl) (pv 9) po_none (po_some (pv 10)))) (blkOk_by (own := [("far", 17)]) (N := N_law) (sc := defScope s_law) (by decide +kernel)) (fun _ _ _ _ _ => (pg_name (i := 17) nd rfl (by first | exact Or.inl rfl | exact Or.inr rfl))) (fun _ _ _ _ _ => pts_nil) (fun _ _ _ _ _ => (pe_cal C_compare (hr.mono (by omega)) (pa_cons (pv 8) (pa_cons (pe_tup (pa_cons pe_str (pa_cons (pv 11) pa_nil))) (pa_cons (pe_tup (pa_cons pe_str (pa_cons (pv 17) pa_nil))) pa_nil))))))
    (pss_one (ps_if (pt_cmpR (k_ne K rfl (hu64 hr)) (pv 13) (pe_op o_mul (pe_lst (pa_cons pe_str pa_nil)) (pv 10)) (nomark _)) (pss_one (ps_ret pe_bl)) pss_nil))))))
    (pss_cons (ps_setLc (i := 14) (own := [("word", 11)]) rfl nd rfl rfl (sw_true rfl rfl rfl (by decide +kernel)) (pi_list (pv 9)) (blkOk_by (own := [("word", 11)]) (N := N_law) (sc := defScope s_law) (by decide +kernel)) (fun _ _ _ _ _ => (pg_name (i := 11) nd rfl (by first | exact Or.inl rfl | exact Or.inr rfl))) (fun _ _ _ _ _ => pts_nil) (fun _ _ _ _ _ => (pe_cal C_law_d_weight (hr.mono (by omega)) (pa_cons (pe_callTy (k_dict K rfl rfl) (by rfl) T.f_dict (by decide +kernel) (pa_cons (pv 3) pa_nil)) (pa_cons (pv 11) pa_nil)))))
    (pss_cons (ps_if (PW.pt (pw_or (pt_cmpR (k_ne K rfl (hu64 hr)) (pv 14) (pe_callB (k_sortedI K rfl) (by rfl) T.f_sorted (by decide +kernel) (pa_cons (pv 14) pa_nil)) (nomark _)) (pw_or1 (pt_cmpR o_gt (pe_cal C_law_down (hr.mono (by omega)) (pa_cons (pv 1) (pa_cons (pv 8) (pa_cons (pv 9) pa_nil)))) (pe_callB (k_len K rfl) (by rfl) T.f_len (by decide +kernel) (pa_cons (pv 9) pa_nil)) (nomark _))))) (pss_one (ps_ret pe_bl)) pss_nil)
    (pss_cons (ps_set (i := 15) nd rfl (by first | exact Or.inl rfl | exact Or.inr rfl) (pe_make M_Order F_Order (hr.mono (by omega)) (by rfl) T.g_Order B_Order .nil pass0 (pa_cons (pe_revL (pv 3)) pa_nil)))
    (pss_cons (ps_setLc (i := 12) (own := [("one", 18)]) rfl nd rfl rfl (sw_true rfl rfl rfl (by decide +kernel)) (pi_tup (pe_tup (pa_cons (pv 8) (pa_cons (pv 15) (pa_cons (pv 8) pa_nil))))) (blkOk_by (own := [("one", 18)]) (N := N_law) (sc := defScope s_law) (by decide +kernel)) (fun _ _ _ _ _ => (pg_name (i := 18) nd rfl (by first | exact Or.inl rfl | exact Or.inr rfl))) (fun _ _ _ _ _ => pts_nil) (fun _ _ _ _ _ => (pe_cal C_compare (hr.mono (by omega)) (pa_cons (pv 18) (pa_cons (pe_ix (k_ix K rfl (hu1 hr)) (pv 9) pe_int (fun _ _ => rfl)) (pa_cons (pe_ix (k_ix K rfl (hu1 hr)) (pv 9) (pe_un un_neg pe_int) (fun _ _ => rfl)) pa_nil))))))
    (pss_one (ps_if (PW.pt (pw_and (pt_cmpR o_gt (pe_callB (k_len K rfl) (by rfl) T.f_len (by decide +kernel) (pa_cons (pv 9) pa_nil)) pe_int (nomark _)) (pw_and1 (pt_not (pt_val (pe_cal C_law_same (hr.mono (by omega)) (pa_cons (pe_by2 (pv 12)) (pa_cons (pe_op o_mul (pe_lst (pa_cons pe_str pa_nil)) pe_int) pa_nil)))))))) (pss_one (ps_ret pe_bl)) pss_nil)))))))))))))
    (pss_one (ps_ret pe_bl)))), ?_⟩
  rintro H vs Q E ⟨a, ns, rfl, ha, hl, hb, q⟩
  have hsz : (5000 : Nat) ≤ sizeLine := by decide
  refine law_open ha hl hb q ?_
  refine xs_seq (M := fun _ => True) (xs_for (vs := [2]) (fun k g => ∃ n, n ≤ 20000 * k ∧ ∃ s2 s3 s4 s5 s6 s7 s8 s9 s10 s11 s12 s13 s14 s15, Nd s2 ∧ Nd s3 ∧ Nd s4 ∧ Nd s5 ∧ Nd s6 ∧ Nd s7 ∧ Nd s8 ∧ Nd s9 ∧ Nd s10 ∧ Nd s11 ∧ Nd s12 ∧ Nd s13 ∧ Nd s14 ∧ Nd s15 ∧ g = [.no, .st (n), s2, s3, s4, s5, s6, s7, s8, s9, s10, s11, s12, s13, s14, s15, .no, .no, .no]) (it_rng1 (j := 2) (ea_cons (ed_int 2) ea_nil) (by decide) (by decide)) ⟨0, Nat.zero_le _, .no, .no, .no, .no, .no, .no, .no, .no, .no, .no, .no, .no, .no, .no, Nd.no, Nd.no, Nd.no, Nd.no, Nd.no, Nd.no, Nd.no, Nd.no, Nd.no, Nd.no, Nd.no, Nd.no, Nd.no, Nd.no, rfl⟩ nopin (fun t d Γ1 hd ⟨n, hn, s2, s3, s4, s5, s6, s7, s8, s9, s10, s11, s12, s13, s14, s15, n2, n3, n4, n5, n6, n7, n8, n9, n10, n11, n12, n13, n14, n15, e⟩ => ?_) fun Γ1 _ => True.intro) fun g _ => xs_ret (ed_bl true) rfl
  subst e
  have ht : t < 2 := (List.getElem?_eq_some_iff.mp hd).1
  have hd' : d = .int (t : Nat) := by
    have := rangeD_get (lo := 0) (n := (2 : Int).toNat) (i := t) ht
    rw [this] at hd
    have e := Option.some.inj hd
    rw [← e, Int.zero_add]
  subst hd'
  refine ⟨_, gd_name (freeNd rfl n2), ?_⟩
  -- the rows
  refine xs_seq (M := fun g => ∃ n' r, RowsOk r ∧ r.length = 5 ∧ n' ≤ n + 10 ∧ g = [.no, .st (n'), .dat (.int (t : Nat)), .dat (rowsD r), s4, s5, s6, s7, s8, s9, s10, s11, s12, s13, s14, s15, .no, .no, .no]) (xs_asgX (xe_rowsDrawn (n := n) (by omega)) List.not_mem_nil fun g d ⟨n', r, hR, hl, hn, e1, e2⟩ => ?_) fun g ⟨n', r, hR, hrl, hn', e⟩ => ?_
  · subst e1 e2
    exact ⟨freeNd rfl n3, n', r, hR, hl, hn, rfl⟩
  subst e
  have V := vok hR
  refine xs_then (xs_par3 (a := artD) (ed_lst (ea_cons (ed_tup (ea_cons (ed_str _) (ea_cons (ed_int 0) ea_nil)) (show 2 ≤ sizeLine by decide)) (ea_cons (ed_tup (ea_cons (ed_str _) (ea_cons (ed_int 0) ea_nil)) (show 2 ≤ sizeLine by decide)) (ea_cons (ed_tup (ea_cons (ed_str _) (ea_cons (ed_int 1) ea_nil)) (show 2 ≤ sizeLine by decide)) (ea_cons (ed_tup (ea_cons (ed_str _) (ea_cons (ed_int 2) ea_nil)) (show 2 ≤ sizeLine by decide)) ea_nil)))) (show 4 ≤ sizeLine by decide)) en_dnew (en_lst ea_nil (Nat.zero_le _)) (freeNd rfl n4) (freeNd rfl n5) (freeNd rfl n6) List.not_mem_nil List.not_mem_nil List.not_mem_nil rfl) ?_
  -- the words, weight by weight
  refine xs_seq (xs_for (vs := [7]) (fun i g => ∃ kk s7, KOk (wv r) kk ∧ Nd s7 ∧ g = [.no, .st (n'), .dat (.int (t : Nat)), .dat (rowsD r), .dat artD, .md kk, .ml (((List.range i).flatMap fun (j : Nat) => G (wv r) (1 + (j : Int))).map enc), s7, s8, s9, s10, s11, s12, s13, s14, s15, .no, .no, .no]) (it_rng2 (i := 1) (j := 5) (ea_cons (ed_int 1) (ea_cons (ed_int 5) ea_nil)) (by decide) (by decide) (by decide) (by decide)) ⟨[], s7, KOk.nil _, n7, rfl⟩ nopin (fun i d Γ1 hd ⟨kk, s7, hk, n7, e⟩ => ?_) fun Γ1 h => h) fun g ⟨kk, s7, hk, n7, e⟩ => ?_
  · subst e
    have hi : i < 4 := (List.getElem?_eq_some_iff.mp hd).1
    have hd' : d = .int (1 + (i : Nat)) := by
      have h2 := rangeD_get (lo := 1) (n := 4) (i := i) hi
      have h3 : (rangeD 1 4)[i]? = some d := hd
      rw [h2] at h3
      exact (Option.some.inj h3).symm
    subst hd'
    have pl : ∀ m ≤ 4, ((List.range m).flatMap fun (j : Nat) => G (wv r) (1 + (j : Int))).length ≤ 1000 * m := fun m => by
      induction m with
      | zero => exact fun _ => Nat.zero_le _
      | succ m ih =>
        intro hm
        have h1 := ih (by omega)
        have h2 := V.glen (1 + (m : Int)) (by omega) (by omega)
        rw [List.range_succ, List.flatMap_append, List.length_append]
        simp only [List.flatMap_cons, List.flatMap_nil, List.append_nil]
        omega
    refine ⟨_, gd_name (freeNd rfl n7), ?_⟩
    refine xs_dropX (xe_extendX (i := 6) rfl (xe_ofW (j := 5) (B := 4) (wg := 1 + (i : Int)) rfl (ed_var (i := 3) rfl) (ed_var (i := 4) rfl) (ed_var (i := 7) rfl) hR (by omega) hk (by omega) (by omega)) (R := fun g _ => ∃ kk s7, KOk (wv r) kk ∧ Nd s7 ∧ g = [.no, .st (n'), .dat (.int (t : Nat)), .dat (rowsD r), .dat artD, .md kk, .ml (((List.range (i + 1)).flatMap fun (j : Nat) => G (wv r) (1 + (j : Int))).map enc), s7, s8, s9, s10, s11, s12, s13, s14, s15, .no, .no, .no]) fun g a ⟨k', e1, hk', e2⟩ => ?_) fun g _ h => h
    subst e1 e2
    refine ⟨_, _, rfl, rfl, ?_, k', .dat (.int (1 + (i : Int))), hk', Nd.dat _, ?_⟩
    · rw [List.length_map, List.length_map]
      have h1 := pl i (by omega)
      have h2 := V.glen (1 + (i : Int)) (by omega) (by omega)
      omega
    · rw [List.range_succ, List.flatMap_append, List.map_append]
      simp only [List.flatMap_cons, List.flatMap_nil, List.append_nil]
      rfl
  subst e
  have hall : ((List.range (rangeD 1 ((5 : Int) - 1).toNat).length).flatMap fun (j : Nat) => G (wv r) (1 + (j : Int))) = allW (wv r) := by
    show ((List.range 4).flatMap fun (j : Nat) => G (wv r) (1 + (j : Int))) = allW (wv r)
    unfold allW
    rw [show List.range 4 = [0, 1, 2, 3] from rfl]
    simp only [List.flatMap_cons, List.flatMap_nil, List.append_nil, List.append_assoc]
    rfl
  rw [hall]
  refine xs_freeze (i := 6) rfl List.not_mem_nil (xs_freezeD (i := 5) rfl List.not_mem_nil ?_)
  -- shuffled, twenty-four of them
  refine xs_seq (M := fun g => ∃ m ws, m ≤ n' + 1000 ∧ ws.Nodup ∧ (∀ x ∈ ws, okW 4 x = true) ∧ ws.length ≤ 24 ∧ ws ≠ [] ∧ g = [.no, .st (m), .dat (.int (t : Nat)), .dat (rowsD r), .dat artD, .dat (.dic kk), .dat (.lst (ws.map enc)), s7, s8, s9, s10, s11, s12, s13, s14, s15, .no, .no, .no]) (xs_asgX (R := fun g d => ∃ m ws, m ≤ n' + 1000 ∧ ws.Nodup ∧ (∀ x ∈ ws, okW 4 x = true) ∧ ws.length ≤ 24 ∧ ws ≠ [] ∧ g = [.no, .st (m), .dat (.int (t : Nat)), .dat (rowsD r), .dat artD, .dat (.dic kk), .dat (.lst ((allW (wv r)).map enc)), s7, s8, s9, s10, s11, s12, s13, s14, s15, .no, .no, .no] ∧ d = .lst (ws.map enc)) (xe_sl (lo := none) (hi := some 24) (xe_mix (j := 1) (n := n') (L := (allW (wv r)).map enc) rfl (ed_var (i := 6) rfl) (by have := V.al; rw [List.length_map]; omega) (by have := V.al; rw [List.length_map]; omega)) (fun g => eo_none) (fun g => eo_some (ed_int 24)) fun g d ⟨e1, L', e2, e3⟩ => ?_) List.not_mem_nil fun g d ⟨m, ws, h1, h2, h3, h4, h5, e1, e2⟩ => ?_) fun g ⟨m, ws, hm, wnd, wok, wl, wne, e⟩ => ?_
  · subst e2
    obtain ⟨zs, rfl, hz⟩ := perm_map_inv enc e3 rfl
    refine ⟨_, vs_lst, n' + (allW (wv r)).length, zs.take 24, by have := V.al; omega, (List.take_sublist 24 zs).nodup (hz.nodup_iff.mpr V.nd), fun x hx => V.ok x (hz.mem_iff.mp (List.mem_of_mem_take hx)), by rw [List.length_take]; omega, fun h => V.ne ?_, ?_, ?_⟩
    · have hz0 : zs = [] := by
        cases zs with
        | nil => rfl
        | cons a b => cases h
      exact List.Perm.eq_nil (hz0 ▸ hz.symm)
    · rw [e1, List.length_map]
      rfl
    · rw [show (some (24 : Int)) = some ((24 : Nat) : Int) from rfl, cutD_to, List.map_take]
  · subst e1 e2
    exact ⟨Free.ofD rfl, m, ws, h1, h2, h3, h4, h5, rfl⟩
  subst e
  have hdp := sortW_perm r ws
  have wok5 : ∀ x ∈ ws, okW 5 x = true := fun x hx => okW_succ (wok x hx)
  have dok4 : ∀ x ∈ sortW r ws, okW 4 x = true := fun x hx => wok x (hdp.mem_iff.mp hx)
  have dok : ∀ x ∈ sortW r ws, okW 5 x = true := fun x hx => okW_succ (dok4 x hx)
  have dl : (sortW r ws).length ≤ 24 := by rw [hdp.length_eq]; exact wl
  have dup : Up r (sortW r ws) := sortW_up hR wok5 wnd
  have dne : sortW r ws ≠ [] := fun z => wne (List.Perm.eq_nil (z ▸ hdp.symm))
  have dpos : 0 < (sortW r ws).length := List.length_pos_iff.mpr dne
  refine xs_then (xs_asgG (d := .tup [ordD C r, .lst ((sortW r ws).map enc)]) (vs := [8, 9]) (ed_tup (ea_cons (ed_make (ed_var (i := 3) rfl) hR (by omega)) (ea_cons (ed_call (ea_cons (ed_var (i := 3) rfl) (ea_cons (ed_var (i := 6) rfl) ea_nil)) ⟨r, ws, hR, by omega, wok5, by omega, rfl, rfl⟩) ea_nil)) (show 2 ≤ sizeLine by decide)) (gd_tup (gds_cons (gd_name (freeNd rfl n8)) (gds_cons (gd_name (freeNd rfl n9)) gds_nil)) rfl) nopin rfl) ?_
  generalize hdu : sortW r ws = du at dok4 dok dl dup dne dpos ⊢
  -- each against all
  refine xs_seq (xs_for (vs := [10, 11]) (fun _ g => ∃ s10 s11 s12 s13, Nd s10 ∧ Nd s11 ∧ Nd s12 ∧ Nd s13 ∧ g = [.no, .st (m), .dat (.int (t : Nat)), .dat (rowsD r), .dat artD, .dat (.dic kk), .dat (.lst (ws.map enc)), s7, .dat (ordD C r), .dat (.lst (du.map enc)), s10, s11, s12, s13, s14, s15, .no, .no, .no]) (it_enumUL (ea_cons (ed_var (i := 9) rfl) ea_nil)) ⟨s10, s11, s12, s13, n10, n11, n12, n13, rfl⟩ nopin (fun i d Γ1 hd ⟨s10, s11, s12, s13, n10, n11, n12, n13, e⟩ => ?_) fun Γ1 h => h) fun g ⟨s10, s11, s12, s13, n10, n11, n12, n13, e⟩ => ?_
  · subst e
    have hi : i < du.length := by
      have := (List.getElem?_eq_some_iff.mp hd).1
      simpa [enumD] using this
    have hx : du[i]? = some du[i] := List.getElem?_eq_getElem hi
    generalize du[i] = x at hx
    have hde : d = .tup [.int (i : Nat), enc x] := by
      have := enumD_get (ds := du.map enc) (i := i) (d := enc x) (by rw [List.getElem?_map, hx]; rfl)
      rw [this] at hd
      exact (Option.some.inj hd).symm
    subst hde
    have xo := dok x (List.mem_of_getElem? hx)
    have row := row_is hR dok dup hx
    have ansA : ∀ z ∈ List.replicate i ("above" : Str), z ∈ ans := fun z hz => by rw [List.eq_of_mem_replicate hz]; decide +kernel
    refine ⟨_, gd_tup (gds_cons (gd_name (freeNd rfl n10)) (gds_cons (gd_name (freeNd rfl n11)) gds_nil)) rfl, ?_⟩
    refine xs_then (xs_asg (d := .lst ((du.map (cmp r x)).map D.str)) (ed_is (ed_map enc (fun y => D.str (cmp r x y)) (IT.ip (it_list (ed_var (i := 9) rfl))) (free1 rfl) (by omega) fun y hy => ⟨_, gd_name (Free.of rfl), ed_call (ea_cons (ed_var (i := 8) rfl) (ea_cons (ed_var (i := 11) rfl) (ea_cons (ed_var (i := 17) rfl) ea_nil))) ⟨r, x, y, hR, xo, dok y hy, rfl, rfl⟩⟩) (by rw [List.map_map]; rfl)) (freeNd rfl n12) List.not_mem_nil rfl) ?_
    refine xs_skip (et_not (x := true) (et_B (ed_call (ea_cons (ed_var (i := 12) rfl) (ea_cons (ed_is (ed_op (ed_op (ed_rep "above" (n := i) (ed_var (i := 10) rfl) (by omega)) (ed_lst (ea_cons (ed_str "same") ea_nil) (show 1 ≤ sizeLine by decide)) (vr_addL (by rw [List.length_map, List.length_replicate]; show i + 1 ≤ sizeLine; omega))) (ed_rep "below" (n := du.length - i - 1) (ed_is (ed_op (ed_op (ed_is (ed_cb (ea_cons (ed_var (i := 9) rfl) ea_nil) vc_lenL) (by rw [List.length_map])) (ed_var (i := 10) rfl) vr_sub) (ed_int 1) vr_sub) (by congr 1; omega)) (by omega)) (vr_addL (by simp; omega))) (show _ = D.lst ((du.map (cmp r x)).map D.str) by rw [row, List.map_append, List.map_append]; rfl)) ea_nil)) ⟨du.map (cmp r x), fun z hz => by
        obtain ⟨y, _, rfl⟩ := List.mem_map.mp hz
        exact cmp_ans r x y, by rw [List.length_map]; omega, rfl, rfl⟩))) ?_
    refine xs_then (xs_asg (d := .lst ((List.replicate i ("above" : Str)).map D.str)) (ed_is (ed_map (xs := du.take i) enc (fun y => D.str (cmp r (pW x) (pW y))) (IT.ip (it_list (ed_is (ed_sl (ed_var (i := 9) rfl) eo_none (eo_some (ed_var (i := 10) rfl)) vs_lst) (by rw [cutD_to, List.map_take])))) (free1 rfl) (by rw [List.length_take]; omega) fun y hy => ⟨_, gd_name (Free.of rfl), ed_call (ea_cons (ed_var (i := 8) rfl) (ea_cons (ed_p (ed_var (i := 11) rfl)) (ea_cons (ed_p (ed_var (i := 17) rfl)) ea_nil))) ⟨r, pW x, pW y, hR, pW_ok (dok4 x (List.mem_of_getElem? hx)), pW_ok (dok4 y (List.mem_of_mem_take hy)), rfl, rfl⟩⟩) (by rw [← atoms_is dup hx, List.map_map]; rfl)) (freeNd rfl n13) List.not_mem_nil rfl) ?_
    exact xs_if0 (et_ne (ed_var (i := 13) rfl) (ed_rep "above" (n := i) (ed_var (i := 10) rfl) (by omega)) (ok_strs ansA) (ok_strs ansA) (by rw [eqD_strs]; rfl)) (xs_next ⟨_, _, _, _, Nd.dat _, Nd.dat _, Nd.dat _, Nd.dat _, rfl⟩)
  subst e
  -- the weights, the way down
  refine xs_then (xs_asg (d := .lst ((du.map (wt r)).map D.int)) (ed_is (ed_map enc (fun y => D.int (wt r y)) (IT.ip (it_list (ed_var (i := 9) rfl))) (fun i hi => by rw [List.mem_singleton.mp hi]; exact freeNd rfl n11) (by omega) fun y hy => ⟨_, gd_name (Free.of rfl), ed_call (ea_cons (ed_dictR (ed_var (i := 3) rfl) hR) (ea_cons (ed_var (i := 11) rfl) ea_nil)) ⟨r, y, hR, dok y hy, rfl, rfl⟩⟩) (by rw [List.map_map]; rfl)) (freeNd rfl n14) List.not_mem_nil rfl) ?_
  refine xs_skipX (M := fun g => ∃ m', m' ≤ m + 1001 ∧ g = [.no, .st (m'), .dat (.int (t : Nat)), .dat (rowsD r), .dat artD, .dat (.dic kk), .dat (.lst (ws.map enc)), s7, .dat (ordD C r), .dat (.lst (du.map enc)), s10, s11, s12, s13, .dat (.lst ((du.map (wt r)).map D.int)), s15, .no, .no, .no]) (xt_or0 (et_ne (ed_var (i := 14) rfl) (ed_sorted (ns := du.map (wt r)) (ed_var (i := 14) rfl) (wts_up dup)) (ok_ints _) (ok_ints _) (by rw [eqD_ints]; rfl)) (xt_test (xe_op (xe_down (n := m) (i := 8) (j := 9) rfl rfl rfl hR dok dne dup (by omega) (by omega)) fun g a ⟨m', v, e1, h1, e2, h2⟩ => ?_))) fun g ⟨m', hm', e⟩ => ?_
  · subst e1 e2
    refine xe_ed (ed_cb (ea_cons (ed_var (i := 9) rfl) ea_nil) vc_lenL) ⟨_, vr_gt, _, rfl, ?_, m', h1, rfl⟩
    exact decide_eq_false (by rw [List.length_map]; omega)
  subst e
  -- the rows turned
  refine xs_then (xs_asg (ed_make (r := r.reverse) (ed_is (ed_rev (ed_var (i := 3) rfl)) (rowsD_rev r)) (rowsOk_rev hR) (by rw [List.length_reverse]; omega)) (freeNd rfl n15) List.not_mem_nil rfl) ?_
  have h0 : du[0]? = some du[0] := List.getElem?_eq_getElem dpos
  have h1 : du[du.length - 1]? = some du[du.length - 1] := List.getElem?_eq_getElem (by omega)
  generalize du[0] = x0 at h0
  generalize du[du.length - 1] = x1 at h1
  have o0 := dok _ (List.mem_of_getElem? h0)
  have o1 := dok _ (List.mem_of_getElem? h1)
  refine xs_then (xs_asg (d := .lst [.str (cmp r x0 x1), .str (cmp r.reverse x0 x1), .str (cmp r x0 x1)]) (ed_map (xs := [r, r.reverse, r]) (ordD C) (fun q => D.str (cmp q x0 x1)) (IT.ip (it_tup (ed_tup (ea_cons (ed_var (i := 8) rfl) (ea_cons (ed_var (i := 15) rfl) (ea_cons (ed_var (i := 8) rfl) ea_nil))) (show 3 ≤ sizeLine by decide)))) (free1 rfl) (show 3 ≤ sizeLine by decide) fun q hq => ⟨_, gd_name (Free.of rfl), ed_call (ea_cons (ed_var (i := 18) rfl) (ea_cons (ed_op (ed_var (i := 9) rfl) (ed_int 0) (vr_ixL (atI_nat (j := 0) (by rw [List.getElem?_map, h0]; rfl)))) (ea_cons (ed_op (ed_var (i := 9) rfl) ed_neg1 (vr_ixL (at_last (by rw [List.length_map, List.getElem?_map, h1]; rfl)))) ea_nil))) ⟨q, x0, x1, ?_, o0, o1, rfl, rfl⟩⟩) (freeNd rfl n12) List.not_mem_nil rfl) ?_
  · rcases (by simpa using hq : q = r ∨ q = r.reverse ∨ q = r) with e | e | e <;> rw [e]
    · exact hR
    · exact rowsOk_rev hR
    · exact hR
  refine xs_if0 (et_is (et_and (x := decide (1 < du.length)) (y := false) (et_test (ed_is (ed_op (ed_cb (ea_cons (ed_var (i := 9) rfl) ea_nil) vc_lenL) (ed_int 1) vr_gt) (by rw [List.length_map]; congr 1; exact decide_eq_decide.mpr (by omega)))) fun hgt => et_not (x := true) (et_B (ed_call (ea_cons (ed_by2 (ed_var (i := 12) rfl)) (ea_cons (ed_rep "below" (n := 2) (ed_int 2) (by decide)) ea_nil)) ⟨["below", "below"], fun z hz => by
      rcases (by simpa using hz : z = "below") with rfl
      decide +kernel, by decide, ?_, rfl⟩))) (Bool.and_false _)) (xs_next ?_)
  · have e := ends_up hR dok dup h0 h1 (of_decide_eq_true hgt)
    rw [e]
    rfl
  · exact ⟨m', by omega, _, _, _, _, _, _, _, _, _, _, _, _, _, _, Nd.dat _, Nd.dat _, Nd.dat _, Nd.dat _, Nd.dat _, n7, Nd.dat _, Nd.dat _, n10, n11, Nd.dat _, n13, Nd.dat _, Nd.dat _, rfl⟩
end
end K29
set_option Elab.async false
set_option linter.all false
set_option maxRecDepth 100000
set_option maxHeartbeats 0
namespace K29
open PySem PySem.Spec PyProof.Rows L2 DL
/-! ### the end: a law whose promise wants the sizes of the script's numbers -/
theorem bits_lt {z : Int} {n : Nat} (h : Builtin.Int.intBits z ≤ n) : z.natAbs < 2 ^ n := by
  unfold Builtin.Int.intBits at h
  by_cases e : z = 0
  · subst e
    exact Nat.pow_pos (by decide)
  · have e2 : ¬ (z == 0) = true := by simpa using e
    rw [if_neg e2] at h
    have h1 : z.natAbs ≠ 0 := by omega
    exact Nat.lt_of_lt_of_le Nat.lt_log2_self (Nat.pow_le_pow_right (by decide) h)
theorem end_bits {l : PySem.W.OpenLaw} {n k : Nat} {q : Program} {lo : List Str} {XP : (Str → Option Value) → Heap → Prop} {YP : World → Heap → Prop} {d : DefRec} {CX : CXT} {x : Str} (a1 : l.most = some n) (a2 : n ≤ sizeLine) (a3 : d.params.defaults = []) (a4 : Room k callerA)
    (F : ∀ (w : World) (mg : Str → Option Value) (fa : Addr) (h : Heap), YP w h → h.Ns mainGlobals mg → mg d.name = some (.ref fa) → ∃ (K : PySem.W.Frag) (fd : FuncData) (sp : Sp), K.In h ∧ (∀ (s : Shared) (u : Value), BindsTo s fd ⟨[u], []⟩ [(x, u)]) ∧
        (∀ (H : Hp) (a : Addr) (ns : List Int), ns.length ≤ n → (∀ z ∈ ns, Builtin.Int.intBits z ≤ 1048576) → SqL K H a (ns.map V.int) → sp [.ref a] H (fun v _ => v = .bl true) fun _ _ _ => False) ∧ ∀ base : Heap, K.In base → base.Ns mainGlobals mg → FnOk l.prog w K mg base CX k fa fd [x] sp)
    (hC : ∀ (H : Hp) (s : Shared) (e : Value) (s' : Shared), CX [] H s (fun _ _ _ => False) e s' → False) : PySem.W.WalkO q lo XP YP l.row.toRowW d [] (fun f vs => PySem.call f vs) :=
  Att.attach_callB a1 a3 fun w t0 t1 mg mb fa o pm cd doc a vs ns G Y ho hd hcd hmg hobj hints hlen hbits hg => by
    obtain ⟨K, fd, sp, KX, hb, hsp, hF⟩ := F w mg fa _ Y G.T.g hmg
    exact law_call KX G.T.g G.T.b G.T.builtins G.T.nolimit hg hobj hints (Nat.le_trans hlen a2) a4 hF hb (fun H _ hS => hsp H a ns hlen hbits hS) fun H e s' => hC H t1 e s'
/-! ### the facts of the text -/
def d_is_list : He.DefD := ⟨("is_list", none), "is_list", "is_list", defArgs s_is_list, defBody s_is_list, defScope s_is_list, [], []⟩
def d_is_integer : He.DefD := ⟨("is_integer", none), "is_integer", "is_integer", defArgs s_is_integer, defBody s_is_integer, defScope s_is_integer, [], []⟩
def d_is_name : He.DefD := ⟨("is_name", none), "is_name", "is_name", defArgs s_is_name, defBody s_is_name, defScope s_is_name, [], []⟩
def d_is_variable : He.DefD := ⟨("is_variable", none), "is_variable", "is_variable", defArgs s_is_variable, defBody s_is_variable, defScope s_is_variable, [], []⟩
def d_as_word : He.DefD := ⟨("as_word", none), "as_word", "as_word", defArgs s_as_word, defBody s_as_word, defScope s_as_word, [], []⟩
def d_checked_word : He.DefD := ⟨("checked_word", none), "checked_word", "checked_word", defArgs s_checked_word, defBody s_checked_word, defScope s_checked_word, [], []⟩
def d_checked_order : He.DefD := ⟨("checked_order", none), "checked_order", "checked_order", defArgs s_checked_order, defBody s_checked_order, defScope s_checked_order, [], []⟩
def d_first_without : He.DefD := ⟨("first_without", none), "first_without", "first_without", defArgs s_first_without, defBody s_first_without, defScope s_first_without, [], []⟩
def d_weight_in : He.DefD := ⟨("weight_in", none), "weight_in", "weight_in", defArgs s_weight_in, defBody s_weight_in, defScope s_weight_in, [], []⟩
def d_counted : He.DefD := ⟨("counted", none), "counted", "counted", defArgs s_counted, defBody s_counted, defScope s_counted, [], []⟩
def d_is_above : He.DefD := ⟨("is_above", none), "is_above", "is_above", defArgs s_is_above, defBody s_is_above, defScope s_is_above, [], []⟩
def d_compare_in : He.DefD := ⟨("compare_in", none), "compare_in", "compare_in", defArgs s_compare_in, defBody s_compare_in, defScope s_compare_in, [], []⟩
def d_compare : He.DefD := ⟨("compare", none), "compare", "compare", defArgs s_compare, defBody s_compare, defScope s_compare, [], []⟩
def d_law_d_parts : He.DefD := ⟨("_law_d_parts", none), "_law_d_parts", "_law_d_parts", defArgs s_law_d_parts, defBody s_law_d_parts, defScope s_law_d_parts, [], []⟩
def d_law_d_weight : He.DefD := ⟨("_law_d_weight", none), "_law_d_weight", "_law_d_weight", defArgs s_law_d_weight, defBody s_law_d_weight, defScope s_law_d_weight, [], []⟩
def d_law_d_above : He.DefD := ⟨("_law_d_above", none), "_law_d_above", "_law_d_above", defArgs s_law_d_above, defBody s_law_d_above, defScope s_law_d_above, [], []⟩
def d_law_start : He.DefD := ⟨("_law_start", none), "_law_start", "_law_start", defArgs s_law_start, defBody s_law_start, defScope s_law_start, [], []⟩
def d_law_draw : He.DefD := ⟨("_law_draw", none), "_law_draw", "_law_draw", defArgs s_law_draw, defBody s_law_draw, defScope s_law_draw, [], []⟩
def d_law_pick : He.DefD := ⟨("_law_pick", none), "_law_pick", "_law_pick", defArgs s_law_pick, defBody s_law_pick, defScope s_law_pick, [], []⟩
def d_law_mixed : He.DefD := ⟨("_law_mixed", none), "_law_mixed", "_law_mixed", defArgs s_law_mixed, defBody s_law_mixed, defScope s_law_mixed, [], []⟩
def d_law_same : He.DefD := ⟨("_law_same", none), "_law_same", "_law_same", defArgs s_law_same, defBody s_law_same, defScope s_law_same, [], []⟩
def d_law_of_weight : He.DefD := ⟨("_law_of_weight", none), "_law_of_weight", "_law_of_weight", defArgs s_law_of_weight, defBody s_law_of_weight, defScope s_law_of_weight, [], []⟩
def d_law_rows_of : He.DefD := ⟨("_law_rows_of", none), "_law_rows_of", "_law_rows_of", defArgs s_law_rows_of, defBody s_law_rows_of, defScope s_law_rows_of, [], []⟩
def d_law_sorted : He.DefD := ⟨("_law_sorted", none), "_law_sorted", "_law_sorted", defArgs s_law_sorted, defBody s_law_sorted, defScope s_law_sorted, [], []⟩
def d_law_down : He.DefD := ⟨("_law_down", none), "_law_down", "_law_down", defArgs s_law_down, defBody s_law_down, defScope s_law_down, [], []⟩
def d_law : He.DefD := ⟨("law", none), "law", "law", defArgs s_law, defBody s_law, defScope s_law, [], []⟩
def d_init : He.DefD := ⟨("Order", some "__init__"), "__init__", "Order.__init__", defArgs s_Order_init, defBody s_Order_init, defScope s_Order_init, [], []⟩
def fn : List He.DefD := [d_is_list, d_is_integer, d_is_name, d_is_variable, d_as_word, d_checked_word, d_checked_order, d_first_without, d_weight_in, d_counted, d_is_above, d_compare_in, d_compare, d_law_d_parts, d_law_d_weight, d_law_d_above, d_law_start, d_law_draw, d_law_pick, d_law_mixed, d_law_same, d_law_of_weight, d_law_rows_of, d_law_sorted, d_law_down, d_law, d_init]
def fa1 : List He.Fa := [.glo "is_list", .glo "is_integer", .glo "is_name", .glo "is_variable", .glo "as_word", .glo "checked_word", .glo "checked_order", .glo "first_without", .glo "weight_in", .glo "counted", .glo "is_above", .glo "compare_in", .glo "compare", .glo "_law_d_parts", .glo "_law_d_weight", .glo "_law_d_above", .glo "_law_start", .glo "_law_draw", .glo "_law_pick", .glo "_law_mixed", .glo "_law_same", .glo "_law_of_weight", .glo "_law_rows_of", .glo "_law_sorted", .glo "_law_down", .glo "law", .glo "Order", .glo "WORDS", .str "SMALL" "abcdefghijklmnopqrstuvwxyz", .str "FIGURES" "0123456789", .str "CAPITALS" "ABCDEFGHIJKLMNOPQRSTUVWXYZ", .cls "Order", .noat "Order" "own_weights", .noat "Order" "own_ranks", .mkr "Order"]
def fa2 : List He.Fa := [.free "len", .free "all", .free "any", .free "sum", .free "list", .free "dict", .free "tuple", .free "int", .free "str", .free "bool", .free "isinstance", .free "sorted", .free "range", .free "enumerate", .free "zip"]
def fa : List He.Fa := fa1 ++ fa2
def words : List He.Dv := theWords.map He.Dv.str
def exB (K : PySem.W.Frag) : Bool := He.tupB K "WORDS" words && (He.eqO (PySem.W.findIn K (.ref (He.ga K "Order")) "__class__") (some (some (.builtin "object.__class__"))) && (He.eqO (PySem.W.specialIn K (.builtin "object.__class__") "__get__") (some (some (.builtin "getset_descriptor.__get__"))) &&
  (decide (PySem.W.takesIn K (.builtin "object.__class__") = some true) && decide (PySem.W.mroIn K (He.ga K "Order") (.type "object") = some true))))
abbrev R : PySem.W.OpenRow := PySem.W.OpenLaw.row PySem.Challenge.rw_eithershown_k29_whole_no_row_down
abbrev hk : PySem.W.Hook := He.hookX 6 fa fn [] [] exB
def ob (s : PySem.W.SharedT) : He.AlX := He.obsX 6 fa fn [] [] exB (HandSHeadRun.getT s)
theorem ob_eq (s : PySem.W.SharedT) : ob s = hk.obs s.abs := He.obsX_eq (HandSHeadRun.getT_eq s)
def lo : List Str := List.map Str.ofString ["ShowError", "BadOrder", "BadRows", "BadWord", "NotOrdered", "SMALL", "FIGURES", "CAPITALS", "WORDS", "Made", "is_list", "is_integer", "is_name", "is_variable", "as_word", "as_atom", "checked_word", "Order", "checked_order", "first_without", "weight_in", "counted", "is_above", "compare_in", "compare", "_law_d_parts", "_law_d_weight", "_law_d_above", "_law_start", "_law_draw", "_law_pick", "_law_mixed", "_law_same", "_law_of_weight", "_law_rows_of", "_law_sorted", "_law_down"]
theorem run (w : World) : HandSHeadRun.RunEq R (PySem.W.view R.prog [42]) hk ob 4000 lo w := by
  intro os
  kernel_rfl
section
variable {P : Program} {w : World} {K : PySem.W.Frag} {h : Heap} {mg : Str → Option Value}
theorem def_of {d : He.DefD} {x : Str} {st : Stmt} (X : K.In h) (G : h.Ns mainGlobals mg) (c : He.SaysD fa fn K) (hd : d ∈ fn) (e : d = ⟨(x, none), x, x, defArgs st, defBody st, defScope st, [], []⟩) (g : (He.Fa.glo x) ∈ fa) : Def K mg x st := by
  subst e
  obtain ⟨fd, F⟩ := c.defs hd
  exact ⟨He.ga K x, fd, F, He.glo_ok X G (c.facts g)⟩
theorem facts {f : Addr} (X : K.In h) (G : h.Ns mainGlobals mg) (hfa : mg ("law" : Str) = some (.ref f)) (sx : He.SaysX fa fn [] [] exB w h K) :
    ∃ fd : FuncData, (∀ (s : Shared) (v : Value), BindsTo s fd ⟨[v], []⟩ [("script", v)]) ∧ ∀ base : Heap, K.In base → base.Ns mainGlobals mg → FnOk P w K mg base CX0 12 f fd ["script"] (spLaw K) := by
  have c := sx.t.d
  have q := sx.more
  obtain ⟨q1, q⟩ := He.ba q
  obtain ⟨q2, q⟩ := He.ba q
  obtain ⟨q3, q⟩ := He.ba q
  obtain ⟨q4, q5⟩ := He.ba q
  have m1 : ∀ {z : He.Fa}, z ∈ fa1 → z ∈ fa := fun h => List.mem_append_left _ h
  have m2 : ∀ {z : He.Fa}, z ∈ fa2 → z ∈ fa := fun h => List.mem_append_right _ h
  have fr : ∀ x : Str, (He.Fa.free x) ∈ fa2 → mg x = none := fun x hx => He.free_ok X G (c.facts (m2 hx))
  have T : Txt K mg (He.ga K "Order") := {
    g_SMALL := He.str_ok X G (c.facts (f := .str "SMALL" "abcdefghijklmnopqrstuvwxyz") (m1 (by simp [fa1])))
    g_FIGURES := He.str_ok X G (c.facts (f := .str "FIGURES" "0123456789") (m1 (by simp [fa1])))
    g_CAPITALS := He.str_ok X G (c.facts (f := .str "CAPITALS" "ABCDEFGHIJKLMNOPQRSTUVWXYZ") (m1 (by simp [fa1])))
    g_WORDS := ⟨_, He.glo_ok X G (c.facts (f := .glo "WORDS") (m1 (by simp [fa1]))), fun H => by
      have := He.tupB_ok q1 H
      unfold words at this
      rw [List.map_map] at this
      exact this⟩
    g_Order := He.glo_ok X G (c.facts (f := .glo "Order") (m1 (by simp [fa1])))
    cI := ⟨He.cls_ok (c.facts (f := .cls "Order") (m1 (by simp [fa1]))), He.eqO_ok q2, He.eqO_ok q3, of_decide_eq_true q4, of_decide_eq_true q5⟩
    cO := by
      unfold PySem.W.kitOne
      rw [if_pos (beq_self_eq_true _)]
    n_weights := He.noat_ok (c.facts (f := .noat "Order" "own_weights") (m1 (by simp [fa1])))
    n_ranks := He.noat_ok (c.facts (f := .noat "Order" "own_ranks") (m1 (by simp [fa1])))
    f_len := fr "len" (by simp [fa2])
    f_all := fr "all" (by simp [fa2])
    f_any := fr "any" (by simp [fa2])
    f_sum := fr "sum" (by simp [fa2])
    f_list := fr "list" (by simp [fa2])
    f_dict := fr "dict" (by simp [fa2])
    f_tuple := fr "tuple" (by simp [fa2])
    f_int := fr "int" (by simp [fa2])
    f_str := fr "str" (by simp [fa2])
    f_bool := fr "bool" (by simp [fa2])
    f_isinstance := fr "isinstance" (by simp [fa2])
    f_sorted := fr "sorted" (by simp [fa2])
    f_range := fr "range" (by simp [fa2])
    f_enumerate := fr "enumerate" (by simp [fa2])
    f_zip := fr "zip" (by simp [fa2])
  }
  have I : DefI K (He.ga K "Order") := by
    obtain ⟨fd, F⟩ := c.defs (d := d_init) (by simp [fn])
    exact ⟨_, fd, F, He.mkr_ok (c.facts (f := .mkr "Order") (m1 (by simp [fa1])))⟩
  have Fis_list : Def K mg "is_list" s_is_list := def_of X G c (d := d_is_list) (by simp [fn]) rfl (m1 (by simp [fa1]))
  have Fis_integer : Def K mg "is_integer" s_is_integer := def_of X G c (d := d_is_integer) (by simp [fn]) rfl (m1 (by simp [fa1]))
  have Fis_name : Def K mg "is_name" s_is_name := def_of X G c (d := d_is_name) (by simp [fn]) rfl (m1 (by simp [fa1]))
  have Fis_variable : Def K mg "is_variable" s_is_variable := def_of X G c (d := d_is_variable) (by simp [fn]) rfl (m1 (by simp [fa1]))
  have Fas_word : Def K mg "as_word" s_as_word := def_of X G c (d := d_as_word) (by simp [fn]) rfl (m1 (by simp [fa1]))
  have Fchecked_word : Def K mg "checked_word" s_checked_word := def_of X G c (d := d_checked_word) (by simp [fn]) rfl (m1 (by simp [fa1]))
  have Fchecked_order : Def K mg "checked_order" s_checked_order := def_of X G c (d := d_checked_order) (by simp [fn]) rfl (m1 (by simp [fa1]))
  have Ffirst_without : Def K mg "first_without" s_first_without := def_of X G c (d := d_first_without) (by simp [fn]) rfl (m1 (by simp [fa1]))
  have Fweight_in : Def K mg "weight_in" s_weight_in := def_of X G c (d := d_weight_in) (by simp [fn]) rfl (m1 (by simp [fa1]))
  have Fcounted : Def K mg "counted" s_counted := def_of X G c (d := d_counted) (by simp [fn]) rfl (m1 (by simp [fa1]))
  have Fis_above : Def K mg "is_above" s_is_above := def_of X G c (d := d_is_above) (by simp [fn]) rfl (m1 (by simp [fa1]))
  have Fcompare_in : Def K mg "compare_in" s_compare_in := def_of X G c (d := d_compare_in) (by simp [fn]) rfl (m1 (by simp [fa1]))
  have Fcompare : Def K mg "compare" s_compare := def_of X G c (d := d_compare) (by simp [fn]) rfl (m1 (by simp [fa1]))
  have Flaw_d_parts : Def K mg "_law_d_parts" s_law_d_parts := def_of X G c (d := d_law_d_parts) (by simp [fn]) rfl (m1 (by simp [fa1]))
  have Flaw_d_weight : Def K mg "_law_d_weight" s_law_d_weight := def_of X G c (d := d_law_d_weight) (by simp [fn]) rfl (m1 (by simp [fa1]))
  have Flaw_d_above : Def K mg "_law_d_above" s_law_d_above := def_of X G c (d := d_law_d_above) (by simp [fn]) rfl (m1 (by simp [fa1]))
  have Flaw_start : Def K mg "_law_start" s_law_start := def_of X G c (d := d_law_start) (by simp [fn]) rfl (m1 (by simp [fa1]))
  have Flaw_draw : Def K mg "_law_draw" s_law_draw := def_of X G c (d := d_law_draw) (by simp [fn]) rfl (m1 (by simp [fa1]))
  have Flaw_pick : Def K mg "_law_pick" s_law_pick := def_of X G c (d := d_law_pick) (by simp [fn]) rfl (m1 (by simp [fa1]))
  have Flaw_mixed : Def K mg "_law_mixed" s_law_mixed := def_of X G c (d := d_law_mixed) (by simp [fn]) rfl (m1 (by simp [fa1]))
  have Flaw_same : Def K mg "_law_same" s_law_same := def_of X G c (d := d_law_same) (by simp [fn]) rfl (m1 (by simp [fa1]))
  have Flaw_of_weight : Def K mg "_law_of_weight" s_law_of_weight := def_of X G c (d := d_law_of_weight) (by simp [fn]) rfl (m1 (by simp [fa1]))
  have Flaw_rows_of : Def K mg "_law_rows_of" s_law_rows_of := def_of X G c (d := d_law_rows_of) (by simp [fn]) rfl (m1 (by simp [fa1]))
  have Flaw_sorted : Def K mg "_law_sorted" s_law_sorted := def_of X G c (d := d_law_sorted) (by simp [fn]) rfl (m1 (by simp [fa1]))
  have Flaw_down : Def K mg "_law_down" s_law_down := def_of X G c (d := d_law_down) (by simp [fn]) rfl (m1 (by simp [fa1]))
  have Flaw : Def K mg "law" s_law := def_of X G c (d := d_law) (by simp [fn]) rfl (m1 (by simp [fa1]))
  obtain ⟨f0, fd, FL, gL⟩ := Flaw.ex
  have ef : f = f0 := Value.ref.inj (Option.some.inj (hfa.symm.trans gL))
  subst ef
  have b := FunD.bindsA (ps := ["script"]) FL b_law
  refine ⟨fd, fun s v => b s [v] rfl, fun base _ _ => ?_⟩
  have c1 := ok_is_list (P := P) (w := w) (base := base) Fis_list T
  have c2 := ok_is_integer (P := P) (w := w) (base := base) Fis_integer T
  have c3 := ok_is_name (P := P) (w := w) (base := base) Fis_name T
  have c4 := ok_is_variable (P := P) (w := w) (base := base) Fis_variable T
  have c5 := ok_as_word Fas_word T c4 c1 c3 5 (by decide)
  have c6 := ok_checked_word Fchecked_word T 5 (by decide) c5
  have c7 := ok_checked_order (P := P) (w := w) (base := base) Fchecked_order T
  have c8 := ok_first_without (P := P) (w := w) (base := base) Ffirst_without T 5 (by decide)
  have c9 := ok_weight_in (P := P) (w := w) (base := base) Fweight_in T
  have c10 := ok_counted (P := P) (w := w) (base := base) Fcounted T
  have c11 := ok_is_above Fis_above T c10 c9 5 (by decide)
  have c12 := ok_compare_in Fcompare_in T 5 (by decide) c11
  have c13 := ok_compare Fcompare T 5 (by decide) c7 c6 c8 c12
  have c14 := ok_Order (P := P) (w := w) (base := base) I T c1 c2 c3
  have c15 := ok_d_parts (P := P) (w := w) (base := base) Flaw_d_parts T
  have c16 := ok_d_weight (P := P) (w := w) (base := base) Flaw_d_weight T
  have c17 := ok_d_above Flaw_d_above T c15 c16 5 (by decide)
  have c18 := ok_start (P := P) (w := w) (base := base) Flaw_start T
  have c19 := ok_draw (P := P) (w := w) (base := base) Flaw_draw T
  have c20 := ok_pick Flaw_pick T c19
  have c21 := ok_mixed Flaw_mixed T c19
  have c22 := ok_same2 (P := P) (w := w) (base := base) Flaw_same T
  have c23 := ok_sorted Flaw_sorted T 5 (by decide) c17
  have c24 := ok_down Flaw_down T 5 (by decide) c20 c13
  have c25 := (ok_words (P := P) (w := w) (base := base) Flaw_of_weight Flaw_rows_of T 4 (by decide)).1
  exact ok_law FL T c18 c19 c21 c25 c14 c23 c13 c22 (c16 5 (by decide)) c24
end
end K29
open PySem PySem.W PySem.Calls PyProof.Rows
theorem PySem.Challenge.cw_eithershown_k29_whole_no_row_down_holds : PySem.Challenge.rw_eithershown_k29_whole_no_row_down.Holds := by
  w_on; o_law
  refine HandSHeadRun.head_any (r := OpenLaw.row PySem.Challenge.rw_eithershown_k29_whole_no_row_down) (q := view (OpenLaw.row PySem.Challenge.rw_eithershown_k29_whole_no_row_down).prog [42]) (H := K29.hk) (ob := K29.ob) (M := 4000) (loose := K29.lo) (d := HandSHeadRun.topDef (OpenLaw.row PySem.Challenge.rw_eithershown_k29_whole_no_row_down).prog 42) (kwd := []) K29.ob_eq
    (by kernel_rfl) (fun s => by kernel_rfl) K29.run (by kernel_rfl) (by kernel_rfl) (by kernel_rfl) (by rfl) (by first | assumption | decide +kernel) (by decide +kernel) ⟨rfl, rfl, rfl, rfl, rfl, by decide +kernel⟩ ?hw ?hc
  case hw => w_witness2
  case hc =>
    refine K29.end_bits (l := PySem.Challenge.rw_eithershown_k29_whole_no_row_down) (n := 63) (k := 12) (x := "script") (CX := L2.CX0) rfl (by decide) (by kernel_rfl) ⟨rfl, by decide, by decide⟩ ?F (fun _ _ _ _ z => z)
    intro w mg fa h Y G hmg0
    obtain ⟨K, KX, c⟩ := Y
    have hmg : mg ("law" : PySem.Str) = some (.ref fa) := by
      have e : (HandSHeadRun.topDef (OpenLaw.row PySem.Challenge.rw_eithershown_k29_whole_no_row_down).prog 42).name = ("law" : PySem.Str) := by kernel_rfl
      rw [← e]
      exact hmg0
    obtain ⟨fd, hb, hF⟩ := K29.facts (P := (PySem.Challenge.rw_eithershown_k29_whole_no_row_down).prog) (w := w) KX G hmg c
    exact ⟨K, fd, K29.spLaw K, KX, hb, fun H a ns hl hbt hS => ⟨a, ns, rfl, hS, hl, fun z hz => K29.bits_lt (hbt z hz), fun _ => rfl⟩, hF⟩
