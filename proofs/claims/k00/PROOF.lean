import PyProof.Rows.All
import HandS.ForMost
import HandS.Exc
import HandS.WordsExc
import HandS.Wide
import HandS.Gcd
import HandS.IsInst
import HandS.Deep
import HandS.TupAny
import PyProof.ReprRoads
import HandS.Zip
import HandS.TupLe
import PyProof.Rows.InDataRows
import HandS.RaiseMore
import HandS.WordsDict
import HandS.Conv
import HandS.EndBits
import HandS.Defaults
import PySem.Challenge.RW_whatthepicturesays_k00_words_and_fractio
set_option Elab.async false
set_option linter.all false
set_option maxRecDepth 100000
set_option maxHeartbeats 4000000
/-! DLBase: data in place of addresses. Rep, worlds, slots, the data-level judgements. -/
namespace DL
open PySem PySem.Spec PyProof.Rows L2

abbrev D := PyData
abbrev St := L2.St
def KT (K : PySem.W.Frag) (a : Addr) (xs : List V) : Prop := SqT K (fun _ => none) a xs
def kD : Key → D
  | .inl i => .int i
  | .inr x => .str x

mutual
/-- v is the data d in the heap H; nothing that it leans on is in A (what may change) -/
inductive Rep (K : PySem.W.Frag) (A : Addr → Prop) (H : Hp) : V → D → Prop
  | non : Rep K A H .non .none
  | bl (b : Bool) : Rep K A H (.bl b) (.bool b)
  | int (i : Int) : Rep K A H (.int i) (.int i)
  | str (x : Str) : x.length ≤ sizeLine → Rep K A H (.str x) (.str x)
  | lst {a : Addr} {xs : List V} {ds : List D} : H a = some (.lst xs) → ¬ A a → ds.length ≤ sizeLine → RepAll K A H xs ds → Rep K A H (.ref a) (.list ds)
  | tup {a : Addr} {xs : List V} {ds : List D} : (Rd H a (.tup xs) ∧ ¬ A a) ∨ KT K a xs → ds.length ≤ sizeLine → RepAll K A H xs ds → Rep K A H (.ref a) (.tuple ds)
  | dic {a : Addr} {kvs : List (Key × V)} {ps : List (D × D)} : H a = some (.dK kvs) → ¬ A a → RepKv K A H kvs ps → Rep K A H (.ref a) (.dict ps)
inductive RepAll (K : PySem.W.Frag) (A : Addr → Prop) (H : Hp) : List V → List D → Prop
  | nil : RepAll K A H [] []
  | cons {v : V} {vs : List V} {d : D} {ds : List D} : Rep K A H v d → RepAll K A H vs ds → RepAll K A H (v :: vs) (d :: ds)
inductive RepKv (K : PySem.W.Frag) (A : Addr → Prop) (H : Hp) : List (Key × V) → List (D × D) → Prop
  | nil : RepKv K A H [] []
  | cons {k : Key} {v : V} {vs : List (Key × V)} {d : D} {ds : List (D × D)} : Rep K A H v d → RepKv K A H vs ds → RepKv K A H ((k, v) :: vs) ((kD k, d) :: ds)
end

/-- what Rep leans on stays, and stays out of what may change -/
def Kp (A A' : Addr → Prop) (H H' : Hp) : Prop := ∀ a o, H a = some o → ¬ A a → H' a = some o ∧ ¬ A' a
theorem Kp.rd {A A' : Addr → Prop} {H H' : Hp} (h : Kp A A' H H') {a : Addr} {u : HO} (r : Rd H a u) (n : ¬ A a) : Rd H' a u ∧ ¬ A' a := by
  rcases r with r | ⟨o, r⟩
  · exact ⟨.inl (h a _ r n).1, (h a _ r n).2⟩
  · exact ⟨.inr ⟨o, (h a _ r n).1⟩, (h a _ r n).2⟩
section
variable {K : PySem.W.Frag} {A A' : Addr → Prop} {H H' : Hp}
mutual
theorem Rep.map (h : Kp A A' H H') : ∀ {v : V} {d : D}, Rep K A H v d → Rep K A' H' v d
  | _, _, .non => .non
  | _, _, .bl b => .bl b
  | _, _, .int i => .int i
  | _, _, .str x z => .str x z
  | _, _, .lst e n z r => .lst (h _ _ e n).1 (h _ _ e n).2 z (RepAll.map h r)
  | _, _, .tup s z r => .tup (s.elim (fun q => .inl (h.rd q.1 q.2)) .inr) z (RepAll.map h r)
  | _, _, .dic e n r => .dic (h _ _ e n).1 (h _ _ e n).2 (RepKv.map h r)
theorem RepAll.map (h : Kp A A' H H') : ∀ {vs : List V} {ds : List D}, RepAll K A H vs ds → RepAll K A' H' vs ds
  | _, _, .nil => .nil
  | _, _, .cons r t => .cons (Rep.map h r) (RepAll.map h t)
theorem RepKv.map (h : Kp A A' H H') : ∀ {vs : List (Key × V)} {ds : List (D × D)}, RepKv K A H vs ds → RepKv K A' H' vs ds
  | _, _, .nil => .nil
  | _, _, .cons r t => .cons (Rep.map h r) (RepKv.map h t)
end
theorem RepAll.length : ∀ {vs : List V} {ds : List D}, RepAll K A H vs ds → vs.length = ds.length
  | _, _, .nil => rfl
  | _, _, .cons _ t => congrArg (· + 1) (RepAll.length t)
theorem RepAll.append : ∀ {vs us : List V} {ds es : List D}, RepAll K A H vs ds → RepAll K A H us es → RepAll K A H (vs ++ us) (ds ++ es)
  | _, _, _, _, .nil, s => s
  | _, _, _, _, .cons r t, s => .cons r (RepAll.append t s)
theorem RepAll.get : ∀ {vs : List V} {ds : List D} {i : Nat} {v : V}, RepAll K A H vs ds → vs[i]? = some v → ∃ d, ds[i]? = some d ∧ Rep K A H v d
  | _, _, _, _, .nil, e => by simp at e
  | _, _, 0, _, .cons r _, e => by
    simp only [List.getElem?_cons_zero, Option.some.injEq] at e
    subst e
    exact ⟨_, rfl, r⟩
  | _, _, i + 1, v, .cons _ t, e => by
    obtain ⟨d, e1, r⟩ := RepAll.get (i := i) (v := v) t (by simpa using e)
    exact ⟨d, by simpa using e1, r⟩
theorem RepAll.getD : ∀ {vs : List V} {ds : List D} {i : Nat} {d : D}, RepAll K A H vs ds → ds[i]? = some d → ∃ v, vs[i]? = some v ∧ Rep K A H v d
  | _, _, _, _, .nil, e => by simp at e
  | _, _, 0, _, .cons r _, e => by
    simp only [List.getElem?_cons_zero, Option.some.injEq] at e
    subst e
    exact ⟨_, rfl, r⟩
  | _, _, i + 1, v, .cons _ t, e => by
    obtain ⟨d, e1, r⟩ := RepAll.getD (i := i) (d := v) t (by simpa using e)
    exact ⟨d, by simpa using e1, r⟩
theorem RepAll.take : ∀ {vs : List V} {ds : List D} (n : Nat), RepAll K A H vs ds → RepAll K A H (vs.take n) (ds.take n)
  | _, _, 0, _ => .nil
  | _, _, _ + 1, .nil => .nil
  | _, _, n + 1, .cons r t => .cons r (RepAll.take n t)
theorem RepAll.drop : ∀ {vs : List V} {ds : List D} (n : Nat), RepAll K A H vs ds → RepAll K A H (vs.drop n) (ds.drop n)
  | _, _, 0, r => r
  | _, _, _ + 1, .nil => .nil
  | _, _, n + 1, .cons _ t => RepAll.drop n t
theorem RepAll.set {v : V} {d : D} (r : Rep K A H v d) : ∀ {vs : List V} {ds : List D} (n : Nat), RepAll K A H vs ds → RepAll K A H (vs.set n v) (ds.set n d)
  | _, _, _, .nil => .nil
  | _, _, 0, .cons _ t => .cons r t
  | _, _, n + 1, .cons q t => .cons q (RepAll.set r n t)
theorem RepAll.ints : ∀ {vs : List V} {ns : List Int}, RepAll K A H vs (ns.map PyData.int) → vs = ns.map V.int
  | [], [], _ => rfl
  | _, n :: ns, .cons (.int _) t => by rw [RepAll.ints t]; rfl
theorem RepAll.strs : ∀ {vs : List V} {ns : List Str}, RepAll K A H vs (ns.map PyData.str) → vs = ns.map V.str
  | [], [], _ => rfl
  | _, n :: ns, .cons (.str _ _) t => by rw [RepAll.strs t]; rfl
theorem RepAll.bools : ∀ {vs : List V} {ns : List Bool}, RepAll K A H vs (ns.map PyData.bool) → vs = ns.map V.bl
  | [], [], _ => rfl
  | _, n :: ns, .cons (.bl _) t => by rw [RepAll.bools t]; rfl
theorem RepAll.of_ints : ∀ (ns : List Int), RepAll K A H (ns.map V.int) (ns.map PyData.int)
  | [] => .nil
  | n :: ns => .cons (.int n) (RepAll.of_ints ns)
theorem RepAll.of_strs : ∀ (ns : List Str), (∀ y ∈ ns, y.length ≤ sizeLine) → RepAll K A H (ns.map V.str) (ns.map PyData.str)
  | [], _ => .nil
  | n :: ns, h => .cons (.str n (h n List.mem_cons_self)) (RepAll.of_strs ns fun y hy => h y (List.mem_cons_of_mem _ hy))
theorem KT.sq {a : Addr} {xs : List V} (h : KT K a xs) : SqT K H a xs := by
  rcases h with (h | ⟨_, h⟩) | h
  · cases h
  · cases h
  · exact .inr h
theorem sqT {a : Addr} {xs : List V} (h : (Rd H a (.tup xs) ∧ ¬ A a) ∨ KT K a xs) : SqT K H a xs := h.elim (fun q => .inl q.1) KT.sq
end

/-! ### the pot of a law's draws -/
def LIM : Nat := 2 ^ 22
def PotAt (n : Nat) (H : Hp) (b : Addr) : Prop := ∃ x y z : Int, H b = some (.lst [.int x, .int y, .int z]) ∧ 0 ≤ x ∧ x < 10 ^ 300 ∧ 0 ≤ y ∧ y < 2 ^ 61 ∧ 0 ≤ z ∧ z ≤ n
theorem PotAt.mono {n m : Nat} {H : Hp} {b : Addr} (h : PotAt n H b) (l : n ≤ m) : PotAt m H b := by
  obtain ⟨x, y, z, e, a1, a2, a3, a4, a5, a6⟩ := h
  exact ⟨x, y, z, e, a1, a2, a3, a4, a5, by omega⟩
theorem PotAt.some {n : Nat} {H : Hp} {b : Addr} (h : PotAt n H b) : H b ≠ none := by
  obtain ⟨x, y, z, e, _⟩ := h
  rw [e]
  simp

/-! ### the world of a call: what stood ahead of it, what may change, how many draws it may make -/
structure Wd where
  K : PySem.W.Frag
  A0 : Addr → Prop
  P : Addr → Prop
  H0 : Hp
  n0 : Nat
  c0 : Nat
  E : Value → D → Prop

structure Fin (W : Wd) (k : Nat) (H : Hp) : Prop where
  since : ∀ b o, W.H0 b = some o → ¬ W.P b → H b = some o
  pots : ∀ b, W.P b → PotAt (W.n0 + k) H b
structure Wd.Ok (W : Wd) : Prop where
  pdom : ∀ b, W.P b → W.H0 b ≠ none
  sub : ∀ b, W.P b → W.A0 b
  lim : W.n0 + W.c0 ≤ LIM
theorem Fin.mono {W : Wd} {k j : Nat} {H : Hp} (f : Fin W k H) (l : k ≤ j) : Fin W j H := ⟨f.since, fun b hb => (f.pots b hb).mono (by omega)⟩
theorem Fin.dom {W : Wd} {k : Nat} {H : Hp} (f : Fin W k H) {a : Addr} (h : W.H0 a ≠ none) : H a ≠ none := by
  by_cases p : W.P a
  · exact (f.pots a p).some
  · cases e : W.H0 a with
    | none => exact absurd e h
    | some o =>
      rw [f.since a o e p]
      simp

/-- a slot: unknown; data; the pot; a list of its own that nothing else knows -/
inductive Sv where
  | un
  | dat (d : D)
  | pot
  | own (ds : List D)
  | scr (ns : List Int)
abbrev DEnv := List Sv
def nth : DEnv → Nat → Sv
  | [], _ => .un
  | s :: _, 0 => s
  | _ :: r, i + 1 => nth r i
theorem nth_set_self : ∀ {Δ : DEnv} {i : Nat} {s : Sv}, i < Δ.length → nth (Δ.set i s) i = s
  | [], _, _, h => absurd h (Nat.not_lt_zero _)
  | _ :: _, 0, _, _ => rfl
  | _ :: r, i + 1, _, h => nth_set_self (Δ := r) (i := i) (Nat.lt_of_succ_lt_succ h)
theorem nth_set_ne : ∀ {Δ : DEnv} {i j : Nat} {s : Sv}, j ≠ i → nth (Δ.set i s) j = nth Δ j
  | [], _, _, _, _ => rfl
  | _ :: _, 0, 0, _, h => absurd rfl h
  | _ :: _, 0, _ + 1, _, _ => rfl
  | _ :: _, _ + 1, 0, _, _ => rfl
  | _ :: r, i + 1, j + 1, _, h => nth_set_ne (Δ := r) (i := i) (j := j) fun e => h (by rw [e])
theorem nth_lt : ∀ {Δ : DEnv} {i : Nat}, nth Δ i ≠ .un → i < Δ.length
  | [], _, h => absurd rfl h
  | _ :: _, 0, _ => Nat.succ_pos _
  | _ :: r, i + 1, h => Nat.succ_lt_succ (nth_lt (Δ := r) (i := i) h)

def OwnA (σ : St) (Δ : DEnv) (a : Addr) : Prop := ∃ i ds, nth Δ i = .own ds ∧ σ[i]? = some (some (.ref a))
def AA (W : Wd) (σ : St) (Δ : DEnv) (a : Addr) : Prop := W.A0 a ∨ OwnA σ Δ a
/-- a law's script: a list of ints that stays -/
def ScrAt (K : PySem.W.Frag) (A : Addr → Prop) (H : Hp) (a : Addr) (ns : List Int) : Prop := (∃ o, H a = some (.frz o (.lst (ns.map V.int))) ∧ ¬ A a) ∨ SqL K (fun _ => none) a (ns.map V.int)
theorem ScrAt.map {K : PySem.W.Frag} {A A' : Addr → Prop} {H H' : Hp} {a : Addr} {ns : List Int} (h : Kp A A' H H') (r : ScrAt K A H a ns) : ScrAt K A' H' a ns := r.elim (fun ⟨o, e, n⟩ => .inl ⟨o, (h a _ e n).1, (h a _ e n).2⟩) .inr
theorem ScrAt.sq {K : PySem.W.Frag} {A : Addr → Prop} {H : Hp} {a : Addr} {ns : List Int} (r : ScrAt K A H a ns) : SqL K H a (ns.map V.int) := by
  rcases r with ⟨o, r, _⟩ | (h | ⟨_, h⟩) | h
  · exact .inl (.inr ⟨o, r⟩)
  · cases h
  · cases h
  · exact .inr h
def SlotOk (W : Wd) (σ : St) (A : Addr → Prop) (H : Hp) (i : Nat) : Sv → Prop
  | .un => True
  | .dat d => ∃ v, σ[i]? = some (some v) ∧ Rep W.K A H v d
  | .pot => ∃ a, σ[i]? = some (some (.ref a)) ∧ W.P a
  | .scr ns => ∃ a, σ[i]? = some (some (.ref a)) ∧ ScrAt W.K A H a ns
  | .own ds => ∃ a xs, σ[i]? = some (some (.ref a)) ∧ H a = some (.lst xs) ∧ RepAll W.K A H xs ds ∧ W.H0 a = none ∧ ¬ W.A0 a ∧ ds.length ≤ sizeLine
structure En (W : Wd) (k : Nat) (σ : St) (H : Hp) (Δ : DEnv) : Prop where
  len : Δ.length = σ.length
  sl : ∀ i, SlotOk W σ (AA W σ Δ) H i (nth Δ i)
  uniq : ∀ i j ds es a, nth Δ i = .own ds → nth Δ j = .own es → σ[i]? = some (some (.ref a)) → σ[j]? = some (some (.ref a)) → i = j
  fin : Fin W k H
  dom0 : ∀ a, W.A0 a → H a ≠ none

/-- an expression's work: what stood stays but the pots -/
structure Chg (W : Wd) (k : Nat) (H H' : Hp) : Prop where
  keep : ∀ b o, H b = some o → ¬ W.P b → H' b = some o
  pots : ∀ b, W.P b → PotAt (W.n0 + k) H' b
section
variable {W : Wd} {k j : Nat} {σ : St} {H H' H2 : Hp} {Δ : DEnv}
theorem Chg.trans (a : Chg W k H H') (b : Chg W j H' H2) : Chg W j H H2 := ⟨fun c o e n => b.keep c o (a.keep c o e n) n, b.pots⟩
theorem Chg.mono (a : Chg W k H H') (l : k ≤ j) : Chg W j H H' := ⟨a.keep, fun b p => (a.pots b p).mono (by omega)⟩
theorem En.refl (e : En W k σ H Δ) : Chg W k H H := ⟨fun _ _ q _ => q, e.fin.pots⟩
theorem Chg.kp (ok : W.Ok) (c : Chg W k H H') {A : Addr → Prop} (s : ∀ a, W.A0 a → A a) : Kp A A H H' := fun a o e n => ⟨c.keep a o e fun p => n (s a (ok.sub a p)), n⟩
theorem Chg.kpE (ok : W.Ok) (c : Chg W k H H') : Kp (AA W σ Δ) (AA W σ Δ) H H' := c.kp ok fun _ => .inl
theorem Fin.chg (f : Fin W k H) (c : Chg W j H H') : Fin W j H' := ⟨fun b o e n => c.keep b o (f.since b o e n) n, c.pots⟩
theorem Chg.dom (c : Chg W j H H') {a : Addr} (h : H a ≠ none) : H' a ≠ none := by
  by_cases p : W.P a
  · exact (c.pots a p).some
  · cases e : H a with
    | none => exact absurd e h
    | some o =>
      rw [c.keep a o e p]
      simp
theorem En.chg (ok : W.Ok) (e : En W k σ H Δ) (c : Chg W j H H') : En W j σ H' Δ := by
  refine ⟨e.len, fun i => ?_, e.uniq, e.fin.chg c, fun a h => c.dom (e.dom0 a h)⟩
  have s := e.sl i
  revert s
  cases h : nth Δ i with
  | un => exact fun s => s
  | dat d =>
    rintro ⟨v, h1, h2⟩
    exact ⟨v, h1, h2.map (c.kpE ok)⟩
  | scr ns =>
    rintro ⟨v, h1, h2⟩
    exact ⟨v, h1, h2.map (c.kpE ok)⟩
  | pot => exact fun s => s
  | own ds =>
    rintro ⟨a, xs, h1, h2, h3, h4, h5⟩
    exact ⟨a, xs, h1, c.keep a _ h2 fun p => ok.pdom a p h4, h3.map (c.kpE ok), h4, h5⟩
theorem En.mono (e : En W k σ H Δ) (l : k ≤ j) : En W j σ H Δ := ⟨e.len, e.sl, e.uniq, e.fin.mono l, e.dom0⟩
theorem Chg.free (c : Chg W j H H') {p : Addr} (h : H' p = none) : H p = none := by
  cases e : H p with
  | none => rfl
  | some o =>
    by_cases q : W.P p
    · exact absurd h (c.pots p q).some
    · rw [c.keep p o e q] at h
      cases h
theorem Fin.free (f : Fin W k H) {p : Addr} (h : H p = none) : W.H0 p = none := by
  cases e : W.H0 p with
  | none => rfl
  | some o => exact absurd h (f.dom (by rw [e]; simp))
/-- a new object -/
theorem Fin.laid (f : Fin W k H) {p : Addr} {o : HO} (h : H p = none) : Chg W k H (upd H p o) :=
  ⟨fun b u e _ => by rw [upd_ne (ne_of_none e h)]; exact e, fun b q => by
    obtain ⟨x, y, z, e, r⟩ := f.pots b q
    exact ⟨x, y, z, by rw [upd_ne (ne_of_none e h)]; exact e, r⟩⟩
theorem En.notA (e : En W k σ H Δ) {p : Addr} (h : H p = none) : ¬ AA W σ Δ p := by
  rintro (q | ⟨i, ds, h1, h2⟩)
  · exact e.dom0 p q h
  · have s := e.sl i
    rw [h1] at s
    obtain ⟨a, xs, g1, g2, _⟩ := s
    rw [h2] at g1
    cases g1
    rw [h] at g2
    cases g2
end
end DL
/-! DLExpr: the judgements over data for expressions. -/
namespace DL
open PySem PySem.Spec PyProof.Rows L2

/-- an exception that leaves: its class, its value -/
def EkOf (W : Wd) : XK := fun cls dopt H' => ∃ dd v d, dopt = some dd ∧ W.E cls d ∧ Fin W W.c0 H' ∧ H' dd = some (.xd [("value", v)]) ∧ W.H0 dd = none ∧ Rep W.K W.A0 H' v d
/-- a def's (or a block's) context -/
structure Cxt (X : Cx) (W : Wd) (N : List Str) (sc : Scope) (kk : Nat) : Prop where
  hN : X.N = N
  hsc : X.env.scope = sc
  nd : N.Nodup
  hr : Room kk X.A
  gd : X.A.guards = some []
  calm : X.calm = true
  hK : W.K = X.K
  ok : W.Ok
  tk : Takes X (fun cls d _ H => EkOf W cls d H)
  po : PassesOwn (model X.prog X.w) X.A X.env X.xe
theorem Cxt.px {X : Cx} {W : Wd} {N : List Str} {sc : Scope} {kk : Nat} (C : Cxt X W N sc kk) : Passes (L2.CX X.prog X.w) X (EkOf W) := passes_call C.tk fun _ _ _ _ h => h
theorem Cxt.gl {X : Cx} {W : Wd} {N : List Str} {sc : Scope} {kk : Nat} (C : Cxt X W N sc kk) {x : Str} (h : sc.names.lookup x = some .globalImplicit) : Gl X x := by
  show X.env.scope.names.lookup x = _
  rw [C.hsc]
  exact h
theorem Cxt.units {X : Cx} {W : Wd} {N : List Str} {sc : Scope} {kk : Nat} (C : Cxt X W N sc kk) : X.A.units + 100 < cLine := by
  have := C.hr.un
  omega

theorem pe_imp {X : Cx} {e : Expr} {t t' : TE} (h : PE X e t) (i : ∀ σ H Q, t' σ H Q → t σ H Q) : PE X e t' := ⟨fun pins s σ H Q I q => h.run pins s σ H Q I (i σ H Q q)⟩
theorem pt_imp {X : Cx} {e : Expr} {t t' : TT} (h : PT X e t) (i : ∀ σ H Q, t' σ H Q → t σ H Q) : PT X e t' := ⟨fun pins s σ H Q I q => h.run pins s σ H Q I (i σ H Q q)⟩
theorem pa_imp {X : Cx} {e : List Expr} {t t' : TA} (h : PA X e t) (i : ∀ σ H Q, t' σ H Q → t σ H Q) : PA X e t' := ⟨fun pos pins s σ H Q I q => h.run pos pins s σ H Q I (i σ H Q q)⟩
theorem ps_imp {X : Cx} {e : Stmt} {t t' : TS} (h : PS X e t) (i : ∀ D σ H, t' D σ H → t D σ H) : PS X e t' := ⟨fun pins s σ H Q I q => h.run pins s σ H Q I (i Q σ H q)⟩
theorem pss_imp {X : Cx} {e : List Stmt} {t t' : TS} (h : PSs X e t) (i : ∀ D σ H, t' D σ H → t D σ H) : PSs X e t' := ⟨fun pins s σ H Q I q => h.run pins s σ H Q I (i Q σ H q)⟩

abbrev TDE := DEnv → (D → Prop) → Prop
abbrev TDT := DEnv → (Bool → Prop) → Prop
abbrev TDL := DEnv → (List D → Prop) → Prop
/-- v is d; a list's own object may be one that changes -/
def RepB (K : PySem.W.Frag) (A : Addr → Prop) (H : Hp) (v : V) (d : D) : Prop := Rep K A H v d ∨ ∃ a xs ds, v = .ref a ∧ d = .list ds ∧ H a = some (.lst xs) ∧ RepAll K A H xs ds ∧ ds.length ≤ sizeLine
/-- g says what the expression gives; c: how many draws it makes at most -/
def lift (W : Wd) (g : TDE) (c : Nat) : TE := fun σ H Q => ∃ (k : Nat) (Δ : DEnv) (K : D → Prop), k + c ≤ W.c0 ∧ En W k σ H Δ ∧ g Δ K ∧ ∀ d v H', K d → Chg W (k + c) H H' → Rep W.K (AA W σ Δ) H' v d → Q v H'
/-- the same, of a value that is only looked at -/
def liftB (W : Wd) (g : TDE) (c : Nat) : TE := fun σ H Q => ∃ (k : Nat) (Δ : DEnv) (K : D → Prop), k + c ≤ W.c0 ∧ En W k σ H Δ ∧ g Δ K ∧ ∀ d v H', K d → Chg W (k + c) H H' → (Rep W.K (AA W σ Δ) H' v d ∨ ∃ a xs ds, v = .ref a ∧ d = .list ds ∧ H' a = some (.lst xs) ∧ RepAll W.K (AA W σ Δ) H' xs ds ∧ ds.length ≤ sizeLine ∧ OwnA σ Δ a) → Q v H'
/-- a new list that nothing else knows -/
def liftF (W : Wd) (g : TDL) (c : Nat) : TE := fun σ H Q => ∃ (k : Nat) (Δ : DEnv) (K : List D → Prop), k + c ≤ W.c0 ∧ En W k σ H Δ ∧ g Δ K ∧ ∀ ds a xs H', K ds → Chg W (k + c) H H' → H a = none → H' a = some (.lst xs) → ds.length ≤ sizeLine → RepAll W.K (fun b => AA W σ Δ b ∨ b = a) H' xs ds → Q (.ref a) H'
def liftL (W : Wd) (g : TDL) (c : Nat) : TA := fun σ H Q => ∃ (k : Nat) (Δ : DEnv) (K : List D → Prop), k + c ≤ W.c0 ∧ En W k σ H Δ ∧ g Δ K ∧ ∀ ds vs H', K ds → Chg W (k + c) H H' → RepAll W.K (AA W σ Δ) H' vs ds → Q vs H'
def liftT (W : Wd) (g : TDT) (c : Nat) : TT := fun σ H Q => ∃ (k : Nat) (Δ : DEnv) (K : Bool → Prop), k + c ≤ W.c0 ∧ En W k σ H Δ ∧ g Δ K ∧ ∀ b H', K b → Chg W (k + c) H H' → Q b H'
abbrev DE (X : Cx) (W : Wd) (e : Expr) (g : TDE) (c : Nat) : Prop := PE X e (lift W g c)
abbrev DB (X : Cx) (W : Wd) (e : Expr) (g : TDE) (c : Nat) : Prop := PE X e (liftB W g c)
abbrev DF (X : Cx) (W : Wd) (e : Expr) (g : TDL) (c : Nat) : Prop := PE X e (liftF W g c)
abbrev DA (X : Cx) (W : Wd) (es : List Expr) (g : TDL) (c : Nat) : Prop := PA X es (liftL W g c)
abbrev DT (X : Cx) (W : Wd) (e : Expr) (g : TDT) (c : Nat) : Prop := PT X e (liftT W g c)

/-- both ways of a test -/
def gIte (b : Bool) (P Q : Prop) : Prop := (b = true → P) ∧ (b = false → Q)
theorem gIte.use {b : Bool} {P Q : Prop} (h : gIte b P Q) : if b = true then P else Q := by
  cases b with
  | true => exact h.1 rfl
  | false => exact h.2 rfl

section
variable {X : Cx} {W : Wd} {N : List Str} {sc : Scope} {kk : Nat} {e a b : Expr} {es : List Expr} {c ca cb : Nat} {g ga gb : TDE} {pos p p2 : Pos}
theorem DE.bo (h : DE X W e g c) : DB X W e g c := pe_imp h fun σ H Q ⟨k, Δ, K, h1, h2, h3, h4⟩ => ⟨k, Δ, K, h1, h2, h3, fun d v H' hd hc r => h4 d v H' hd hc (.inl r)⟩
/-- a new list, as data -/
def gL (g : TDL) : TDE := fun Δ K => g Δ fun ds => K (.list ds)
theorem DF.da (C : Cxt X W N sc kk) {g : TDL} (h : DF X W e g c) : DE X W e (gL g) c := pe_imp h fun σ H Q ⟨k, Δ, K, h1, h2, h3, h4⟩ =>
  ⟨k, Δ, fun ds => K (.list ds), h1, h2, h3, fun ds a xs H' hd hc hn ha z r => h4 _ _ H' hd hc (.lst ha (h2.notA hn) z (r.map fun b o e n => ⟨e, fun q => n (.inl q)⟩))⟩

/-! ### names, constants -/
def gVar (i : Nat) : TDE := fun Δ K => match nth Δ i with
  | .dat d => K d
  | _ => False
def gVarB (i : Nat) : TDE := fun Δ K => match nth Δ i with
  | .dat d => K d
  | .own ds => K (.list ds)
  | _ => False
def gC (d : D) : TDE := fun _ K => K d
theorem de_var (C : Cxt X W N sc kk) {i : Nat} {x : Str} (hx : N[i]? = some x) (hv : Vis sc x) (hd : (x == ("__debug__" : Str)) = false := by decide +kernel) (hcd : (x == ("__classdict__" : Str)) = false := by decide +kernel) : DE X W (.Name x pos) (gVar i) 0 := by
  refine pe_imp (pe_var (i := i) (by rw [C.hN]; exact hx) (by rw [C.hsc]; exact hv) hd hcd) fun σ H Q ⟨k, Δ, K, h1, h2, h3, h4⟩ => ?_
  have s := h2.sl i
  unfold gVar at h3
  revert h3 s
  cases nth Δ i with
  | dat d =>
    rintro h3 ⟨v, e, r⟩
    exact ⟨v, e, h4 d v H h3 h2.refl r⟩
  | un => exact fun z => z.elim
  | pot => exact fun z => z.elim
  | scr ns => exact fun z => z.elim
  | own ds => exact fun z => z.elim
theorem db_var (C : Cxt X W N sc kk) {i : Nat} {x : Str} (hx : N[i]? = some x) (hv : Vis sc x) (hd : (x == ("__debug__" : Str)) = false := by decide +kernel) (hcd : (x == ("__classdict__" : Str)) = false := by decide +kernel) : DB X W (.Name x pos) (gVarB i) 0 := by
  refine pe_imp (pe_var (i := i) (by rw [C.hN]; exact hx) (by rw [C.hsc]; exact hv) hd hcd) fun σ H Q ⟨k, Δ, K, h1, h2, h3, h4⟩ => ?_
  have s := h2.sl i
  unfold gVarB at h3
  revert h3 s
  cases hn : nth Δ i with
  | dat d =>
    rintro h3 ⟨v, e, r⟩
    exact ⟨v, e, h4 d v H h3 h2.refl (.inl r)⟩
  | un => exact fun z => z.elim
  | pot => exact fun z => z.elim
  | scr ns => exact fun z => z.elim
  | own ds =>
    rintro h3 ⟨a, xs, e, ha, r, _, _, z⟩
    exact ⟨.ref a, e, h4 _ _ H h3 h2.refl (.inr ⟨a, xs, ds, rfl, rfl, ha, r, z, i, ds, hn, e⟩)⟩
theorem de_c {v : V} {d : D} (h : PE X e (tC v)) (r : ∀ A H, Rep W.K A H v d) : DE X W e (gC d) 0 := pe_imp h fun σ H Q ⟨k, Δ, K, h1, h2, h3, h4⟩ => h4 d v H h3 h2.refl (r _ _)
theorem de_int {i : Int} {j : Nat} : DE X W (.Constant (.int i) j pos) (gC (.int i)) 0 := de_c pe_int fun _ _ => .int i
theorem de_str {i : Str} {j : Nat} (h : i.length ≤ sizeLine := by decide +kernel) : DE X W (.Constant (.str i) j pos) (gC (.str i)) 0 := de_c pe_str fun _ _ => .str i h
theorem de_bl {i : Bool} {j : Nat} : DE X W (.Constant (.bool i) j pos) (gC (.bool i)) 0 := de_c pe_bl fun _ _ => .bl i
theorem de_non {j : Nat} : DE X W (.Constant .none j pos) (gC .none) 0 := de_c pe_non fun _ _ => .non
/-- a constant of the module -/
def KRep (K : PySem.W.Frag) (u : Value) (d : D) : Prop := ∃ v, RelV v u ∧ ∀ A H, Rep K A H v d
theorem de_glob (C : Cxt X W N sc kk) {x : Str} {u : Value} {d : D} (hg : sc.names.lookup x = some .globalImplicit) (hm : X.mg x = some u) (r : KRep X.K u d) (hd : (x == ("__debug__" : Str)) = false := by decide +kernel) : DE X W (.Name x pos) (gC d) 0 := by
  obtain ⟨v, r1, r2⟩ := r
  exact de_c (pe_glob (C.gl hg) hm r1 hd) (by rw [C.hK]; exact r2)
theorem KRep.int {K : PySem.W.Frag} {i : Int} {t : Tok} : KRep K (.int i t) (.int i) := ⟨.int i, ⟨t, rfl⟩, fun _ _ => .int i⟩
theorem KRep.str {K : PySem.W.Frag} {i : Str} {t : Tok} (h : i.length ≤ sizeLine) : KRep K (.str i t) (.str i) := ⟨.str i, ⟨t, rfl⟩, fun _ _ => .str i h⟩

/-! ### operators -/
def rD (Kf : PySem.W.Frag) (f : D → D → (D → Prop) → Prop) : R2 := fun x y H Q => ∃ (A : Addr → Prop) (dx dy : D) (K : D → Prop), (∀ a, A a → H a ≠ none) ∧ RepB Kf A H x dx ∧ RepB Kf A H y dy ∧ f dx dy K ∧
  ∀ d v H', K d → (∀ b o, H b = some o → H' b = some o) → Rep Kf A H' v d → Q v H'
abbrev DOp (X : Cx) (op : Value → Value → Sem Value) (f : D → D → (D → Prop) → Prop) : Prop := OpR X op (rD X.K f)
def gBin (f : D → D → (D → Prop) → Prop) (ga gb : TDE) : TDE := fun Δ K => ga Δ fun x => gb Δ fun y => f x y K
theorem Chg.of_ext {k : Nat} {H H' : Hp} (f : Fin W k H) (x : ∀ b o, H b = some o → H' b = some o) : Chg W k H H' := ⟨fun b o e _ => x b o e, fun b p => by
  obtain ⟨x1, y, z, e, r⟩ := f.pots b p
  exact ⟨x1, y, z, x b _ e, r⟩⟩
theorem En.dom (C : Cxt X W N sc kk) {k : Nat} {σ : St} {H : Hp} {Δ : DEnv} (e : En W k σ H Δ) : ∀ a, AA W σ Δ a → H a ≠ none := fun a h n => e.notA n h
theorem RepB.of {σ : St} {H H' : Hp} {Δ : DEnv} {k j : Nat} {v : V} {d : D} (C : Cxt X W N sc kk) (en : En W k σ H Δ) (r : Rep W.K (AA W σ Δ) H v d ∨ ∃ a xs ds, v = .ref a ∧ d = .list ds ∧ H a = some (.lst xs) ∧ RepAll W.K (AA W σ Δ) H xs ds ∧ ds.length ≤ sizeLine ∧ OwnA σ Δ a) (hc : Chg W j H H') : RepB X.K (AA W σ Δ) H' v d := by
  rw [← C.hK]
  rcases r with r | ⟨a, xs, ds, e1, e2, e3, r, z, i, es, o1, o2⟩
  · exact .inl (r.map (hc.kpE C.ok))
  · refine .inr ⟨a, xs, ds, e1, e2, hc.keep a _ e3 fun q => ?_, r.map (hc.kpE C.ok), z⟩
    have s := en.sl i
    rw [o1] at s
    obtain ⟨a', xs', g1, g2, _, g4, _⟩ := s
    rw [o2] at g1
    cases g1
    exact C.ok.pdom a q g4
/-- two parts, then f of their values -/
theorem bin_use (C : Cxt X W N sc kk) {f : D → D → (D → Prop) → Prop} {r : R2} {ta tb : TE} (ha : ∀ σ H Q, liftB W ga ca σ H Q → ta σ H Q) (hb : ∀ σ H Q, liftB W gb cb σ H Q → tb σ H Q) (hr : ∀ x y H Q, rD X.K f x y H Q → r x y H Q) :
    ∀ σ H Q, lift W (gBin f ga gb) (ca + cb) σ H Q → tOp r ta tb σ H Q := fun σ H Q ⟨k, Δ, K, h1, h2, h3, h4⟩ => by
  refine ha _ _ _ ⟨k, Δ, _, by omega, h2, h3, fun dx x H1 q1 c1 r1 => ?_⟩
  have e1 := h2.chg C.ok c1
  refine hb _ _ _ ⟨k + ca, Δ, _, by omega, e1, q1, fun dy y H2 q2 c2 r2 => hr _ _ _ _ ?_⟩
  have e2 := e1.chg C.ok c2
  have rx : RepB X.K (AA W σ Δ) H2 x dx := RepB.of C e1 r1 c2
  have ry : RepB X.K (AA W σ Δ) H2 y dy := RepB.of C e2 r2 e2.refl
  refine ⟨AA W σ Δ, dx, dy, K, e2.dom C, rx, ry, q2, fun d v H' hd hx hv => ?_⟩
  have e : k + ca + cb = k + (ca + cb) := by omega
  exact h4 d v H' hd (c1.trans (e ▸ c2.trans (Chg.of_ext e2.fin hx))) (by rw [C.hK]; exact hv)
theorem de_bin (C : Cxt X W N sc kk) {op : Operator} {f : D → D → (D → Prop) → Prop} (ho : DOp X (binaryOp op) f) (ha : DB X W a ga ca) (hb : DB X W b gb cb) : DE X W (.BinOp a op b pos) (gBin f ga gb) (ca + cb) :=
  pe_imp (pe_op ho ha hb) (bin_use C (fun _ _ _ h => h) (fun _ _ _ h => h) fun _ _ _ _ h => h)
theorem de_cmp (C : Cxt X W N sc kk) {op : CmpOp} {f : D → D → (D → Prop) → Prop} (ho : DOp X (compareOp op) f) (ha : DB X W a ga ca) (hb : DB X W b gb cb) (hm : behindInMarks op b = false := by rfl) : DE X W (.Compare a [op] [b] pos) (gBin f ga gb) (ca + cb) :=
  pe_imp (pe_cmpR ho ha hb hm) (bin_use C (fun _ _ _ h => h) (fun _ _ _ h => h) fun _ _ _ _ h => h)
end
end DL
/-! DLExpr2: argument lists, displays, subscripts, slices, tests, calls of built-ins and methods. -/
namespace DL
open PySem PySem.Spec PyProof.Rows L2

/-- v is d, or a list of the def's own with the items of d -/
def RepO (W : Wd) (σ : St) (Δ : DEnv) (H : Hp) (v : V) (d : D) : Prop := Rep W.K (AA W σ Δ) H v d ∨ ∃ a xs ds, v = .ref a ∧ d = .list ds ∧ H a = some (.lst xs) ∧ RepAll W.K (AA W σ Δ) H xs ds ∧ ds.length ≤ sizeLine ∧ OwnA σ Δ a
inductive RepOs (W : Wd) (σ : St) (Δ : DEnv) (H : Hp) : List V → List D → Prop
  | nil : RepOs W σ Δ H [] []
  | cons {v : V} {vs : List V} {d : D} {ds : List D} : RepO W σ Δ H v d → RepOs W σ Δ H vs ds → RepOs W σ Δ H (v :: vs) (d :: ds)
inductive RepBs (K : PySem.W.Frag) (A : Addr → Prop) (H : Hp) : List V → List D → Prop
  | nil : RepBs K A H [] []
  | cons {v : V} {vs : List V} {d : D} {ds : List D} : RepB K A H v d → RepBs K A H vs ds → RepBs K A H (v :: vs) (d :: ds)
def liftLB (W : Wd) (g : TDL) (c : Nat) : TA := fun σ H Q => ∃ (k : Nat) (Δ : DEnv) (K : List D → Prop), k + c ≤ W.c0 ∧ En W k σ H Δ ∧ g Δ K ∧ ∀ ds vs H', K ds → Chg W (k + c) H H' → RepOs W σ Δ H' vs ds → Q vs H'
abbrev DAb (X : Cx) (W : Wd) (es : List Expr) (g : TDL) (c : Nat) : Prop := PA X es (liftLB W g c)
abbrev TDO := DEnv → (Option Int → Prop) → Prop
def liftP (W : Wd) (g : TDO) (c : Nat) : TO := fun σ H Q => ∃ (k : Nat) (Δ : DEnv) (K : Option Int → Prop), k + c ≤ W.c0 ∧ En W k σ H Δ ∧ g Δ K ∧ ∀ o H', K o → Chg W (k + c) H H' → Q o H'
abbrev DP (X : Cx) (W : Wd) (e : Option Expr) (g : TDO) (c : Nat) : Prop := PO X e (liftP W g c)
theorem po_imp {X : Cx} {e : Option Expr} {t t' : TO} (h : PO X e t) (i : ∀ σ H Q, t' σ H Q → t σ H Q) : PO X e t' := ⟨fun pins s σ H Q I q => h.run pins s σ H Q I (i σ H Q q)⟩

section
variable {X : Cx} {W : Wd} {N : List Str} {sc : Scope} {kk : Nat} {e a b : Expr} {es : List Expr} {c ca cb cc : Nat} {g ga gb gc : TDE} {pos p p2 : Pos} {k j : Nat} {σ : St} {Δ : DEnv} {H H' : Hp} {v : V} {d : D}
theorem RepO.chg (C : Cxt X W N sc kk) (en : En W k σ H Δ) (r : RepO W σ Δ H v d) (hc : Chg W j H H') : RepO W σ Δ H' v d := by
  rcases r with r | ⟨a, xs, ds, e1, e2, e3, r, z, i, es, o1, o2⟩
  · exact .inl (r.map (hc.kpE C.ok))
  · refine .inr ⟨a, xs, ds, e1, e2, hc.keep a _ e3 fun q => ?_, r.map (hc.kpE C.ok), z, i, es, o1, o2⟩
    have s := en.sl i
    rw [o1] at s
    obtain ⟨a', xs', g1, g2, _, g4, _⟩ := s
    rw [o2] at g1
    cases g1
    exact C.ok.pdom a q g4
theorem RepO.bo (C : Cxt X W N sc kk) (r : RepO W σ Δ H v d) : RepB X.K (AA W σ Δ) H v d := by
  rw [← C.hK]
  rcases r with r | ⟨a, xs, ds, e1, e2, e3, r, z, _⟩
  · exact .inl r
  · exact .inr ⟨a, xs, ds, e1, e2, e3, r, z⟩
theorem RepOs.bo (C : Cxt X W N sc kk) : ∀ {vs : List V} {ds : List D}, RepOs W σ Δ H vs ds → RepBs X.K (AA W σ Δ) H vs ds
  | _, _, .nil => .nil
  | _, _, .cons r t => .cons (r.bo C) (RepOs.bo C t)
theorem chg3 {H2 : Hp} (c1 : Chg W (k + ca) H H') (c2 : Chg W (k + ca + cb) H' H2) : Chg W (k + (ca + cb)) H H2 := by
  have e : k + ca + cb = k + (ca + cb) := by omega
  exact c1.trans (e ▸ c2)

/-! ### argument lists -/
def gN : TDL := fun _ K => K []
def gCo (ga : TDE) (gr : TDL) : TDL := fun Δ K => ga Δ fun x => gr Δ fun xs => K (x :: xs)
theorem da_nil : DA X W [] gN 0 := pa_imp pa_nil fun σ H Q ⟨k, Δ, K, h1, h2, h3, h4⟩ => h4 [] [] H h3 h2.refl .nil
theorem da_cons (C : Cxt X W N sc kk) {gr : TDL} (ha : DE X W e ga ca) (hr : DA X W es gr cb) (hs : starEach (e :: es) X.env = (false, eval e X.env) :: starEach es X.env := by rfl) : DA X W (e :: es) (gCo ga gr) (ca + cb) :=
  pa_imp (pa_cons ha hr hs) fun σ H Q ⟨k, Δ, K, h1, h2, h3, h4⟩ => ⟨k, Δ, _, by omega, h2, h3, fun dx x H1 q1 c1 r1 =>
    ⟨k + ca, Δ, _, by omega, h2.chg C.ok c1, q1, fun ds vs H2 q2 c2 r2 => h4 _ _ H2 q2 (chg3 c1 c2) (.cons (r1.map (c2.kpE C.ok)) r2)⟩⟩
theorem db_nil : DAb X W [] gN 0 := pa_imp pa_nil fun σ H Q ⟨k, Δ, K, h1, h2, h3, h4⟩ => h4 [] [] H h3 h2.refl .nil
theorem db_cons (C : Cxt X W N sc kk) {gr : TDL} (ha : DB X W e ga ca) (hr : DAb X W es gr cb) (hs : starEach (e :: es) X.env = (false, eval e X.env) :: starEach es X.env := by rfl) : DAb X W (e :: es) (gCo ga gr) (ca + cb) :=
  pa_imp (pa_cons ha hr hs) fun σ H Q ⟨k, Δ, K, h1, h2, h3, h4⟩ => ⟨k, Δ, _, by omega, h2, h3, fun dx x H1 q1 c1 r1 =>
    ⟨k + ca, Δ, _, by omega, h2.chg C.ok c1, q1, fun ds vs H2 q2 c2 r2 => h4 _ _ H2 q2 (chg3 c1 c2) (.cons (RepO.chg C (h2.chg C.ok c1) r1 c2) r2)⟩⟩

/-! ### displays -/
theorem Chg.laid (C : Cxt X W N sc kk) (en : En W k σ H Δ) {H1 : Hp} (c : Chg W j H H1) {q : Addr} {o : HO} (hq : H1 q = none) : Chg W j H (upd H1 q o) := c.trans (Fin.laid (en.fin.chg c) hq)
theorem kp_laid {A : Addr → Prop} {q : Addr} {o : HO} (hq : H q = none) : Kp A A H (upd H q o) := fun b u e n => ⟨by rw [upd_ne (ne_of_none e hq)]; exact e, n⟩
theorem kp_laidA {A : Addr → Prop} {q : Addr} {o : HO} (hq : H q = none) : Kp A (fun b => A b ∨ b = q) H (upd H q o) := fun b u e n => ⟨by rw [upd_ne (ne_of_none e hq)]; exact e, fun z => z.elim n (ne_of_none e hq)⟩
def gTup (ga : TDL) : TDE := fun Δ K => ga Δ fun xs => xs.length ≤ sizeLine ∧ K (.tuple xs)
def gLst (ga : TDL) : TDL := fun Δ K => ga Δ fun xs => xs.length ≤ sizeLine ∧ K xs
theorem de_tup (C : Cxt X W N sc kk) {x1} {gl : TDL} (h : DA X W es gl c) : DE X W (.Tuple es x1 pos) (gTup gl) c :=
  pe_imp (pe_tup h) fun σ H Q ⟨k, Δ, K, h1, h2, h3, h4⟩ => ⟨k, Δ, _, h1, h2, h3, fun ds vs H1 ⟨z, q1⟩ c1 r1 => ⟨by rw [r1.length]; exact z, fun q hq =>
    h4 _ _ _ q1 (c1.laid C h2 hq) (.tup (.inl ⟨.inl upd_same, (h2.chg C.ok c1).notA hq⟩) z (r1.map (kp_laid hq)))⟩⟩
theorem df_lst (C : Cxt X W N sc kk) {gl : TDL} (h : DA X W es gl c) : DF X W (.List es pos) (gLst gl) c :=
  pe_imp (pe_lst h) fun σ H Q ⟨k, Δ, K, h1, h2, h3, h4⟩ => ⟨k, Δ, _, h1, h2, h3, fun ds vs H1 ⟨z, q1⟩ c1 r1 => ⟨by rw [r1.length]; exact z, fun q hq =>
    h4 _ _ _ _ q1 (c1.laid C h2 hq) (c1.free hq) upd_same z (r1.map (kp_laidA hq))⟩⟩

/-! ### subscripts, slices -/
abbrev DIx (X : Cx) (f : D → D → (D → Prop) → Prop) : Prop := IxR X (rD X.K f)
theorem de_ix (C : Cxt X W N sc kk) {f : D → D → (D → Prop) → Prop} (hr : DIx X f) (ha : DB X W a ga ca) (hb : DB X W b gb cb) (hs : PlainIx b := by exact fun _ _ => rfl) : DE X W (.Subscript a b pos) (gBin f ga gb) (ca + cb) :=
  pe_imp (pe_ix hr ha hb hs) (bin_use C (fun _ _ _ h => h) (fun _ _ _ h => h) fun _ _ _ _ h => h)
def gNo : TDO := fun _ K => K none
def gPart (g : TDE) : TDO := fun Δ K => g Δ fun d => match d with
  | .int i => K (some i)
  | _ => False
theorem dp_none : DP X W none gNo 0 := po_imp po_none fun σ H Q ⟨k, Δ, K, h1, h2, h3, h4⟩ => h4 none H h3 h2.refl
theorem RepO.int (r : RepO W σ Δ H v (.int i)) : v = .int i := by
  rcases r with r | ⟨a, xs, ds, e1, e2, _⟩
  · cases r
    rfl
  · cases e2
theorem dp_some (h : DB X W e g c) : DP X W (some e) (gPart g) c := po_imp (po_some h) fun σ H Q ⟨k, Δ, K, h1, h2, h3, h4⟩ => ⟨k, Δ, _, h1, h2, h3, fun d v H' q c r => by
    cases d with
    | int i => exact ⟨i, RepO.int r, h4 (some i) H' q c⟩
    | _ => exact (show False from q).elim⟩
def rDS (Kf : PySem.W.Frag) (f : D → Option Int → Option Int → (D → Prop) → Prop) : V → Option Int → Option Int → Hp → VK → Prop := fun x lo hi H Q => ∃ (A : Addr → Prop) (dx : D) (K : D → Prop), (∀ a, A a → H a ≠ none) ∧ RepB Kf A H x dx ∧ f dx lo hi K ∧
  ∀ d v H', K d → (∀ b o, H b = some o → H' b = some o) → Rep Kf A H' v d → Q v H'
def rDSF (Kf : PySem.W.Frag) (f : D → Option Int → Option Int → (List D → Prop) → Prop) : V → Option Int → Option Int → Hp → VK → Prop := fun x lo hi H Q => ∃ (A : Addr → Prop) (dx : D) (K : List D → Prop), (∀ a, A a → H a ≠ none) ∧ RepB Kf A H x dx ∧ f dx lo hi K ∧
  ∀ ds a xs H', K ds → (∀ b o, H b = some o → H' b = some o) → H a = none → H' a = some (.lst xs) → ds.length ≤ sizeLine → RepAll Kf (fun b => A b ∨ b = a) H' xs ds → Q (.ref a) H'
def gSl (f : D → Option Int → Option Int → (D → Prop) → Prop) (ga : TDE) (gl gh : TDO) : TDE := fun Δ K => ga Δ fun x => gl Δ fun l => gh Δ fun h => f x l h K
def gSlF (f : D → Option Int → Option Int → (List D → Prop) → Prop) (ga : TDE) (gl gh : TDO) : TDL := fun Δ K => ga Δ fun x => gl Δ fun l => gh Δ fun h => f x l h K
theorem de_sl (C : Cxt X W N sc kk) {f : D → Option Int → Option Int → (D → Prop) → Prop} {lo hi : Option Expr} {gl gh : TDO} (hr : SlR X (rDS X.K f)) (ha : DB X W a ga ca) (hl : DP X W lo gl cb) (hh : DP X W hi gh cc) :
    DE X W (.Subscript a (.Slice lo hi none p2) pos) (gSl f ga gl gh) (ca + cb + cc) :=
  pe_imp (pe_slice hr ha hl hh) fun σ H Q ⟨k, Δ, K, h1, h2, h3, h4⟩ => ⟨k, Δ, _, by omega, h2, h3, fun dx x H1 q1 c1 r1 => by
    have e1 := h2.chg C.ok c1
    refine ⟨k + ca, Δ, _, by omega, e1, q1, fun l H2 q2 c2 => ?_⟩
    have e2 := e1.chg C.ok c2
    refine ⟨k + ca + cb, Δ, _, by omega, e2, q2, fun u H3 q3 c3 => ?_⟩
    have e3 := e2.chg C.ok c3
    refine ⟨AA W σ Δ, dx, K, e3.dom C, RepO.bo C (RepO.chg C e2 (RepO.chg C e1 r1 c2) c3), q3, fun d v H' hd hx hv => ?_⟩
    have e : k + ca + cb + cc = k + (ca + cb + cc) := by omega
    exact h4 d v H' hd ((c1.trans (c2.trans (e ▸ c3))).trans (e ▸ Chg.of_ext e3.fin hx)) (by rw [C.hK]; exact hv)⟩
theorem df_sl (C : Cxt X W N sc kk) {f : D → Option Int → Option Int → (List D → Prop) → Prop} {lo hi : Option Expr} {gl gh : TDO} (hr : SlR X (rDSF X.K f)) (ha : DB X W a ga ca) (hl : DP X W lo gl cb) (hh : DP X W hi gh cc) :
    DF X W (.Subscript a (.Slice lo hi none p2) pos) (gSlF f ga gl gh) (ca + cb + cc) :=
  pe_imp (pe_slice hr ha hl hh) fun σ H Q ⟨k, Δ, K, h1, h2, h3, h4⟩ => ⟨k, Δ, _, by omega, h2, h3, fun dx x H1 q1 c1 r1 => by
    have e1 := h2.chg C.ok c1
    refine ⟨k + ca, Δ, _, by omega, e1, q1, fun l H2 q2 c2 => ?_⟩
    have e2 := e1.chg C.ok c2
    refine ⟨k + ca + cb, Δ, _, by omega, e2, q2, fun u H3 q3 c3 => ?_⟩
    have e3 := e2.chg C.ok c3
    refine ⟨AA W σ Δ, dx, K, e3.dom C, RepO.bo C (RepO.chg C e2 (RepO.chg C e1 r1 c2) c3), q3, fun ds a xs H' hd hx hn ha hz hv => ?_⟩
    have e : k + ca + cb + cc = k + (ca + cb + cc) := by omega
    have c' : Chg W (k + (ca + cb + cc)) H H3 := c1.trans (c2.trans (e ▸ c3))
    exact h4 ds a xs H' hd (c'.trans (e ▸ Chg.of_ext e3.fin hx)) (c'.free hn) ha hz (by rw [C.hK]; exact hv)⟩

/-! ### tests, and, or, not, if -/
def gTB (g : TDE) : TDT := fun Δ K => g Δ fun d => match d with
  | .bool b => K b
  | _ => False
theorem RepO.bool {x : Bool} (r : RepO W σ Δ H v (.bool x)) : v = .bl x := by
  rcases r with r | ⟨a, xs, ds, e1, e2, _⟩
  · cases r
    rfl
  · cases e2
/-- a test whose value is a bool -/
theorem dt_val (h : DB X W e g c) (he : ∀ whole, isTrue e X.env whole = (do let v ← whole; standAt e.pos; holding [v] (truthy v)) := by intro _; rfl) : DT X W e (gTB g) c :=
  pt_imp (pt_val h he) fun σ H Q ⟨k, Δ, K, h1, h2, h3, h4⟩ => ⟨k, Δ, _, h1, h2, h3, fun d v H' q c r => by
    cases d with
    | bool x => exact ⟨x, RepO.bool r, h4 x H' q c⟩
    | _ => exact (show False from q).elim⟩
theorem dt_cmp (C : Cxt X W N sc kk) {op : CmpOp} {f : D → D → (D → Prop) → Prop} (ho : DOp X (compareOp op) f) (ha : DB X W a ga ca) (hb : DB X W b gb cb) (hm : behindInMarks op b = false := by rfl) : DT X W (.Compare a [op] [b] pos) (gTB (gBin f ga gb)) (ca + cb) :=
  pt_imp (pt_cmpR ho ha hb hm) fun σ H Q ⟨k, Δ, K, h1, h2, h3, h4⟩ => bin_use C (fun _ _ _ h => h) (fun _ _ _ h => h) (fun _ _ _ _ h => h) σ H _ ⟨k, Δ, _, h1, h2, h3, fun d v H' q c r => by
    cases d with
    | bool x => exact ⟨x, RepO.bool (.inl r), h4 x H' q c⟩
    | _ => exact (show False from q).elim⟩
def gNotT (g : TDT) : TDT := fun Δ K => g Δ fun b => K (!b)
theorem dt_not {g : TDT} (h : DT X W e g c) : DT X W (.UnaryOp .Not e pos) (gNotT g) c := pt_imp (pt_not h) fun σ H Q ⟨k, Δ, K, h1, h2, h3, h4⟩ => ⟨k, Δ, _, h1, h2, h3, fun b H' q c => h4 _ H' q c⟩
def gAndT (g u : TDT) : TDT := fun Δ K => g Δ fun b => gIte b (u Δ K) (K false)
def gOrT (g u : TDT) : TDT := fun Δ K => g Δ fun b => gIte b (K true) (u Δ K)
abbrev DW (X : Cx) (W : Wd) (e : Expr) (g : TDT) (c : Nat) : Prop := PW X e (liftT W g c)
theorem pw_imp {X : Cx} {e : Expr} {t t' : TT} (h : PW X e t) (i : ∀ σ H Q, t' σ H Q → t σ H Q) : PW X e t' := ⟨fun w pins s σ H Q I q => h.run w pins s σ H Q I (i σ H Q q)⟩
theorem chgL {k : Nat} (c1 : Chg W (k + ca) H H') : Chg W (k + (ca + cb)) H H' := c1.mono (by omega)
variable {rest : List Expr}
theorem dw_and1 {g : TDT} (h : DT X W e g c) : DW X W (.BoolOp .And [e] pos) g c := pw_and1 h
theorem dw_or1 {g : TDT} (h : DT X W e g c) : DW X W (.BoolOp .Or [e] pos) g c := pw_or1 h
theorem dw_and (C : Cxt X W N sc kk) {g u : TDT} (h : DT X W a g ca) (hr : DW X W (.BoolOp .And (b :: rest) pos) u cb) : DW X W (.BoolOp .And (a :: b :: rest) pos) (gAndT g u) (ca + cb) :=
  pw_imp (pw_and h hr) fun σ H Q ⟨k, Δ, K, h1, h2, h3, h4⟩ => ⟨k, Δ, _, by omega, h2, h3, fun x H1 q1 c1 => by
    cases x with
    | true => exact ⟨k + ca, Δ, K, by omega, h2.chg C.ok c1, q1.1 rfl, fun y H2 q2 c2 => h4 y H2 q2 (chg3 c1 c2)⟩
    | false => exact h4 false H1 (q1.2 rfl) (chgL c1)⟩
theorem dw_or (C : Cxt X W N sc kk) {g u : TDT} (h : DT X W a g ca) (hr : DW X W (.BoolOp .Or (b :: rest) pos) u cb) : DW X W (.BoolOp .Or (a :: b :: rest) pos) (gOrT g u) (ca + cb) :=
  pw_imp (pw_or h hr) fun σ H Q ⟨k, Δ, K, h1, h2, h3, h4⟩ => ⟨k, Δ, _, by omega, h2, h3, fun x H1 q1 c1 => by
    cases x with
    | false => exact ⟨k + ca, Δ, K, by omega, h2.chg C.ok c1, q1.2 rfl, fun y H2 q2 c2 => h4 y H2 q2 (chg3 c1 c2)⟩
    | true => exact h4 true H1 (q1.1 rfl) (chgL c1)⟩
theorem DW.t {g : TDT} (h : DW X W e g c) : DT X W e g c := PW.pt h
/-- .. as values -/
def gAndV (ga gb : TDE) : TDE := fun Δ K => ga Δ fun d => match d with
  | .bool x => gIte x (gb Δ K) (K (.bool false))
  | _ => False
def gOrV (ga gb : TDE) : TDE := fun Δ K => ga Δ fun d => match d with
  | .bool x => gIte x (K (.bool true)) (gb Δ K)
  | _ => False
def gNotV (ga : TDE) : TDE := fun Δ K => ga Δ fun d => match d with
  | .bool x => K (.bool (!x))
  | _ => False
theorem de_one {op} (h : DE X W e g c) : DE X W (.BoolOp op [e] pos) g c := pe_one h
theorem de_and (C : Cxt X W N sc kk) (ha : DE X W a ga ca) (hb : DE X W (.BoolOp .And (b :: rest) pos) gb cb) : DE X W (.BoolOp .And (a :: b :: rest) pos) (gAndV ga gb) (ca + cb) :=
  pe_imp (pe_and ha hb) fun σ H Q ⟨k, Δ, K, h1, h2, h3, h4⟩ => ⟨k, Δ, _, by omega, h2, h3, fun d x H1 q1 c1 r1 => by
    cases d with
    | bool y =>
      refine ⟨y, RepO.bool (.inl r1), ?_⟩
      cases y with
      | true => exact ⟨k + ca, Δ, K, by omega, h2.chg C.ok c1, q1.1 rfl, fun d' v H2 q2 c2 r2 => h4 d' v H2 q2 (chg3 c1 c2) r2⟩
      | false => exact h4 _ _ H1 (q1.2 rfl) (chgL c1) (.bl false)
    | _ => exact (show False from q1).elim⟩
theorem de_or (C : Cxt X W N sc kk) (ha : DE X W a ga ca) (hb : DE X W (.BoolOp .Or (b :: rest) pos) gb cb) : DE X W (.BoolOp .Or (a :: b :: rest) pos) (gOrV ga gb) (ca + cb) :=
  pe_imp (pe_or ha hb) fun σ H Q ⟨k, Δ, K, h1, h2, h3, h4⟩ => ⟨k, Δ, _, by omega, h2, h3, fun d x H1 q1 c1 r1 => by
    cases d with
    | bool y =>
      refine ⟨y, RepO.bool (.inl r1), ?_⟩
      cases y with
      | false => exact ⟨k + ca, Δ, K, by omega, h2.chg C.ok c1, q1.2 rfl, fun d' v H2 q2 c2 r2 => h4 d' v H2 q2 (chg3 c1 c2) r2⟩
      | true => exact h4 _ _ H1 (q1.1 rfl) (chgL c1) (.bl true)
    | _ => exact (show False from q1).elim⟩
theorem de_not (ha : DE X W a ga ca) : DE X W (.UnaryOp .Not a pos) (gNotV ga) ca :=
  pe_imp (pe_not ha) fun σ H Q ⟨k, Δ, K, h1, h2, h3, h4⟩ => ⟨k, Δ, _, h1, h2, h3, fun d x H1 q1 c1 r1 => by
    cases d with
    | bool y => exact ⟨y, RepO.bool (.inl r1), h4 _ _ H1 q1 c1 (.bl _)⟩
    | _ => exact (show False from q1).elim⟩
/-- a comparison's `not x`, x any test -/
def gIf (gt : TDT) (ga gb : TDE) : TDE := fun Δ K => gt Δ fun x => gIte x (ga Δ K) (gb Δ K)
theorem de_if (C : Cxt X W N sc kk) {t : Expr} {gt : TDT} {ct : Nat} (ht : DT X W t gt ct) (ha : DE X W a ga ca) (hb : DE X W b gb cb) : DE X W (.IfExp t a b pos) (gIf gt ga gb) (ct + (ca + cb)) :=
  pe_imp (pe_ifExp ht ha hb) fun σ H Q ⟨k, Δ, K, h1, h2, h3, h4⟩ => ⟨k, Δ, _, by omega, h2, h3, fun x H1 q1 c1 => by
    have e1 := h2.chg C.ok c1
    cases x with
    | true => exact ⟨k + ct, Δ, K, by omega, e1, q1.1 rfl, fun d v H2 q2 c2 r2 => h4 d v H2 q2 (c1.trans (c2.mono (by omega))) r2⟩
    | false => exact ⟨k + ct, Δ, K, by omega, e1, q1.2 rfl, fun d v H2 q2 c2 r2 => h4 d v H2 q2 (c1.trans (c2.mono (by omega))) r2⟩⟩
/-- unary minus -/
def gNeg (ga : TDE) : TDE := fun Δ K => ga Δ fun d => match d with
  | .int i => K (.int (-i))
  | _ => False
theorem de_neg (ha : DB X W a ga ca) : DE X W (.UnaryOp .USub a pos) (gNeg ga) ca :=
  pe_imp (pe_un un_neg ha) fun σ H Q ⟨k, Δ, K, h1, h2, h3, h4⟩ => ⟨k, Δ, _, h1, h2, h3, fun d x H1 q1 c1 r1 => by
    cases d with
    | int y => exact ⟨y, RepO.int r1, h4 _ _ H1 q1 c1 (.int _)⟩
    | _ => exact (show False from q1).elim⟩
/-- a op b op' c -/
def gChain (f f' : D → D → (D → Prop) → Prop) (ga gb gc : TDE) : TDE := fun Δ K => ga Δ fun x => gb Δ fun y => f x y fun z => match z with
  | .bool t => gIte t (gc Δ fun w => f' y w K) (K (.bool false))
  | _ => False
theorem chain_use (C : Cxt X W N sc kk) {f f' : D → D → (D → Prop) → Prop} : ∀ σ H Q, lift W (gChain f f' ga gb gc) (ca + (cb + cc)) σ H Q → tChain (rD X.K f) (rD X.K f') (liftB W ga ca) (liftB W gb cb) (liftB W gc cc) σ H Q := fun σ H Q ⟨k, Δ, K, h1, h2, h3, h4⟩ =>
  ⟨k, Δ, _, by omega, h2, h3, fun dx x H1 q1 c1 r1 => by
    have e1 := h2.chg C.ok c1
    refine ⟨k + ca, Δ, _, by omega, e1, q1, fun dy y H2 q2 c2 r2 => ?_⟩
    have e2 := e1.chg C.ok c2
    refine ⟨AA W σ Δ, dx, dy, _, e2.dom C, RepB.of C e1 r1 c2, RepB.of C e2 r2 e2.refl, q2, fun z v H3 q3 x3 r3 => ?_⟩
    have c3 := Chg.of_ext e2.fin x3
    cases z with
    | bool t =>
      refine ⟨t, ?_, ?_⟩
      · cases r3
        rfl
      cases t with
      | true =>
        have e3 := e2.chg C.ok c3
        refine ⟨k + ca + cb, Δ, _, by omega, e3, q3.1 rfl, fun dw w' H4 q4 c4 r4 => ?_⟩
        have e4 := e3.chg C.ok c4
        refine ⟨AA W σ Δ, dy, dw, K, e4.dom C, RepO.bo C (RepO.chg C e3 (RepO.chg C e2 r2 c3) c4), RepO.bo C r4, q4, fun d v H5 hd hx hv => ?_⟩
        have c5 := Chg.of_ext e4.fin hx
        have e : k + ca + cb + cc = k + (ca + (cb + cc)) := by omega
        exact h4 d v H5 hd (c1.trans (c2.trans (c3.trans (e ▸ (c4.trans c5))))) (by rw [C.hK]; exact hv)
      | false =>
        refine h4 _ _ H3 (q3.2 rfl) (c1.trans (c2.trans (c3.mono (by omega)))) (.bl false)
    | _ => exact (show False from q3).elim⟩
theorem de_chain (C : Cxt X W N sc kk) {op op' : CmpOp} {f f' : D → D → (D → Prop) → Prop} {c0 : Expr} (ho : DOp X (compareOp op) f) (ho' : DOp X (compareOp op') f') (ha : DB X W a ga ca) (hb : DB X W b gb cb) (hc : DB X W c0 gc cc) (hm : lastMarks [op, op'] [b, c0] = false := by with_unfolding_all rfl) :
    DE X W (.Compare a [op, op'] [b, c0] pos) (gChain f f' ga gb gc) (ca + (cb + cc)) := pe_imp (pe_chain ho ho' ha hb hc hm) (chain_use C)
theorem dt_chain (C : Cxt X W N sc kk) {op op' : CmpOp} {f f' : D → D → (D → Prop) → Prop} {c0 : Expr} (ho : DOp X (compareOp op) f) (ho' : DOp X (compareOp op') f') (ha : DB X W a ga ca) (hb : DB X W b gb cb) (hc : DB X W c0 gc cc) (hm : lastMarks [op, op'] [b, c0] = false := by with_unfolding_all rfl) :
    DT X W (.Compare a [op, op'] [b, c0] pos) (gTB (gChain f f' ga gb gc)) (ca + (cb + cc)) := pt_imp (pt_chain ho ho' ha hb hc hm) fun σ H Q ⟨k, Δ, K, h1, h2, h3, h4⟩ => chain_use C σ H _ ⟨k, Δ, _, h1, h2, h3, fun d v H' q c r => by
    cases d with
    | bool x => exact ⟨x, RepO.bool (.inl r), h4 x H' q c⟩
    | _ => exact (show False from q).elim⟩

/-! ### calls of built-ins, of methods of built-in types -/
def rDC (Kf : PySem.W.Frag) (f : List D → (D → Prop) → Prop) : List V → Hp → VK → Prop := fun xs H Q => ∃ (A : Addr → Prop) (ds : List D) (K : D → Prop), (∀ a, A a → H a ≠ none) ∧ RepBs Kf A H xs ds ∧ f ds K ∧
  ∀ d v H', K d → (∀ b o, H b = some o → H' b = some o) → Rep Kf A H' v d → Q v H'
def rDCF (Kf : PySem.W.Frag) (f : List D → (List D → Prop) → Prop) : List V → Hp → VK → Prop := fun xs H Q => ∃ (A : Addr → Prop) (ds : List D) (K : List D → Prop), (∀ a, A a → H a ≠ none) ∧ RepBs Kf A H xs ds ∧ f ds K ∧
  ∀ ds a xs H', K ds → (∀ b o, H b = some o → H' b = some o) → H a = none → H' a = some (.lst xs) → ds.length ≤ sizeLine → RepAll Kf (fun b => A b ∨ b = a) H' xs ds → Q (.ref a) H'
abbrev DCall (X : Cx) (f : Value) (r : List D → (D → Prop) → Prop) : Prop := CallR X f (rDC X.K r)
abbrev DCallF (X : Cx) (f : Value) (r : List D → (List D → Prop) → Prop) : Prop := CallR X f (rDCF X.K r)
def gCall (f : List D → (D → Prop) → Prop) (ga : TDL) : TDE := fun Δ K => ga Δ fun ds => f ds K
def gCallF (f : List D → (List D → Prop) → Prop) (ga : TDL) : TDL := fun Δ K => ga Δ fun ds => f ds K
theorem call_use (C : Cxt X W N sc kk) {f : List D → (D → Prop) → Prop} {gl : TDL} : ∀ σ H Q, lift W (gCall f gl) c σ H Q → tCB (rDC X.K f) (liftLB W gl c) σ H Q := fun σ H Q ⟨k, Δ, K, h1, h2, h3, h4⟩ =>
  ⟨k, Δ, _, h1, h2, h3, fun ds vs H1 q1 c1 r1 => by
    have e1 := h2.chg C.ok c1
    exact ⟨AA W σ Δ, ds, K, e1.dom C, r1.bo C, q1, fun d v H' hd hx hv => h4 d v H' hd (c1.trans (Chg.of_ext e1.fin hx)) (by rw [C.hK]; exact hv)⟩⟩
theorem callF_use (C : Cxt X W N sc kk) {f : List D → (List D → Prop) → Prop} {gl : TDL} : ∀ σ H Q, liftF W (gCallF f gl) c σ H Q → tCB (rDCF X.K f) (liftLB W gl c) σ H Q := fun σ H Q ⟨k, Δ, K, h1, h2, h3, h4⟩ =>
  ⟨k, Δ, _, h1, h2, h3, fun ds vs H1 q1 c1 r1 => by
    have e1 := h2.chg C.ok c1
    exact ⟨AA W σ Δ, ds, K, e1.dom C, r1.bo C, q1, fun ds' a xs H' hd hx hn ha hz hv => h4 ds' a xs H' hd (c1.trans (Chg.of_ext e1.fin hx)) (c1.free hn) ha hz (by rw [C.hK]; exact hv)⟩⟩
variable {x : Str} {id T : String} {gl : TDL}
theorem de_callB (C : Cxt X W N sc kk) {f : List D → (D → Prop) → Prop} (hc : DCall X (.builtin id) f) (hg : sc.names.lookup x = some .globalImplicit) (hm : X.mg x = none) (hv : bootBuiltins x = some (.builtin id)) (ha : DAb X W (e :: es) gl c)
    (hn : x ≠ "__name__" := by decide +kernel) (hdb : (x == ("__debug__" : Str)) = false := by decide +kernel) (he : starEach (e :: es) X.env = (false, eval e X.env) :: starEach es X.env := by rfl) (hpl : (backTo pos (starEach es X.env)).any (·.1) = false := by rfl) :
    DE X W (.Call (.Name x p) (e :: es) [] pos) (gCall f gl) c := pe_imp (pe_callB hc (C.gl hg) hm hv ha hn hdb he hpl) (call_use C)
theorem de_callT (C : Cxt X W N sc kk) {f : List D → (D → Prop) → Prop} (hc : DCall X (.type T) f) (hg : sc.names.lookup x = some .globalImplicit) (hm : X.mg x = none) (hv : bootBuiltins x = some (.type T)) (ha : DAb X W (e :: es) gl c)
    (hn : x ≠ "__name__" := by decide +kernel) (hdb : (x == ("__debug__" : Str)) = false := by decide +kernel) (he : starEach (e :: es) X.env = (false, eval e X.env) :: starEach es X.env := by rfl) (hpl : (backTo pos (starEach es X.env)).any (·.1) = false := by rfl) :
    DE X W (.Call (.Name x p) (e :: es) [] pos) (gCall f gl) c := pe_imp (pe_callTy hc (C.gl hg) hm hv ha hn hdb he hpl) (call_use C)
theorem df_callB (C : Cxt X W N sc kk) {f : List D → (List D → Prop) → Prop} (hc : DCallF X (.builtin id) f) (hg : sc.names.lookup x = some .globalImplicit) (hm : X.mg x = none) (hv : bootBuiltins x = some (.builtin id)) (ha : DAb X W (e :: es) gl c)
    (hn : x ≠ "__name__" := by decide +kernel) (hdb : (x == ("__debug__" : Str)) = false := by decide +kernel) (he : starEach (e :: es) X.env = (false, eval e X.env) :: starEach es X.env := by rfl) (hpl : (backTo pos (starEach es X.env)).any (·.1) = false := by rfl) :
    DF X W (.Call (.Name x p) (e :: es) [] pos) (gCallF f gl) c := pe_imp (pe_callB hc (C.gl hg) hm hv ha hn hdb he hpl) (callF_use C)
theorem df_callT (C : Cxt X W N sc kk) {f : List D → (List D → Prop) → Prop} (hc : DCallF X (.type T) f) (hg : sc.names.lookup x = some .globalImplicit) (hm : X.mg x = none) (hv : bootBuiltins x = some (.type T)) (ha : DAb X W (e :: es) gl c)
    (hn : x ≠ "__name__" := by decide +kernel) (hdb : (x == ("__debug__" : Str)) = false := by decide +kernel) (he : starEach (e :: es) X.env = (false, eval e X.env) :: starEach es X.env := by rfl) (hpl : (backTo pos (starEach es X.env)).any (·.1) = false := by rfl) :
    DF X W (.Call (.Name x p) (e :: es) [] pos) (gCallF f gl) c := pe_imp (pe_callTy hc (C.gl hg) hm hv ha hn hdb he hpl) (callF_use C)
/-- a name of the module for a built-in function (from math import gcd) -/
theorem de_callG (C : Cxt X W N sc kk) {f : List D → (D → Prop) → Prop} (hc : DCall X (.builtin id) f) (hg : sc.names.lookup x = some .globalImplicit) (hm : X.mg x = some (.builtin id)) (ha : DAb X W (e :: es) gl c)
    (hdb : (x == ("__debug__" : Str)) = false := by decide +kernel) (he : starEach (e :: es) X.env = (false, eval e X.env) :: starEach es X.env := by rfl) (hpl : (backTo pos (starEach es X.env)).any (·.1) = false := by rfl) :
    DE X W (.Call (.Name x p) (e :: es) [] pos) (gCall f gl) c := pe_imp (pe_callBfun hc (C.gl hg) hm ha hdb he hpl) (call_use C)
end
end DL
/-! DLStmt: targets, statements, loops over data. -/
namespace DL
open PySem PySem.Spec PyProof.Rows L2

structure DEnds where
  nx : DEnv → Prop
  rt : D → Prop
  bk : DEnv → Prop := fun _ => False
  ct : DEnv → Prop := fun _ => False
abbrev TDS := DEnds → DEnv → Prop
structure EndsOk (W : Wd) (k : Nat) (A : Addr → Prop) (H : Hp) (D2 : DEnds) (E : Ends) : Prop where
  nx : ∀ Δ' σ' H', D2.nx Δ' → En W k σ' H' Δ' → Kp A (AA W σ' Δ') H H' → E.nx σ' H'
  rt : ∀ d v H', D2.rt d → Fin W k H' → Rep W.K W.A0 H' v d → E.rt v H'
  bk : ∀ Δ' σ' H', D2.bk Δ' → En W k σ' H' Δ' → Kp A (AA W σ' Δ') H H' → E.bk σ' H'
  ct : ∀ Δ' σ' H', D2.ct Δ' → En W k σ' H' Δ' → Kp A (AA W σ' Δ') H H' → E.ct σ' H'
def liftS (W : Wd) (g : TDS) (c : Nat) : TS := fun E σ H => ∃ (k : Nat) (Δ : DEnv) (D2 : DEnds), k + c ≤ W.c0 ∧ En W k σ H Δ ∧ g D2 Δ ∧ EndsOk W (k + c) (AA W σ Δ) H D2 E
abbrev DS (X : Cx) (W : Wd) (s : Stmt) (g : TDS) (c : Nat) : Prop := PS X s (liftS W g c)
abbrev DSs (X : Cx) (W : Wd) (s : List Stmt) (g : TDS) (c : Nat) : Prop := PSs X s (liftS W g c)
theorem Kp.trans {A A' A'' : Addr → Prop} {H H' H'' : Hp} (a : Kp A A' H H') (b : Kp A' A'' H' H'') : Kp A A'' H H'' := fun c o e n => b c o (a c o e n).1 (a c o e n).2
theorem Kp.refl {A : Addr → Prop} {H : Hp} : Kp A A H H := fun _ _ e n => ⟨e, n⟩
section
variable {X : Cx} {W : Wd} {N : List Str} {sc : Scope} {kk : Nat} {e a b : Expr} {es : List Expr} {c ca cb cc : Nat} {g ga gb gc : TDE} {pos p p2 : Pos} {k j : Nat} {σ : St} {Δ : DEnv} {H H' : Hp} {v : V} {d : D}
theorem EndsOk.step {A A' : Addr → Prop} {D2 : DEnds} {E : Ends} (h : EndsOk W k A H D2 E) (q : Kp A A' H H') : EndsOk W k A' H' D2 E :=
  ⟨fun Δ' σ' H2 a b c => h.nx Δ' σ' H2 a b (q.trans c), h.rt, fun Δ' σ' H2 a b c => h.bk Δ' σ' H2 a b (q.trans c), fun Δ' σ' H2 a b c => h.ct Δ' σ' H2 a b (q.trans c)⟩
theorem EndsOk.le {A : Addr → Prop} {D2 : DEnds} {E : Ends} (h : EndsOk W j A H D2 E) (l : k ≤ j) : EndsOk W k A H D2 E :=
  ⟨fun Δ' σ' H2 a b c => h.nx Δ' σ' H2 a (b.mono l) c, fun d v H2 a b c => h.rt d v H2 a (b.mono l) c, fun Δ' σ' H2 a b c => h.bk Δ' σ' H2 a (b.mono l) c, fun Δ' σ' H2 a b c => h.ct Δ' σ' H2 a (b.mono l) c⟩

/-! ### blocks -/
def gNext : TDS := fun D Δ => D.nx Δ
def gSeq (g1 g2 : TDS) : TDS := fun D Δ => g1 { D with nx := g2 D } Δ
theorem dss_nil : DSs X W [] gNext 0 := pss_imp pss_nil fun E σ H ⟨k, Δ, D2, h1, h2, h3, h4⟩ => h4.nx Δ σ H h3 h2 Kp.refl
theorem dss_cons {s : Stmt} {r : List Stmt} {g1 g2 : TDS} (h : DS X W s g1 ca) (hr : DSs X W r g2 cb) : DSs X W (s :: r) (gSeq g1 g2) (ca + cb) :=
  pss_imp (pss_cons h hr) fun E σ H ⟨k, Δ, D2, h1, h2, h3, h4⟩ => ⟨k, Δ, { D2 with nx := g2 D2 }, by omega, h2, h3,
    ⟨fun Δ' σ' H' q e kp => ⟨k + ca, Δ', D2, by omega, e, q, (h4.le (by omega)).step kp⟩, (h4.le (by omega)).rt, (h4.le (by omega)).bk, (h4.le (by omega)).ct⟩⟩
theorem dss_one {s : Stmt} {g1 : TDS} (h : DS X W s g1 ca) : DSs X W [s] g1 ca := pss_one h
theorem ds_pass : DS X W (.Pass pos) gNext 0 := ps_imp ps_pass fun E σ H ⟨k, Δ, D2, h1, h2, h3, h4⟩ => h4.nx Δ σ H h3 h2 Kp.refl
def gBreak : TDS := fun D Δ => D.bk Δ
def gCont : TDS := fun D Δ => D.ct Δ
theorem ds_break : DS X W (.Break pos) gBreak 0 := ps_imp ps_break fun E σ H ⟨k, Δ, D2, h1, h2, h3, h4⟩ => h4.bk Δ σ H h3 h2 Kp.refl
theorem ds_cont : DS X W (.Continue pos) gCont 0 := ps_imp ps_continue fun E σ H ⟨k, Δ, D2, h1, h2, h3, h4⟩ => h4.ct Δ σ H h3 h2 Kp.refl
def gDrop (g : TDE) : TDS := fun D Δ => g Δ fun _ => D.nx Δ
theorem ds_expr (C : Cxt X W N sc kk) (h : DB X W e g c) (hs : swapsWith e none pos.line X.env = pure false := by rfl) : DS X W (.Expr e pos) (gDrop g) c :=
  ps_imp (ps_expr h hs) fun E σ H ⟨k, Δ, D2, h1, h2, h3, h4⟩ => ⟨k, Δ, _, h1, h2, h3, fun d v H' q c r => h4.nx Δ σ H' q (h2.chg C.ok c) (c.kpE C.ok)⟩
def gRet (g : TDE) : TDS := fun D Δ => g Δ D.rt
theorem Kp.toA0 {A : Addr → Prop} (s : ∀ a, W.A0 a → A a) : Kp A W.A0 H H := fun _ _ e n => ⟨e, fun q => n (s _ q)⟩
theorem ds_ret (C : Cxt X W N sc kk) (h : DE X W e g c) : DS X W (.Return (some e) pos) (gRet g) c :=
  ps_imp (ps_ret h) fun E σ H ⟨k, Δ, D2, h1, h2, h3, h4⟩ => ⟨k, Δ, _, h1, h2, h3, fun d v H' q c r => h4.rt d v H' q (h2.fin.chg c) (r.map (Kp.toA0 fun _ => .inl))⟩
/-- a list of the def's own is given back -/
theorem ds_retO (C : Cxt X W N sc kk) (h : DB X W e g c) : DS X W (.Return (some e) pos) (gRet g) c :=
  ps_imp (ps_ret h) fun E σ H ⟨k, Δ, D2, h1, h2, h3, h4⟩ => ⟨k, Δ, _, h1, h2, h3, fun d v H' q c r => h4.rt d v H' q (h2.fin.chg c) (by
    rcases r with r | ⟨a, xs, ds, e1, e2, e3, r, z, i, es, o1, o2⟩
    · exact r.map (Kp.toA0 fun _ => .inl)
    · subst e1 e2
      have s := h2.sl i
      rw [o1] at s
      obtain ⟨a', xs', g1, _, _, _, g5, _⟩ := s
      rw [o2] at g1
      cases g1
      exact .lst e3 g5 z (r.map (Kp.toA0 fun _ => .inl)))⟩
def gRetN : TDS := fun D _ => D.rt .none
theorem ds_retN : DS X W (.Return none pos) gRetN 0 := ps_imp ps_retN fun E σ H ⟨k, Δ, D2, h1, h2, h3, h4⟩ => h4.rt .none .non H h3 h2.fin .non
def gIfS (gt : TDT) (g1 g2 : TDS) : TDS := fun D Δ => gt Δ fun b => gIte b (g1 D Δ) (g2 D Δ)
theorem ds_if (C : Cxt X W N sc kk) {t : Expr} {s1 s2 : List Stmt} {gt : TDT} {g1 g2 : TDS} {ct : Nat} (ht : DT X W t gt ct) (ha : DSs X W s1 g1 ca) (hb : DSs X W s2 g2 cb) : DS X W (.If t s1 s2 pos) (gIfS gt g1 g2) (ct + (ca + cb)) :=
  ps_imp (ps_if ht ha hb) fun E σ H ⟨k, Δ, D2, h1, h2, h3, h4⟩ => ⟨k, Δ, _, by omega, h2, h3, fun x H1 q1 c1 => by
    have e1 := h2.chg C.ok c1
    cases x with
    | true => exact ⟨k + ct, Δ, D2, by omega, e1, q1.1 rfl, (h4.le (by omega)).step (c1.kpE C.ok)⟩
    | false => exact ⟨k + ct, Δ, D2, by omega, e1, q1.2 rfl, (h4.le (by omega)).step (c1.kpE C.ok)⟩⟩

/-! ### stores -/
theorem ownA_set {i : Nat} {s : Sv} {x : Option V} {a : Addr} (hs : ∀ ds, s ≠ .own ds) (h : OwnA (σ.set i x) (Δ.set i s) a) : OwnA σ Δ a := by
  obtain ⟨j, ds, h1, h2⟩ := h
  by_cases e : j = i
  · subst e
    by_cases l : j < Δ.length
    · rw [nth_set_self l] at h1
      exact absurd h1 (hs ds)
    · have z : (Δ.set j s) = Δ := List.set_eq_of_length_le (by omega)
      rw [z] at h1
      exact absurd (nth_lt (by rw [h1]; simp)) l
  · rw [nth_set_ne e] at h1
    rw [List.getElem?_set_ne (fun z => e z.symm)] at h2
    exact ⟨j, ds, h1, h2⟩
theorem aa_set {i : Nat} {s : Sv} {x : Option V} {a : Addr} (hs : ∀ ds, s ≠ .own ds) (h : AA W (σ.set i x) (Δ.set i s) a) : AA W σ Δ a := h.elim .inl fun q => .inr (ownA_set hs q)
theorem Kp.less {A A' : Addr → Prop} (h : ∀ a, A' a → A a) : Kp A A' H H := fun _ _ e n => ⟨e, fun q => n (h _ q)⟩
theorem SlotOk.mono {A A' : Addr → Prop} {s : Sv} (h : ∀ a, A' a → A a) {i : Nat} (q : SlotOk W σ A H i s) : SlotOk W σ A' H i s := by
  cases s with
  | un => trivial
  | dat d =>
    obtain ⟨v, e, r⟩ := q
    exact ⟨v, e, r.map (Kp.less h)⟩
  | scr ns =>
    obtain ⟨v, e, r⟩ := q
    exact ⟨v, e, r.map (Kp.less h)⟩
  | pot => exact q
  | own ds =>
    obtain ⟨a, xs, e1, e2, r, e3⟩ := q
    exact ⟨a, xs, e1, e2, r.map (Kp.less h), e3⟩
theorem slot_set {A : Addr → Prop} {s : Sv} {i j : Nat} {x : Option V} (e : j ≠ i) (h : SlotOk W σ A H j s) : SlotOk W (σ.set i x) A H j s := by
  have z : (σ.set i x)[j]? = σ[j]? := List.getElem?_set_ne fun z => e z.symm
  cases s with
  | un => trivial
  | dat d =>
    obtain ⟨v, e, r⟩ := h
    exact ⟨v, z.trans e, r⟩
  | scr ns =>
    obtain ⟨v, e, r⟩ := h
    exact ⟨v, z.trans e, r⟩
  | pot =>
    obtain ⟨a, e, r⟩ := h
    exact ⟨a, z.trans e, r⟩
  | own ds =>
    obtain ⟨a, xs, e1, r⟩ := h
    exact ⟨a, xs, z.trans e1, r⟩
/-- a slot gets new data, or is forgotten -/
theorem En.store (en : En W k σ H Δ) {i : Nat} {s : Sv} {x : Option V} (hs : ∀ ds, s ≠ .own ds) (hi : i < σ.length → SlotOk W (σ.set i x) (AA W σ Δ) H i s) : En W k (σ.set i x) H (Δ.set i s) := by
  refine ⟨by rw [List.length_set, List.length_set]; exact en.len, fun j => ?_, fun j l ds es a h1 h2 h3 h4 => ?_, en.fin, en.dom0⟩
  · refine SlotOk.mono (fun a q => aa_set hs q) ?_
    by_cases e : j = i
    · subst e
      by_cases l : j < Δ.length
      · rw [nth_set_self l]
        exact hi (by rw [← en.len]; exact l)
      · have z : (Δ.set j s) = Δ := List.set_eq_of_length_le (by omega)
        have z2 : (σ.set j x) = σ := List.set_eq_of_length_le (by rw [← en.len]; omega)
        rw [z, z2]
        exact en.sl j
    · rw [nth_set_ne e]
      exact slot_set e (en.sl j)
  · have f : ∀ {j : Nat} {ds : List D}, nth (Δ.set i s) j = .own ds → (σ.set i x)[j]? = some (some (.ref a)) → nth Δ j = .own ds ∧ σ[j]? = some (some (.ref a)) := fun {j ds} h1 h3 => by
      by_cases e : j = i
      · subst e
        by_cases l : j < Δ.length
        · rw [nth_set_self l] at h1
          exact absurd h1 (hs ds)
        · have z : (Δ.set j s) = Δ := List.set_eq_of_length_le (by omega)
          have z2 : (σ.set j x) = σ := List.set_eq_of_length_le (by rw [← en.len]; omega)
          rw [z] at h1
          rw [z2] at h3
          exact ⟨h1, h3⟩
      · rw [nth_set_ne e] at h1
        rw [List.getElem?_set_ne (fun z => e z.symm)] at h3
        exact ⟨h1, h3⟩
    exact en.uniq j l ds es a (f h1 h3).1 (f h2 h4).1 (f h1 h3).2 (f h2 h4).2
theorem En.dat (en : En W k σ H Δ) {i : Nat} (r : Rep W.K (AA W σ Δ) H v d) : En W k (σ.set i (some v)) H (Δ.set i (.dat d)) :=
  en.store (fun _ z => by cases z) fun l => ⟨v, List.getElem?_set_self l, r⟩
theorem kp_set {i : Nat} {s : Sv} {x : Option V} (hs : ∀ ds, s ≠ .own ds) : Kp (AA W σ Δ) (AA W (σ.set i x) (Δ.set i s)) H H := Kp.less fun _ q => aa_set hs q
/-- a slot gets a new list of its own: it lay at no address of H -/
theorem En.own (en : En W k σ H Δ) {i : Nat} {a : Addr} {xs : List V} {ds : List D} (hi : i < σ.length) (c : Chg W j H H') (hn : H a = none) (hl : H' a = some (.lst xs)) (hz : ds.length ≤ sizeLine) (r : RepAll W.K (fun b => AA W σ Δ b ∨ b = a) H' xs ds) (ok : W.Ok) :
    En W j (σ.set i (some (.ref a))) H' (Δ.set i (.own ds)) ∧ Kp (AA W σ Δ) (AA W (σ.set i (some (.ref a))) (Δ.set i (.own ds))) H H' := by
  have li : i < Δ.length := by rw [en.len]; exact hi
  have sub : ∀ b, AA W (σ.set i (some (.ref a))) (Δ.set i (.own ds)) b → AA W σ Δ b ∨ b = a := fun b q => by
    rcases q with q | ⟨j, es, h1, h2⟩
    · exact .inl (.inl q)
    · by_cases e : j = i
      · subst e
        rw [List.getElem?_set_self hi] at h2
        cases h2
        exact .inr rfl
      · rw [nth_set_ne e] at h1
        rw [List.getElem?_set_ne (fun z => e z.symm)] at h2
        exact .inl (.inr ⟨j, es, h1, h2⟩)
  have kp : Kp (AA W σ Δ) (AA W (σ.set i (some (.ref a))) (Δ.set i (.own ds))) H H' := fun b o e n => ⟨c.keep b o e fun q => n (.inl (ok.sub b q)), fun q => (sub b q).elim n fun z => by
    rw [z, hn] at e
    cases e⟩
  have hA0 : ¬ W.A0 a := fun q => en.dom0 a q hn
  refine ⟨⟨by rw [List.length_set, List.length_set]; exact en.len, fun l => ?_, fun j1 j2 d1 d2 b h1 h2 h3 h4 => ?_, en.fin.chg c, fun b q => c.dom (en.dom0 b q)⟩, kp⟩
  · by_cases e : l = i
    · subst e
      rw [nth_set_self li]
      exact ⟨a, xs, List.getElem?_set_self hi, hl, r.map (Kp.less sub), en.fin.free hn, hA0, hz⟩
    · rw [nth_set_ne e]
      have s := (en.chg ok c).sl l
      refine slot_set e ?_
      have s0 := en.sl l
      revert s s0
      cases h : nth Δ l with
      | un => exact fun _ _ => trivial
      | dat d =>
        rintro _ ⟨v, e1, r1⟩
        exact ⟨v, e1, r1.map kp⟩
      | scr ns =>
        rintro _ ⟨v, e1, r1⟩
        exact ⟨v, e1, r1.map kp⟩
      | pot => exact fun s _ => s
      | own es =>
        rintro ⟨b, ys, e1, e2, r1, e3⟩ ⟨b', ys', f1, f2, r2, f3⟩
        rw [e1] at f1
        cases f1
        have f2' := c.keep b _ f2 fun q => ok.pdom b q f3.1
        rw [e2] at f2'
        cases f2'
        exact ⟨b, ys, e1, e2, r2.map kp, e3⟩
  · have f : ∀ {j : Nat} {es : List D}, j ≠ i → nth (Δ.set i (.own ds)) j = .own es → (σ.set i (some (.ref a)))[j]? = some (some (.ref b)) → nth Δ j = .own es ∧ σ[j]? = some (some (.ref b)) := fun {j es} e h1 h3 => by
      rw [nth_set_ne e] at h1
      rw [List.getElem?_set_ne (fun z => e z.symm)] at h3
      exact ⟨h1, h3⟩
    have ne : ∀ {j : Nat} {es : List D}, j ≠ i → nth (Δ.set i (.own ds)) j = .own es → (σ.set i (some (.ref a)))[j]? = some (some (.ref b)) → b ≠ a := fun {j es} e h1 h3 z => by
      obtain ⟨g1, g2⟩ := f e h1 h3
      have s := en.sl j
      rw [g1] at s
      obtain ⟨b', ys, q1, q2, _⟩ := s
      rw [g2] at q1
      cases q1
      rw [z, hn] at q2
      cases q2
    by_cases e1 : j1 = i
    · by_cases e2 : j2 = i
      · rw [e1, e2]
      · subst e1
        rw [List.getElem?_set_self hi] at h3
        cases h3
        exact absurd rfl (ne e2 h2 h4)
    · by_cases e2 : j2 = i
      · subst e2
        rw [List.getElem?_set_self hi] at h4
        cases h4
        exact absurd rfl (ne e1 h1 h3)
      · exact en.uniq j1 j2 d1 d2 b (f e1 h1 h3).1 (f e2 h2 h4).1 (f e1 h1 h3).2 (f e2 h2 h4).2
end
end DL
/-! DLFun: defs, their calls, their bodies; the guards of repr are told. -/
namespace DL
open PySem PySem.Spec PyProof.Rows L2

/-- a def's promise where no repr is under way -/
structure FnG (P : Program) (w : World) (K : PySem.W.Frag) (mg : Str → Option Value) (base : Heap) (k : Nat) (f : Addr) (fd : FuncData) (ps : List Str) (sp : Sp) : Prop where
  len : ∀ vs H Q E, sp vs H Q E → vs.length = ps.length
  run : ∀ (A : Around) (outer : List Env) (s : Shared) (H : Hp) (args : Args) (us : List Value) (vs : List V) (Q : VK) (E : XK), A.guards = some [] → Room k A → Env0 P w K mg base A outer s H → BindsTo s fd args (ps.zip us) → Vals vs us →
    sp vs H Q E → codeAny (model P w) A (.call (.ref f) args) (CR (L2.CX P w) outer P w H s Q E) s
/-- how arguments come to parameters: n by place, ks by name, ds from the defaults -/
def BindG (K : PySem.W.Frag) (fd : FuncData) (ps : List Str) (n : Nat) (ks : List Str) (ds : List Value) : Prop :=
  ∀ (s : Shared) (us ws : List Value), K.In s.heap → us.length = n → ws.length = ks.length → BindsTo s fd ⟨us, ks.zip ws⟩ (ps.zip (us ++ (ws ++ ds)))
theorem BindG.plain {K : PySem.W.Frag} {fd : FuncData} {ps ks : List Str} {n : Nat} (h : ∀ us ws : List Value, us.length = n → ws.length = ks.length → bindArgs fd ⟨us, ks.zip ws⟩ = pure (ps.zip (us ++ ws))) : BindG K fd ps n ks [] := fun s us ws _ h1 h2 => by
  rw [List.append_nil]
  exact .of_eq (h us ws h1 h2)
section
variable {P : Program} {w : World} {K : PySem.W.Frag} {mg : Str → Option Value} {base : Heap} {k : Nat} {f : Addr} {fd : FuncData} {ps ks : List Str} {sp : Sp} {X : Cx} {E : XK} {x : Str} {p pos : Pos} {n : Nat} {ds : List Value} {dvs : List V}
theorem FnG.mono {j : Nat} (F : FnG P w K mg base k f fd ps sp) (h : k ≤ j) : FnG P w K mg base j f fd ps sp :=
  ⟨F.len, fun A outer s H args us vs Q E hg hr => F.run A outer s H args us vs Q E hg (hr.mono h)⟩
theorem FnG.of_ok (F : FnOk P w K mg base (L2.CX P w) k f fd ps sp) : FnG P w K mg base k f fd ps sp := ⟨F.len, fun A outer s H args us vs Q E _ => F.run A outer s H args us vs Q E⟩
/-- the callee's run, seen from the caller's body -/
theorem run_g {pins : List (Addr × Obj)} {σ : St} {H : Hp} {s : Shared} {Q : VK} {us ws : List Value} {vs zs : List V} (F : FnG X.prog X.w X.K X.mg X.base k f fd ps sp) (hr : Room k X.A) (hg : X.A.guards = some []) (hb : BindG X.K fd ps n ks ds) (hd : Vals dvs ds) (hx : Passes (L2.CX X.prog X.w) X E)
    (I : Inv X pins σ H s) (r : Vals vs us) (rz : Vals zs ws) (h1 : us.length = n) (h2 : ws.length = ks.length) (h : sp (vs ++ (zs ++ dvs)) H Q E) : wpAny (model X.prog X.w) X.A (call (.ref f) us (ks.zip ws)) (EP X pins σ Q) X.xe s := by
  have code := F.run X.A X.stack s H ⟨us, ks.zip ws⟩ (us ++ (ws ++ ds)) (vs ++ (zs ++ dvs)) Q E hg hr I.env0 (hb s us ws I.kIn h1 h2) (r.append (rz.append hd)) h
  refine wpAny_call (codeAny_mono code fun res s' q => ?_)
  match res, q with
  | .error e, q => exact hx pins σ H s e s' I q
  | .ok (.ret u), q => exact I.after q
theorem zip_nil_nil {us : List Value} (h : us.length = ([] : List Str).length) : us = [] := List.eq_nil_of_length_eq_zero h
/-- f(e, ..) -/
theorem pe_g {e : Expr} {es : List Expr} {t : TA} (F : FnG X.prog X.w X.K X.mg X.base k f fd ps sp) (hr : Room k X.A) (hg : X.A.guards = some []) (hgl : Gl X x) (hm : X.mg x = some (.ref f)) (hk : PySem.W.keepIn X.K (.ref f) = true) (hb : BindG X.K fd ps n [] ds) (hd : Vals dvs ds)
    (hx : Passes (L2.CX X.prog X.w) X E) (ha : PA X (e :: es) t) (hdb : (x == ("__debug__" : Str)) = false) (he : starEach (e :: es) X.env = (false, eval e X.env) :: starEach es X.env) (hpl : (backTo pos (starEach es X.env)).any (·.1) = false) :
    PE X (.Call (.Name x p) (e :: es) [] pos) (fun σ H Q => t σ H fun vs H1 => vs.length = n ∧ sp (vs ++ dvs) H1 Q E) := by
  refine ⟨fun pins s σ H Q I h => wpAny_Call_Name_kw (ld_glob I hgl hm ?_ hdb)⟩
  refine PySem.W.callWith_K (h₀ := X.base) I.ok.mod.kin hk ?_ he hpl
  refine thn (ha.run pos pins s σ H _ I h) ?_
  rintro us s1 ⟨vs, H1, I1, r, hn, q⟩
  exact ⟨I1.kIn, run_g (ws := []) (zs := []) F hr hg hb hd hx I1 r .nil (r.length.symm.trans hn) rfl q⟩
/-- f() -/
theorem pe_g0 (F : FnG X.prog X.w X.K X.mg X.base k f fd ps sp) (hr : Room k X.A) (hg : X.A.guards = some []) (hgl : Gl X x) (hm : X.mg x = some (.ref f)) (hk : PySem.W.keepIn X.K (.ref f) = true) (hb : BindG X.K fd ps 0 [] ds) (hd : Vals dvs ds)
    (hx : Passes (L2.CX X.prog X.w) X E) (hdb : (x == ("__debug__" : Str)) = false) : PE X (.Call (.Name x p) [] [] pos) (fun σ H Q => sp dvs H Q E) := by
  refine ⟨fun pins s σ H Q I h => wpAny_Call_Name_kw (ld_glob I hgl hm ?_ hdb)⟩
  exact PySem.W.callWith_K0 I.kIn hk (run_g (us := []) (ws := []) (vs := []) (zs := []) F hr hg hb hd hx I .nil .nil rfl rfl h)
/-- f(e, .., k = v, ..) -/
theorem pe_gk {e : Expr} {es : List Expr} {kws : List Keyword} {t tk : TA} (F : FnG X.prog X.w X.K X.mg X.base k f fd ps sp) (hr : Room k X.A) (hg : X.A.guards = some []) (hgl : Gl X x) (hm : X.mg x = some (.ref f)) (hk : PySem.W.keepIn X.K (.ref f) = true) (hb : BindG X.K fd ps n ks ds) (hd : Vals dvs ds)
    (hx : Passes (L2.CX X.prog X.w) X E) (ha : PA X (e :: es) t) (hkw : PK X kws tk) (hdb : (x == ("__debug__" : Str)) = false) (he : starEach (e :: es) X.env = (false, eval e X.env) :: starEach es X.env)
    (hall : (backToKw pos (keywordEach kws X.env)).all (·.1.isSome) = true) (hks : (backToKw pos (keywordEach kws X.env)).filterMap (·.1) = ks) (hpl : ((backTo pos (starEach (e :: es) X.env)).any (·.1) || (backToKw pos (keywordEach kws X.env)).any (·.1.isNone)) = false) :
    PE X (.Call (.Name x p) (e :: es) kws pos) (fun σ H Q => t σ H fun vs H1 => tk σ H1 fun zs H2 => vs.length = n ∧ zs.length = ks.length ∧ sp (vs ++ (zs ++ dvs)) H2 Q E) := by
  refine ⟨fun pins s σ H Q I h => wpAny_Call_Name_kw (ld_glob I hgl hm ?_ hdb)⟩
  refine PySem.W.callWith_KW (h₀ := X.base) I.ok.mod.kin hk hall ?_ hpl he
  refine thn (ha.run pos pins s σ H _ I h) ?_
  rintro us s1 ⟨vs, H1, I1, r, q⟩
  refine thn (hkw.run pos pins s1 σ H1 _ I1 q) ?_
  rintro ws s2 ⟨zs, H2, I2, rz, h1, h2, q2⟩
  refine ⟨I2.kIn, ?_⟩
  rw [hks]
  exact run_g F hr hg hb hd hx I2 r rz (r.length.symm.trans h1) (rz.length.symm.trans h2) q2
/-- f(k = v, ..) -/
theorem pe_gk0 {kws : List Keyword} {tk : TA} (F : FnG X.prog X.w X.K X.mg X.base k f fd ps sp) (hr : Room k X.A) (hg : X.A.guards = some []) (hgl : Gl X x) (hm : X.mg x = some (.ref f)) (hk : PySem.W.keepIn X.K (.ref f) = true) (hb : BindG X.K fd ps 0 ks ds) (hd : Vals dvs ds)
    (hx : Passes (L2.CX X.prog X.w) X E) (hkw : PK X kws tk) (hdb : (x == ("__debug__" : Str)) = false)
    (hall : (backToKw pos (keywordEach kws X.env)).all (·.1.isSome) = true) (hks : (backToKw pos (keywordEach kws X.env)).filterMap (·.1) = ks) (hpl : ((backTo pos (starEach [] X.env)).any (·.1) || (backToKw pos (keywordEach kws X.env)).any (·.1.isNone)) = false) :
    PE X (.Call (.Name x p) [] kws pos) (fun σ H Q => tk σ H fun zs H2 => zs.length = ks.length ∧ sp (zs ++ dvs) H2 Q E) := by
  refine ⟨fun pins s σ H Q I h => wpAny_Call_Name_kw (ld_glob I hgl hm ?_ hdb)⟩
  refine PySem.W.callWith_KW0 (h₀ := X.base) I.ok.mod.kin hk hall ?_ hpl
  refine thn (hkw.run pos pins s σ H _ I h) ?_
  rintro ws s2 ⟨zs, H2, I2, rz, h2, q2⟩
  refine ⟨I2.kIn, ?_⟩
  rw [hks]
  exact run_g (us := []) (vs := []) F hr hg hb hd hx I2 .nil rz rfl (rz.length.symm.trans h2) q2
end

/-! ### a def by its body -/
section
variable {P : Program} {w : World} {K : PySem.W.Frag} {mg : Str → Option Value} {base : Heap} {k : Nat} {f : Addr} {ps N : List Str} {sp : Sp} {scope : Scope} {body : List Stmt} {qual name : Str} {params : Arguments} {dV kV doc pm cdv ct oc : Value} {an od : Option Addr} {osl : Array (Option Value)}
theorem fn_g (lk : K.lookup f = some ⟨oc, od, .func (PySem.W.fnOf name qual params body scope dV kV doc pm an cdv ct), osl⟩) (hcd : PySem.W.codeIn K cdv qual = true) (S : FnScope N ps scope) (len : ∀ vs H Q E, sp vs H Q E → vs.length = ps.length)
    (hbody : ∀ (A : Around) (outer : List Env) (s : Shared) (H : Hp) (vs : List V) (Q : VK) (E : XK), (A.deeper (envOfC qual scope s.heap.objs.size f cdv)).guards = some [] → Room k (A.deeper (envOfC qual scope s.heap.objs.size f cdv)) → sp vs H Q E →
      ∃ t, PSs (cxOf (L2.CX P w) P w K mg base N qual scope f cdv A outer s H E) body t ∧ t { nx := fun _ H' => Q .non H', rt := Q } (start N vs) H) :
    FnG P w K mg base (k + 1) f (PySem.W.fnOf name qual params body scope dV kV doc pm an cdv ct) ps sp := by
  refine ⟨len, ?_⟩
  intro A outer s H args us vs Q E hg hr e0 hb r hsp
  have back : ∀ b o, base.get? b = some o → s.heap.get? b = some o := fun b o e => (e0.bs b o e).1
  have KX := e0.mod.kin.keeps back
  have cellish : ∀ y ∈ ps.zip us, scope.names.lookup y.1 = some .local ∨ (scope.names.lookup y.1 = some .cell ∧ ((cellsFrom (s.heap.objs.size + 1) scope.names []).lookup y.1).isSome = true) := by
    intro y hy
    refine (S.par y.1 (List.of_mem_zip (show (y.1, y.2) ∈ ps.zip us from hy)).1).imp id fun q => ⟨q, ?_⟩
    exact PySem.W.cellsFrom_some _ _ _ (.inl q)
  refine codeAny_call_function hr.depth (KX _ _ lk) rfl S.co S.gen rfl (PySem.W.codeRec_of KX hcd) (hb _ _ _ _ (wpAny_newFunctionEnv_cells S.kind cellish fun env he s1 x => ?_))
  subst he
  obtain ⟨t, ht, hq⟩ := hbody A outer s H vs Q E hg (hr.deeper _) hsp
  have I := inv_start (CX := L2.CX P w) (mg := mg) (E := E) (cd := cdv) (qual := qual) S hr.hd e0 (len _ _ _ _ hsp) r x
  refine ⟨(e0.mod.nolimit.keeps back).keeps x.toInCall.keep, codeAny_func (wpAny_mono (ht.run [] s1 (start N vs) H _ I hq) ?_ fun e s' hs => hs)⟩
  intro fl s' hs
  match fl, hs with
  | .ret u, ⟨v, σ', H', J, rv, q⟩ => exact ⟨v, H', J.os, J.bare, J.base, J.hok, rv, q⟩
  | .next, ⟨σ', H', J, q⟩ => exact ⟨.non, H', J.os, J.bare, J.base, J.hok, rfl, q⟩
  | .brk, ⟨_, _, _, q⟩ => exact q.elim
  | .cont, ⟨_, _, _, q⟩ => exact q.elim
end

/-! ### promises over data -/
inductive AV where
  | dat (d : D)
  | pot
  | scr (ns : List Int)
abbrev FSp := List AV → (D → Prop) → (Value → D → Prop) → Prop
inductive ArgsOk (K : PySem.W.Frag) (A P : Addr → Prop) (H : Hp) : List V → List AV → Prop
  | nil : ArgsOk K A P H [] []
  | dat {v : V} {d : D} {vs : List V} {as : List AV} : Rep K A H v d → ArgsOk K A P H vs as → ArgsOk K A P H (v :: vs) (.dat d :: as)
  | pot {a : Addr} {vs : List V} {as : List AV} : P a → ArgsOk K A P H vs as → ArgsOk K A P H (.ref a :: vs) (.pot :: as)
  | scr {a : Addr} {ns : List Int} {vs : List V} {as : List AV} : ScrAt K A H a ns → ArgsOk K A P H vs as → ArgsOk K A P H (.ref a :: vs) (.scr ns :: as)
theorem ArgsOk.length {K : PySem.W.Frag} {A P : Addr → Prop} {H : Hp} : ∀ {vs : List V} {as : List AV}, ArgsOk K A P H vs as → vs.length = as.length
  | _, _, .nil => rfl
  | _, _, .dat _ t => congrArg (· + 1) t.length
  | _, _, .pot _ t => congrArg (· + 1) t.length
  | _, _, .scr _ t => congrArg (· + 1) t.length
theorem ArgsOk.map {K : PySem.W.Frag} {A A' P : Addr → Prop} {H H' : Hp} (h : Kp A A' H H') : ∀ {vs : List V} {as : List AV}, ArgsOk K A P H vs as → ArgsOk K A' P H' vs as
  | _, _, .nil => .nil
  | _, _, .dat r t => .dat (r.map h) (t.map h)
  | _, _, .pot q t => .pot q (t.map h)
  | _, _, .scr q t => .scr (q.map h) (t.map h)
theorem ArgsOk.append {K : PySem.W.Frag} {A P : Addr → Prop} {H : Hp} : ∀ {vs us : List V} {as bs : List AV}, ArgsOk K A P H vs as → ArgsOk K A P H us bs → ArgsOk K A P H (vs ++ us) (as ++ bs)
  | _, _, _, _, .nil, s => s
  | _, _, _, _, .dat r t, s => .dat r (t.append s)
  | _, _, _, _, .pot q t, s => .pot q (t.append s)
  | _, _, _, _, .scr q t, s => .scr q (t.append s)
structure Entry (W : Wd) (K : PySem.W.Frag) (c : Nat) (H : Hp) : Prop where
  hK : W.K = K
  hH : W.H0 = H
  hc : W.c0 = c
  ok : W.Ok
  dom : ∀ a, W.A0 a → H a ≠ none
  pots : ∀ b, W.P b → PotAt W.n0 H b
def spD (K : PySem.W.Frag) (F : FSp) (c m : Nat) : Sp := fun vs H Q E => ∃ (W : Wd) (as : List AV) (Kd : D → Prop), Entry W K c H ∧ ArgsOk K W.A0 W.P H vs as ∧ as.length = m ∧ F as Kd W.E ∧ (∀ d v H', Kd d → Fin W c H' → Rep K W.A0 H' v d → Q v H') ∧
  ∀ cls dd v d H', W.E cls d → Fin W c H' → H' dd = some (.xd [("value", v)]) → H dd = none → Rep K W.A0 H' v d → E cls (some dd) H'
abbrev FnD (P : Program) (w : World) (K : PySem.W.Frag) (mg : Str → Option Value) (base : Heap) (k : Nat) (f : Addr) (fd : FuncData) (ps : List Str) (F : FSp) (c : Nat) : Prop := FnG P w K mg base k f fd ps (spD K F c ps.length)

abbrev TDA := DEnv → (List AV → Prop) → Prop
def liftA (W : Wd) (g : TDA) (c n : Nat) : TA := fun σ H Q => ∃ (k : Nat) (Δ : DEnv) (K : List AV → Prop), k + c ≤ W.c0 ∧ En W k σ H Δ ∧ g Δ K ∧ ∀ as vs H', K as → as.length = n → Chg W (k + c) H H' → ArgsOk W.K (AA W σ Δ) W.P H' vs as → Q vs H'
abbrev DAs (X : Cx) (W : Wd) (es : List Expr) (g : TDA) (c n : Nat) : Prop := PA X es (liftA W g c n)
abbrev DKw (X : Cx) (W : Wd) (es : List Keyword) (g : TDA) (c n : Nat) : Prop := PK X es (liftA W g c n)
theorem pk_imp {X : Cx} {e : List Keyword} {t t' : TA} (h : PK X e t) (i : ∀ σ H Q, t' σ H Q → t σ H Q) : PK X e t' := ⟨fun pos pins s σ H Q I q => h.run pos pins s σ H Q I (i σ H Q q)⟩
section
variable {X : Cx} {W : Wd} {N : List Str} {sc : Scope} {kk : Nat} {e a b : Expr} {es : List Expr} {kws : List Keyword} {c ca cb cc : Nat} {g ga gb gc : TDE} {pos p p2 : Pos} {k j : Nat} {σ : St} {Δ : DEnv} {H H' : Hp} {v : V} {d : D}
def gAn : TDA := fun _ K => K []
def gAd (ga : TDE) (gr : TDA) : TDA := fun Δ K => ga Δ fun x => gr Δ fun xs => K (.dat x :: xs)
def gAp (i : Nat) (gr : TDA) : TDA := fun Δ K => match nth Δ i with
  | .pot => gr Δ fun xs => K (.pot :: xs)
  | _ => False
theorem das_nil : DAs X W [] gAn 0 0 := pa_imp pa_nil fun σ H Q ⟨k, Δ, K, h1, h2, h3, h4⟩ => h4 [] [] H h3 rfl h2.refl .nil
theorem das_dat (C : Cxt X W N sc kk) {gr : TDA} (ha : DE X W e ga ca) (hr : DAs X W es gr cb j) (hs : starEach (e :: es) X.env = (false, eval e X.env) :: starEach es X.env := by rfl) : DAs X W (e :: es) (gAd ga gr) (ca + cb) (j + 1) :=
  pa_imp (pa_cons ha hr hs) fun σ H Q ⟨k, Δ, K, h1, h2, h3, h4⟩ => ⟨k, Δ, _, by omega, h2, h3, fun dx x H1 q1 c1 r1 =>
    ⟨k + ca, Δ, _, by omega, h2.chg C.ok c1, q1, fun ds vs H2 q2 l2 c2 r2 => h4 _ _ H2 q2 (congrArg (· + 1) l2) (chg3 c1 c2) (.dat (r1.map (c2.kpE C.ok)) r2)⟩⟩
theorem das_pot (C : Cxt X W N sc kk) {i : Nat} {x : Str} {gr : TDA} (hx : N[i]? = some x) (hv : Vis sc x) (hr : DAs X W es gr cb j) (hd : (x == ("__debug__" : Str)) = false := by decide +kernel) (hcd : (x == ("__classdict__" : Str)) = false := by decide +kernel)
    (hs : starEach ((.Name x pos) :: es) X.env = (false, eval (.Name x pos) X.env) :: starEach es X.env := by rfl) : DAs X W ((.Name x pos) :: es) (gAp i gr) cb (j + 1) :=
  pa_imp (pa_cons (pe_var (i := i) (by rw [C.hN]; exact hx) (by rw [C.hsc]; exact hv) hd hcd) hr hs) fun σ H Q ⟨k, Δ, K, h1, h2, h3, h4⟩ => by
    have s := h2.sl i
    unfold gAp at h3
    revert h3 s
    cases nth Δ i with
    | pot =>
      rintro h3 ⟨a, e, r⟩
      exact ⟨.ref a, e, k, Δ, _, h1, h2, h3, fun as vs H' q l c r' => h4 _ _ H' q (congrArg (· + 1) l) c (.pot r r')⟩
    | un => exact fun z => z.elim
    | dat d => exact fun z => z.elim
    | own ds => exact fun z => z.elim
    | scr ns => exact fun z => z.elim
def gAs (i : Nat) (gr : TDA) : TDA := fun Δ K => match nth Δ i with
  | .scr ns => gr Δ fun xs => K (.scr ns :: xs)
  | _ => False
theorem das_scr (C : Cxt X W N sc kk) {i : Nat} {x : Str} {gr : TDA} (hx : N[i]? = some x) (hv : Vis sc x) (hr : DAs X W es gr cb j) (hd : (x == ("__debug__" : Str)) = false := by decide +kernel) (hcd : (x == ("__classdict__" : Str)) = false := by decide +kernel)
    (hs : starEach ((.Name x pos) :: es) X.env = (false, eval (.Name x pos) X.env) :: starEach es X.env := by rfl) : DAs X W ((.Name x pos) :: es) (gAs i gr) cb (j + 1) :=
  pa_imp (pa_cons (pe_var (i := i) (by rw [C.hN]; exact hx) (by rw [C.hsc]; exact hv) hd hcd) hr hs) fun σ H Q ⟨k, Δ, K, h1, h2, h3, h4⟩ => by
    have s := h2.sl i
    unfold gAs at h3
    revert h3 s
    cases nth Δ i with
    | scr ns =>
      rintro h3 ⟨a, e, r⟩
      exact ⟨.ref a, e, k, Δ, _, h1, h2, h3, fun as vs H' q l c r' => h4 _ _ H' q (congrArg (· + 1) l) c (.scr (r.map (c.kpE C.ok)) r')⟩
    | un => exact fun z => z.elim
    | dat d => exact fun z => z.elim
    | own ds => exact fun z => z.elim
    | pot => exact fun z => z.elim
theorem dkw_nil : DKw X W [] gAn 0 0 := pk_imp pk_nil fun σ H Q ⟨k, Δ, K, h1, h2, h3, h4⟩ => h4 [] [] H h3 rfl h2.refl .nil
theorem dkw_dat (C : Cxt X W N sc kk) {gr : TDA} {nm : Option Str} (ha : DE X W e ga ca) (hr : DKw X W kws gr cb j) : DKw X W (⟨nm, e, p⟩ :: kws) (gAd ga gr) (ca + cb) (j + 1) :=
  pk_imp (pk_cons ha hr) fun σ H Q ⟨k, Δ, K, h1, h2, h3, h4⟩ => ⟨k, Δ, _, by omega, h2, h3, fun dx x H1 q1 c1 r1 =>
    ⟨k + ca, Δ, _, by omega, h2.chg C.ok c1, q1, fun ds vs H2 q2 l2 c2 r2 => h4 _ _ H2 q2 (congrArg (· + 1) l2) (chg3 c1 c2) (.dat (r1.map (c2.kpE C.ok)) r2)⟩⟩

/-- the callee's world, from the caller's -/
abbrev Wd.in (W : Wd) (k c : Nat) (σ : St) (Δ : DEnv) (H : Hp) : Wd := { K := W.K, A0 := AA W σ Δ, P := W.P, H0 := H, n0 := W.n0 + k, c0 := c, E := W.E }
theorem Fin.of_in (C : Cxt X W N sc kk) (en : En W k σ H Δ) (f : Fin (W.in k c σ Δ H) c H') : Chg W (k + c) H H' := ⟨fun b o e n => f.since b o e n, fun b p => by
  have := f.pots b p
  have e : W.n0 + k + c = W.n0 + (k + c) := by omega
  exact e ▸ this⟩
theorem sp_in (C : Cxt X W N sc kk) {F : FSp} {m : Nat} {as : List AV} {vs : List V} {K : D → Prop} {Q : VK} (h1 : k + c ≤ W.c0) (en : En W k σ H Δ) (r : ArgsOk W.K (AA W σ Δ) W.P H vs as) (hm : as.length = m) (hF : F as K W.E)
    (hQ : ∀ d v H', K d → Chg W (k + c) H H' → Rep W.K (AA W σ Δ) H' v d → Q v H') : spD X.K F c m vs H Q (EkOf W) := by
  refine ⟨W.in k c σ Δ H, as, K, ⟨C.hK, rfl, rfl, ⟨fun b p => (en.fin.pots b p).some, fun b p => .inl (C.ok.sub b p), by have := C.ok.lim; show W.n0 + k + c ≤ LIM; omega⟩, fun a q => fun z => en.notA z q, en.fin.pots⟩, ?_, hm, hF, fun d v H' hd hf hr => ?_, fun cls dd v d H' hE hf hx hn hr => ?_⟩
  · rw [← C.hK]
    exact r
  · exact hQ d v H' hd (Fin.of_in C en hf) (by rw [C.hK]; exact hr)
  · exact ⟨dd, v, d, rfl, hE, (en.fin.chg (Fin.of_in C en hf)).mono h1, hx, en.fin.free hn, by rw [C.hK]; exact hr.map (Kp.toA0 fun _ => .inl)⟩
def gFn (F : FSp) (E : Value → D → Prop) (dds : List AV) (ga : TDA) : TDE := fun Δ K => ga Δ fun as => F (as ++ dds) K E
def gFn2 (F : FSp) (E : Value → D → Prop) (dds : List AV) (ga gk : TDA) : TDE := fun Δ K => ga Δ fun as => gk Δ fun bs => F (as ++ (bs ++ dds)) K E
/-- what the defaults hold -/
structure Dfl (K : PySem.W.Frag) (dvs : List V) (ds : List Value) (dds : List AV) : Prop where
  vals : Vals dvs ds
  args : ∀ A P H, ArgsOk K A P H dvs dds
theorem Dfl.nil {K : PySem.W.Frag} : Dfl K [] [] [] := ⟨.nil, fun _ _ _ => .nil⟩
variable {f : Addr} {fd : FuncData} {ps ks : List Str} {F : FSp} {cF n kF : Nat} {ds : List Value} {dvs : List V} {dds : List AV} {x : Str} {gl gk : TDA}
theorem de_fn (C : Cxt X W N sc kk) {E : Value → D → Prop} (hE : W.E = E) (hF : FnD X.prog X.w X.K X.mg X.base kF f fd ps F cF) (hk : kF ≤ kk) (hg : sc.names.lookup x = some .globalImplicit) (hm : X.mg x = some (.ref f)) (hkp : PySem.W.keepIn X.K (.ref f) = true) (hb : BindG X.K fd ps n [] ds) (hd : Dfl X.K dvs ds dds) (ha : DAs X W (e :: es) gl c n) (hn : n + dds.length = ps.length)
    (hdb : (x == ("__debug__" : Str)) = false := by decide +kernel) (he : starEach (e :: es) X.env = (false, eval e X.env) :: starEach es X.env := by rfl) (hpl : (backTo pos (starEach es X.env)).any (·.1) = false := by rfl) :
    DE X W (.Call (.Name x p) (e :: es) [] pos) (gFn F E dds gl) (c + cF) := by
  subst hE
  exact pe_imp (pe_g (E := EkOf W) hF (C.hr.mono hk) C.gd (C.gl hg) hm hkp hb hd.vals C.px ha hdb he hpl) fun σ H Q ⟨k, Δ, K, h1, h2, h3, h4⟩ => ⟨k, Δ, _, by omega, h2, h3, fun as vs H1 q1 l1 c1 r1 => by
    have e1 := h2.chg C.ok c1
    refine ⟨r1.length.trans l1, sp_in C (k := k + c) (K := K) (by omega) e1 (r1.append (by rw [C.hK]; exact hd.args _ _ _)) (by rw [List.length_append, l1]; exact hn) q1 fun d v H' hd' hc' hr' => h4 d v H' hd' (chg3 c1 hc') hr'⟩⟩
theorem de_fn0 (C : Cxt X W N sc kk) {E : Value → D → Prop} (hE : W.E = E) (hF : FnD X.prog X.w X.K X.mg X.base kF f fd ps F cF) (hk : kF ≤ kk) (hg : sc.names.lookup x = some .globalImplicit) (hm : X.mg x = some (.ref f)) (hkp : PySem.W.keepIn X.K (.ref f) = true) (hb : BindG X.K fd ps 0 [] ds) (hd : Dfl X.K dvs ds dds) (hn : dds.length = ps.length)
    (hdb : (x == ("__debug__" : Str)) = false := by decide +kernel) : DE X W (.Call (.Name x p) [] [] pos) (gFn F E dds gAn) cF := by
  subst hE
  exact pe_imp (pe_g0 (E := EkOf W) hF (C.hr.mono hk) C.gd (C.gl hg) hm hkp hb hd.vals C.px hdb) fun σ H Q ⟨k, Δ, K, h1, h2, h3, h4⟩ => sp_in C (k := k) (K := K) h1 h2 (by rw [C.hK]; exact hd.args _ _ _) hn h3 h4
theorem de_fnk0 (C : Cxt X W N sc kk) {E : Value → D → Prop} (hE : W.E = E) (hF : FnD X.prog X.w X.K X.mg X.base kF f fd ps F cF) (hk : kF ≤ kk) (hg : sc.names.lookup x = some .globalImplicit) (hm : X.mg x = some (.ref f)) (hkp : PySem.W.keepIn X.K (.ref f) = true) (hb : BindG X.K fd ps 0 ks ds) (hd : Dfl X.K dvs ds dds) (ha : DKw X W kws gk c ks.length) (hn : ks.length + dds.length = ps.length)
    (hdb : (x == ("__debug__" : Str)) = false := by decide +kernel)
    (hall : (backToKw pos (keywordEach kws X.env)).all (·.1.isSome) = true := by rfl) (hks : (backToKw pos (keywordEach kws X.env)).filterMap (·.1) = ks := by rfl) (hpl : ((backTo pos (starEach [] X.env)).any (·.1) || (backToKw pos (keywordEach kws X.env)).any (·.1.isNone)) = false := by rfl) :
    DE X W (.Call (.Name x p) [] kws pos) (gFn F E dds gk) (c + cF) := by
  subst hE
  exact pe_imp (pe_gk0 (E := EkOf W) hF (C.hr.mono hk) C.gd (C.gl hg) hm hkp hb hd.vals C.px ha hdb hall hks hpl) fun σ H Q ⟨k, Δ, K, h1, h2, h3, h4⟩ => ⟨k, Δ, _, by omega, h2, h3, fun as vs H1 q1 l1 c1 r1 => by
    have e1 := h2.chg C.ok c1
    refine ⟨r1.length.trans l1, sp_in C (k := k + c) (K := K) (by omega) e1 (r1.append (by rw [C.hK]; exact hd.args _ _ _)) (by rw [List.length_append, l1]; exact hn) q1 fun d v H' hd' hc' hr' => h4 d v H' hd' (chg3 c1 hc') hr'⟩⟩
theorem de_fnk (C : Cxt X W N sc kk) {E : Value → D → Prop} (hE : W.E = E) (hF : FnD X.prog X.w X.K X.mg X.base kF f fd ps F cF) (hk : kF ≤ kk) (hg : sc.names.lookup x = some .globalImplicit) (hm : X.mg x = some (.ref f)) (hkp : PySem.W.keepIn X.K (.ref f) = true) (hb : BindG X.K fd ps n ks ds) (hd : Dfl X.K dvs ds dds) (ha : DAs X W (e :: es) gl ca n) (hkw : DKw X W kws gk cb ks.length) (hn : n + (ks.length + dds.length) = ps.length)
    (hdb : (x == ("__debug__" : Str)) = false := by decide +kernel) (he : starEach (e :: es) X.env = (false, eval e X.env) :: starEach es X.env := by rfl)
    (hall : (backToKw pos (keywordEach kws X.env)).all (·.1.isSome) = true := by rfl) (hks : (backToKw pos (keywordEach kws X.env)).filterMap (·.1) = ks := by rfl) (hpl : ((backTo pos (starEach (e :: es) X.env)).any (·.1) || (backToKw pos (keywordEach kws X.env)).any (·.1.isNone)) = false := by rfl) :
    DE X W (.Call (.Name x p) (e :: es) kws pos) (gFn2 F E dds gl gk) (ca + cb + cF) := by
  subst hE
  exact pe_imp (pe_gk (E := EkOf W) hF (C.hr.mono hk) C.gd (C.gl hg) hm hkp hb hd.vals C.px ha hkw hdb he hall hks hpl) fun σ H Q ⟨k, Δ, K, h1, h2, h3, h4⟩ => ⟨k, Δ, _, by omega, h2, h3, fun as vs H1 q1 l1 c1 r1 => by
    have e1 := h2.chg C.ok c1
    refine ⟨k + ca, Δ, _, by omega, e1, q1, fun bs ws H2 q2 l2 c2 r2 => ?_⟩
    have e2 := e1.chg C.ok c2
    refine ⟨r1.length.trans l1, r2.length.trans l2, sp_in C (k := k + ca + cb) (K := K) (by omega) e2 ((r1.map (c2.kpE C.ok)).append (r2.append (by rw [C.hK]; exact hd.args _ _ _))) (by rw [List.length_append, List.length_append, l1, l2]; exact hn) q2 fun d v H' hd' hc' hr' => ?_⟩
    have e : k + ca + cb + cF = k + (ca + cb + cF) := by omega
    exact h4 d v H' hd' (c1.trans (c2.trans (e ▸ hc'))) hr'⟩
end

/-! ### THE RULE: a def over data by its body -/
/-- the slots at the entry -/
def startD : List Str → List AV → DEnv
  | [], _ => []
  | _ :: N, [] => .un :: startD N []
  | _ :: N, .dat d :: as => .dat d :: startD N as
  | _ :: N, .pot :: as => .pot :: startD N as
  | _ :: N, .scr ns :: as => .scr ns :: startD N as
theorem startD_len : ∀ (N : List Str) (as : List AV), (startD N as).length = N.length
  | [], _ => rfl
  | _ :: N, [] => congrArg (· + 1) (startD_len N [])
  | _ :: N, .dat _ :: as => congrArg (· + 1) (startD_len N as)
  | _ :: N, .pot :: as => congrArg (· + 1) (startD_len N as)
  | _ :: N, .scr _ :: as => congrArg (· + 1) (startD_len N as)
theorem startD_own : ∀ (N : List Str) (as : List AV) (i : Nat) (ds : List D), nth (startD N as) i ≠ .own ds
  | [], _, _, _ => fun h => by cases h
  | _ :: N, [], 0, _ => fun h => by cases h
  | _ :: N, [], i + 1, ds => startD_own N [] i ds
  | _ :: N, .dat _ :: as, 0, _ => fun h => by cases h
  | _ :: N, .pot :: as, 0, _ => fun h => by cases h
  | _ :: N, .scr _ :: as, 0, _ => fun h => by cases h
  | _ :: N, .dat _ :: as, i + 1, ds => startD_own N as i ds
  | _ :: N, .pot :: as, i + 1, ds => startD_own N as i ds
  | _ :: N, .scr _ :: as, i + 1, ds => startD_own N as i ds
theorem start_cons {x : Str} {N : List Str} {v : V} {vs : List V} : L2.start (x :: N) (v :: vs) = some v :: L2.start N vs := by
  unfold L2.start
  simp
theorem start_nil {x : Str} {N : List Str} : L2.start (x :: N) [] = none :: L2.start N [] := by
  unfold L2.start
  simp [List.replicate_succ]
theorem startD_ok {W : Wd} {A : Addr → Prop} {H : Hp} : ∀ (N : List Str) {vs : List V} {as : List AV} (i : Nat), ArgsOk W.K A W.P H vs as → SlotOk W (L2.start N vs) A H i (nth (startD N as) i)
  | [], _, _, _, _ => trivial
  | _ :: N, _, _, 0, .nil => trivial
  | _ :: N, _, _, i + 1, .nil => by
    rw [start_nil]
    have h := startD_ok (W := W) (A := A) (H := H) N (vs := []) (as := []) i .nil
    show SlotOk W _ A H (i + 1) (nth (startD N []) i)
    revert h
    cases nth (startD N []) i <;> exact fun h => h
  | x :: N, _, _, 0, .dat (v := v) (vs := vs) r _ => by
    rw [start_cons]
    exact ⟨v, rfl, r⟩
  | x :: N, _, _, 0, .pot (a := a) q _ => by
    rw [start_cons]
    exact ⟨a, rfl, q⟩
  | x :: N, _, _, 0, .scr (a := a) q _ => by
    rw [start_cons]
    exact ⟨a, rfl, q⟩
  | x :: N, _, _, i + 1, .dat (vs := vs) (as := as) _ t => by
    rw [start_cons]
    have h := startD_ok N i t
    show SlotOk W _ A H (i + 1) (nth (startD N as) i)
    revert h
    cases nth (startD N as) i <;> exact fun h => h
  | x :: N, _, _, i + 1, .scr (vs := vs) (as := as) _ t => by
    rw [start_cons]
    have h := startD_ok N i t
    show SlotOk W _ A H (i + 1) (nth (startD N as) i)
    revert h
    cases nth (startD N as) i <;> exact fun h => h
  | x :: N, _, _, i + 1, .pot (vs := vs) (as := as) _ t => by
    rw [start_cons]
    have h := startD_ok N i t
    show SlotOk W _ A H (i + 1) (nth (startD N as) i)
    revert h
    cases nth (startD N as) i <;> exact fun h => h
section
variable {P : Program} {w : World} {K : PySem.W.Frag} {mg : Str → Option Value} {base : Heap} {k c cb : Nat} {f : Addr} {ps N : List Str} {F : FSp} {scope : Scope} {body : List Stmt} {qual name : Str} {params : Arguments} {dV kV doc pm cdv ct oc : Value} {an od : Option Addr} {osl : Array (Option Value)}
theorem fnd_of (lk : K.lookup f = some ⟨oc, od, .func (PySem.W.fnOf name qual params body scope dV kV doc pm an cdv ct), osl⟩) (hcd : PySem.W.codeIn K cdv qual = true) (S : FnScope N ps scope) {g : (Value → D → Prop) → TDS} (hcb : cb ≤ c) (hpn : ps.length ≤ N.length)
    (hbody : ∀ (X : Cx) (W : Wd) (E : Value → D → Prop), W.E = E → X.prog = P → X.w = w → X.K = K → X.mg = mg → X.base = base → (∀ x, X.fn x = true) → Cxt X W N scope k → DSs X W body (g E) cb)
    (vc : ∀ as Kd E, as.length = ps.length → F as Kd E → g E { nx := fun _ => Kd .none, rt := Kd } (startD N as)) :
    FnD P w K mg base (k + 1) f (PySem.W.fnOf name qual params body scope dV kV doc pm an cdv ct) ps F c := by
  refine fn_g lk hcd S (fun vs H Q E ⟨W, as, Kd, _, r, hl, _⟩ => r.length.trans hl) fun A outer s H vs Q E hg hr ⟨W, as, Kd, en, r, hl, hF, hQ, hE⟩ => ?_
  obtain ⟨hK, hH, hc, ok, dom, pots⟩ := en
  subst hK
  refine ⟨_, hbody (cxOf (L2.CX P w) P w W.K mg base N qual scope f cdv A outer s H E) W W.E rfl rfl rfl rfl rfl rfl (fun _ => rfl) ⟨rfl, rfl, S.nd, hr, hg, rfl, rfl, ok, ?_, ?_⟩, ?_⟩
  · refine (takes_of (E := E) rfl rfl rfl rfl).imp fun cls d σ H' h => ?_
    obtain ⟨dd, v, d', rfl, h1, h2, h3, h4, h5⟩ := h
    exact hE cls dd v d' H' h1 (hc ▸ h2) h3 (hH ▸ h4) h5
  · exact passes_of rfl
  · refine ⟨0, startD N as, _, by omega, ?_, vc as Kd W.E hl hF, ⟨fun Δ' σ' H' q e kp => ?_, fun d v H' q fin rr => ?_, fun _ _ _ q => q.elim, fun _ _ _ q => q.elim⟩⟩
    · refine ⟨?_, fun i => SlotOk.mono (A := W.A0) (fun a q => ?_) (startD_ok N i r), fun i j ds es a h1 => absurd h1 (startD_own N as i ds), ⟨fun b o e _ => hH ▸ e, fun b p => (pots b p).mono (by omega)⟩, dom⟩
      · rw [startD_len]
        unfold L2.start
        rw [List.length_append, List.length_map, List.length_replicate]
        have h := r.length
        omega
      · exact q.elim id fun ⟨i, ds, h1, _⟩ => absurd h1 (startD_own N as i ds)
    · exact hQ .none .non H' q (e.fin.mono (by omega)) .non
    · exact hQ d v H' q (fin.mono (by omega)) rr
end
end DL
/-! DLLoop: assignments, lists of the def's own, for, while, comprehensions. -/
namespace DL
open PySem PySem.Spec PyProof.Rows L2
section
variable {X : Cx} {W : Wd} {N : List Str} {sc : Scope} {kk : Nat} {e a b : Expr} {es : List Expr} {c ca cb cc ct ci : Nat} {g ga gb gc : TDE} {pos p p2 : Pos} {k j : Nat} {σ : St} {Δ : DEnv} {H H' : Hp} {v : V} {d : D}
theorem kp_chg_set (C : Cxt X W N sc kk) {i : Nat} {s : Sv} {x : Option V} (c : Chg W j H H') (hs : ∀ ds, s ≠ .own ds) : Kp (AA W σ Δ) (AA W (σ.set i x) (Δ.set i s)) H H' := (c.kpE C.ok).trans (kp_set hs)

/-! ### targets -/
abbrev TDG := D → DEnv → (DEnv → Prop) → Prop
/-- but for the slots ts all is as it was -/
structure But (ts : List Nat) (σ σ' : St) (Δ Δ' : DEnv) : Prop where
  len : σ'.length = σ.length
  st : ∀ j, j ∉ ts → σ'[j]? = σ[j]?
  sv : ∀ j, j ∉ ts → nth Δ' j = nth Δ j
def liftG (W : Wd) (g : TDG) (ts : List Nat) : TG := fun v σ H Q => ∃ (k : Nat) (Δ : DEnv) (d : D) (K : DEnv → Prop), En W k σ H Δ ∧ Rep W.K (AA W σ Δ) H v d ∧ g d Δ K ∧ ∀ Δ' σ', K Δ' → En W k σ' H Δ' → Kp (AA W σ Δ) (AA W σ' Δ') H H → But ts σ σ' Δ Δ' → Q σ' H
def liftGs (W : Wd) (g : List D → DEnv → (DEnv → Prop) → Prop) (ts : List Nat) : TGs := fun vs σ H Q => ∃ (k : Nat) (Δ : DEnv) (ds : List D) (K : DEnv → Prop), En W k σ H Δ ∧ RepAll W.K (AA W σ Δ) H vs ds ∧ g ds Δ K ∧ ∀ Δ' σ', K Δ' → En W k σ' H Δ' → Kp (AA W σ Δ) (AA W σ' Δ') H H → But ts σ σ' Δ Δ' → Q σ' H
abbrev DG (X : Cx) (W : Wd) (e : Expr) (g : TDG) (ts : List Nat) : Prop := PG X e (liftG W g ts)
abbrev DGs (X : Cx) (W : Wd) (es : List Expr) (g : List D → DEnv → (DEnv → Prop) → Prop) (ts : List Nat) : Prop := PGs X es (liftGs W g ts)
theorem But.refl {ts : List Nat} : But ts σ σ Δ Δ := ⟨rfl, fun _ _ => rfl, fun _ _ => rfl⟩
theorem But.trans {ts us : List Nat} {σ' σ'' : St} {Δ' Δ'' : DEnv} (a : But ts σ σ' Δ Δ') (b : But us σ' σ'' Δ' Δ'') : But (ts ++ us) σ σ'' Δ Δ'' :=
  ⟨b.len.trans a.len, fun j h => (b.st j fun q => h (List.mem_append_right _ q)).trans (a.st j fun q => h (List.mem_append_left _ q)), fun j h => (b.sv j fun q => h (List.mem_append_right _ q)).trans (a.sv j fun q => h (List.mem_append_left _ q))⟩
theorem pg_imp {e : Expr} {t t' : TG} (h : PG X e t) (i : ∀ v σ H Q, t' v σ H Q → t v σ H Q) : PG X e t' := ⟨fun pins s σ H v u Q I r q => h.run pins s σ H v u Q I r (i v σ H Q q)⟩
theorem pgs_imp {e : List Expr} {t t' : TGs} (h : PGs X e t) (i : ∀ v σ H Q, t' v σ H Q → t v σ H Q) : PGs X e t' := ⟨fun pins s σ H v u Q I r q => h.run pins s σ H v u Q I r (i v σ H Q q)⟩
def gTo (i : Nat) : TDG := fun d Δ K => K (Δ.set i (.dat d))
theorem dg_name (C : Cxt X W N sc kk) {i : Nat} {x : Str} (hx : N[i]? = some x) (hl : Loc sc x) (hf : X.fn x = true ∨ sc.names.lookup x = some .local) : DG X W (.Name x pos) (gTo i) [i] :=
  pg_imp (pg_name (i := i) (by rw [C.hN]; exact C.nd) (by rw [C.hN]; exact hx) (by rw [C.hsc]; exact hl) (by rw [C.hsc]; exact hf)) fun v σ H Q ⟨k, Δ, d, K, h1, h2, h3, h4⟩ => h4 _ _ h3 (h1.dat h2) (kp_set fun _ z => by cases z) ⟨by rw [List.length_set], fun j h => List.getElem?_set_ne fun z => h (by rw [z]; exact List.mem_singleton_self _), fun j h => nth_set_ne fun z => h (by rw [z]; exact List.mem_singleton_self _)⟩
def gTo0 : List D → DEnv → (DEnv → Prop) → Prop := fun ds Δ K => match ds with
  | [] => K Δ
  | _ => False
def gToC (g : TDG) (r : List D → DEnv → (DEnv → Prop) → Prop) : List D → DEnv → (DEnv → Prop) → Prop := fun ds Δ K => match ds with
  | d :: ds => g d Δ fun Δ' => r ds Δ' K
  | [] => False
theorem dgs_nil : DGs X W [] gTo0 [] := pgs_imp pgs_nil fun vs σ H Q ⟨k, Δ, ds, K, h1, h2, h3, h4⟩ => by
  cases h2 with
  | nil => exact ⟨rfl, h4 _ _ h3 h1 Kp.refl But.refl⟩
  | cons _ _ => exact (show False from h3).elim
theorem dgs_cons {g : TDG} {r : List D → DEnv → (DEnv → Prop) → Prop} {ts us : List Nat} (h1 : DG X W e g ts) (h2 : DGs X W es r us) (hs : (assignEach (e :: es) X.env).map (·.2) = assign e X.env :: (assignEach es X.env).map (·.2) := by rfl) : DGs X W (e :: es) (gToC g r) (ts ++ us) :=
  pgs_imp (pgs_cons h1 h2 hs) fun vs σ H Q ⟨k, Δ, ds, K, q1, q2, q3, q4⟩ => by
    cases q2 with
    | nil => exact (show False from q3).elim
    | cons r1 rr => exact ⟨_, _, rfl, k, Δ, _, _, q1, r1, q3, fun Δ' σ' z e kp bt => ⟨k, Δ', _, K, e, rr.map kp, z, fun Δ2 σ2 z2 e2 kp2 bt2 => q4 Δ2 σ2 z2 e2 (kp.trans kp2) (bt.trans bt2)⟩⟩
/-- a, b = a tuple of so many -/
def gToT (n : Nat) (r : List D → DEnv → (DEnv → Prop) → Prop) : TDG := fun d Δ K => match d with
  | .tuple ds => ds.length = n ∧ r ds Δ K
  | _ => False
theorem dg_tup (C : Cxt X W N sc kk) {j n : Nat} {r : List D → DEnv → (DEnv → Prop) → Prop} {ts : List Nat} (h : DGs X W es r ts) (hn : (assignEach es X.env).length = n := by rfl) (hst : (assignEach es X.env).findIdx? (·.1) = none := by rfl) : DG X W (.Tuple es j pos) (gToT n r) ts :=
  pg_imp (pg_tup C.calm h hn hst) fun v σ H Q ⟨k, Δ, d, K, h1, h2, h3, h4⟩ => by
    cases h2 with
    | tup s z rr => exact ⟨_, _, rfl, by rw [← C.hK]; exact sqT s, rr.length.trans h3.1, k, Δ, _, K, h1, rr, h3.2, h4⟩
    | _ => exact (show False from h3).elim

/-! ### assignments -/
def gAsg (g : TDE) (t : TDG) : TDS := fun D Δ => g Δ fun d => t d Δ D.nx
theorem asg_use (C : Cxt X W N sc kk) {t : TDG} {ts : List Nat} : ∀ E σ H, liftS W (gAsg g t) c E σ H → tAsg (lift W g c) (liftG W t ts) E σ H := fun E σ H ⟨k, Δ, D2, h1, h2, h3, h4⟩ =>
  ⟨k, Δ, _, h1, h2, h3, fun d v H' q c r => ⟨_, Δ, d, D2.nx, h2.chg C.ok c, r, q, fun Δ' σ' q2 e kp _ => h4.nx Δ' σ' H' q2 e ((c.kpE C.ok).trans kp)⟩⟩
theorem ds_asg (C : Cxt X W N sc kk) {tg : Expr} {t : TDG} {ts : List Nat} (he : DE X W e g c) (hg : DG X W tg t ts) (hs : swapsWithSole [tg] e pos.line X.env = pure false := by rfl) (hw : swappedStores [tg] e X.env = pure none := by rfl) (h1 : (assignEach [tg] X.env).map (·.2) = [assign tg X.env] := by rfl) :
    DS X W (.Assign [tg] e pos) (gAsg g t) c := ps_imp (ps_asg he hg hs hw h1) (asg_use C)
def gSet (i : Nat) (g : TDE) : TDS := fun D Δ => g Δ fun d => D.nx (Δ.set i (.dat d))
theorem ds_set (C : Cxt X W N sc kk) {i : Nat} {x : Str} (hx : N[i]? = some x) (hl : Loc sc x) (hf : X.fn x = true ∨ sc.names.lookup x = some .local) (he : DE X W e g c) (hs : swapsWith e (some (.Name x p)) pos.line X.env = pure false := by rfl) : DS X W (.Assign [.Name x p] e pos) (gSet i g) c :=
  ps_imp (ps_set (i := i) (by rw [C.hN]; exact C.nd) (by rw [C.hN]; exact hx) (by rw [C.hsc]; exact hl) he hs (by rw [C.hsc]; exact hf)) fun E σ H ⟨k, Δ, D2, h1, h2, h3, h4⟩ =>
    ⟨k, Δ, _, h1, h2, h3, fun d v H' q c r => h4.nx _ _ _ q ((h2.chg C.ok c).dat r) (kp_chg_set C c fun _ z => by cases z)⟩
/-- x = a new list that the def changes later -/
def gSetF (i : Nat) (g : TDL) : TDS := fun D Δ => g Δ fun ds => i < Δ.length ∧ D.nx (Δ.set i (.own ds))
theorem ds_setF (C : Cxt X W N sc kk) {g : TDL} {i : Nat} {x : Str} (hx : N[i]? = some x) (hl : Loc sc x) (hf : X.fn x = true ∨ sc.names.lookup x = some .local) (he : DF X W e g c) (hs : swapsWith e (some (.Name x p)) pos.line X.env = pure false := by rfl) : DS X W (.Assign [.Name x p] e pos) (gSetF i g) c :=
  ps_imp (ps_set (i := i) (by rw [C.hN]; exact C.nd) (by rw [C.hN]; exact hx) (by rw [C.hsc]; exact hl) he hs (by rw [C.hsc]; exact hf)) fun E σ H ⟨k, Δ, D2, h1, h2, h3, h4⟩ =>
    ⟨k, Δ, _, h1, h2, h3, fun ds a xs H' ⟨li, q⟩ c hn ha hz r => by
      obtain ⟨e2, kp⟩ := h2.own (i := i) (by rw [← h2.len]; exact li) c hn ha hz r C.ok
      exact h4.nx _ _ _ q e2 kp⟩
/-- a, b = x, y: stored from the right, both after both are reckoned -/
def gPar (i j : Nat) (g : TDL) : TDS := fun D Δ => g Δ fun ds => match ds with
  | [d, e] => D.nx ((Δ.set i (.dat d)).set j (.dat e))
  | _ => False
theorem ds_par (C : Cxt X W N sc kk) {g : TDL} {i j : Nat} {x y : Str} {px py pt : Pos} {kt k2 pt2} (hx : N[i]? = some x) (hy : N[j]? = some y) (hij : i ≠ j) (lx : sc.names.lookup x = some .local) (ly : sc.names.lookup y = some .local) (ha : DA X W [a, b] g c)
    (hw : swappedStores [.Tuple [.Name x px, .Name y py] kt pt] (.Tuple [a, b] k2 pt2) X.env = pure (some [x, y]))
    (hs : swapsWithSole [.Tuple [.Name x px, .Name y py] kt pt] (.Tuple [a, b] k2 pt2) pos.line X.env = pure false := by rfl) : DS X W (.Assign [.Tuple [.Name x px, .Name y py] kt pt] (.Tuple [a, b] k2 pt2) pos) (gPar i j g) c :=
  ps_imp (ps_par C.calm (by rw [C.hN]; exact C.nd) (by rw [C.hN]; exact hx) (by rw [C.hN]; exact hy) hij (by rw [C.hsc]; exact lx) (by rw [C.hsc]; exact ly) ha hw hs) fun E σ H ⟨k, Δ, D2, h1, h2, h3, h4⟩ =>
    ⟨k, Δ, _, h1, h2, h3, fun ds vs H' q c r => by
      match ds, vs, r, q with
      | [d1, d2], [v1, v2], .cons r1 (.cons r2 .nil), q =>
        have s1 := (h2.chg C.ok c).dat (i := i) r1
        have s2 := s1.dat (i := j) (r2.map (kp_set (σ := σ) (Δ := Δ) (i := i) (x := some v1) (s := .dat d1) fun _ z => by cases z))
        exact ⟨v1, v2, rfl, h4.nx _ _ _ q s2 ((kp_chg_set C c fun _ z => by cases z).trans (kp_set fun _ z => by cases z))⟩⟩

/-! ### lists of the def's own -/
/-- from here on the list is data -/
def frz (i : Nat) (Δ : DEnv) : DEnv := match nth Δ i with
  | .own ds => Δ.set i (.dat (.list ds))
  | _ => Δ
theorem En.frz (en : En W k σ H Δ) (i : Nat) : En W k σ H (frz i Δ) ∧ Kp (AA W σ Δ) (AA W σ (DL.frz i Δ)) H H := by
  unfold DL.frz
  cases hn : nth Δ i with
  | own ds =>
    have s := en.sl i
    rw [hn] at s
    obtain ⟨a, xs, e1, e2, r, e3, e4, z⟩ := s
    have li : i < Δ.length := nth_lt (by rw [hn]; simp)
    have self : σ.set i (some (.ref a)) = σ := by
      obtain ⟨hl, hg⟩ := List.getElem?_eq_some_iff.mp e1
      rw [← hg]
      exact List.set_getElem_self hl
    have kp : Kp (AA W σ Δ) (AA W σ (Δ.set i (.dat (.list ds)))) H H := by
      have h := kp_set (W := W) (σ := σ) (Δ := Δ) (H := H) (i := i) (s := .dat (.list ds)) (x := some (.ref a)) fun _ z => by cases z
      rw [self] at h
      exact h
    have na : ¬ AA W σ (Δ.set i (.dat (.list ds))) a := by
      rintro (q | ⟨l, es, h1, h2⟩)
      · exact e4 q
      · by_cases e : l = i
        · rw [e, nth_set_self li] at h1
          cases h1
        · rw [nth_set_ne e] at h1
          exact e (en.uniq l i es ds a h1 hn h2 e1)
    refine ⟨?_, kp⟩
    refine ⟨by rw [List.length_set]; exact en.len, fun l => ?_, fun j1 j2 d1 d2 b h1 h2 h3 h4 => ?_, en.fin, en.dom0⟩
    · by_cases e : l = i
      · rw [e, nth_set_self li]
        exact ⟨.ref a, e1, .lst e2 na z (r.map kp)⟩
      · rw [nth_set_ne e]
        exact SlotOk.mono (fun b q => by
          have := aa_set (W := W) (σ := σ) (Δ := Δ) (i := i) (s := .dat (.list ds)) (x := some (.ref a)) (a := b) (fun _ z => by cases z)
          rw [self] at this
          exact this q) (en.sl l)
    · have f : ∀ {j : Nat} {es : List D}, nth (Δ.set i (.dat (.list ds))) j = .own es → nth Δ j = .own es := fun {j es} h => by
        by_cases e : j = i
        · rw [e, nth_set_self li] at h
          cases h
        · rw [nth_set_ne e] at h
          exact h
      exact en.uniq j1 j2 d1 d2 b (f h1) (f h2) h3 h4
  | un => exact ⟨en, Kp.refl⟩
  | dat d => exact ⟨en, Kp.refl⟩
  | scr ns => exact ⟨en, Kp.refl⟩
  | pot => exact ⟨en, Kp.refl⟩
def gFrz (i : Nat) (g : TDS) : TDS := fun D Δ => g D (frz i Δ)
theorem dss_frz {r : List Stmt} {g : TDS} (i : Nat) (h : DSs X W r g c) : DSs X W r (gFrz i g) c := pss_imp h fun E σ H ⟨k, Δ, D2, h1, h2, h3, h4⟩ => ⟨k, frz i Δ, D2, h1, (h2.frz i).1, h3, h4.step (h2.frz i).2⟩
theorem ds_frz {r : Stmt} {g : TDS} (i : Nat) (h : DS X W r g c) : DS X W r (gFrz i g) c := ps_imp h fun E σ H ⟨k, Δ, D2, h1, h2, h3, h4⟩ => ⟨k, frz i Δ, D2, h1, (h2.frz i).1, h3, h4.step (h2.frz i).2⟩

/-- the list of the def's own at slot i becomes ds -/
theorem En.change (ok : W.Ok) (en : En W k σ H Δ) {i : Nat} {a : Addr} {es ds : List D} {ys : List V} (hi : nth Δ i = .own es) (ha : σ[i]? = some (some (.ref a))) (r : RepAll W.K (AA W σ Δ) H ys ds) (hz : ds.length ≤ sizeLine) :
    En W k σ (upd H a (.lst ys)) (Δ.set i (.own ds)) ∧ Kp (AA W σ Δ) (AA W σ (Δ.set i (.own ds))) H (upd H a (.lst ys)) := by
  have li : i < Δ.length := nth_lt (by rw [hi]; simp)
  have sx := en.sl i
  rw [hi] at sx
  obtain ⟨a0, xs, e1, e2, r0, e3, e4, z0⟩ := sx
  rw [ha] at e1
  cases e1
  have same : ∀ b, AA W σ (Δ.set i (.own ds)) b → AA W σ Δ b := fun b q => q.elim .inl fun ⟨l, fs, h1, h2⟩ => by
    by_cases e : l = i
    · rw [e] at h2
      exact .inr ⟨i, es, hi, h2⟩
    · rw [nth_set_ne e] at h1
      exact .inr ⟨l, fs, h1, h2⟩
  have inA : AA W σ Δ a := .inr ⟨i, es, hi, ha⟩
  have kp : Kp (AA W σ Δ) (AA W σ (Δ.set i (.own ds))) H (upd H a (.lst ys)) := fun b o e n => ⟨by rw [upd_ne (show b ≠ a from fun z => n (by rw [z]; exact inA))]; exact e, fun q => n (same b q)⟩
  have nP : ¬ W.P a := fun q => ok.pdom a q e3
  refine ⟨⟨by rw [List.length_set]; exact en.len, fun l => ?_, fun j1 j2 d1 d2 b h1 h2 h3 h4 => ?_, ⟨fun b o e n => ?_, fun b q => ?_⟩, fun b q => ?_⟩, kp⟩
  · by_cases e : l = i
    · rw [e, nth_set_self li]
      exact ⟨a, ys, ha, upd_same, r.map kp, e3, e4, hz⟩
    · rw [nth_set_ne e]
      have s := en.sl l
      revert s
      cases h : nth Δ l with
      | un => exact fun _ => trivial
      | dat d =>
        rintro ⟨v, g1, g2⟩
        exact ⟨v, g1, g2.map kp⟩
      | scr ns =>
        rintro ⟨v, g1, g2⟩
        exact ⟨v, g1, g2.map kp⟩
      | pot => exact fun s => s
      | own fs =>
        rintro ⟨b, zs, g1, g2, g3, g4⟩
        have nb : b ≠ a := fun z => e (en.uniq l i fs es a h hi (z ▸ g1) ha)
        exact ⟨b, zs, g1, by rw [upd_ne nb]; exact g2, g3.map kp, g4⟩
  · have f : ∀ {j : Nat} {fs : List D}, nth (Δ.set i (.own ds)) j = .own fs → ∃ gs, nth Δ j = .own gs := fun {j fs} h => by
      by_cases e : j = i
      · rw [e]
        exact ⟨es, hi⟩
      · rw [nth_set_ne e] at h
        exact ⟨fs, h⟩
    obtain ⟨g1, q1⟩ := f h1
    obtain ⟨g2, q2⟩ := f h2
    exact en.uniq j1 j2 g1 g2 b q1 q2 h3 h4
  · rw [upd_ne fun z => by rw [z, e3] at e; cases e]
    exact en.fin.since b o e n
  · obtain ⟨x, y, z, e, rest⟩ := en.fin.pots b q
    exact ⟨x, y, z, by rw [upd_ne (show b ≠ a from fun z => nP (by rw [← z]; exact q))]; exact e, rest⟩
  · have := en.dom0 b q
    by_cases e : b = a
    · rw [e, upd_same]
      simp
    · rw [upd_ne e]
      exact this
/-- xs.append(e) -/
def gApp (i : Nat) (g : TDE) : TDS := fun D Δ => match nth Δ i with
  | .own ds => g Δ fun d => ds.length < sizeLine ∧ D.nx (Δ.set i (.own (ds ++ [d])))
  | _ => False
theorem ds_app (C : Cxt X W N sc kk) {i : Nat} {x : Str} {apos cpos : Pos} (hx : N[i]? = some x) (hv : Vis sc x) (he : DE X W e g c) (hd : (x == ("__debug__" : Str)) = false := by decide +kernel) (hcd : (x == ("__classdict__" : Str)) = false := by decide +kernel)
    (hb : attributeBase (.Name x p) "append" X.env (eval (.Name x p) X.env) = eval (.Name x p) X.env := by rfl)
    (hfew : ((backTo cpos (starEach [e] X.env)).all (fun x => !x.1) && (backToKw cpos (keywordEach [] X.env)).all (fun x => x.1.isSome) && decide (([e] : List Expr).length + ([] : List Keyword).length + (if ([] : List Keyword).isEmpty then 0 else 1) < 30)) = true := by rfl)
    (hline : (apos.endLine == cpos.line) = true := by rfl) (hs : starEach [e] X.env = (false, eval e X.env) :: starEach [] X.env := by rfl) (hsw : swapsWith (.Call (.Attribute (.Name x p) "append" apos) [e] [] cpos) none pos.line X.env = pure false := by rfl) :
    DS X W (.Expr (.Call (.Attribute (.Name x p) "append" apos) [e] [] cpos) pos) (gApp i g) c := by
  refine ps_imp (ps_expr (pe_bm PySem.F.plainAttrs_list PySem.F.slot_list_append PySem.F.type_list_append mt_append (pe_var (i := i) (by rw [C.hN]; exact hx) (by rw [C.hsc]; exact hv) hd hcd) (pa_cons he pa_nil hs) hb hfew hline hs rfl) hsw) fun E σ H ⟨k, Δ, D2, h1, h2, h3, h4⟩ => ?_
  have s := h2.sl i
  unfold gApp at h3
  revert h3 s
  cases hn : nth Δ i with
  | own ds =>
    rintro h3 ⟨a, xs, e1, e2, r, e3, e4, z⟩
    refine ⟨.ref a, e1, .inl ⟨rfl, xs, .inl (.inl e2)⟩, k, Δ, _, h1, h2, h3, fun d v H' ⟨q1, q2⟩ c1 r1 => ?_⟩
    have e2' : H' a = some (.lst xs) := c1.keep a _ e2 fun q => C.ok.pdom a q e3
    have lz := r.length
    refine ⟨a, xs, v, rfl, rfl, e2', by omega, ?_⟩
    obtain ⟨en, kp⟩ := (h2.chg C.ok c1).change C.ok hn e1 ((r.map (c1.kpE C.ok)).append (.cons r1 .nil)) (by rw [List.length_append]; show ds.length + 1 ≤ _; omega)
    exact h4.nx _ _ _ q2 en ((c1.kpE C.ok).trans kp)
  | un => exact fun z => z.elim
  | dat d => exact fun z => z.elim
  | pot => exact fun z => z.elim
  | scr ns => exact fun z => z.elim
/-- xs.extend(e), e a list -/
def gExt (i : Nat) (g : TDE) : TDS := fun D Δ => match nth Δ i with
  | .own ds => g Δ fun d => match d with
    | .list es => ds.length + es.length ≤ sizeLine ∧ D.nx (Δ.set i (.own (ds ++ es)))
    | _ => False
  | _ => False
theorem ds_ext (C : Cxt X W N sc kk) {i : Nat} {x : Str} {apos cpos : Pos} (hx : N[i]? = some x) (hv : Vis sc x) (he : DB X W e g c) (hd : (x == ("__debug__" : Str)) = false := by decide +kernel) (hcd : (x == ("__classdict__" : Str)) = false := by decide +kernel)
    (hb : attributeBase (.Name x p) "extend" X.env (eval (.Name x p) X.env) = eval (.Name x p) X.env := by rfl)
    (hfew : ((backTo cpos (starEach [e] X.env)).all (fun x => !x.1) && (backToKw cpos (keywordEach [] X.env)).all (fun x => x.1.isSome) && decide (([e] : List Expr).length + ([] : List Keyword).length + (if ([] : List Keyword).isEmpty then 0 else 1) < 30)) = true := by rfl)
    (hline : (apos.endLine == cpos.line) = true := by rfl) (hs : starEach [e] X.env = (false, eval e X.env) :: starEach [] X.env := by rfl) (hsw : swapsWith (.Call (.Attribute (.Name x p) "extend" apos) [e] [] cpos) none pos.line X.env = pure false := by rfl) :
    DS X W (.Expr (.Call (.Attribute (.Name x p) "extend" apos) [e] [] cpos) pos) (gExt i g) c := by
  refine ps_imp (ps_expr (pe_bm PySem.F.plainAttrs_list PySem.F.slot_list_extend PySem.F.type_list_extend mt_extend (pe_var (i := i) (by rw [C.hN]; exact hx) (by rw [C.hsc]; exact hv) hd hcd) (pa_cons he pa_nil hs) hb hfew hline hs rfl) hsw) fun E σ H ⟨k, Δ, D2, h1, h2, h3, h4⟩ => ?_
  have s := h2.sl i
  unfold gExt at h3
  revert h3 s
  cases hn : nth Δ i with
  | own ds =>
    rintro h3 ⟨a, xs, e1, e2, r, e3, e4, z⟩
    refine ⟨.ref a, e1, .inl ⟨rfl, xs, .inl (.inl e2)⟩, k, Δ, _, h1, h2, h3, fun d v H' q c1 r1 => ?_⟩
    have e2' : H' a = some (.lst xs) := c1.keep a _ e2 fun q => C.ok.pdom a q e3
    have lz := r.length
    cases d with
    | list fs =>
      have q : ds.length + fs.length ≤ sizeLine ∧ D2.nx (Δ.set i (.own (ds ++ fs))) := q
      obtain ⟨b, ys, rfl, hb2, rb⟩ : ∃ b ys, v = .ref b ∧ H' b = some (.lst ys) ∧ RepAll W.K (AA W σ Δ) H' ys fs := by
        rcases r1 with r1 | ⟨b, ys, fs', g1, g2, g3, g4, _⟩
        · cases r1 with
          | lst g1 g2 g3 g4 => exact ⟨_, _, rfl, g1, g4⟩
        · cases g2
          exact ⟨b, ys, g1, g3, g4⟩
      have lf := rb.length
      refine ⟨a, b, xs, ys, rfl, rfl, e2', hb2, by omega, ?_⟩
      obtain ⟨en, kp⟩ := (h2.chg C.ok c1).change C.ok hn e1 ((r.map (c1.kpE C.ok)).append rb) (by rw [List.length_append]; exact q.1)
      exact h4.nx _ _ _ q.2 en ((c1.kpE C.ok).trans kp)
    | _ => exact (show False from q).elim
  | un => exact fun z => z.elim
  | dat d => exact fun z => z.elim
  | pot => exact fun z => z.elim
  | scr ns => exact fun z => z.elim
end
end DL
/-! DLLoop2: what is walked, for, while, comprehensions. -/
namespace DL
open PySem PySem.Spec PyProof.Rows L2

/-- J walks the items xs, whatever is laid meanwhile (and B stays) -/
structure Seqs (K : PySem.W.Frag) (A B : Addr → Prop) (J : It) (xs : List D) (H0 : Hp) : Prop where
  len : xs.length ≤ sizeLine
  item : ∀ (i : Nat) d H A', xs[i]? = some d → Kp A A' H0 H → (∀ b o, B b → H0 b = some o → H b = some o) → (∀ a, A' a → H a ≠ none) → J.go i H ∧ ∀ v H', J.yld i H v H' → (∀ b o, H b = some o → H' b = some o) ∧ Rep K A' H' v d
  stop : ∀ H A', Kp A A' H0 H → (∀ b o, B b → H0 b = some o → H b = some o) → J.stop xs.length H
def liftI (W : Wd) (g : TDL) (c : Nat) : TI := fun σ H R => ∃ (k : Nat) (Δ : DEnv) (K : List D → Prop), k + c ≤ W.c0 ∧ En W k σ H Δ ∧ g Δ K ∧ ∀ xs J H1, K xs → Chg W (k + c) H H1 → Seqs W.K (AA W σ Δ) (fun _ => False) J xs H1 → R J H1
def liftIb (W : Wd) (g : TDL) (c : Nat) : TI := fun σ H R => ∃ (k : Nat) (Δ : DEnv) (K : List D → Prop), k + c ≤ W.c0 ∧ En W k σ H Δ ∧ g Δ K ∧ ∀ xs J H1, K xs → Chg W (k + c) H H1 → Seqs W.K (AA W σ Δ) (OwnA σ Δ) J xs H1 → R J H1
abbrev DI (X : Cx) (W : Wd) (tg e : Expr) (g : TDL) (c : Nat) : Prop := PI X tg e (liftI W g c)
abbrev DIb (X : Cx) (W : Wd) (tg e : Expr) (g : TDL) (c : Nat) : Prop := PI X tg e (liftIb W g c)
theorem pi_imp {X : Cx} {tg e : Expr} {t t' : TI} (h : PI X tg e t) (i : ∀ σ H Q, t' σ H Q → t σ H Q) : PI X tg e t' := ⟨fun pins s σ H Q I q => h.run pins s σ H Q I (i σ H Q q)⟩
/-- a list, a tuple, a text -/
def iSeqV (K : PySem.W.Frag) (tl : TE) : TI := fun σ H R => tl σ H fun x H1 => (∃ a, x = .ref a ∧ (((∃ xs, SqL K H1 a xs) ∧ R (Itl K a) H1) ∨ ((∃ xs, SqT K H1 a xs) ∧ R (Itt K a) H1))) ∨ ∃ y, x = .str y ∧ R (Its y) H1
theorem pi_seqV {X : Cx} {tg l : Expr} {tl : TE} (hl : PE X l tl) : PI X tg l (iSeqV X.K tl) := by
  refine ⟨fun pins s σ H R I h => thn (hl.run pins s σ H _ I h) ?_⟩
  rintro v s1 ⟨x, H1, I1, r1, ⟨a, rfl, ⟨⟨xs, hq⟩, q⟩ | ⟨⟨xs, hq⟩, q⟩⟩ | ⟨y, rfl, q⟩⟩
  · cases r1
    obtain ⟨its, rv, pl, hz⟩ := I1.list hq
    exact wpAny_pyIter_list pl.isList (pi_one (tk := s1.toks) I1 _ (turn_list a _) ⟨_, Heap.get?_push_size _ rfl, rfl, rfl⟩ q)
  · cases r1
    obtain ⟨its, rv, tp, hz⟩ := I1.tuple hq
    exact wpAny_pyIter_tuple (show s1.heap.IsTuple a its.toArray from tp) (pi_one (tk := s1.toks) I1 _ (turn_tuple a _) ⟨_, Heap.get?_push_size _ rfl, rfl, rfl⟩ q)
  · obtain ⟨t, rfl⟩ := r1
    by_cases ha : y.cps.all (· < 128) = true
    · exact wpAny_pyIter_ascii ha (pi_one (tk := s1.toks) I1 _ (turn_str _ y t _ (.inl rfl)) ⟨_, Heap.get?_push_size _ rfl, rfl, rfl⟩ q)
    · exact wpAny_pyIter_wide (Bool.eq_false_iff.mpr ha) (pi_one (tk := s1.toks) I1 _ (turn_str _ y t _ (.inr rfl)) ⟨_, Heap.get?_push_size _ rfl, rfl, rfl⟩ q)
def signs (s : Str) : List D := s.cps.toList.map fun c => .str ⟨#[c]⟩
def gSeqI (g : TDE) : TDL := fun Δ K => g Δ fun d => match d with
  | .list xs => K xs
  | .tuple xs => K xs
  | .str s => K (signs s)
  | _ => False
theorem seqs_list {K : PySem.W.Frag} {A B : Addr → Prop} {H : Hp} {a : Addr} {xs : List V} {ds : List D} (e : H a = some (.lst xs)) (hb : ¬ A a ∨ B a) (z : ds.length ≤ sizeLine) (r : RepAll K A H xs ds) : Seqs K A B (Itl K a) ds H := by
  have st : ∀ H2 A', Kp A A' H H2 → (∀ b o, B b → H b = some o → H2 b = some o) → H2 a = some (.lst xs) := fun H2 A' kp kb => hb.elim (fun n => (kp a _ e n).1) fun q => kb a _ q e
  have one : ∀ {H2 : Hp} {ys : List V}, H2 a = some (.lst xs) → SqL K H2 a ys → True := fun _ _ => trivial
  refine ⟨z, fun i d H2 A' hd kp kb dm => ?_, fun H2 A' kp kb => ⟨xs, .inl (.inl (st H2 A' kp kb)), Nat.le_of_eq r.length⟩⟩
  obtain ⟨v, hv, rv⟩ := r.getD hd
  refine ⟨⟨xs, v, .inl (.inl (st H2 A' kp kb)), hv⟩, fun v' H' hy => ?_⟩
  obtain ⟨rfl, hy⟩ := hy
  have ev := hy xs (.inl (.inl (st _ A' kp kb)))
  rw [hv] at ev
  cases ev
  exact ⟨fun _ _ q => q, rv.map kp⟩
theorem seqs_tup {K : PySem.W.Frag} {A B : Addr → Prop} {H : Hp} {a : Addr} {xs : List V} {ds : List D} (s : (Rd H a (.tup xs) ∧ ¬ A a) ∨ KT K a xs) (z : ds.length ≤ sizeLine) (r : RepAll K A H xs ds) : Seqs K A B (Itt K a) ds H := by
  have st : ∀ H2 A', Kp A A' H H2 → SqT K H2 a xs := fun H2 A' kp => s.elim (fun q => .inl (kp.rd q.1 q.2).1) KT.sq
  refine ⟨z, fun i d H2 A' hd kp kb dm => ?_, fun H2 A' kp kb => ⟨xs, st H2 A' kp, Nat.le_of_eq r.length⟩⟩
  obtain ⟨v, hv, rv⟩ := r.getD hd
  refine ⟨⟨xs, v, st H2 A' kp, hv⟩, fun v' H' hy => ?_⟩
  obtain ⟨rfl, hy⟩ := hy
  have ev := hy xs (st _ A' kp)
  rw [hv] at ev
  cases ev
  exact ⟨fun _ _ q => q, rv.map kp⟩
theorem one_sign (c : Nat) : (⟨#[c]⟩ : Str).length ≤ sizeLine := by
  rw [sizeLine_eq]
  show 1 ≤ _
  omega
theorem seqs_str {K : PySem.W.Frag} {A B : Addr → Prop} {H : Hp} {y : Str} (z : y.length ≤ sizeLine) : Seqs K A B (Its y) (signs y) H := by
  have hl : (signs y).length = y.cps.size := by unfold signs; simp
  refine ⟨by rw [hl]; exact z, fun i d H2 A' hd kp kb dm => ?_, fun H2 A' kp kb => Nat.le_of_eq hl.symm⟩
  unfold signs at hd
  rw [List.getElem?_map, Array.getElem?_toList] at hd
  cases hc : y.cps[i]? with
  | none =>
    rw [hc] at hd
    cases hd
  | some c =>
    rw [hc] at hd
    cases hd
    refine ⟨(Array.getElem?_eq_some_iff.mp hc).1, fun v' H' hy => ?_⟩
    obtain ⟨rfl, c', hc', rfl⟩ := hy
    rw [hc] at hc'
    cases hc'
    exact ⟨fun _ _ q => q, .str _ (one_sign c)⟩
theorem seqs_range {K : PySem.W.Frag} {A B : Addr → Prop} {H : Hp} {lo : Int} {n : Nat} (z : n ≤ sizeLine) : Seqs K A B (Itr lo n) ((List.range n).map fun i => .int (lo + ((i : Nat) : Int))) H := by
  have hl : ((List.range n).map fun i => PyData.int (lo + ((i : Nat) : Int))).length = n := by simp
  refine ⟨by rw [hl]; exact z, fun i d H2 A' hd kp kb dm => ?_, fun H2 A' kp kb => Nat.le_of_eq hl.symm⟩
  have hi : i < n := by
    have := (List.getElem?_eq_some_iff.mp hd).1
    rw [hl] at this
    exact this
  rw [List.getElem?_map, List.getElem?_range hi] at hd
  cases hd
  refine ⟨hi, fun v' H' hy => ?_⟩
  obtain ⟨rfl, rfl⟩ := hy
  exact ⟨fun _ _ q => q, .int _⟩
section
variable {X : Cx} {W : Wd} {N : List Str} {sc : Scope} {kk : Nat} {e a b tg : Expr} {es : List Expr} {c ca cb cc ct ci ce : Nat} {g ga gb gc : TDE} {pos p p2 : Pos} {k j : Nat} {σ : St} {Δ : DEnv} {H H' : Hp} {v : V} {d : D}
theorem di_seq (C : Cxt X W N sc kk) (h : DE X W e g c) : DI X W tg e (gSeqI g) c :=
  pi_imp (pi_seqV h) fun σ H R ⟨k, Δ, K, h1, h2, h3, h4⟩ => ⟨k, Δ, _, h1, h2, h3, fun d v H' q c r => by
    cases r with
    | lst e n z r => exact .inl ⟨_, rfl, .inl ⟨⟨_, .inl (.inl e)⟩, h4 _ _ _ q c (by rw [← C.hK]; exact seqs_list e (.inl n) z r)⟩⟩
    | tup s z r => exact .inl ⟨_, rfl, .inr ⟨⟨_, by rw [← C.hK]; exact sqT s⟩, h4 _ _ _ q c (by rw [← C.hK]; exact seqs_tup s z r)⟩⟩
    | str y z => exact .inr ⟨y, rfl, h4 _ _ _ q c (seqs_str z)⟩
    | _ => exact (show False from q).elim⟩
theorem di_seqb (C : Cxt X W N sc kk) (h : DB X W e g c) : DIb X W tg e (gSeqI g) c :=
  pi_imp (pi_seqV h) fun σ H R ⟨k, Δ, K, h1, h2, h3, h4⟩ => ⟨k, Δ, _, h1, h2, h3, fun d v H' q c r => by
    rcases r with r | ⟨a, xs, ds, rfl, rfl, e, r, z, o⟩
    · cases r with
      | lst e n z r => exact .inl ⟨_, rfl, .inl ⟨⟨_, .inl (.inl e)⟩, h4 _ _ _ q c (by rw [← C.hK]; exact seqs_list e (.inl n) z r)⟩⟩
      | tup s z r => exact .inl ⟨_, rfl, .inr ⟨⟨_, by rw [← C.hK]; exact sqT s⟩, h4 _ _ _ q c (by rw [← C.hK]; exact seqs_tup s z r)⟩⟩
      | str y z => exact .inr ⟨y, rfl, h4 _ _ _ q c (seqs_str z)⟩
      | _ => exact (show False from q).elim
    · exact .inl ⟨_, rfl, .inl ⟨⟨_, .inl (.inl e)⟩, h4 _ _ _ q c (by rw [← C.hK]; exact seqs_list e (.inr o) z r)⟩⟩⟩
theorem Seqs.bo {K : PySem.W.Frag} {A B : Addr → Prop} {J : It} {xs : List D} (s : Seqs K A (fun _ => False) J xs H) : Seqs K A B J xs H := ⟨s.len, fun i d H2 A' hd kp _ => s.item i d H2 A' hd kp (fun _ _ z => z.elim), fun H2 A' kp _ => s.stop H2 A' kp fun _ _ z => z.elim⟩
theorem DI.bo {g : TDL} (h : DI X W tg e g c) : DIb X W tg e g c := pi_imp h fun σ H R ⟨k, Δ, K, h1, h2, h3, h4⟩ => ⟨k, Δ, K, h1, h2, h3, fun xs J H1 q c s => h4 xs J H1 q c s.bo⟩
def rangeD (lo hi : Int) : List D := (List.range (hi - lo).toNat).map fun i => .int (lo + ((i : Nat) : Int))
def gRg1 (g : TDE) : TDL := fun Δ K => g Δ fun d => match d with
  | .int n => -(2 ^ 62) ≤ n ∧ n ≤ sizeLine ∧ K (rangeD 0 n)
  | _ => False
def gRg2 (ga gb : TDE) : TDL := fun Δ K => ga Δ fun d => gb Δ fun e => match d, e with
  | .int m, .int n => -(2 ^ 62) ≤ m ∧ m < 2 ^ 62 ∧ -(2 ^ 62) ≤ n ∧ n < 2 ^ 62 ∧ n - m ≤ sizeLine ∧ K (rangeD m n)
  | _, _ => False
theorem di_range1 (C : Cxt X W N sc kk) (hg : sc.names.lookup ("range" : Str) = some .globalImplicit) (hm : X.mg ("range" : Str) = none) (ha : DB X W a g c) (hs : starEach [a] X.env = [(false, eval a X.env)] := by rfl) : DI X W tg (.Call (.Name "range" p) [a] [] pos) (gRg1 g) c :=
  pi_imp (pi_range1 (C.gl hg) hm (pa_cons ha pa_nil hs) hs) fun σ H R ⟨k, Δ, K, h1, h2, h3, h4⟩ => ⟨k, Δ, _, h1, h2, h3, fun d v H' q c r => by
    cases d with
    | int n =>
      have q : -(2 ^ 62) ≤ n ∧ n ≤ sizeLine ∧ K (rangeD 0 n) := q
      have hn : n < 2 ^ 62 := Int.lt_of_le_of_lt q.2.1 (by rw [sizeLine_eq]; decide)
      have hl : n.toNat ≤ sizeLine := by
        have := q.2.1
        omega
      refine ⟨n, by rw [RepO.int r], q.1, hn, h4 _ _ _ q.2.2 c ?_⟩
      have e : (n - 0).toNat = n.toNat := by rw [Int.sub_zero]
      unfold rangeD
      rw [e]
      exact seqs_range hl
    | _ => exact (show False from q).elim⟩
theorem di_range2 (C : Cxt X W N sc kk) (hg : sc.names.lookup ("range" : Str) = some .globalImplicit) (hm : X.mg ("range" : Str) = none) (ha : DB X W a ga ca) (hb : DB X W b gb cb) (hs : starEach [a, b] X.env = [(false, eval a X.env), (false, eval b X.env)] := by rfl) (hs2 : starEach [b] X.env = [(false, eval b X.env)] := by rfl)
    (hs3 : starEach [a, b] X.env = (false, eval a X.env) :: starEach [b] X.env := by rfl) : DI X W tg (.Call (.Name "range" p) [a, b] [] pos) (gRg2 ga gb) (ca + cb) :=
  pi_imp (pi_range2 (C.gl hg) hm (pa_cons ha (pa_cons hb pa_nil hs2) hs3) hs hs2) fun σ H R ⟨k, Δ, K, h1, h2, h3, h4⟩ => ⟨k, Δ, _, by omega, h2, h3, fun d v H1 q1 c1 r1 => by
    have e1 := h2.chg C.ok c1
    refine ⟨k + ca, Δ, _, by omega, e1, q1, fun d2 v2 H2 q2 c2 r2 => ?_⟩
    match d, d2, q2 with
    | .int m, .int n, q2 =>
      obtain ⟨m1, m2, n1, n2, z, q⟩ : -(2 ^ 62) ≤ m ∧ m < 2 ^ 62 ∧ -(2 ^ 62) ≤ n ∧ n < 2 ^ 62 ∧ n - m ≤ sizeLine ∧ K (rangeD m n) := q2
      refine ⟨m, n, by rw [RepO.int r1, RepO.int r2], ⟨m1, m2, n1, n2⟩, h4 _ _ _ q (chg3 c1 c2) ?_⟩
      exact seqs_range (by omega)⟩

/-! ### for -/
def gForC (cb m : Nat) (gi : TDL) (gt : TDG) (gb : TDS) : TDS := fun D Δ => gi Δ fun xs => xs.length * cb ≤ m ∧ ∃ I : Nat → DEnv → Prop, I 0 Δ ∧ (∀ i d Δ', xs[i]? = some d → I i Δ' → gt d Δ' fun Δ2 => gb { D with nx := I (i + 1), ct := I (i + 1), bk := D.nx } Δ2) ∧ ∀ Δ', I xs.length Δ' → D.nx Δ'
theorem for_use (C : Cxt X W N sc kk) {gi : TDL} {gt : TDG} {gb : TDS} {m : Nat} {ts : List Nat} : ∀ E σ H, liftS W (gForC cb m gi gt gb) (ci + m) E σ H → tFor (liftI W gi ci) (liftG W gt ts) (liftS W gb cb) E σ H := fun E σ H ⟨k, Δ, D2, h1, h2, h3, h4⟩ => by
  refine ⟨k, Δ, _, by omega, h2, h3, fun xs J H1 ⟨hm, I, i0, step, fin⟩ c1 S => ?_⟩
  have e1 := h2.chg C.ok c1
  refine ⟨fun i n σ' H' => n = xs.length - i ∧ i ≤ xs.length ∧ ∃ Δ', I i Δ' ∧ En W (k + ci + i * cb) σ' H' Δ' ∧ Kp (AA W σ Δ) (AA W σ' Δ') H1 H', ⟨xs.length, by simp, Nat.zero_le _, Δ, i0, by rw [Nat.zero_mul]; exact e1, Kp.refl⟩, ?_⟩
  rintro i n σ' H' ⟨rfl, hi, Δ', hI, en, kp⟩
  have hB : ∀ b o, (fun _ => False : Addr → Prop) b → H1 b = some o → H' b = some o := fun _ _ z => z.elim
  rcases Nat.lt_or_eq_of_le hi with hlt | heq
  · right
    obtain ⟨d, hd⟩ : ∃ d, xs[i]? = some d := ⟨xs[i], List.getElem?_eq_getElem hlt⟩
    obtain ⟨go, item⟩ := S.item i d H' (AA W σ' Δ') hd kp hB fun a q z => en.notA z q
    have bud : k + ci + i * cb + cb ≤ k + (ci + m) := by
      have h := Nat.mul_le_mul_right cb (show i + 1 ≤ xs.length from hlt)
      rw [Nat.add_mul, Nat.one_mul] at h
      omega
    refine ⟨go, fun σ4 H4 => ∃ Δ4, I (i + 1) Δ4 ∧ En W (k + ci + (i + 1) * cb) σ4 H4 Δ4 ∧ Kp (AA W σ Δ) (AA W σ4 Δ4) H1 H4, fun σ4 H4 ⟨Δ4, q1, q2, q3⟩ => ⟨xs.length - (i + 1), by omega, rfl, hlt, Δ4, q1, q2, q3⟩, fun v H2 hy => ?_⟩
    obtain ⟨hx, rv⟩ := item v H2 hy
    have c2 := Chg.of_ext en.fin hx
    refine ⟨k + ci + i * cb, Δ', d, _, en.chg C.ok c2, rv, step i d Δ' hd hI, fun Δ2 σ2 q e kp2 bt => ?_⟩
    have kpa := kp.trans ((c2.kpE C.ok).trans kp2)
    refine ⟨k + ci + i * cb, Δ2, _, by omega, e, q, ⟨fun Δ4 σ4 H4 q4 e4 kp4 => ⟨Δ4, q4, ?_, kpa.trans kp4⟩, fun d' v' H4 q4 f4 r4 => h4.rt d' v' H4 q4 (f4.mono bud) r4, fun Δ4 σ4 H4 q4 e4 kp4 => ?_, fun Δ4 σ4 H4 q4 e4 kp4 => ⟨Δ4, q4, ?_, kpa.trans kp4⟩⟩⟩
    · have : k + ci + i * cb + cb = k + ci + (i + 1) * cb := by rw [Nat.add_mul, Nat.one_mul, Nat.add_assoc (k + ci)]
      exact this ▸ e4
    · exact h4.nx Δ4 σ4 H4 q4 (e4.mono bud) ((c1.kpE C.ok).trans (kpa.trans kp4))
    · have : k + ci + i * cb + cb = k + ci + (i + 1) * cb := by rw [Nat.add_mul, Nat.one_mul, Nat.add_assoc (k + ci)]
      exact this ▸ e4
  · left
    subst heq
    exact ⟨S.stop H' (AA W σ' Δ') kp hB, h4.nx Δ' σ' H' (fin Δ' hI) (en.mono (by omega)) ((c1.kpE C.ok).trans kp)⟩
theorem ds_for (C : Cxt X W N sc kk) {tg iter : Expr} {body : List Stmt} {gi : TDL} {gt : TDG} {gb : TDS} {ts : List Nat} (m : Nat) (hi : DI X W tg iter gi ci) (hg : DG X W tg gt ts) (hb : DSs X W body gb cb) (hs : ∀ x, foldedSetIterable iter X.env x = pure x := by intro _; rfl) :
    DS X W (.For tg iter body [] pos) (gForC cb m gi gt gb) (ci + m) := ps_imp (ps_for C.po C.calm hi hg hb hs) (for_use C)
/-! ### while -/
def gWhC (cb M : Nat) (gt : TDT) (gb : TDS) : TDS := fun D Δ => ∃ I : Nat → DEnv → Prop, (∃ n, n * cb ≤ M ∧ I n Δ) ∧ ∀ n Δ', I n Δ' → gt Δ' fun b => gIte b (∃ n', n = n' + 1 ∧ gb { D with nx := I n', ct := I n', bk := D.nx } Δ') (D.nx Δ')
theorem while_use (C : Cxt X W N sc kk) {gt : TDT} {gb : TDS} {M : Nat} : ∀ E σ H, liftS W (gWhC (ct + cb) M gt gb) (ct + M) E σ H → tWhile (liftT W gt ct) (liftS W gb cb) E σ H := fun E σ H ⟨k, Δ, D2, h1, h2, ⟨I, ⟨n0, hn0, i0⟩, step⟩, h4⟩ => by
  refine ⟨fun n σ' H' => n ≤ n0 ∧ ∃ Δ', I n Δ' ∧ En W (k + (n0 - n) * (ct + cb)) σ' H' Δ' ∧ Kp (AA W σ Δ) (AA W σ' Δ') H H', ⟨n0, Nat.le_refl _, Δ, i0, by rw [Nat.sub_self, Nat.zero_mul]; exact h2, Kp.refl⟩, ?_⟩
  rintro n σ' H' ⟨hn, Δ', hI, en, kp⟩
  have b0 : (n0 - n) * (ct + cb) ≤ n0 * (ct + cb) := Nat.mul_le_mul_right _ (Nat.sub_le _ _)
  refine ⟨k + (n0 - n) * (ct + cb), Δ', _, by omega, en, step n Δ' hI, fun b H1 q c1 => ?_⟩
  have e1 := en.chg C.ok c1
  cases b with
  | false => exact h4.nx Δ' σ' H1 (q.2 rfl) (e1.mono (by omega)) (kp.trans (c1.kpE C.ok))
  | true =>
    obtain ⟨n', en', qb⟩ := q.1 rfl
    subst en'
    have e0 : (n0 - n') * (ct + cb) = (n0 - (n' + 1)) * (ct + cb) + (ct + cb) := by
      have : n0 - n' = n0 - (n' + 1) + 1 := by omega
      rw [this, Nat.add_mul, Nat.one_mul]
    have b1 : (n0 - n') * (ct + cb) ≤ n0 * (ct + cb) := Nat.mul_le_mul_right _ (Nat.sub_le _ _)
    have kpa := kp.trans (c1.kpE C.ok)
    refine ⟨fun σ4 H4 => ∃ Δ4, I n' Δ4 ∧ En W (k + (n0 - n') * (ct + cb)) σ4 H4 Δ4 ∧ Kp (AA W σ Δ) (AA W σ4 Δ4) H H4, fun σ4 H4 ⟨Δ4, q1, q2, q3⟩ => ⟨n', Nat.lt_succ_self _, by omega, Δ4, q1, q2, q3⟩, ?_⟩
    have eb : k + (n0 - (n' + 1)) * (ct + cb) + ct + cb = k + (n0 - n') * (ct + cb) := by omega
    refine ⟨k + (n0 - (n' + 1)) * (ct + cb) + ct, Δ', _, by omega, e1, qb, ⟨fun Δ4 σ4 H4 q4 e4 kp4 => ⟨Δ4, q4, eb ▸ e4, kpa.trans kp4⟩, fun d' v' H4 q4 f4 r4 => h4.rt d' v' H4 q4 (f4.mono (by omega)) r4, fun Δ4 σ4 H4 q4 e4 kp4 => ?_, fun Δ4 σ4 H4 q4 e4 kp4 => ⟨Δ4, q4, eb ▸ e4, kpa.trans kp4⟩⟩⟩
    exact h4.nx Δ4 σ4 H4 q4 (e4.mono (by omega)) (kpa.trans kp4)
theorem ds_while (C : Cxt X W N sc kk) {t : Expr} {body : List Stmt} {gt : TDT} {gb : TDS} (M : Nat) (ht : DT X W t gt ct) (hb : DSs X W body gb cb) : DS X W (.While t body [] pos) (gWhC (ct + cb) M gt gb) (ct + M) := ps_imp (ps_while C.po ht hb) (while_use C)
end
end DL
/-! DLComp: list comprehensions over data. -/
namespace DL
open PySem PySem.Spec PyProof.Rows L2

/-- the slots vs are forgotten -/
def clr : List Nat → DEnv → DEnv
  | [], Δ => Δ
  | v :: vs, Δ => (clr vs Δ).set v .un
def noOwn : Sv → Bool
  | .own _ => false
  | _ => true
theorem clr_len : ∀ (vs : List Nat) (Δ : DEnv), (clr vs Δ).length = Δ.length
  | [], _ => rfl
  | v :: vs, Δ => by
    unfold clr
    rw [List.length_set, clr_len vs Δ]
theorem nth_len {Δ : DEnv} {i : Nat} (h : Δ.length ≤ i) : nth Δ i = .un := by
  cases hn : nth Δ i with
  | un => rfl
  | _ => exact absurd (nth_lt (by rw [hn]; simp)) (Nat.not_lt.mpr h)
theorem clr_in : ∀ {vs : List Nat} {Δ : DEnv} {i : Nat}, i ∈ vs → nth (clr vs Δ) i = .un
  | v :: vs, Δ, i, h => by
    unfold clr
    by_cases e : i = v
    · subst e
      by_cases l : i < (clr vs Δ).length
      · exact nth_set_self l
      · exact nth_len (by rw [List.length_set]; omega)
    · rw [nth_set_ne e]
      exact clr_in ((List.mem_cons.mp h).resolve_left e)
theorem clr_out : ∀ {vs : List Nat} {Δ : DEnv} {i : Nat}, i ∉ vs → nth (clr vs Δ) i = nth Δ i
  | [], _, _, _ => rfl
  | v :: vs, Δ, i, h => by
    unfold clr
    rw [nth_set_ne fun e => h (by rw [e]; exact List.mem_cons_self)]
    exact clr_out fun q => h (List.mem_cons_of_mem _ q)
theorem wipe_in : ∀ {vs : List Nat} {σ : St} {i : Nat}, i ∈ vs → i < σ.length → (wipe σ vs)[i]? = some none
  | v :: vs, σ, i, h, l => by
    unfold wipe
    by_cases e : i = v
    · subst e
      exact List.getElem?_set_self (by rw [wipe_length]; exact l)
    · rw [List.getElem?_set_ne fun z => e z.symm]
      exact wipe_in ((List.mem_cons.mp h).resolve_left e) l
theorem wipe_not : ∀ {vs : List Nat} {σ : St} {i : Nat}, i ∉ vs → (wipe σ vs)[i]? = σ[i]?
  | [], _, _, _ => rfl
  | v :: vs, σ, i, h => by
    unfold wipe
    rw [List.getElem?_set_ne fun e => h (by rw [← e]; exact List.mem_cons_self)]
    exact wipe_not fun q => h (List.mem_cons_of_mem _ q)
theorem wipe_but {vs ts : List Nat} {σ σ2 : St} {Δ Δ2 : DEnv} (h : But ts (wipe σ vs) σ2 Δ Δ2) (hs : ∀ j ∈ ts, j ∈ vs) : wipe σ2 vs = wipe σ vs := by
  refine List.ext_getElem? fun i => ?_
  have hl : σ2.length = σ.length := h.len.trans (wipe_length σ vs)
  by_cases hi : i ∈ vs
  · by_cases l : i < σ.length
    · rw [wipe_in hi l, wipe_in hi (by rw [hl]; exact l)]
    · rw [List.getElem?_eq_none (by rw [wipe_length]; omega), List.getElem?_eq_none (by rw [wipe_length]; omega)]
  · rw [wipe_not hi, h.st i fun q => hi (hs i q)]
/-- a block's world: the list that is made, at D, changes too; nothing is raised out of it -/
abbrev Wd.blk (W : Wd) (D : Addr) : Wd := { W with A0 := fun a => W.A0 a ∨ a = D, E := fun _ _ => False }
section
variable {X : Cx} {W : Wd} {N : List Str} {sc : Scope} {kk : Nat} {e a b tg elt iter : Expr} {es ifs : List Expr} {c ca cb cc ct ci ce m : Nat} {g ga gb gc : TDE} {pos p p2 : Pos} {k j : Nat} {σ : St} {Δ : DEnv} {H H' H1 : Hp} {v : V} {d : D} {vs : List Nat}
theorem Cxt.blk (C : Cxt X W N sc kk) (L : Addr) (s : Shared) (H : Hp) (scope : Scope) (cl : List (Str × Addr)) (C' : Addr) (fp : List Addr) : Cxt (X.blk s H scope (compEnvC scope cl C' X.env) fp) (W.blk L) N (relS scope sc) kk := by
  refine ⟨C.hN, ?_, C.nd, C.hr, C.gd, C.calm, C.hK, ⟨C.ok.pdom, fun b p => .inl (C.ok.sub b p), C.ok.lim⟩, takes0.imp fun cls d _ H h => ?_, PassesOwn.never⟩
  · show relabel scope X.env = _
    rw [← C.hsc]
    rfl
  · obtain ⟨_, _, _, _, z, _⟩ := h
    exact z
theorem blk_sub {L : Addr} (hv : ∀ i ∈ vs, noOwn (nth Δ i) = true) {x : Addr} (h : AA (W.blk L) (wipe σ vs) (clr vs Δ) x) : AA W σ Δ x ∨ x = L := by
  rcases h with (h | h) | ⟨i, ds, h1, h2⟩
  · exact .inl (.inl h)
  · exact .inr h
  · by_cases hi : i ∈ vs
    · rw [clr_in hi] at h1
      cases h1
    · rw [clr_out hi] at h1
      rw [wipe_not hi] at h2
      exact .inl (.inr ⟨i, ds, h1, h2⟩)
theorem blk_sup {L : Addr} {ts : List Nat} {σ2 : St} {Δ2 : DEnv} (hv : ∀ i ∈ vs, noOwn (nth Δ i) = true) (bt : But ts (wipe σ vs) σ2 (clr vs Δ) Δ2) (hs : ∀ j ∈ ts, j ∈ vs) {x : Addr} (h : AA W σ Δ x ∨ x = L) : AA (W.blk L) σ2 Δ2 x := by
  rcases h with (h | ⟨i, ds, h1, h2⟩) | h
  · exact .inl (.inl h)
  · have hi : i ∉ vs := fun q => by
      have := hv i q
      rw [h1] at this
      cases this
    refine .inr ⟨i, ds, ?_, ?_⟩
    · rw [bt.sv i fun q => hi (hs i q), clr_out hi]
      exact h1
    · rw [bt.st i fun q => hi (hs i q), wipe_not hi]
      exact h2
  · exact .inl (.inr h)
theorem Chg.ofBlk {L : Addr} (c : Chg (W.blk L) k H H') : Chg W k H H' := ⟨c.keep, c.pots⟩
theorem Chg.toBlk {L : Addr} (c : Chg W k H H') : Chg (W.blk L) k H H' := ⟨c.keep, c.pots⟩
/-- into the block -/
theorem En.blk (ok : W.Ok) (en : En W k σ H1 Δ) {L : Addr} (hn : H1 L = none) (c : Chg W j H1 H) (hD : H L ≠ none) (hv : ∀ i ∈ vs, noOwn (nth Δ i) = true) :
    En (W.blk L) j (wipe σ vs) H (clr vs Δ) ∧ Kp (AA W σ Δ) (AA (W.blk L) (wipe σ vs) (clr vs Δ)) H1 H := by
  have kp : Kp (AA W σ Δ) (AA (W.blk L) (wipe σ vs) (clr vs Δ)) H1 H := fun b o e n => ⟨c.keep b o e fun q => n (.inl (ok.sub b q)), fun q => (blk_sub hv q).elim n fun z => by
    rw [z, hn] at e
    cases e⟩
  have fin := en.fin.chg c
  refine ⟨⟨by rw [clr_len, wipe_length]; exact en.len, fun i => ?_, fun i l ds es a h1 h2 h3 h4 => ?_, ⟨fin.since, fin.pots⟩, fun a q => q.elim (fun q => c.dom (en.dom0 a q)) fun q => by rw [q]; exact hD⟩, kp⟩
  · by_cases hi : i ∈ vs
    · rw [clr_in hi]
      trivial
    · rw [clr_out hi]
      have s := en.sl i
      revert s
      cases nth Δ i with
      | un => exact fun _ => trivial
      | dat d =>
        rintro ⟨v, e1, r⟩
        exact ⟨v, (wipe_not hi).trans e1, r.map kp⟩
      | scr ns =>
        rintro ⟨v, e1, r⟩
        exact ⟨v, (wipe_not hi).trans e1, r.map kp⟩
      | pot =>
        rintro ⟨a, e1, q⟩
        exact ⟨a, (wipe_not hi).trans e1, q⟩
      | own ds =>
        rintro ⟨a, xs, e1, e2, r, e3, e4, z⟩
        refine ⟨a, xs, (wipe_not hi).trans e1, c.keep a _ e2 fun q => ok.pdom a q e3, r.map kp, e3, fun q => q.elim e4 fun z => ?_, z⟩
        rw [z, hn] at e2
        cases e2
  · have f : ∀ {i : Nat} {ds : List D}, nth (clr vs Δ) i = .own ds → (wipe σ vs)[i]? = some (some (.ref a)) → nth Δ i = .own ds ∧ σ[i]? = some (some (.ref a)) := fun {i ds} h1 h3 => by
      by_cases hi : i ∈ vs
      · rw [clr_in hi] at h1
        cases h1
      · rw [clr_out hi] at h1
        rw [wipe_not hi] at h3
        exact ⟨h1, h3⟩
    exact en.uniq i l ds es a (f h1 h3).1 (f h2 h4).1 (f h1 h3).2 (f h2 h4).2

/-! ### the rule -/
def exG (W : Wd) (g : TDG) (ts : List Nat) : TG := fun v σ H Q => ∃ D, liftG (W.blk D) g ts v σ H Q
def exT (W : Wd) (g : TDT) (c : Nat) : TT := fun σ H Q => ∃ D, liftT (W.blk D) g c σ H Q
def exE (W : Wd) (g : TDE) (c : Nat) : TE := fun σ H Q => ∃ D, lift (W.blk D) g c σ H Q
def gLcC (cb m : Nat) (vs : List Nat) (gi : TDL) (gg : TDG) (gt : TDT) (ge : TDE) : TDL := fun Δ K => gi Δ fun xs => (vs.all fun i => noOwn (nth Δ i)) = true ∧ xs.length * cb ≤ m ∧ ∃ S : Nat → List D → Prop, S 0 [] ∧
  (∀ i d ds, xs[i]? = some d → S i ds → gg d (clr vs Δ) fun Δ2 => gt Δ2 fun b => gIte b (ge Δ2 fun y => S (i + 1) (ds ++ [y])) (S (i + 1) ds)) ∧ ∀ ds, S xs.length ds → K ds
theorem lc_use (C : Cxt X W N sc kk) {gi : TDL} {gg : TDG} {gt : TDT} {ge : TDE} {ts : List Nat} (hts : ∀ j ∈ ts, j ∈ vs) : ∀ σ H Q, liftF W (gLcC (ct + ce) m vs gi gg gt ge) (ci + m) σ H Q → tLc (liftIb W gi ci) (exG W gg ts) (exT W gt ct) (exE W ge ce) vs σ H Q := fun σ H Q ⟨k, Δ, K, h1, h2, h3, h4⟩ => by
  refine ⟨k, Δ, _, by omega, h2, h3, fun xs J H1 ⟨hv, hm, S, s0, step, fin⟩ c1 Sq L hD => ?_⟩
  have hv : ∀ i ∈ vs, noOwn (nth Δ i) = true := List.all_eq_true.mp hv
  have e1 := h2.chg C.ok c1
  have nP : ¬ W.P L := fun q => C.ok.pdom L q (e1.fin.free hD)
  refine ⟨fun i n H' => n = xs.length - i ∧ i ≤ xs.length ∧ ∃ acc ds, H' L = some (.lst acc) ∧ RepAll W.K (fun b => AA W σ Δ b ∨ b = L) H' acc ds ∧ S i ds ∧ ds.length ≤ i ∧ Chg W (k + ci + i * (ct + ce)) H1 H',
    ⟨xs.length, by simp, Nat.zero_le _, [], [], upd_same, .nil, s0, Nat.le_refl _, by rw [Nat.zero_mul]; exact Fin.laid e1.fin hD⟩, ?_⟩
  rintro i n H' ⟨rfl, hi, acc, ds, hacc, racc, hS, hlen, ch⟩
  obtain ⟨en, kp⟩ := e1.blk (vs := vs) C.ok hD ch (by rw [hacc]; simp) hv
  have kb : ∀ b o, OwnA σ Δ b → H1 b = some o → H' b = some o := fun b o ⟨l, es, q1, q2⟩ e => ch.keep b o e fun q => by
    have s := e1.sl l
    rw [q1] at s
    obtain ⟨a', _, g1, _, _, g3, _⟩ := s
    rw [q2] at g1
    cases g1
    exact C.ok.pdom _ q g3
  rcases Nat.lt_or_eq_of_le hi with hlt | heq
  · right
    obtain ⟨d, hd⟩ : ∃ d, xs[i]? = some d := ⟨xs[i], List.getElem?_eq_getElem hlt⟩
    obtain ⟨go, item⟩ := Sq.item i d H' _ hd kp kb fun a q z => en.notA z q
    have bud : k + ci + i * (ct + ce) + (ct + ce) ≤ k + (ci + m) := by
      have h := Nat.mul_le_mul_right (ct + ce) (show i + 1 ≤ xs.length from hlt)
      rw [Nat.add_mul, Nat.one_mul] at h
      omega
    have nxt : k + ci + i * (ct + ce) + (ct + ce) = k + ci + (i + 1) * (ct + ce) := by rw [Nat.add_mul, Nat.one_mul, Nat.add_assoc (k + ci)]
    refine ⟨go, fun H6 => ∃ acc ds, H6 L = some (.lst acc) ∧ RepAll W.K (fun b => AA W σ Δ b ∨ b = L) H6 acc ds ∧ S (i + 1) ds ∧ ds.length ≤ i + 1 ∧ Chg W (k + ci + (i + 1) * (ct + ce)) H1 H6, fun H6 ⟨acc', ds', q1, q2, q3, q4, q5⟩ => ⟨xs.length - (i + 1), by omega, rfl, hlt, acc', ds', q1, q2, q3, q4, q5⟩, fun v H2 hy => ?_⟩
    obtain ⟨hx, rv⟩ := item v H2 hy
    have c2 : Chg (W.blk L) (k + ci + i * (ct + ce)) H' H2 := Chg.of_ext en.fin hx
    have okb : (W.blk L).Ok := ⟨C.ok.pdom, fun b p => .inl (C.ok.sub b p), C.ok.lim⟩
    have ex : Kp (fun b => AA W σ Δ b ∨ b = L) (fun b => AA W σ Δ b ∨ b = L) H' H2 := fun b o e n => ⟨hx b o e, n⟩
    refine ⟨L, k + ci + i * (ct + ce), _, d, _, en.chg okb c2, rv, step i d ds hd hS, fun Δ2 σ2 q e2 kp2 bt => ⟨wipe_but bt hts, ?_⟩⟩
    refine ⟨L, k + ci + i * (ct + ce), Δ2, _, (by have := C.ok; show k + ci + i * (ct + ce) + ct ≤ W.c0; omega), e2, q, fun b H3 q3 c3 => ?_⟩
    have e3 := e2.chg okb c3
    have keepD : ∀ {HA HB : Hp} {l : Nat}, Chg (W.blk L) l HA HB → HA L = some (.lst acc) → HB L = some (.lst acc) := fun c e => c.keep L _ e nP
    have kpA : ∀ {HA HB : Hp} {l : Nat}, Chg (W.blk L) l HA HB → Kp (fun b => AA W σ Δ b ∨ b = L) (fun b => AA W σ Δ b ∨ b = L) HA HB := fun c b o e n => ⟨c.keep b o e fun q => n (.inl (.inl (C.ok.sub b q))), n⟩
    have d2 : H2 L = some (.lst acc) := hx L _ hacc
    have r2 := racc.map ex
    cases b with
    | false =>
      refine ⟨acc, ds, keepD c3 d2, r2.map (kpA c3), q3.2 rfl, by omega, (ch.trans ?_)⟩
      exact nxt ▸ ((c2.trans c3).mono (by omega)).ofBlk
    | true =>
      refine ⟨L, k + ci + i * (ct + ce) + ct, Δ2, _, (by show k + ci + i * (ct + ce) + ct + ce ≤ W.c0; omega), e3, q3.1 rfl, fun y w H4 q4 c4 r4 => ?_⟩
      have d4 := keepD c4 (keepD c3 d2)
      have z1 := racc.length
      have z2 := Sq.len
      refine ⟨acc, d4, by omega, acc ++ [w], ds ++ [y], upd_same, ?_, q4, by rw [List.length_append]; show ds.length + 1 ≤ _; omega, ?_⟩
      · have kpD : Kp (fun b => AA W σ Δ b ∨ b = L) (fun b => AA W σ Δ b ∨ b = L) H4 (upd H4 L (.lst (acc ++ [w]))) := fun b o e n => ⟨by rw [upd_ne fun z => n (.inr z)]; exact e, n⟩
        exact (((r2.map (kpA c3)).map (kpA c4)).append (.cons (r4.map (Kp.less fun b q => blk_sup hv bt hts q)) .nil)).map kpD
      · have cc := ((c2.trans c3).trans c4).ofBlk
        have e : k + ci + i * (ct + ce) + ct + ce = k + ci + (i + 1) * (ct + ce) := by omega
        have c5 : Chg W (k + ci + (i + 1) * (ct + ce)) H1 H4 := e ▸ ch.trans cc
        refine ⟨fun b o q n => ?_, fun b q => ?_⟩
        · rw [upd_ne fun z => by rw [z, hD] at q; cases q]
          exact c5.keep b o q n
        · obtain ⟨x1, x2, x3, q1, rest⟩ := c5.pots b q
          exact ⟨x1, x2, x3, by rw [upd_ne (show b ≠ L from fun z => nP (by rw [← z]; exact q))]; exact q1, rest⟩
  · left
    subst heq
    refine ⟨Sq.stop H' _ kp kb, h4 ds L acc H' (fin ds hS) ?_ (c1.free hD) hacc (Nat.le_trans hlen Sq.len) racc⟩
    exact c1.trans (ch.mono (by omega))
theorem pg_ex {e : Expr} {t : Addr → TG} (h : ∀ D, PG X e (t D)) : PG X e (fun v σ H Q => ∃ D, t D v σ H Q) := ⟨fun pins s σ H v u Q I r ⟨D, q⟩ => (h D).run pins s σ H v u Q I r q⟩
theorem pe_ex {e : Expr} {t : Addr → TE} (h : ∀ D, PE X e (t D)) : PE X e (fun σ H Q => ∃ D, t D σ H Q) := ⟨fun pins s σ H Q I ⟨D, q⟩ => (h D).run pins s σ H Q I q⟩
structure PTsD (X : Cx) (W : Wd) (ifs : List Expr) (g : TDT) (c : Nat) : Prop where
  run : PTs X ifs (liftT W g c)
theorem pts_ex {t : Addr → TT} (h : ∀ D, PTs X ifs (t D)) : PTs X ifs (fun σ H Q => ∃ D, t D σ H Q) := ⟨fun pins s σ H Q I ⟨D, q⟩ => (h D).run pins s σ H Q I q⟩
def gYes : TDT := fun _ K => K true
theorem dts_nil : PTsD X W [] gYes 0 := ⟨⟨fun pins s σ H Q I ⟨k, Δ, K, h1, h2, h3, h4⟩ => pts_nil.run pins s σ H Q I (h4 true H h3 h2.refl)⟩⟩
theorem dts_one {t : Expr} {gt : TDT} (h : DT X W t gt c) : PTsD X W [t] gt c := ⟨pts_one h⟩
variable {scope : Scope} {own : List (Str × Nat)} {gi : TDL} {gg : TDG} {gt : TDT} {ge : TDE} {ts : List Nat}
abbrev Blk (X : Cx) (W : Wd) (scope : Scope) (Φ : Cx → Wd → Prop) : Prop := ∀ (D : Addr) (s : Shared) (H : Hp) (C : Addr) (cl : List (Str × Addr)) (fp : List Addr), Φ (X.blk s H scope (compEnvC scope cl C X.env) fp) (W.blk D)
theorem df_lc (C : Cxt X W N sc kk) (m : Nat) (hi : DIb X W tg iter gi ci) (ok : BlkOk N sc scope own) (hg : Blk X W scope fun X W => DG X W tg gg ts) (ht : Blk X W scope fun X W => PTsD X W ifs gt ct) (he : Blk X W scope fun X W => DE X W elt ge ce)
    (hts : ∀ j ∈ ts, j ∈ own.map (·.2)) (hs : ∀ x, foldedSetIterable iter X.env x = pure x := by intro _; rfl) : DF X W (.ListComp elt [⟨tg, iter, ifs, 0⟩] scope pos) (gLcC (ct + ce) m (own.map (·.2)) gi gg gt ge) (ci + m) :=
  pe_imp (pe_lc C.calm (by rw [C.hN]; exact C.nd) hi (by rw [C.hN, C.hsc]; exact ok) (fun s H C' cl fp => pg_ex fun D => hg D s H C' cl fp) (fun s H C' cl fp => pts_ex fun D => (ht D s H C' cl fp).run) (fun s H C' cl fp => pe_ex fun D => he D s H C' cl fp) hs) (lc_use C hts)
end
end DL
namespace DL
open PySem PySem.Spec PyProof.Rows L2
section
variable {X : Cx} {W : Wd} {N : List Str} {sc : Scope} {kk : Nat} {tg elt iter : Expr} {ifs : List Expr} {ct ci ce : Nat} {pos py spos : Pos} {scope : Scope} {own : List (Str × Nat)} {gi : TDL} {gg : TDG} {gt : TDT} {ge : TDE} {ts : List Nat} {y : Str} {i : Nat}
theorem sw_yes (C : Cxt X W N sc kk) {gs : List Comprehension} {l : Nat} (hk : sc.kind = .function) (hy : sc.names.lookup y = some .local) (hl : (py.line == pos.line) = true) (ha : (scope.names.any fun (n, k) => n == y && (k == .local || k == .cell)) = false) :
    swapsWith (.ListComp elt gs scope pos) (some (.Name y py)) l X.env = pure true := sw_true (by rw [C.hsc]; exact hk) (by rw [C.hsc]; exact hy) hl ha
theorem sw_no (C : Cxt X W N sc kk) {gs : List Comprehension} {l : Nat} (hy : sc.names.lookup y = some .cell) : swapsWith (.ListComp elt gs scope pos) (some (.Name y py)) l X.env = pure false := by
  have ky : X.env.kindOf y = some .cell := by
    show X.env.scope.names.lookup y = _
    rw [C.hsc]
    exact hy
  unfold swapsWith
  simp only [ky]
  rw [show ((some NameKind.cell : Option NameKind) == some NameKind.local) = false from rfl, Bool.and_false, Bool.false_and, Bool.false_and]
/-- x = [..], changed later -/
theorem ds_lcF (C : Cxt X W N sc kk) (m : Nat) (hx : N[i]? = some y) (hy : sc.names.lookup y = some .local) (hk : sc.kind = .function) (hl : (py.line == pos.line) = true) (ha : (scope.names.any fun (n, k) => n == y && (k == .local || k == .cell)) = false)
    (hi : DIb X W tg iter gi ci) (ok : BlkOk N sc scope own) (hg : Blk X W scope fun X W => DG X W tg gg ts) (ht : Blk X W scope fun X W => PTsD X W ifs gt ct) (he : Blk X W scope fun X W => DE X W elt ge ce) (hts : ∀ j ∈ ts, j ∈ own.map (·.2)) (hs : ∀ x, foldedSetIterable iter X.env x = pure x := by intro _; rfl) :
    DS X W (.Assign [.Name y py] (.ListComp elt [⟨tg, iter, ifs, 0⟩] scope pos) spos) (gSetF i (gLcC (ct + ce) m (own.map (·.2)) gi gg gt ge)) (ci + m) := by
  refine ps_imp (ps_setLc C.calm (by rw [C.hN]; exact C.nd) (i := i) (by rw [C.hN]; exact hx) (by rw [C.hsc]; exact hy) (sw_yes C hk hy hl ha) hi (by rw [C.hN, C.hsc]; exact ok) (fun s H C' cl fp => pg_ex fun D => hg D s H C' cl fp) (fun s H C' cl fp => pts_ex fun D => (ht D s H C' cl fp).run) (fun s H C' cl fp => pe_ex fun D => he D s H C' cl fp) hs) ?_
  rintro E σ H ⟨k, Δ, D2, h1, h2, h3, h4⟩
  refine lc_use C hts σ H _ ⟨k, Δ, _, h1, h2, h3, ?_⟩
  rintro ds a xs H' ⟨li, q⟩ c hn ha hz r
  obtain ⟨e2, kp⟩ := h2.own (i := i) (by rw [← h2.len]; exact li) c hn ha hz r C.ok
  exact h4.nx _ _ _ q e2 kp
/-- x = [..] -/
theorem ds_lc (C : Cxt X W N sc kk) (m : Nat) (hx : N[i]? = some y) (hy : sc.names.lookup y = some .local) (hk : sc.kind = .function) (hl : (py.line == pos.line) = true) (ha : (scope.names.any fun (n, k) => n == y && (k == .local || k == .cell)) = false)
    (hi : DIb X W tg iter gi ci) (ok : BlkOk N sc scope own) (hg : Blk X W scope fun X W => DG X W tg gg ts) (ht : Blk X W scope fun X W => PTsD X W ifs gt ct) (he : Blk X W scope fun X W => DE X W elt ge ce) (hts : ∀ j ∈ ts, j ∈ own.map (·.2)) (hs : ∀ x, foldedSetIterable iter X.env x = pure x := by intro _; rfl) :
    DS X W (.Assign [.Name y py] (.ListComp elt [⟨tg, iter, ifs, 0⟩] scope pos) spos) (gSet i (gL (gLcC (ct + ce) m (own.map (·.2)) gi gg gt ge))) (ci + m) := by
  refine ps_imp (ps_setLc C.calm (by rw [C.hN]; exact C.nd) (i := i) (by rw [C.hN]; exact hx) (by rw [C.hsc]; exact hy) (sw_yes C hk hy hl ha) hi (by rw [C.hN, C.hsc]; exact ok) (fun s H C' cl fp => pg_ex fun D => hg D s H C' cl fp) (fun s H C' cl fp => pts_ex fun D => (ht D s H C' cl fp).run) (fun s H C' cl fp => pe_ex fun D => he D s H C' cl fp) hs) ?_
  rintro E σ H ⟨k, Δ, D2, h1, h2, h3, h4⟩
  refine lc_use C hts σ H _ ⟨k, Δ, _, h1, h2, h3, ?_⟩
  rintro ds a xs H' q c hn ha hz r
  exact h4.nx _ _ _ q ((h2.chg C.ok c).dat (.lst ha (h2.notA hn) hz (r.map fun b o e n => ⟨e, fun q => n (.inl q)⟩))) (kp_chg_set C c fun _ z => by cases z)
end
end DL
/-! DLOps: operators and built-ins over data. -/
namespace DL
open PySem PySem.Spec PyProof.Rows L2
section
variable {K : PySem.W.Frag} {A : Addr → Prop} {H H' : Hp} {v : V}
theorem RepB.int {i : Int} (r : RepB K A H v (.int i)) : v = .int i := by
  rcases r with r | ⟨a, xs, ds, e1, e2, _⟩
  · cases r
    rfl
  · cases e2
theorem RepB.bool {i : Bool} (r : RepB K A H v (.bool i)) : v = .bl i := by
  rcases r with r | ⟨a, xs, ds, e1, e2, _⟩
  · cases r
    rfl
  · cases e2
theorem RepB.none (r : RepB K A H v .none) : v = .non := by
  rcases r with r | ⟨a, xs, ds, e1, e2, _⟩
  · cases r
    rfl
  · cases e2
theorem RepB.str {x : Str} (r : RepB K A H v (.str x)) : v = .str x ∧ x.length ≤ sizeLine := by
  rcases r with r | ⟨a, xs, ds, e1, e2, _⟩
  · cases r
    exact ⟨rfl, by assumption⟩
  · cases e2
theorem RepB.list {ds : List D} (r : RepB K A H v (.list ds)) : ∃ a xs, v = .ref a ∧ H a = some (.lst xs) ∧ RepAll K A H xs ds ∧ ds.length ≤ sizeLine := by
  rcases r with r | ⟨a, xs, ds, e1, e2, e3, r, z⟩
  · cases r with
    | lst e n z r => exact ⟨_, _, rfl, e, r, z⟩
  · cases e2
    exact ⟨a, xs, e1, e3, r, z⟩
theorem RepB.tup {ds : List D} (r : RepB K A H v (.tuple ds)) : ∃ a xs, v = .ref a ∧ SqT K H a xs ∧ RepAll K A H xs ds ∧ ds.length ≤ sizeLine ∧ Rep K A H (.ref a) (.tuple ds) := by
  rcases r with r | ⟨a, xs, ds, e1, e2, _⟩
  · cases r with
    | tup s z r => exact ⟨_, _, rfl, sqT s, r, z, .tup s z r⟩
  · cases e2
theorem RepB.dict {ps : List (D × D)} (r : RepB K A H v (.dict ps)) : ∃ a kvs, v = .ref a ∧ H a = some (.dK kvs) ∧ RepKv K A H kvs ps ∧ Rep K A H (.ref a) (.dict ps) := by
  rcases r with r | ⟨a, xs, ds, e1, e2, _⟩
  · cases r with
    | dic e n r => exact ⟨_, _, rfl, e, r, .dic e n r⟩
  · cases e2
mutual
theorem Rep.dp : ∀ {v : V} {d : D}, Rep K A H v d → d.canLay0 = true → Dp K H v d
  | _, _, .non, _ => .non
  | _, _, .bl b, _ => .bl b
  | _, _, .int i, _ => .int i
  | _, _, .str x _, _ => .str x
  | _, _, .lst e _ _ r, h => .lst (.inl (.inl e)) (RepAll.dp r (by simpa [PyData.canLay0] using h))
  | _, _, .tup s _ r, h => .tup (sqT s) (RepAll.dp r (by simpa [PyData.canLay0] using h))
  | _, _, .dic _ _ _, h => by simp [PyData.canLay0] at h
theorem RepAll.dp : ∀ {vs : List V} {ds : List D}, RepAll K A H vs ds → PyData.canLayAll0 ds = true → DpAll K H vs ds
  | _, _, .nil, _ => .nil
  | _, _, .cons r t, h => by
    have h' := h
    simp only [PyData.canLayAll0, Bool.and_eq_true] at h'
    exact .cons (Rep.dp r h'.1) (RepAll.dp t h'.2)
end
theorem RepB.dp {d : D} (r : RepB K A H v d) (h : d.canLay0 = true) : Dp K H v d := by
  rcases r with r | ⟨a, xs, ds, rfl, rfl, e, r, z⟩
  · exact r.dp h
  · exact .lst (.inl (.inl e)) (r.dp (by simpa [PyData.canLay0] using h))
theorem ext_laid {q : Addr} {o : HO} (hq : H q = .none) : ∀ b u, H b = some u → upd H q o b = some u := fun b u e => by
  rw [upd_ne (ne_of_none e hq)]
  exact e
theorem dom_not {q : Addr} (dm : ∀ a, A a → H a ≠ .none) (hq : H q = .none) : ¬ A q := fun z => dm q z hq
end

/-! ### arithmetic -/
def MulOk (i j : Int) : Prop := CMulW i j
def addD : D → D → (D → Prop) → Prop
  | .int i, .int j, K => K (.int (i + j))
  | .str x, .str y, K => x.length + y.length ≤ sizeLine ∧ K (.str (x ++ y))
  | .list xs, .list ys, K => xs.length + ys.length ≤ sizeLine ∧ K (.list (xs ++ ys))
  | .tuple xs, .tuple ys, K => xs.length + ys.length ≤ sizeLine ∧ K (.tuple (xs ++ ys))
  | _, _, _ => False
def subD : D → D → (D → Prop) → Prop
  | .int i, .int j, K => K (.int (i - j))
  | _, _, _ => False
def mulD : D → D → (D → Prop) → Prop
  | .int i, .int j, K => MulOk i j ∧ K (.int (i * j))
  | .str x, .int j, K => PySem.MulOk x j ∧ (Txt.mul x j).length ≤ sizeLine ∧ K (.str (Txt.mul x j))
  | .list xs, .int j, K => -(2 ^ 63) ≤ j ∧ j < 2 ^ 63 ∧ xs.length * j.toNat ≤ sizeLine ∧ K (.list (List.replicate j.toNat xs).flatten)
  | _, _, _ => False
def fdivD : D → D → (D → Prop) → Prop
  | .int i, .int j, K => CDivW i j ∧ K (.int (i / j))
  | _, _, _ => False
def modD : D → D → (D → Prop) → Prop
  | .int i, .int j, K => 0 < j ∧ K (.int (i % j))
  | _, _, _ => False
def powD : D → D → (D → Prop) → Prop
  | .int i, .int j, K => 0 ≤ j ∧ (Builtin.Int.intBits i : Int) * j ≤ 2 ^ 27 ∧ K (.int (i ^ j.toNat))
  | _, _, _ => False
theorem strLen_app (x y : Str) : (x ++ y).length = x.length + y.length := strLen_append x y
section
variable {X : Cx}
/-- an int operator of the hand layer, over data -/
theorem dop_ii {f : Value → Value → Sem Value} {Cd : Int → Int → Prop} {g : Int → Int → V} {gd : Int → Int → D} (h : OpR X f (rI Cd g)) (hg : ∀ i j A H, Rep X.K A H (g i j) (gd i j)) :
    DOp X f fun x y K => match x, y with
      | .int i, .int j => Cd i j ∧ K (gd i j)
      | _, _ => False := by
  intro pins s σ H x y v u Q I rx ry ⟨A, dx, dy, K, dm, r1, r2, q, hQ⟩
  match dx, dy, q with
  | .int i, .int j, q => exact h pins s σ H x y v u Q I rx ry ⟨i, j, r1.int, r2.int, q.1, hQ _ _ H q.2 (fun _ _ e => e) (hg i j A H)⟩
theorem dop_mono {f : Value → Value → Sem Value} {g g' : D → D → (D → Prop) → Prop} (h : DOp X f g) (m : ∀ x y K, g' x y K → g x y K) : DOp X f g' := fun pins s σ H x y v u Q I rx ry ⟨A, dx, dy, K, dm, r1, r2, q, hQ⟩ =>
  h pins s σ H x y v u Q I rx ry ⟨A, dx, dy, K, dm, r1, r2, m _ _ _ q, hQ⟩
theorem dop_add : DOp X (binaryOp .Add) addD := by
  intro pins s σ H x y v u Q I rx ry ⟨A, dx, dy, K, dm, r1, r2, q, hQ⟩
  match dx, dy, q with
  | .int i, .int j, q => exact op_add pins s σ H x y v u Q I rx ry ⟨i, j, r1.int, r2.int, hQ _ _ H q (fun _ _ e => e) (.int _)⟩
  | .str i, .str j, q => exact op_add_str pins s σ H x y v u Q I rx ry ⟨i, j, r1.str.1, r2.str.1, q.1, hQ _ _ H q.2 (fun _ _ e => e) (.str _ (by rw [strLen_app]; exact q.1))⟩
  | .list xs, .list ys, q =>
    obtain ⟨a, vs, rfl, ha, ra, _⟩ := r1.list
    obtain ⟨b, us, rfl, hb, rb, _⟩ := r2.list
    have l1 := ra.length
    have l2 := rb.length
    exact op_cat pins s σ H _ _ v u Q I rx ry ⟨a, b, vs, us, rfl, rfl, ha, hb, by have := q.1; omega, fun p hp => hQ _ _ _ q.2 (ext_laid hp) (.lst upd_same (dom_not dm hp) (by rw [List.length_append]; exact q.1) ((ra.append rb).map (kp_laid hp)))⟩
  | .tuple xs, .tuple ys, q =>
    obtain ⟨a, vs, rfl, ha, ra, _, wa⟩ := r1.tup
    obtain ⟨b, us, rfl, hb, rb, _, wb⟩ := r2.tup
    have l1 := ra.length
    have l2 := rb.length
    refine op_catA pins s σ H _ _ v u Q I rx ry ⟨a, b, vs, us, rfl, rfl, ha, hb, by have := q.1; omega, fun z => ?_, fun _ z => ?_, fun _ _ p hp => hQ _ _ _ q.2 (ext_laid hp) (.tup (.inl ⟨.inl upd_same, dom_not dm hp⟩) (by rw [List.length_append]; exact q.1) ((ra.append rb).map (kp_laid hp)))⟩
    · subst z
      have z : xs = [] := List.eq_nil_of_length_eq_zero l1.symm
      subst z
      exact hQ _ _ H q.2 (fun _ _ e => e) wb
    · subst z
      have z : ys = [] := List.eq_nil_of_length_eq_zero l2.symm
      subst z
      refine hQ _ _ H q.2 (fun _ _ e => e) ?_
      rw [List.append_nil]
      exact wa
theorem dop_sub : DOp X (binaryOp .Sub) subD := by
  intro pins s σ H x y v u Q I rx ry ⟨A, dx, dy, K, dm, r1, r2, q, hQ⟩
  match dx, dy, q with
  | .int i, .int j, q => exact op_sub pins s σ H x y v u Q I rx ry ⟨i, j, r1.int, r2.int, hQ _ _ H q (fun _ _ e => e) (.int _)⟩
theorem RepAll.rep {K : PySem.W.Frag} {A : Addr → Prop} {H : Hp} {vs : List V} {ds : List D} (r : RepAll K A H vs ds) : ∀ n : Nat, RepAll K A H (List.replicate n vs).flatten (List.replicate n ds).flatten
  | 0 => .nil
  | n + 1 => by
    rw [List.replicate_succ, List.replicate_succ, List.flatten_cons, List.flatten_cons]
    exact r.append (RepAll.rep r n)
theorem flat_len {α : Type} (l : List α) : ∀ n : Nat, (List.replicate n l).flatten.length = l.length * n
  | 0 => by simp
  | n + 1 => by rw [List.replicate_succ, List.flatten_cons, List.length_append, flat_len l n, Nat.mul_succ, Nat.add_comm]
theorem dop_mul : DOp X (binaryOp .Mult) mulD := by
  intro pins s σ H x y v u Q I rx ry ⟨A, dx, dy, K, dm, r1, r2, q, hQ⟩
  match dx, dy, q with
  | .int i, .int j, q => exact op_mulW pins s σ H x y v u Q I rx ry ⟨i, j, r1.int, r2.int, q.1, hQ _ _ H q.2 (fun _ _ e => e) (.int _)⟩
  | .str z, .int j, q =>
    obtain ⟨rfl, _⟩ := r1.str
    obtain rfl := r2.int
    obtain ⟨t, rfl⟩ := rx
    obtain ⟨t2, rfl⟩ := ry
    exact PySem.SB.mul q.1 fun t' k => ⟨.str _, H, I.tok _, ⟨t', rfl⟩, hQ _ _ H q.2.2 (fun _ _ e => e) (.str _ q.2.1)⟩
  | .list xs, .int j, q =>
    obtain ⟨a, vs, rfl, ha, ra, _⟩ := r1.list
    have l1 := ra.length
    exact op_rep pins s σ H _ _ v u Q I rx ry ⟨a, j, vs, rfl, r2.int, ha, q.1, q.2.1, by rw [l1]; exact q.2.2.1, fun p hp => hQ _ _ _ q.2.2.2 (ext_laid hp) (.lst upd_same (dom_not dm hp) (by rw [flat_len]; exact q.2.2.1) ((ra.rep _).map (kp_laid hp)))⟩
theorem dop_fdiv : DOp X (binaryOp .FloorDiv) fdivD := by
  intro pins s σ H x y v u Q I rx ry ⟨A, dx, dy, K, dm, r1, r2, q, hQ⟩
  match dx, dy, q with
  | .int i, .int j, q => exact op_fdivW pins s σ H x y v u Q I rx ry ⟨i, j, r1.int, r2.int, q.1, hQ _ _ H q.2 (fun _ _ e => e) (.int _)⟩
theorem dop_mod : DOp X (binaryOp .Mod) modD := by
  intro pins s σ H x y v u Q I rx ry ⟨A, dx, dy, K, dm, r1, r2, q, hQ⟩
  match dx, dy, q with
  | .int i, .int j, q => exact op_mod pins s σ H x y v u Q I rx ry ⟨i, j, r1.int, r2.int, q.1, hQ _ _ H q.2 (fun _ _ e => e) (.int _)⟩
theorem op_powW : OpR X (binaryOp .Pow) (rI (fun i j => 0 ≤ j ∧ (Builtin.Int.intBits i : Int) * j ≤ 2 ^ 27) fun i j => .int (i ^ j.toNat)) := opI fun _ _ _ _ _ _ _ hc q => pow_int hc.1 hc.2 q
theorem dop_pow : DOp X (binaryOp .Pow) powD := by
  intro pins s σ H x y v u Q I rx ry ⟨A, dx, dy, K, dm, r1, r2, q, hQ⟩
  match dx, dy, q with
  | .int i, .int j, q => exact op_powW pins s σ H x y v u Q I rx ry ⟨i, j, r1.int, r2.int, ⟨q.1, q.2.1⟩, hQ _ _ H q.2.2 (fun _ _ e => e) (.int _)⟩

/-! ### comparisons -/
def eqD : D → D → (D → Prop) → Prop
  | .int i, .int j, K => K (.bool (decide (i = j)))
  | .str i, .str j, K => K (.bool (decide (i = j)))
  | .bool i, .bool j, K => K (.bool (decide (i = j)))
  | x, y, K => SeqAt.shaped x = true ∧ SeqAt.shaped y = true ∧ K (.bool (PyData.eqv x y))
def neD : D → D → (D → Prop) → Prop
  | .int i, .int j, K => K (.bool (!decide (i = j)))
  | .str i, .str j, K => K (.bool (!decide (i = j)))
  | .bool i, .bool j, K => K (.bool (!decide (i = j)))
  | x, y, K => SeqAt.shaped x = true ∧ SeqAt.shaped y = true ∧ K (.bool (!PyData.eqv x y))
theorem scalInt (i j : Int) : decide ((.int i : V) = .int j) = decide (i = j) := by
  by_cases h : i = j
  · rw [decide_eq_true h, decide_eq_true (congrArg V.int h)]
  · rw [decide_eq_false h, decide_eq_false fun q => h (V.int.inj q)]
theorem scalStr (i j : Str) : decide ((.str i : V) = .str j) = decide (i = j) := by
  by_cases h : i = j
  · rw [decide_eq_true h, decide_eq_true (congrArg V.str h)]
  · rw [decide_eq_false h, decide_eq_false fun q => h (V.str.inj q)]
theorem scalBl (i j : Bool) : decide ((.bl i : V) = .bl j) = decide (i = j) := by
  by_cases h : i = j
  · rw [decide_eq_true h, decide_eq_true (congrArg V.bl h)]
  · rw [decide_eq_false h, decide_eq_false fun q => h (V.bl.inj q)]
theorem dop_eq (hu : X.A.units + 100 < cLine) : DOp X (compareOp .Eq) eqD := by
  intro pins s σ H x y v u Q I rx ry ⟨A, dx, dy, K, dm, r1, r2, q, hQ⟩
  have deep : SeqAt.shaped dx = true ∧ SeqAt.shaped dy = true ∧ K (.bool (PyData.eqv dx dy)) → wpAny (model X.prog X.w) X.A (compareOp .Eq v u) (EP X pins σ Q) X.xe s := fun q =>
    op_eqD (by omega) pins s σ H x y v u Q I rx ry ⟨dx, dy, r1.dp (SeqAt.canLay_of_shaped q.1), r2.dp (SeqAt.canLay_of_shaped q.2.1), q.1, q.2.1, hQ _ _ H q.2.2 (fun _ _ e => e) (.bl _)⟩
  unfold eqD at q
  split at q
  · exact op_eq pins s σ H x y v u Q I rx ry (by rw [r1.int, r2.int]; exact ⟨rfl, by rw [scalInt]; exact hQ _ _ H q (fun _ _ e => e) (.bl _)⟩)
  · exact op_eq pins s σ H x y v u Q I rx ry (by rw [r1.str.1, r2.str.1]; exact ⟨rfl, by rw [scalStr]; exact hQ _ _ H q (fun _ _ e => e) (.bl _)⟩)
  · exact op_eq pins s σ H x y v u Q I rx ry (by rw [r1.bool, r2.bool]; exact ⟨rfl, by rw [scalBl]; exact hQ _ _ H q (fun _ _ e => e) (.bl _)⟩)
  · exact deep q
theorem dop_ne (hu : X.A.units + 100 < cLine) : DOp X (compareOp .NotEq) neD := by
  intro pins s σ H x y v u Q I rx ry ⟨A, dx, dy, K, dm, r1, r2, q, hQ⟩
  have deep : SeqAt.shaped dx = true ∧ SeqAt.shaped dy = true ∧ K (.bool (!PyData.eqv dx dy)) → wpAny (model X.prog X.w) X.A (compareOp .NotEq v u) (EP X pins σ Q) X.xe s := fun q =>
    op_neD (by omega) pins s σ H x y v u Q I rx ry ⟨dx, dy, r1.dp (SeqAt.canLay_of_shaped q.1), r2.dp (SeqAt.canLay_of_shaped q.2.1), q.1, q.2.1, hQ _ _ H q.2.2 (fun _ _ e => e) (.bl _)⟩
  unfold neD at q
  split at q
  · exact op_ne pins s σ H x y v u Q I rx ry (by rw [r1.int, r2.int]; exact ⟨rfl, by rw [scalInt]; exact hQ _ _ H q (fun _ _ e => e) (.bl _)⟩)
  · exact op_ne pins s σ H x y v u Q I rx ry (by rw [r1.str.1, r2.str.1]; exact ⟨rfl, by rw [scalStr]; exact hQ _ _ H q (fun _ _ e => e) (.bl _)⟩)
  · exact op_ne pins s σ H x y v u Q I rx ry (by rw [r1.bool, r2.bool]; exact ⟨rfl, by rw [scalBl]; exact hQ _ _ H q (fun _ _ e => e) (.bl _)⟩)
  · exact deep q
def ltD : D → D → (D → Prop) → Prop
  | .int i, .int j, K => K (.bool (decide (i < j)))
  | .str i, .str j, K => K (.bool (decide (i.cps.toList < j.cps.toList)))
  | _, _, _ => False
def leD : D → D → (D → Prop) → Prop
  | .int i, .int j, K => K (.bool (decide (i ≤ j)))
  | _, _, _ => False
def gtD : D → D → (D → Prop) → Prop
  | .int i, .int j, K => K (.bool (decide (j < i)))
  | _, _, _ => False
def geD : D → D → (D → Prop) → Prop
  | .int i, .int j, K => K (.bool (decide (j ≤ i)))
  | _, _, _ => False
theorem dop_lt : DOp X (compareOp .Lt) ltD := by
  intro pins s σ H x y v u Q I rx ry ⟨A, dx, dy, K, dm, r1, r2, q, hQ⟩
  match dx, dy, q with
  | .int i, .int j, q => exact op_lt pins s σ H x y v u Q I rx ry ⟨i, j, r1.int, r2.int, hQ _ _ H q (fun _ _ e => e) (.bl _)⟩
  | .str i, .str j, q => exact op_lt_str pins s σ H x y v u Q I rx ry ⟨i, j, r1.str.1, r2.str.1, hQ _ _ H q (fun _ _ e => e) (.bl _)⟩
theorem dop_le : DOp X (compareOp .LtE) leD := by
  intro pins s σ H x y v u Q I rx ry ⟨A, dx, dy, K, dm, r1, r2, q, hQ⟩
  match dx, dy, q with
  | .int i, .int j, q => exact op_le pins s σ H x y v u Q I rx ry ⟨i, j, r1.int, r2.int, hQ _ _ H q (fun _ _ e => e) (.bl _)⟩
theorem dop_gt : DOp X (compareOp .Gt) gtD := by
  intro pins s σ H x y v u Q I rx ry ⟨A, dx, dy, K, dm, r1, r2, q, hQ⟩
  match dx, dy, q with
  | .int i, .int j, q => exact op_gt pins s σ H x y v u Q I rx ry ⟨i, j, r1.int, r2.int, hQ _ _ H q (fun _ _ e => e) (.bl _)⟩
theorem dop_ge : DOp X (compareOp .GtE) geD := by
  intro pins s σ H x y v u Q I rx ry ⟨A, dx, dy, K, dm, r1, r2, q, hQ⟩
  match dx, dy, q with
  | .int i, .int j, q => exact op_ge pins s σ H x y v u Q I rx ry ⟨i, j, r1.int, r2.int, hQ _ _ H q (fun _ _ e => e) (.bl _)⟩
/-- is None, is not None; is True .. -/
def isNo : D → Bool
  | .none => true
  | _ => false
def isD : D → D → (D → Prop) → Prop
  | x, .none, K => K (.bool (isNo x))
  | .bool a, .bool b, K => K (.bool (decide (a = b)))
  | _, _, _ => False
def isnotD : D → D → (D → Prop) → Prop
  | x, .none, K => K (.bool (!isNo x))
  | .bool a, .bool b, K => K (.bool (!decide (a = b)))
  | _, _, _ => False
theorem isNone_of {K : PySem.W.Frag} {A : Addr → Prop} {H : Hp} {v : V} {d : D} (r : RepB K A H v d) : decide (v = .non) = isNo d := by
  rcases r with r | ⟨a, xs, ds, rfl, rfl, _⟩
  · cases r <;> rfl
  · rfl
theorem dop_is : DOp X (compareOp .Is) isD := by
  intro pins s σ H x y v u Q I rx ry ⟨A, dx, dy, K, dm, r1, r2, q, hQ⟩
  unfold isD at q
  split at q
  · exact op_isN pins s σ H x y v u Q I rx ry ⟨r2.none, hQ _ _ H (by rw [isNone_of r1]; exact q) (fun _ _ e => e) (.bl _)⟩
  · exact op_is_bl pins s σ H x y v u Q I rx ry ⟨_, _, r1.bool, r2.bool, hQ _ _ H q (fun _ _ e => e) (.bl _)⟩
  · exact q.elim
theorem dop_isnot : DOp X (compareOp .IsNot) isnotD := by
  intro pins s σ H x y v u Q I rx ry ⟨A, dx, dy, K, dm, r1, r2, q, hQ⟩
  unfold isnotD at q
  split at q
  · refine op_notN pins s σ H x y v u Q I rx ry ⟨r2.none, hQ _ _ H ?_ (fun _ _ e => e) (.bl _)⟩
    rw [isNone_of r1]
    exact q
  · exact op_isnot_bl pins s σ H x y v u Q I rx ry ⟨_, _, r1.bool, r2.bool, hQ _ _ H q (fun _ _ e => e) (.bl _)⟩
  · exact q.elim
/-- x in y: a sign in a text, an item of a list or tuple -/
def inD : D → D → (D → Prop) → Prop
  | .str x, .str y, K => ∃ c : Nat, x = ⟨#[c]⟩ ∧ K (.bool (decide (c ∈ y.cps.toList)))
  | x, .list ys, K => SeqAt.shaped x = true ∧ SeqAt.shaped (.list ys) = true ∧ K (.bool (ys.any fun z => PyData.eqv z x))
  | x, .tuple ys, K => SeqAt.shaped x = true ∧ SeqAt.shaped (.tuple ys) = true ∧ K (.bool (ys.any fun z => PyData.eqv z x))
  | _, _, _ => False
def notinD : D → D → (D → Prop) → Prop
  | .str x, .str y, K => ∃ c : Nat, x = ⟨#[c]⟩ ∧ K (.bool (!decide (c ∈ y.cps.toList)))
  | x, .list ys, K => SeqAt.shaped x = true ∧ SeqAt.shaped (.list ys) = true ∧ K (.bool (!ys.any fun z => PyData.eqv z x))
  | x, .tuple ys, K => SeqAt.shaped x = true ∧ SeqAt.shaped (.tuple ys) = true ∧ K (.bool (!ys.any fun z => PyData.eqv z x))
  | _, _, _ => False
theorem dop_in (hu : X.A.units + 100 < cLine) : DOp X (compareOp .In) inD := by
  intro pins s σ H x y v u Q I rx ry ⟨A, dx, dy, K, dm, r1, r2, q, hQ⟩
  unfold inD at q
  split at q
  · obtain ⟨c, rfl, q⟩ := q
    exact op_in_sign pins s σ H x y v u Q I rx ry ⟨c, _, r1.str.1, r2.str.1, hQ _ _ H q (fun _ _ e => e) (.bl _)⟩
  · obtain ⟨h1, h2, q⟩ := q
    exact op_inD (by omega) pins s σ H x y v u Q I rx ry ⟨_, _, r1.dp (SeqAt.canLay_of_shaped h1), r2.dp (SeqAt.canLay_of_shaped h2), h1, h2, hQ _ _ H q (fun _ _ e => e) (.bl _)⟩
  · obtain ⟨h1, h2, q⟩ := q
    obtain ⟨as, t1⟩ := Dp.reads I _ x v (r1.dp (SeqAt.canLay_of_shaped h1)) rx
    obtain ⟨bs, t2⟩ := Dp.reads I _ y u (r2.dp (SeqAt.canLay_of_shaped h2)) ry
    exact SeqAt.in_tuple_reads t2 t1 (SeqAt.canLay_of_shaped h2) (SeqAt.canLay_of_shaped h1) (room_in_shaped h1 (by omega)) ⟨.bl _, H, I, rfl, hQ _ _ H q (fun _ _ e => e) (.bl _)⟩
  · exact q.elim
theorem dop_notin (hu : X.A.units + 100 < cLine) : DOp X (compareOp .NotIn) notinD := by
  intro pins s σ H x y v u Q I rx ry ⟨A, dx, dy, K, dm, r1, r2, q, hQ⟩
  unfold notinD at q
  split at q
  · obtain ⟨c, rfl, q⟩ := q
    exact op_notIn_sign pins s σ H x y v u Q I rx ry ⟨c, _, r1.str.1, r2.str.1, hQ _ _ H q (fun _ _ e => e) (.bl _)⟩
  · obtain ⟨h1, h2, q⟩ := q
    exact op_notInD (by omega) pins s σ H x y v u Q I rx ry ⟨_, _, r1.dp (SeqAt.canLay_of_shaped h1), r2.dp (SeqAt.canLay_of_shaped h2), h1, h2, hQ _ _ H q (fun _ _ e => e) (.bl _)⟩
  · obtain ⟨h1, h2, q⟩ := q
    obtain ⟨as, t1⟩ := Dp.reads I _ x v (r1.dp (SeqAt.canLay_of_shaped h1)) rx
    obtain ⟨bs, t2⟩ := Dp.reads I _ y u (r2.dp (SeqAt.canLay_of_shaped h2)) ry
    exact SeqAt.notIn_tuple_reads t2 t1 (SeqAt.canLay_of_shaped h2) (SeqAt.canLay_of_shaped h1) (room_in_shaped h1 (by omega)) ⟨.bl _, H, I, rfl, hQ _ _ H q (fun _ _ e => e) (.bl _)⟩
  · exact q.elim

/-! ### subscripts, slices -/
def ixD : D → D → (D → Prop) → Prop
  | .list xs, .int i, K => ∃ d, atI xs i = some d ∧ K d
  | .tuple xs, .int i, K => ∃ d, atI xs i = some d ∧ K d
  | .str x, .int i, K => ∃ c, atI x.cps.toList i = some c ∧ K (.str ⟨#[c]⟩)
  | _, _, _ => False
theorem RepAll.at {K : PySem.W.Frag} {A : Addr → Prop} {H : Hp} {vs : List V} {ds : List D} {i : Int} {d : D} (r : RepAll K A H vs ds) (h : atI ds i = some d) : ∃ v, atI vs i = some v ∧ Rep K A H v d := by
  unfold atI at h ⊢
  rw [r.length]
  cases hn : ixN ds.length i with
  | none =>
    rw [hn] at h
    cases h
  | some j =>
    rw [hn] at h
    exact r.getD h
theorem dix : DIx X ixD := by
  intro value slice pins s σ H x y v u Q I rx ry ⟨A, dx, dy, K, dm, r1, r2, q, hQ⟩ hs
  match dx, dy, q with
  | .list xs, .int i, q =>
    obtain ⟨d, hd, q⟩ := q
    obtain ⟨a, vs, rfl, ha, ra, _⟩ := r1.list
    obtain ⟨w, hw, rw'⟩ := ra.at hd
    exact ix_list value slice pins s σ H _ y v u Q I rx ry ⟨a, vs, i, w, rfl, r2.int, .inl (.inl ha), hw, hQ _ _ H q (fun _ _ e => e) rw'⟩ hs
  | .tuple xs, .int i, q =>
    obtain ⟨d, hd, q⟩ := q
    obtain ⟨a, vs, rfl, ha, ra, _⟩ := r1.tup
    obtain ⟨w, hw, rw'⟩ := ra.at hd
    exact ix_tup value slice pins s σ H _ y v u Q I rx ry ⟨a, vs, i, w, rfl, r2.int, ha, hw, hQ _ _ H q (fun _ _ e => e) rw'⟩ hs
  | .str z, .int i, q =>
    obtain ⟨c, hc, q⟩ := q
    exact ix_str value slice pins s σ H _ y v u Q I rx ry ⟨z, i, c, r1.str.1, r2.int, r1.str.2, hc, hQ _ _ H q (fun _ _ e => e) (.str _ (one_sign c))⟩ hs
def cutL {α : Type} (xs : List α) (lo hi : Option Int) : List α := (xs.drop (HT.sIx xs.length 0 lo)).take (HT.sIx xs.length xs.length hi - HT.sIx xs.length 0 lo)
theorem cutL_len {α : Type} (xs : List α) (lo hi : Option Int) : (cutL xs lo hi).length ≤ xs.length := by
  unfold cutL
  rw [List.length_take, List.length_drop]
  omega
theorem RepAll.cut {K : PySem.W.Frag} {A : Addr → Prop} {H : Hp} {vs : List V} {ds : List D} (r : RepAll K A H vs ds) (lo hi : Option Int) : RepAll K A H (cutV vs lo hi) (cutL ds lo hi) := by
  unfold cutV cutL
  rw [r.length]
  exact (r.drop _).take _
def slD : D → Option Int → Option Int → (D → Prop) → Prop
  | .tuple xs, lo, hi, K => K (.tuple (cutL xs lo hi))
  | .str x, lo, hi, K => K (.str (cutS x lo hi))
  | .list xs, lo, hi, K => K (.list (cutL xs lo hi))
  | _, _, _, _ => False
def slFD : D → Option Int → Option Int → (List D → Prop) → Prop
  | .list xs, lo, hi, K => K (cutL xs lo hi)
  | _, _, _, _ => False
theorem dsl : SlR X (rDS X.K slD) := by
  intro pins s σ H x v vl vu lo hi sl Q I rx hs pl pu ⟨A, dx, K, dm, r1, q, hQ⟩
  match dx, q with
  | .tuple xs, q =>
    obtain ⟨a, vs, rfl, ha, ra, z, wa⟩ := r1.tup
    refine sl_tupA pins s σ H _ v vl vu lo hi sl Q I rx hs pl pu ⟨a, vs, rfl, ha, fun h => ?_, fun _ p hp => hQ _ _ _ q (ext_laid hp) (.tup (.inl ⟨.inl upd_same, dom_not dm hp⟩) (Nat.le_trans (cutL_len _ _ _) z) ((ra.cut lo hi).map (kp_laid hp)))⟩
    refine hQ _ _ H q (fun _ _ e => e) ?_
    have e : cutL xs lo hi = xs := by
      unfold cutL
      rw [← ra.length, h.1, h.2, List.drop_zero, Nat.sub_zero, ra.length]
      exact List.take_length
    rw [e]
    exact wa
  | .str z, q =>
    exact sl_str pins s σ H _ v vl vu lo hi sl Q I rx hs pl pu ⟨z, r1.str.1, r1.str.2, hQ _ _ H q (fun _ _ e => e) (.str _ (Nat.le_trans (cutS_length _ _ _) r1.str.2))⟩
  | .list xs, q =>
    obtain ⟨a, vs, rfl, ha, ra, z⟩ := r1.list
    exact sl_list pins s σ H _ v vl vu lo hi sl Q I rx hs pl pu ⟨a, vs, rfl, .inl (.inl ha), fun p hp => hQ _ _ _ q (ext_laid hp) (.lst upd_same (dom_not dm hp) (Nat.le_trans (cutL_len _ _ _) z) ((ra.cut lo hi).map (kp_laid hp)))⟩
theorem dslF : SlR X (rDSF X.K slFD) := by
  intro pins s σ H x v vl vu lo hi sl Q I rx hs pl pu ⟨A, dx, K, dm, r1, q, hQ⟩
  match dx, q with
  | .list xs, q =>
    obtain ⟨a, vs, rfl, ha, ra, z⟩ := r1.list
    exact sl_list pins s σ H _ v vl vu lo hi sl Q I rx hs pl pu ⟨a, vs, rfl, .inl (.inl ha), fun p hp => hQ _ _ _ _ q (ext_laid hp) hp upd_same (Nat.le_trans (cutL_len _ _ _) z) ((ra.cut lo hi).map (kp_laidA hp))⟩
end
end DL
/-! DLBlt: built-in functions, types and methods over data. -/
namespace DL
open PySem PySem.Spec PyProof.Rows L2
theorem RepBs.one {K : PySem.W.Frag} {A : Addr → Prop} {H : Hp} {vs : List V} {d : D} (r : RepBs K A H vs [d]) : ∃ v, vs = [v] ∧ RepB K A H v d := by
  cases r with
  | cons r t =>
    cases t
    exact ⟨_, rfl, r⟩
theorem RepBs.two {K : PySem.W.Frag} {A : Addr → Prop} {H : Hp} {vs : List V} {d e : D} (r : RepBs K A H vs [d, e]) : ∃ v u, vs = [v, u] ∧ RepB K A H v d ∧ RepB K A H u e := by
  cases r with
  | cons r t =>
    cases t with
    | cons r2 t =>
      cases t
      exact ⟨_, _, rfl, r, r2⟩
theorem RepB.tupA {K : PySem.W.Frag} {A : Addr → Prop} {H : Hp} {v : V} {ds : List D} (r : RepB K A H v (.tuple ds)) : Rep K A H v (.tuple ds) := by
  obtain ⟨a, xs, rfl, _, _, _, w⟩ := r.tup
  exact w
/-! ### isinstance -/
def tagD : D → String
  | .none => "NoneType"
  | .bool _ => "bool"
  | .int _ => "int"
  | .str _ => "str"
  | .list _ => "list"
  | .tuple _ => "tuple"
  | .dict _ => "dict"
theorem RepB.ty {K : PySem.W.Frag} {A : Addr → Prop} {H : Hp} {v : V} {d : D} (r : RepB K A H v d) : TyX K H v (.type (tagD d)) := by
  rcases r with r | ⟨a, xs, ds, rfl, rfl, e, _⟩
  · cases r with
    | non => exact .base .non
    | bl b => exact .base (.bl b)
    | int i => exact .base (.int i)
    | str x _ => exact .base (.str x)
    | lst e _ _ _ => exact .base (.lst e)
    | tup s _ _ =>
      rcases s with ⟨r | ⟨o, r⟩, _⟩ | h
      · exact .base (.tup r)
      · exact .fTuple r
      · rcases h with (h | ⟨_, h⟩) | ⟨o, its, n, h, c, _⟩
        · cases h
        · cases h
        · exact .kTuple h c
    | dic e _ _ => exact .base (.dK e)
  · exact .base (.lst e)
def isIntD : D → Bool
  | .int _ => true
  | .bool _ => true
  | _ => false
def isBoolD : D → Bool
  | .bool _ => true
  | _ => false
def isStrD : D → Bool
  | .str _ => true
  | _ => false
def isTupD : D → Bool
  | .tuple _ => true
  | _ => false
def isListD : D → Bool
  | .list _ => true
  | _ => false
def isDictD : D → Bool
  | .dict _ => true
  | _ => false
def IsiOk (T : String) (b : D → Bool) : Prop := ∀ d, kitB (tagD d) T = some (b d)
theorem isi_mk {T : String} {b : D → Bool} {n bo i s l t d : Bool} (h : [kitB "NoneType" T, kitB "bool" T, kitB "int" T, kitB "str" T, kitB "list" T, kitB "tuple" T, kitB "dict" T] = [some n, some bo, some i, some s, some l, some t, some d])
    (e1 : b .none = n) (e2 : ∀ x, b (.bool x) = bo) (e3 : ∀ x, b (.int x) = i) (e4 : ∀ x, b (.str x) = s) (e5 : ∀ x, b (.list x) = l) (e6 : ∀ x, b (.tuple x) = t) (e7 : ∀ x, b (.dict x) = d) : IsiOk T b := by
  simp only [List.cons.injEq, and_true] at h
  obtain ⟨h1, h2, h3, h4, h5, h6, h7⟩ := h
  intro x
  cases x with
  | none => rw [e1]; exact h1
  | bool x => rw [e2]; exact h2
  | int x => rw [e3]; exact h3
  | str x => rw [e4]; exact h4
  | list x => rw [e5]; exact h5
  | tuple x => rw [e6]; exact h6
  | dict x => rw [e7]; exact h7
theorem isi_int : IsiOk "int" isIntD := isi_mk (n := false) (bo := true) (i := true) (s := false) (l := false) (t := false) (d := false) (by decide +kernel) rfl (fun _ => rfl) (fun _ => rfl) (fun _ => rfl) (fun _ => rfl) (fun _ => rfl) (fun _ => rfl)
theorem isi_bool : IsiOk "bool" isBoolD := isi_mk (n := false) (bo := true) (i := false) (s := false) (l := false) (t := false) (d := false) (by decide +kernel) rfl (fun _ => rfl) (fun _ => rfl) (fun _ => rfl) (fun _ => rfl) (fun _ => rfl) (fun _ => rfl)
theorem isi_str : IsiOk "str" isStrD := isi_mk (n := false) (bo := false) (i := false) (s := true) (l := false) (t := false) (d := false) (by decide +kernel) rfl (fun _ => rfl) (fun _ => rfl) (fun _ => rfl) (fun _ => rfl) (fun _ => rfl) (fun _ => rfl)
theorem isi_tuple : IsiOk "tuple" isTupD := isi_mk (n := false) (bo := false) (i := false) (s := false) (l := false) (t := true) (d := false) (by decide +kernel) rfl (fun _ => rfl) (fun _ => rfl) (fun _ => rfl) (fun _ => rfl) (fun _ => rfl) (fun _ => rfl)
theorem isi_list : IsiOk "list" isListD := isi_mk (n := false) (bo := false) (i := false) (s := false) (l := true) (t := false) (d := false) (by decide +kernel) rfl (fun _ => rfl) (fun _ => rfl) (fun _ => rfl) (fun _ => rfl) (fun _ => rfl) (fun _ => rfl)
theorem isi_dict : IsiOk "dict" isDictD := isi_mk (n := false) (bo := false) (i := false) (s := false) (l := false) (t := false) (d := true) (by decide +kernel) rfl (fun _ => rfl) (fun _ => rfl) (fun _ => rfl) (fun _ => rfl) (fun _ => rfl) (fun _ => rfl)
section
variable {X : Cx} {W : Wd} {N : List Str} {sc : Scope} {kk : Nat} {e : Expr} {c : Nat} {g : TDE} {pos p p2 : Pos}
def gIsi (b : D → Bool) (g : TDE) : TDE := fun Δ K => g Δ fun d => K (.bool (b d))
theorem de_isi (C : Cxt X W N sc kk) {T : String} {x : Str} {b : D → Bool} (hb : IsiOk T b) (hg : sc.names.lookup ("isinstance" : Str) = some .globalImplicit) (hm : X.mg ("isinstance" : Str) = none) (hgT : sc.names.lookup x = some .globalImplicit) (hmT : X.mg x = none) (hvT : bootBuiltins x = some (.type T)) (ha : DB X W e g c)
    (hn : x ≠ "__name__" := by decide +kernel) (hdb : (x == ("__debug__" : Str)) = false := by decide +kernel) (hs1 : starEach [e, .Name x p2] X.env = (false, eval e X.env) :: starEach [.Name x p2] X.env := by rfl) (hs2 : starEach [.Name x p2] X.env = (false, eval (.Name x p2) X.env) :: starEach [] X.env := by rfl)
    (hpl : (backTo pos (starEach [.Name x p2] X.env)).any (·.1) = false := by rfl) :
    DE X W (.Call (.Name "isinstance" p) [e, .Name x p2] [] pos) (gIsi b g) c :=
  pe_imp (pe_callB call_isi (C.gl hg) hm PyProof.Rows.boot_isinstance (pa_cons ha (pa_cons (pe_bltn (v := .ty T) (C.gl hgT) hmT hvT rfl hn hdb) pa_nil hs2) hs1) (by decide +kernel) (by decide +kernel) hs1 hpl) fun σ H Q ⟨k, Δ, K, h1, h2, h3, h4⟩ => ⟨k, Δ, _, h1, h2, h3, fun d v H1 q1 c1 r1 => by
    refine ⟨v, .ty T, .type (tagD d), .type T, b d, rfl, .ty T, (RepO.bo C r1).ty, kit_ty (hb d), h4 _ _ H1 q1 c1 (.bl _)⟩⟩
end

/-! ### calls -/
section
variable {X : Cx}
def lenD : List D → (D → Prop) → Prop
  | [.str x], K => K (.int x.length)
  | [.list xs], K => K (.int xs.length)
  | [.tuple xs], K => K (.int xs.length)
  | [.dict xs], K => K (.int xs.length)
  | _, _ => False
theorem RepKv.length {K : PySem.W.Frag} {A : Addr → Prop} {H : Hp} : ∀ {vs : List (Key × V)} {ds : List (D × D)}, RepKv K A H vs ds → vs.length = ds.length
  | _, _, .nil => rfl
  | _, _, .cons _ t => congrArg (· + 1) t.length
theorem dc_len : DCall X (.builtin "len") lenD := by
  intro pins s σ H xs us Q I rv ⟨A, ds, K, dm, rs, q, hQ⟩
  unfold lenD at q
  split at q
  · obtain ⟨v, rfl, r⟩ := rs.one
    obtain ⟨rfl, z⟩ := r.str
    exact call_len pins s σ H _ us Q I rv ⟨_, _, rfl, ⟨z, rfl⟩, hQ _ _ H q (fun _ _ e => e) (.int _)⟩
  · obtain ⟨v, rfl, r⟩ := rs.one
    obtain ⟨a, ys, rfl, ha, ra, _⟩ := r.list
    exact call_len pins s σ H _ us Q I rv ⟨_, _, rfl, .inl ⟨ys, .inl (.inl ha), rfl⟩, hQ _ _ H q (fun _ _ e => e) (by rw [ra.length]; exact .int _)⟩
  · obtain ⟨v, rfl, r⟩ := rs.one
    obtain ⟨a, ys, rfl, ha, ra, _⟩ := r.tup
    exact call_len pins s σ H _ us Q I rv ⟨_, _, rfl, .inr ⟨ys, ha, rfl⟩, hQ _ _ H q (fun _ _ e => e) (by rw [ra.length]; exact .int _)⟩
  · obtain ⟨v, rfl, r⟩ := rs.one
    obtain ⟨a, kvs, rfl, ha, rk, _⟩ := r.dict
    exact call_lenD pins s σ H _ us Q I rv ⟨a, kvs, rfl, ha, hQ _ _ H q (fun _ _ e => e) (by rw [rk.length]; exact .int _)⟩
  · exact q.elim
def tupD : List D → (D → Prop) → Prop
  | [.list xs], K => K (.tuple xs)
  | [.tuple xs], K => K (.tuple xs)
  | _, _ => False
theorem dc_tuple : DCall X (.type "tuple") tupD := by
  intro pins s σ H xs us Q I rv ⟨A, ds, K, dm, rs, q, hQ⟩
  unfold tupD at q
  split at q
  · obtain ⟨v, rfl, r⟩ := rs.one
    obtain ⟨a, ys, rfl, ha, ra, z⟩ := r.list
    exact call_tuple_of pins s σ H _ us Q I rv ⟨a, ys, rfl, .inl ⟨.inl (.inl ha), fun p hp => hQ _ _ _ q (ext_laid hp) (.tup (.inl ⟨.inl upd_same, dom_not dm hp⟩) z (ra.map (kp_laid hp)))⟩⟩
  · obtain ⟨v, rfl, r⟩ := rs.one
    obtain ⟨a, ys, rfl, ha, ra, z, w⟩ := r.tup
    exact call_tuple_of pins s σ H _ us Q I rv ⟨a, ys, rfl, .inr ⟨ha, hQ _ _ H q (fun _ _ e => e) w⟩⟩
  · exact q.elim
def listD : List D → (List D → Prop) → Prop
  | [.list xs], K => K xs
  | [.tuple xs], K => K xs
  | _, _ => False
theorem dcf_list : DCallF X (.type "list") listD := by
  intro pins s σ H xs us Q I rv ⟨A, ds, K, dm, rs, q, hQ⟩
  unfold listD at q
  split at q
  · obtain ⟨v, rfl, r⟩ := rs.one
    obtain ⟨a, ys, rfl, ha, ra, z⟩ := r.list
    exact call_list_of pins s σ H _ us Q I rv ⟨a, ys, rfl, .inl (.inl (.inl ha)), fun p hp => hQ _ _ _ _ q (ext_laid hp) hp upd_same z (ra.map (kp_laidA hp))⟩
  · obtain ⟨v, rfl, r⟩ := rs.one
    obtain ⟨a, ys, rfl, ha, ra, z, w⟩ := r.tup
    exact call_list_of pins s σ H _ us Q I rv ⟨a, ys, rfl, .inr ha, fun p hp => hQ _ _ _ _ q (ext_laid hp) hp upd_same z (ra.map (kp_laidA hp))⟩
  · exact q.elim
def allD : List D → (D → Prop) → Prop
  | [.list xs], K => ∃ bs : List Bool, xs = bs.map PyData.bool ∧ K (.bool (bs.all id))
  | _, _ => False
def anyD : List D → (D → Prop) → Prop
  | [.list xs], K => ∃ bs : List Bool, xs = bs.map PyData.bool ∧ K (.bool (bs.any id))
  | _, _ => False
theorem dc_all (hc : X.calm = true) : DCall X (.builtin "all") allD := by
  intro pins s σ H xs us Q I rv ⟨A, ds, K, dm, rs, q, hQ⟩
  unfold allD at q
  split at q
  · obtain ⟨bs, rfl, q⟩ := q
    obtain ⟨v, rfl, r⟩ := rs.one
    obtain ⟨a, ys, rfl, ha, ra, z⟩ := r.list
    have e := ra.bools
    subst e
    exact cr_all hc pins s σ H _ us Q I rv ⟨a, bs, rfl, .inl (.inl ha), hQ _ _ H q (fun _ _ e => e) (.bl _)⟩
  · exact q.elim
theorem dc_any (hc : X.calm = true) : DCall X (.builtin "any") anyD := by
  intro pins s σ H xs us Q I rv ⟨A, ds, K, dm, rs, q, hQ⟩
  unfold anyD at q
  split at q
  · obtain ⟨bs, rfl, q⟩ := q
    obtain ⟨v, rfl, r⟩ := rs.one
    obtain ⟨a, ys, rfl, ha, ra, z⟩ := r.list
    have e := ra.bools
    subst e
    exact cr_any hc pins s σ H _ us Q I rv ⟨a, bs, rfl, .inl (.inl ha), hQ _ _ H q (fun _ _ e => e) (.bl _)⟩
  · exact q.elim
def sumD : List D → (D → Prop) → Prop
  | [.list xs], K => ∃ ns : List Int, xs = ns.map PyData.int ∧ K (.int ns.sum)
  | _, _ => False
theorem dc_sum (hc : X.calm = true) : DCall X (.builtin "sum") sumD := by
  intro pins s σ H xs us Q I rv ⟨A, ds, K, dm, rs, q, hQ⟩
  unfold sumD at q
  split at q
  · obtain ⟨bs, rfl, q⟩ := q
    obtain ⟨v, rfl, r⟩ := rs.one
    obtain ⟨a, ys, rfl, ha, ra, z⟩ := r.list
    have e := ra.ints
    subst e
    exact cr_sum hc pins s σ H _ us Q I rv ⟨a, bs, rfl, .inl (.inl ha), hQ _ _ H q (fun _ _ e => e) (.int _)⟩
  · exact q.elim
def maxD : List D → (D → Prop) → Prop
  | [.int i, .int j], K => K (.int (if j > i then j else i))
  | [.list xs], K => ∃ ns : List Int, xs = ns.map PyData.int ∧ 0 < ns.length ∧ ∀ m, m ∈ ns → (∀ y, y ∈ ns → y ≤ m) → K (.int m)
  | _, _ => False
def minD : List D → (D → Prop) → Prop
  | [.int i, .int j], K => K (.int (if j < i then j else i))
  | [.list xs], K => ∃ ns : List Int, xs = ns.map PyData.int ∧ 0 < ns.length ∧ ∀ m, m ∈ ns → (∀ y, y ∈ ns → m ≤ y) → K (.int m)
  | _, _ => False
theorem dc_max (hc : X.calm = true) : DCall X (.builtin "max") maxD := by
  intro pins s σ H xs us Q I rv ⟨A, ds, K, dm, rs, q, hQ⟩
  unfold maxD at q
  split at q
  · obtain ⟨v, u, rfl, r1, r2⟩ := rs.two
    exact call_max2 hc pins s σ H _ us Q I rv ⟨_, _, by rw [r1.int, r2.int], hQ _ _ H q (fun _ _ e => e) (.int _)⟩
  · obtain ⟨bs, rfl, hne, q⟩ := q
    obtain ⟨v, rfl, r⟩ := rs.one
    obtain ⟨a, ys, rfl, ha, ra, z⟩ := r.list
    have e := ra.ints
    subst e
    exact cr_max hc pins s σ H _ us Q I rv ⟨a, bs, rfl, .inl (.inl ha), hne, fun m h1 h2 => hQ _ _ H (q m h1 h2) (fun _ _ e => e) (.int _)⟩
  · exact q.elim
theorem dc_min (hc : X.calm = true) : DCall X (.builtin "min") minD := by
  intro pins s σ H xs us Q I rv ⟨A, ds, K, dm, rs, q, hQ⟩
  unfold minD at q
  split at q
  · obtain ⟨v, u, rfl, r1, r2⟩ := rs.two
    exact call_min2 hc pins s σ H _ us Q I rv ⟨_, _, by rw [r1.int, r2.int], hQ _ _ H q (fun _ _ e => e) (.int _)⟩
  · obtain ⟨bs, rfl, hne, q⟩ := q
    obtain ⟨v, rfl, r⟩ := rs.one
    obtain ⟨a, ys, rfl, ha, ra, z⟩ := r.list
    have e := ra.ints
    subst e
    exact cr_min hc pins s σ H _ us Q I rv ⟨a, bs, rfl, .inl (.inl ha), hne, fun m h1 h2 => hQ _ _ H (q m h1 h2) (fun _ _ e => e) (.int _)⟩
  · exact q.elim
def absD : List D → (D → Prop) → Prop
  | [.int i], K => K (.int (if i < 0 then -i else i))
  | _, _ => False
theorem dc_abs : DCall X (.builtin "abs") absD := by
  intro pins s σ H xs us Q I rv ⟨A, ds, K, dm, rs, q, hQ⟩
  unfold absD at q
  split at q
  · obtain ⟨v, rfl, r⟩ := rs.one
    exact call_abs pins s σ H _ us Q I rv ⟨_, by rw [r.int], hQ _ _ H q (fun _ _ e => e) (.int _)⟩
  · exact q.elim
def gcdD : List D → (D → Prop) → Prop
  | [.int i, .int j], K => K (.int ((Nat.gcd i.natAbs j.natAbs : Nat) : Int))
  | _, _ => False
theorem dc_gcd : DCall X (.builtin "math.gcd") gcdD := by
  intro pins s σ H xs us Q I rv ⟨A, ds, K, dm, rs, q, hQ⟩
  unfold gcdD at q
  split at q
  · obtain ⟨v, u, rfl, r1, r2⟩ := rs.two
    exact cr_gcd pins s σ H _ us Q I rv ⟨_, _, by rw [r1.int, r2.int], hQ _ _ H q (fun _ _ e => e) (.int _)⟩
  · exact q.elim
def intD : List D → (D → Prop) → Prop
  | [.int i], K => K (.int i)
  | [.bool b], K => K (.int (if b then 1 else 0))
  | [.str x], K => ∃ n, PySem.intText? x = some n ∧ x.length ≤ 640 ∧ K (.int n)
  | _, _ => False
theorem dc_int : DCall X (.type "int") intD := by
  intro pins s σ H xs us Q I rv ⟨A, ds, K, dm, rs, q, hQ⟩
  unfold intD at q
  split at q
  · obtain ⟨v, rfl, r⟩ := rs.one
    exact call_int1 pins s σ H _ us Q I rv (.inl ⟨_, by rw [r.int], hQ _ _ H q (fun _ _ e => e) (.int _)⟩)
  · obtain ⟨v, rfl, r⟩ := rs.one
    exact call_int1 pins s σ H _ us Q I rv (.inr ⟨_, by rw [r.bool], hQ _ _ H q (fun _ _ e => e) (.int _)⟩)
  · obtain ⟨v, rfl, r⟩ := rs.one
    obtain ⟨n, h1, h2, q⟩ := q
    exact call_int_str pins s σ H _ us Q I rv ⟨_, n, by rw [r.str.1], h1, h2, hQ _ _ H q (fun _ _ e => e) (.int _)⟩
  · exact q.elim
theorem intText_len {i : Int} (h : i.natAbs.log2 < 1920) : (toString i : Str).length ≤ sizeLine := by
  have := PySem.int_text_length_le (a := i) (k := 1920) (by decide) h
  rw [sizeLine_eq, PySem.ofString_length]
  omega
def strD : List D → (D → Prop) → Prop
  | [.int i], K => i.natAbs.log2 < 1920 ∧ K (.str (toString i))
  | [.str x], K => K (.str x)
  | _, _ => False
theorem dc_str : DCall X (.type "str") strD := by
  intro pins s σ H xs us Q I rv ⟨A, ds, K, dm, rs, q, hQ⟩
  unfold strD at q
  split at q
  · obtain ⟨v, rfl, r⟩ := rs.one
    exact call_str_int pins s σ H _ us Q I rv ⟨_, by rw [r.int], q.1, hQ _ _ H q.2 (fun _ _ e => e) (.str _ (intText_len q.1))⟩
  · obtain ⟨v, rfl, r⟩ := rs.one
    exact SkE.call_str_str pins s σ H _ us Q I rv ⟨_, by rw [r.str.1], hQ _ _ H q (fun _ _ e => e) (.str _ r.str.2)⟩
  · exact q.elim
def reprD : List D → (D → Prop) → Prop
  | [d], K => d.canLay0 = true ∧ d.showable = true ∧ d.depth ≤ 90 ∧ d.shown.length ≤ sizeLine ∧ K (.str d.shown)
  | _, _ => False
theorem RepB.ref_of {K : PySem.W.Frag} {A : Addr → Prop} {H : Hp} {v : V} {d : D} (r : RepB K A H v d) : (∃ a, v = .ref a) ∨ d = .none ∨ (∃ b, d = .bool b) ∨ (∃ i, d = .int i) ∨ ∃ x, d = .str x := by
  rcases r with r | ⟨a, xs, ds, rfl, rfl, e, _⟩
  · cases r with
    | non => exact .inr (.inl rfl)
    | bl b => exact .inr (.inr (.inl ⟨b, rfl⟩))
    | int i => exact .inr (.inr (.inr (.inl ⟨i, rfl⟩)))
    | str x _ => exact .inr (.inr (.inr (.inr ⟨x, rfl⟩)))
    | lst e _ _ _ => exact .inl ⟨_, rfl⟩
    | tup s _ _ => exact .inl ⟨_, rfl⟩
    | dic e _ _ => exact .inl ⟨_, rfl⟩
  · exact .inl ⟨_, rfl⟩
theorem dc_repr (hg : X.A.guards = some []) (hu : X.A.units + 100 < cLine) : DCall X (.builtin "repr") reprD := by
  intro pins s σ H xs us Q I rv ⟨A, ds, K, dm, rs, q, hQ⟩
  unfold reprD at q
  split at q
  · obtain ⟨v, rfl, r⟩ := rs.one
    obtain ⟨hl, hs, hd, hz, q⟩ := q
    rcases r.ref_of with ⟨a, rfl⟩ | rfl | ⟨b, rfl⟩ | ⟨i, rfl⟩ | ⟨x, rfl⟩
    · obtain ⟨u, rfl, t, rfl⟩ := vals1 rv
      obtain ⟨as, R⟩ := Dp.reads I _ _ _ (r.dp hl) (show RelV (.ref a) (.ref a) from rfl)
      refine PySem.repr_of_reads' R hs (PyData.noDict_hsm (PyData.hasDict_of_canLay _ hl)) hg (by omega) (fun _ _ e => e) (fun h' u tk hk => ⟨.str _, H, I.kept hk, ⟨u, rfl⟩, hQ _ _ H q (fun _ _ e => e) (.str _ hz)⟩) hz
    · obtain rfl := r.none
      obtain ⟨u, rfl, t⟩ := vals1 rv
      cases t
      exact PySem.P.repr_of_none ⟨.str _, H, I.tok _, ⟨_, rfl⟩, hQ _ _ H q (fun _ _ e => e) (.str _ hz)⟩
    · obtain rfl := r.bool
      obtain ⟨u, rfl, t⟩ := vals1 rv
      cases t
      exact PySem.P.repr_of_bool ⟨.str _, H, I.tok _, ⟨_, rfl⟩, hQ _ _ H q (fun _ _ e => e) (.str _ hz)⟩
    · obtain rfl := r.int
      obtain ⟨u, rfl, t, rfl⟩ := vals1 rv
      exact PySem.P.repr_of_int (by simpa [PyData.showable] using hs) ⟨.str _, H, I.tok _, ⟨_, rfl⟩, hQ _ _ H q (fun _ _ e => e) (.str _ hz)⟩
    · obtain ⟨rfl, z⟩ := r.str
      obtain ⟨u, rfl, t, rfl⟩ := vals1 rv
      exact PySem.P.repr_of_str ⟨.str _, H, I.tok _, ⟨_, rfl⟩, hQ _ _ H q (fun _ _ e => e) (.str _ hz)⟩ hz
  · exact q.elim
end

/-! ### methods of texts -/
section
variable {X : Cx} {W : Wd} {N : List Str} {sc : Scope} {kk : Nat} {o e : Expr} {c ca cb : Nat} {ga gb : TDE} {pos apos : Pos} {id : String} {name : Str}
def rDM (Kf : PySem.W.Frag) (f : List D → (D → Prop) → Prop) : V → List V → Hp → VK → Prop := fun x xs H Q => rDC Kf f (x :: xs) H Q
abbrev DMeth (X : Cx) (id : String) (f : List D → (D → Prop) → Prop) : Prop := MtR X id (rDM X.K f)
def gM0 (f : List D → (D → Prop) → Prop) (ga : TDE) : TDE := fun Δ K => ga Δ fun x => isStrD x = true ∧ f [x] K
def gM1 (f : List D → (D → Prop) → Prop) (ga gb : TDE) : TDE := fun Δ K => ga Δ fun x => isStrD x = true ∧ gb Δ fun y => f [x, y] K
theorem RepB.isStr {K : PySem.W.Frag} {A : Addr → Prop} {H : Hp} {v : V} {d : D} (r : RepB K A H v d) (h : isStrD d = true) : ∃ x, v = .str x := by
  cases d with
  | str x => exact ⟨x, r.str.1⟩
  | _ => cases h
theorem de_m0 (C : Cxt X W N sc kk) {f : List D → (D → Prop) → Prop} (slot : Slot "str" name id) (ty : typeOf (.builtin id) = pure (.type "method_descriptor")) (rule : DMeth X id f) (ho : DB X W o ga ca)
    (hbase : attributeBase o name X.env (eval o X.env) = eval o X.env := by rfl) (hline : (apos.endLine == pos.line) = true := by rfl) : DE X W (.Call (.Attribute o name apos) [] [] pos) (gM0 f ga) ca :=
  pe_imp (pe_m0 slot ty rule ho hbase hline) fun σ H Q ⟨k, Δ, K, h1, h2, h3, h4⟩ => ⟨k, Δ, _, h1, h2, h3, fun dx x H1 ⟨s1, q1⟩ c1 r1 => by
    have e1 := h2.chg C.ok c1
    exact ⟨(RepO.bo C r1).isStr s1, AA W σ Δ, [dx], K, e1.dom C, .cons (RepO.bo C r1) .nil, q1, fun d v H' hd hx hv => h4 d v H' hd (c1.trans (Chg.of_ext e1.fin hx)) (by rw [C.hK]; exact hv)⟩⟩
theorem de_m1 (C : Cxt X W N sc kk) {f : List D → (D → Prop) → Prop} (slot : Slot "str" name id) (ty : typeOf (.builtin id) = pure (.type "method_descriptor")) (rule : DMeth X id f) (ho : DB X W o ga ca) (he : DB X W e gb cb)
    (hs : starEach [e] X.env = [(false, eval e X.env)] := by rfl) (hbase : attributeBase o name X.env (eval o X.env) = eval o X.env := by rfl) (hline : (apos.endLine == pos.line) = true := by rfl) :
    DE X W (.Call (.Attribute o name apos) [e] [] pos) (gM1 f ga gb) (ca + cb) :=
  pe_imp (pe_m1 slot ty rule ho he hs hbase hline) fun σ H Q ⟨k, Δ, K, h1, h2, h3, h4⟩ => ⟨k, Δ, _, by omega, h2, h3, fun dx x H1 ⟨s1, q1⟩ c1 r1 => by
    have e1 := h2.chg C.ok c1
    refine ⟨(RepO.bo C r1).isStr s1, k + ca, Δ, _, by omega, e1, q1, fun dy y H2 q2 c2 r2 => ?_⟩
    have e2 := e1.chg C.ok c2
    refine ⟨AA W σ Δ, [dx, dy], K, e2.dom C, .cons (RepO.bo C (RepO.chg C e1 r1 c2)) (.cons (RepO.bo C r2) .nil), q2, fun d v H' hd hx hv => h4 d v H' hd ((chg3 c1 c2).trans ?_) (by rw [C.hK]; exact hv)⟩
    have e : k + ca + cb = k + (ca + cb) := by omega
    exact e ▸ Chg.of_ext e2.fin hx⟩
/-- sep.join(xs) -/
def joinD : List D → (D → Prop) → Prop
  | [.str a, .list ds], K => ∃ ys : List Str, ds = ys.map PyData.str ∧ (ys.map (·.length)).sum + ys.length * a.length ≤ 16777216 ∧ (Txt.join a ys).length ≤ sizeLine ∧ K (.str (Txt.join a ys))
  | [.str a, .tuple ds], K => ∃ ys : List Str, ds = ys.map PyData.str ∧ (ys.map (·.length)).sum + ys.length * a.length ≤ 16777216 ∧ (Txt.join a ys).length ≤ sizeLine ∧ K (.str (Txt.join a ys))
  | _, _ => False
theorem vs1 {vs : List V} {x : V} {xs ys : List V} (h : x :: xs = ys) : ∃ y z, ys = y :: z ∧ x = y ∧ xs = z := ⟨x, xs, h.symm, rfl, rfl⟩
theorem dm_join : DMeth X "str.join" joinD := by
  intro pins s σ H x xs v us Q I rx rs ⟨A, ds, K, dm, rd, q, hQ⟩
  unfold joinD at q
  split at q
  · obtain ⟨ys, rfl, h1, h2, q⟩ := q
    obtain ⟨v1, v2, e, r1, r2⟩ := rd.two
    cases e
    obtain ⟨a, zs, rfl, ha, ra, _⟩ := r2.list
    have e := ra.strs
    subst e
    exact mt_join pins s σ H _ _ v us Q I rx rs ⟨_, a, ys, r1.str.1, rfl, .inl (.inl (.inl ha)), h1, hQ _ _ H q (fun _ _ e => e) (.str _ h2)⟩
  · obtain ⟨ys, rfl, h1, h2, q⟩ := q
    obtain ⟨v1, v2, e, r1, r2⟩ := rd.two
    cases e
    obtain ⟨a, zs, rfl, ha, ra, _⟩ := r2.tup
    have e := ra.strs
    subst e
    exact mt_join pins s σ H _ _ v us Q I rx rs ⟨_, a, ys, r1.str.1, rfl, .inr ha, h1, hQ _ _ H q (fun _ _ e => e) (.str _ h2)⟩
  · exact q.elim
/-- x.split(sep) -/
def splitD : List D → (D → Prop) → Prop
  | [.str a, .str b], K => (b.length == 0) = false ∧ a.length + 2 ≤ sizeLine ∧ (Txt.split a b).length ≤ sizeLine ∧ (∀ y ∈ Txt.split a b, y.length ≤ sizeLine) ∧ K (.list ((Txt.split a b).map PyData.str))
  | _, _ => False
theorem dm_split : DMeth X "str.split" splitD := by
  intro pins s σ H x xs v us Q I rx rs ⟨A, ds, K, dm, rd, q, hQ⟩
  unfold splitD at q
  split at q
  · obtain ⟨h1, h2, h3, h4, q⟩ := q
    obtain ⟨v1, v2, e, r1, r2⟩ := rd.two
    cases e
    exact mt_split pins s σ H _ _ v us Q I rx rs ⟨_, _, r1.str.1, by rw [r2.str.1], h1, h2, fun p hp => hQ _ _ _ q (ext_laid hp) (.lst upd_same (dom_not dm hp) (by rw [List.length_map]; exact h3) (RepAll.of_strs _ h4))⟩
  · exact q.elim
end
end DL
/-! DLLaw: a law's script, its pots, its draws. -/
namespace DL
open PySem PySem.Spec PyProof.Rows L2
section
variable {X : Cx} {W : Wd} {N : List Str} {sc : Scope} {kk : Nat} {e a b : Expr} {es : List Expr} {c ca cb cc : Nat} {g ga gb gc : TDE} {pos p p2 p3 p4 p5 : Pos} {k j : Nat} {σ : St} {Δ : DEnv} {H H' : Hp} {v : V} {d : D}
/-! ### list(range(e)), list(range(e, f)) -/
def rgD (a b : Int) : List D := (List.range (b - a).toNat).map fun i => PyData.int (a + (i : Nat))
theorem rep_rg {K : PySem.W.Frag} {A : Addr → Prop} {H : Hp} : ∀ (l : List Nat) (a : Int), RepAll K A H (l.map fun i => V.int (a + (i : Nat))) (l.map fun i => PyData.int (a + (i : Nat)))
  | [], _ => .nil
  | n :: l, a => .cons (.int _) (rep_rg l a)
def gLRg (ga : TDE) : TDL := fun Δ K => ga Δ fun d => match d with
  | .int n => 0 ≤ n ∧ n ≤ 16777216 ∧ K (rgD 0 n)
  | _ => False
theorem rgD_len (a b : Int) : (rgD a b).length = (b - a).toNat := by
  unfold rgD
  rw [List.length_map, List.length_range]
theorem df_lrg (C : Cxt X W N sc kk) (hg : sc.names.lookup ("list" : Str) = some .globalImplicit) (hm : X.mg ("list" : Str) = none) (hg2 : sc.names.lookup ("range" : Str) = some .globalImplicit) (hm2 : X.mg ("range" : Str) = none) (he : DB X W e ga c)
    (na : starEach [e] X.env = (false, eval e X.env) :: starEach [] X.env := by rfl) (na2 : starEach [.Call (.Name "range" p2) [e] [] p3] X.env = (false, eval (.Call (.Name "range" p2) [e] [] p3) X.env) :: starEach [] X.env := by rfl) : DF X W (.Call (.Name "list" p) [.Call (.Name "range" p2) [e] [] p3] [] pos) (gLRg ga) c :=
  pe_imp (pe_listRg C.calm (C.gl hg) hm (prg_1 (C.gl hg2) hm2 he na) na2) fun σ H Q ⟨k, Δ, K, h1, h2, h3, h4⟩ => ⟨k, Δ, _, h1, h2, h3, fun d v H1 q1 c1 r1 => by
    cases d with
    | int n =>
      obtain ⟨h0, hn, q1⟩ := (show 0 ≤ n ∧ n ≤ 16777216 ∧ K (rgD 0 n) from q1)
      have e1 := h2.chg C.ok c1
      refine ⟨n, RepO.int r1, RgOk.of_le (by omega) hn (by omega) h0, fun q hq => ?_⟩
      exact h4 _ _ _ _ q1 (c1.laid C h2 hq) (c1.free hq) upd_same (by rw [rgD_len, sizeLine_eq]; omega) (rep_rg _ _)
    | _ => exact (show False from q1).elim⟩

/-! ### the script: len, an item, sum(script[:1]) -/
def gLenS (i : Nat) : TDE := fun Δ K => match nth Δ i with
  | .scr ns => K (.int ns.length)
  | _ => False
def gIxS (i : Nat) (ga : TDE) : TDE := fun Δ K => match nth Δ i with
  | .scr ns => ga Δ fun d => match d with
    | .int n => ∃ z, atI ns n = some z ∧ K (.int z)
    | _ => False
  | _ => False
def gSumS (i : Nat) : TDE := fun Δ K => match nth Δ i with
  | .scr ns => K (.int (ns.take 1).sum)
  | _ => False
theorem scr_of {i : Nat} {ns : List Int} (en : En W k σ H Δ) (h : nth Δ i = .scr ns) : ∃ a, σ[i]? = some (some (.ref a)) ∧ ScrAt W.K (AA W σ Δ) H a ns := by
  have s := en.sl i
  rw [h] at s
  exact s
variable {x : Str} {i : Nat}
theorem de_lenS (C : Cxt X W N sc kk) (hg : sc.names.lookup ("len" : Str) = some .globalImplicit) (hm : X.mg ("len" : Str) = none) (hx : N[i]? = some x) (hv : Vis sc x) (hd : (x == ("__debug__" : Str)) = false := by decide +kernel) (hcd : (x == ("__classdict__" : Str)) = false := by decide +kernel)
    (he : starEach [.Name x p2] X.env = (false, eval (.Name x p2) X.env) :: starEach [] X.env := by rfl) (hpl : (backTo pos (starEach [] X.env)).any (·.1) = false := by rfl) : DE X W (.Call (.Name "len" p) [.Name x p2] [] pos) (gLenS i) 0 :=
  pe_imp (pe_callB call_len (C.gl hg) hm PySem.boot_len (pa_cons (pe_var (i := i) (by rw [C.hN]; exact hx) (by rw [C.hsc]; exact hv) hd hcd) pa_nil he) (by decide +kernel) (by decide +kernel) he hpl) fun σ H Q ⟨k, Δ, K, h1, h2, h3, h4⟩ => by
    unfold gLenS at h3
    cases h : nth Δ i with
    | scr ns =>
      rw [h] at h3
      obtain ⟨a, e, r⟩ := scr_of h2 h
      refine ⟨.ref a, e, .ref a, _, rfl, .inl ⟨_, by rw [← C.hK]; exact r.sq, rfl⟩, ?_⟩
      rw [List.length_map]
      exact h4 _ _ H h3 h2.refl (.int _)
    | _ =>
      rw [h] at h3
      exact (show False from h3).elim
theorem atI_map {α β : Type} {f : α → β} {xs : List α} {n : Int} {z : α} (h : atI xs n = some z) : atI (xs.map f) n = some (f z) := by
  unfold atI at h ⊢
  rw [List.length_map]
  cases hn : ixN xs.length n with
  | none =>
    rw [hn] at h
    cases h
  | some j =>
    rw [hn] at h
    show (xs.map f)[j]? = some (f z)
    rw [List.getElem?_map]
    rw [show xs[j]? = some z from h]
    rfl
theorem de_ixS (C : Cxt X W N sc kk) (hx : N[i]? = some x) (hv : Vis sc x) (hb : DB X W b gb cb) (hd : (x == ("__debug__" : Str)) = false := by decide +kernel) (hcd : (x == ("__classdict__" : Str)) = false := by decide +kernel) (hs : PlainIx b := by exact fun _ _ => rfl) : DE X W (.Subscript (.Name x p) b pos) (gIxS i gb) cb :=
  pe_imp (pe_ix ix_list (pe_var (i := i) (by rw [C.hN]; exact hx) (by rw [C.hsc]; exact hv) hd hcd) hb hs) fun σ H Q ⟨k, Δ, K, h1, h2, h3, h4⟩ => by
    unfold gIxS at h3
    cases h : nth Δ i with
    | scr ns =>
      rw [h] at h3
      obtain ⟨a, e, r⟩ := scr_of h2 h
      refine ⟨.ref a, e, k, Δ, _, h1, h2, h3, fun d v H1 q1 c1 r1 => ?_⟩
      cases d with
      | int n =>
        obtain ⟨z, hz, q1⟩ := (show ∃ z, atI ns n = some z ∧ K (.int z) from q1)
        refine ⟨a, _, n, .int z, rfl, RepO.int r1, by rw [← C.hK]; exact (r.map (c1.kpE C.ok)).sq, atI_map hz, h4 _ _ H1 q1 c1 (.int _)⟩
      | _ => exact (show False from q1).elim
    | _ =>
      rw [h] at h3
      exact (show False from h3).elim
theorem cut01 {α : Type} (xs : List α) : cutL xs none (some 1) = xs.take 1 := by
  unfold cutL
  rw [HT.sIx_none, show HT.sIx xs.length xs.length (some 1) = min 1 xs.length from HT.sIx_nat xs.length xs.length 1, List.drop_zero, Nat.sub_zero]
  cases xs with
  | nil => rfl
  | cons x r =>
    rw [show min 1 (x :: r).length = 1 by
      rw [List.length_cons]
      omega]
theorem de_sumS (C : Cxt X W N sc kk) (hg : sc.names.lookup ("sum" : Str) = some .globalImplicit) (hm : X.mg ("sum" : Str) = none) (hx : N[i]? = some x) (hv : Vis sc x) {kz : Nat} (hd : (x == ("__debug__" : Str)) = false := by decide +kernel) (hcd : (x == ("__classdict__" : Str)) = false := by decide +kernel)
    (he : starEach [.Subscript (.Name x p2) (.Slice none (some (.Constant (.int 1) kz p3)) none p4) p5] X.env = (false, eval (.Subscript (.Name x p2) (.Slice none (some (.Constant (.int 1) kz p3)) none p4) p5) X.env) :: starEach [] X.env := by rfl) (hpl : (backTo pos (starEach [] X.env)).any (·.1) = false := by rfl) :
    DE X W (.Call (.Name "sum" p) [.Subscript (.Name x p2) (.Slice none (some (.Constant (.int 1) kz p3)) none p4) p5] [] pos) (gSumS i) 0 :=
  pe_imp (pe_callB (cr_sum C.calm) (C.gl hg) hm PyProof.Rows.boot_sum (pa_cons (pe_slice sl_list (pe_var (i := i) (by rw [C.hN]; exact hx) (by rw [C.hsc]; exact hv) hd hcd) po_none (po_some pe_int)) pa_nil he) (by decide +kernel) (by decide +kernel) he hpl) fun σ H Q ⟨k, Δ, K, h1, h2, h3, h4⟩ => by
    unfold gSumS at h3
    cases h : nth Δ i with
    | scr ns =>
      rw [h] at h3
      obtain ⟨a, e, r⟩ := scr_of h2 h
      refine ⟨.ref a, e, 1, rfl, a, _, rfl, by rw [← C.hK]; exact r.sq, fun q hq => ⟨q, ns.take 1, rfl, .inl (.inl ?_), ?_⟩⟩
      · rw [upd_same]
        show some (HO.lst (cutL (ns.map V.int) none (some 1))) = _
        rw [cut01, List.map_take]
      · exact h4 _ _ _ h3 (h2.refl.laid C h2 hq) (.int _)
    | _ =>
      rw [h] at h3
      exact (show False from h3).elim

/-! ### the pot -/
def PB (j v : Int) : Prop := (j = 0 ∧ 0 ≤ v ∧ v < 10 ^ 300) ∨ (j = 1 ∧ 0 ≤ v ∧ v < 2 ^ 61) ∨ (j = 2 ∧ 0 ≤ v ∧ v ≤ 4194304)
def gPix (i : Nat) (j : Int) : TDE := fun Δ K => match nth Δ i with
  | .pot => (j = 0 ∨ j = 1 ∨ j = 2) ∧ ∀ v, PB j v → K (.int v)
  | _ => False
theorem pot_of (en : En W k σ H Δ) (h : nth Δ i = .pot) : ∃ a, σ[i]? = some (some (.ref a)) ∧ W.P a ∧ PotAt (W.n0 + k) H a := by
  have s := en.sl i
  rw [h] at s
  obtain ⟨a, e, q⟩ := s
  exact ⟨a, e, q, en.fin.pots a q⟩
theorem de_pix (C : Cxt X W N sc kk) {j : Int} {kz : Nat} (hx : N[i]? = some x) (hv : Vis sc x) (hd : (x == ("__debug__" : Str)) = false := by decide +kernel) (hcd : (x == ("__classdict__" : Str)) = false := by decide +kernel) : DE X W (.Subscript (.Name x p) (.Constant (.int j) kz p2) pos) (gPix i j) 0 :=
  pe_imp (pe_ix ix_list (pe_var (i := i) (by rw [C.hN]; exact hx) (by rw [C.hsc]; exact hv) hd hcd) pe_int (fun _ _ => rfl)) fun σ H Q ⟨k, Δ, K, h1, h2, h3, h4⟩ => by
    unfold gPix at h3
    cases h : nth Δ i with
    | pot =>
      rw [h] at h3
      obtain ⟨hj, h3⟩ := h3
      obtain ⟨a, e, q, x1, y1, z1, ea, b1, b2, b3, b4, b5, b6⟩ := pot_of h2 h
      have lim := C.ok.lim
      have zl : z1 ≤ 4194304 := by
        have : LIM = 4194304 := rfl
        omega
      rcases hj with rfl | rfl | rfl
      · exact ⟨.ref a, e, a, _, 0, .int x1, rfl, rfl, .inl (.inl ea), rfl, h4 _ _ H (h3 _ (.inl ⟨rfl, b1, b2⟩)) h2.refl (.int _)⟩
      · exact ⟨.ref a, e, a, _, 1, .int y1, rfl, rfl, .inl (.inl ea), rfl, h4 _ _ H (h3 _ (.inr (.inl ⟨rfl, b3, b4⟩))) h2.refl (.int _)⟩
      · exact ⟨.ref a, e, a, _, 2, .int z1, rfl, rfl, .inl (.inl ea), rfl, h4 _ _ H (h3 _ (.inr (.inr ⟨rfl, b5, zl⟩))) h2.refl (.int _)⟩
    | _ =>
      rw [h] at h3
      exact (show False from h3).elim
/-- a pot changes -/
theorem En.pot (ok : W.Ok) (en : En W k σ H Δ) {a : Addr} {xs : List V} (q : W.P a) (l : k ≤ j) (new : PotAt (W.n0 + j) (upd H a (.lst xs)) a) : En W j σ (upd H a (.lst xs)) Δ ∧ Kp (AA W σ Δ) (AA W σ Δ) H (upd H a (.lst xs)) := by
  have kp : Kp (AA W σ Δ) (AA W σ Δ) H (upd H a (.lst xs)) := fun b o e n => ⟨by rw [upd_ne (show b ≠ a from fun z => n (by rw [z]; exact .inl (ok.sub a q)))]; exact e, n⟩
  refine ⟨⟨en.len, fun i => ?_, en.uniq, ⟨fun b o e n => ?_, fun b p => ?_⟩, fun b h => ?_⟩, kp⟩
  · have s := en.sl i
    revert s
    cases nth Δ i with
    | un => exact fun s => s
    | dat d => exact fun ⟨v, e, r⟩ => ⟨v, e, r.map kp⟩
    | scr ns => exact fun ⟨v, e, r⟩ => ⟨v, e, r.map kp⟩
    | pot => exact fun s => s
    | own ds =>
      rintro ⟨b, ys, e1, e2, e3, e4, e5⟩
      exact ⟨b, ys, e1, by rw [upd_ne (show b ≠ a from fun z => ok.pdom a q (z ▸ e4))]; exact e2, e3.map kp, e4, e5⟩
  · rw [upd_ne (show b ≠ a from fun z => n (by rw [z]; exact q))]
    exact en.fin.since b o e n
  · by_cases z : b = a
    · rw [z]
      exact new
    · obtain ⟨x1, y1, z1, e, r⟩ := (en.fin.pots b p).mono (m := W.n0 + j) (by omega)
      exact ⟨x1, y1, z1, by rw [upd_ne z]; exact e, r⟩
  · by_cases z : b = a
    · rw [z, upd_same]
      simp
    · rw [upd_ne z]
      exact en.dom0 b h
/-- pot[0] = e -/
def gPs0 (i : Nat) (g : TDE) : TDS := fun D Δ => g Δ fun d => match d with
  | .int v => nth Δ i = .pot ∧ 0 ≤ v ∧ v < 10 ^ 300 ∧ D.nx Δ
  | _ => False
theorem ds_ps0 (C : Cxt X W N sc kk) {kz : Nat} (hx : N[i]? = some x) (hv : Vis sc x) (he : DE X W e g c) (hd : (x == ("__debug__" : Str)) = false := by decide +kernel) (hcd : (x == ("__classdict__" : Str)) = false := by decide +kernel)
    (ha : ∀ v, assign (.Subscript (.Name x p) (.Constant (.int 0) kz p2) p3) X.env v = (do
      let ov ← holding [v] (eval (.Name x p) X.env)
      let iv ← holding [v, ov] (eval (.Constant (.int 0) kz p2) X.env)
      standAt p3
      holding [v, ov, iv] (setItem ov iv v)
      release [v, ov, iv] []) := by intro _; rfl)
    (hs : swapsWithSole [.Subscript (.Name x p) (.Constant (.int 0) kz p2) p3] e pos.line X.env = pure false := by rfl) (hw : swappedStores [.Subscript (.Name x p) (.Constant (.int 0) kz p2) p3] e X.env = pure none := by rfl)
    (h1 : (assignEach [.Subscript (.Name x p) (.Constant (.int 0) kz p2) p3] X.env).map (·.2) = [assign (.Subscript (.Name x p) (.Constant (.int 0) kz p2) p3) X.env] := by rfl) :
    DS X W (.Assign [.Subscript (.Name x p) (.Constant (.int 0) kz p2) p3] e pos) (gPs0 i g) c :=
  ps_imp (ps_asg he (pg_sub (pe_var (i := i) (by rw [C.hN]; exact hx) (by rw [C.hsc]; exact hv) hd hcd) pe_int set_list ha) hs hw h1) fun E σ H ⟨k, Δ, D2, h1, h2, h3, h4⟩ => ⟨k, Δ, _, h1, h2, h3, fun d v H1 q1 c1 r1 => by
    cases d with
    | int n =>
      obtain ⟨hp, n0, n1, q⟩ := (show nth Δ i = .pot ∧ 0 ≤ n ∧ n < 10 ^ 300 ∧ D2.nx Δ from q1)
      have e1 := h2.chg C.ok c1
      obtain ⟨a, e, qa, x1, y1, z1, ea, b1, b2, b3, b4, b5, b6⟩ := pot_of e1 hp
      have rv : v = .int n := by
        cases r1
        rfl
      subst rv
      obtain ⟨e2, kp⟩ := e1.pot C.ok (xs := [.int n, .int y1, .int z1]) qa (Nat.le_refl _) ⟨n, y1, z1, upd_same, n0, n1, b3, b4, b5, b6⟩
      exact ⟨.ref a, e, a, _, 0, 0, rfl, rfl, ea, rfl, h4.nx _ _ _ q e2 ((c1.kpE C.ok).trans kp)⟩
    | _ => exact (show False from q1).elim⟩
/-- pot[2] = pot[2] + 1: a draw -/
def gTick (i : Nat) : TDS := fun D Δ => nth Δ i = .pot ∧ D.nx Δ
theorem ds_tick (C : Cxt X W N sc kk) {kz k2 k3 : Nat} {q1 q2 q3 q4 q5 : Pos} (hx : N[i]? = some x) (hv : Vis sc x) (hd : (x == ("__debug__" : Str)) = false := by decide +kernel) (hcd : (x == ("__classdict__" : Str)) = false := by decide +kernel)
    (ha : ∀ v, assign (.Subscript (.Name x p) (.Constant (.int 2) kz p2) p3) X.env v = (do
      let ov ← holding [v] (eval (.Name x p) X.env)
      let iv ← holding [v, ov] (eval (.Constant (.int 2) kz p2) X.env)
      standAt p3
      holding [v, ov, iv] (setItem ov iv v)
      release [v, ov, iv] []) := by intro _; rfl)
    (hs : swapsWithSole [.Subscript (.Name x p) (.Constant (.int 2) kz p2) p3] (.BinOp (.Subscript (.Name x q1) (.Constant (.int 2) k2 q2) q3) .Add (.Constant (.int 1) k3 q4) q5) pos.line X.env = pure false := by rfl) (hw : swappedStores [.Subscript (.Name x p) (.Constant (.int 2) kz p2) p3] (.BinOp (.Subscript (.Name x q1) (.Constant (.int 2) k2 q2) q3) .Add (.Constant (.int 1) k3 q4) q5) X.env = pure none := by rfl)
    (h1 : (assignEach [.Subscript (.Name x p) (.Constant (.int 2) kz p2) p3] X.env).map (·.2) = [assign (.Subscript (.Name x p) (.Constant (.int 2) kz p2) p3) X.env] := by rfl) :
    DS X W (.Assign [.Subscript (.Name x p) (.Constant (.int 2) kz p2) p3] (.BinOp (.Subscript (.Name x q1) (.Constant (.int 2) k2 q2) q3) .Add (.Constant (.int 1) k3 q4) q5) pos) (gTick i) 1 :=
  ps_imp (ps_asg (pe_op op_add (pe_ix ix_list (pe_var (i := i) (by rw [C.hN]; exact hx) (by rw [C.hsc]; exact hv) hd hcd) pe_int (fun _ _ => rfl)) pe_int) (pg_sub (pe_var (i := i) (by rw [C.hN]; exact hx) (by rw [C.hsc]; exact hv) hd hcd) pe_int set_list ha) hs hw h1) fun E σ H ⟨k, Δ, D2, h1, h2, ⟨hp, q⟩, h4⟩ => by
    obtain ⟨a, e, qa, x1, y1, z1, ea, b1, b2, b3, b4, b5, b6⟩ := pot_of h2 hp
    obtain ⟨e2, kp⟩ := h2.pot C.ok (j := k + 1) (xs := [.int x1, .int y1, .int (z1 + 1)]) qa (by omega) ⟨x1, y1, z1 + 1, upd_same, b1, b2, b3, b4, by omega, by omega⟩
    exact ⟨.ref a, e, a, _, 2, .int z1, rfl, rfl, .inl (.inl ea), rfl, z1, 1, rfl, rfl, .ref a, e, a, _, 2, 2, rfl, rfl, ea, rfl, h4.nx _ _ _ q e2 kp⟩
end
end DL
/-! DLEnd: a new pot for the statements behind; the law's own call. -/
namespace DL
open PySem PySem.Spec PyProof.Rows L2
def plainSv : Sv → Bool
  | .pot => false
  | .own _ => false
  | _ => true
def washS : Sv → Sv
  | .pot => .un
  | .own _ => .un
  | s => s
def wash (Δ : DEnv) : DEnv := Δ.map washS
theorem nth_wash : ∀ (Δ : DEnv) (i : Nat), nth (wash Δ) i = washS (nth Δ i)
  | [], _ => rfl
  | _ :: _, 0 => rfl
  | _ :: r, i + 1 => nth_wash r i
theorem nth_plain : ∀ {Δ : DEnv} (i : Nat), Δ.all plainSv = true → plainSv (nth Δ i) = true
  | [], _, _ => rfl
  | s :: r, 0, h => by
    rw [List.all_cons, Bool.and_eq_true] at h
    exact h.1
  | s :: r, i + 1, h => by
    rw [List.all_cons, Bool.and_eq_true] at h
    exact nth_plain (Δ := r) i h.2
section
variable {X : Cx} {W : Wd} {N : List Str} {sc : Scope} {kk : Nat} {c : Nat} {pos p p2 p3 p4 p5 : Pos} {k j : Nat} {σ : St} {Δ : DEnv} {H H' H1 : Hp}
theorem no_own_wash {a : Addr} (h : OwnA σ (wash Δ) a) : False := by
  obtain ⟨i, ds, h1, _⟩ := h
  rw [nth_wash] at h1
  cases e : nth Δ i <;> rw [e] at h1 <;> cases h1
theorem no_own_plain (hp : Δ.all plainSv = true) {a : Addr} (h : OwnA σ Δ a) : False := by
  obtain ⟨i, ds, h1, _⟩ := h
  have := nth_plain i hp
  rw [h1] at this
  cases this
/-- the world behind a new pot at q -/
abbrev Wd.potAt (W : Wd) (σ : St) (Δ : DEnv) (q : Addr) (H1 : Hp) (c : Nat) : Wd := { K := W.K, A0 := fun b => AA W σ Δ b ∨ b = q, P := fun b => b = q, H0 := H1, n0 := 0, c0 := c, E := W.E }
theorem fin_back {q : Addr} {jj : Nat} (en : En W k σ H Δ) (hq : H q = none) (hx : ∀ b o, H b = some o → H1 b = some o) (f : Fin (W.potAt σ Δ q H1 c) jj H') : Fin W k H' := by
  have st : ∀ b o, H b = some o → H' b = some o := fun b o e => f.since b o (hx b o e) fun z => by
    rw [show b = q from z, hq] at e
    cases e
  exact ⟨fun b o e n => st b o (en.fin.since b o e n), fun b p => by
    obtain ⟨x, y, z, e, r⟩ := en.fin.pots b p
    exact ⟨x, y, z, st b _ e, r⟩⟩
theorem en_back {q : Addr} {jj : Nat} {σ' : St} {Δ' : DEnv} (en : En W k σ H Δ) (hq : H q = none) (hx : ∀ b o, H b = some o → H1 b = some o) (f : En (W.potAt σ Δ q H1 c) jj σ' H' Δ') : En W k σ' H' (wash Δ') := by
  have less : ∀ a, AA W σ' (wash Δ') a → AA (W.potAt σ Δ q H1 c) σ' Δ' a := fun a h => h.elim (fun h => .inl (.inl (.inl h))) fun h => (no_own_wash h).elim
  refine ⟨by unfold wash; rw [List.length_map]; exact f.len, fun i => ?_, fun i j ds es a h1 => ?_, fin_back en hq hx f.fin, fun a h => f.dom0 a (.inl (.inl h))⟩
  · have s := f.sl i
    rw [nth_wash]
    revert s
    cases nth Δ' i with
    | un => exact fun _ => trivial
    | dat d => exact fun ⟨v, e, r⟩ => ⟨v, e, r.map (Kp.less less)⟩
    | scr ns => exact fun ⟨v, e, r⟩ => ⟨v, e, r.map (Kp.less less)⟩
    | pot => exact fun _ => trivial
    | own ds => exact fun _ => trivial
  · rw [nth_wash] at h1
    cases e : nth Δ' i <;> rw [e] at h1 <;> cases h1
variable {E : Value → D → Prop} {x y z w : Str} {i l m : Nat} {f : Addr} {fd : FuncData} {ps : List Str} {F : FSp} {kF : Nat} {rest : List Stmt} {g : TDS}
def NoE : Value → D → Prop := fun _ _ => False
def gPot (F : FSp) (i l m : Nat) (g : TDS) : TDS := fun D Δ => Δ.all plainSv = true ∧ i < Δ.length ∧ match nth Δ l, nth Δ m with
  | .scr ns, .dat (.int n) => F [.scr ns, .dat (.int n)] (fun d => ∃ x y : Int, d = .list [.int x, .int y, .int 0] ∧ 0 ≤ x ∧ x < 10 ^ 300 ∧ 0 ≤ y ∧ y < 2 ^ 61 ∧
      g { nx := fun Δ' => D.nx (wash Δ'), rt := D.rt, bk := fun Δ' => D.bk (wash Δ'), ct := fun Δ' => D.ct (wash Δ') } (Δ.set i .pot)) NoE
  | _, _ => False
theorem dss_pot (C : Cxt X W N sc kk) (hE : W.E = E) (hF : FnD X.prog X.w X.K X.mg X.base kF f fd ps F 0) (hk : kF ≤ kk) (hg : sc.names.lookup w = some .globalImplicit) (hm : X.mg w = some (.ref f)) (hkp : PySem.W.keepIn X.K (.ref f) = true) (hb : BindG X.K fd ps 2 [] []) (hps : ps.length = 2)
    (hx : N[i]? = some x) (hlx : Loc sc x) (hfx : X.fn x = true ∨ sc.names.lookup x = some .local) (hy : N[l]? = some y) (hvy : Vis sc y) (hz : N[m]? = some z) (hvz : Vis sc z) (hc : c ≤ LIM) (hr : ∀ W' : Wd, W'.E = E → Cxt X W' N sc kk → DSs X W' rest g c)
    (hdb : (w == ("__debug__" : Str)) = false := by decide +kernel) (hdy : (y == ("__debug__" : Str)) = false := by decide +kernel) (hcy : (y == ("__classdict__" : Str)) = false := by decide +kernel) (hdz : (z == ("__debug__" : Str)) = false := by decide +kernel) (hcz : (z == ("__classdict__" : Str)) = false := by decide +kernel)
    (he1 : starEach [.Name y p3, .Name z p4] X.env = (false, eval (.Name y p3) X.env) :: starEach [.Name z p4] X.env := by rfl) (he2 : starEach [.Name z p4] X.env = (false, eval (.Name z p4) X.env) :: starEach [] X.env := by rfl) (hpl : (backTo p5 (starEach [.Name z p4] X.env)).any (·.1) = false := by rfl)
    (hs : swapsWith (.Call (.Name w p2) [.Name y p3, .Name z p4] [] p5) (some (.Name x p)) pos.line X.env = pure false := by rfl) :
    DSs X W (.Assign [.Name x p] (.Call (.Name w p2) [.Name y p3, .Name z p4] [] p5) pos :: rest) (gPot F i l m g) 0 := by
  subst hE
  have hrest : PSs X rest (fun D σ H => ∃ W' : Wd, W'.E = W.E ∧ Cxt X W' N sc kk ∧ liftS W' g c D σ H) := ⟨fun pins s σ H Q I ⟨W', h1, h2, h3⟩ => (hr W' h1 h2).run pins s σ H Q I h3⟩
  refine pss_imp (pss_cons (ps_set (i := i) (by rw [C.hN]; exact C.nd) (by rw [C.hN]; exact hx) (by rw [C.hsc]; exact hlx) (pe_g (E := EkOf W) hF (C.hr.mono hk) C.gd (C.gl hg) hm hkp hb .nil C.px (pa_cons (pe_var (i := l) (by rw [C.hN]; exact hy) (by rw [C.hsc]; exact hvy) hdy hcy) (pa_cons (pe_var (i := m) (by rw [C.hN]; exact hz) (by rw [C.hsc]; exact hvz) hdz hcz) pa_nil he2) he1) hdb he1 hpl) hs (by rw [C.hsc]; exact hfx)) hrest) ?_
  rintro E σ H ⟨k, Δ, D2, h1, h2, h3, h4⟩
  obtain ⟨hpl, hi, h3⟩ := h3
  have s1 := h2.sl l
  have s2 := h2.sl m
  revert h3 s1 s2
  cases e1 : nth Δ l with
  | scr ns =>
    cases e2 : nth Δ m with
    | dat d =>
      cases d with
      | int n =>
        rintro h3 ⟨a, q1, r1⟩ ⟨v, q2, r2⟩
        cases r2
        refine ⟨.ref a, q1, .int n, q2, rfl, ?_⟩
        -- the callee's world
        have notfrz : ∀ {A : Addr → Prop}, ScrAt W.K A H a ns → ScrAt X.K (fun b => H b ≠ none ∧ ¬ ∃ o xs, H b = some (.frz o (.lst xs))) H a ns := by
          rintro A (⟨o, e, n⟩ | r)
          · exact .inl ⟨o, e, fun z => z.2 ⟨o, _, e⟩⟩
          · exact .inr (C.hK ▸ r)
        refine ⟨{ K := X.K, A0 := fun b => H b ≠ none ∧ ¬ ∃ o xs, H b = some (.frz o (.lst xs)), P := fun _ => False, H0 := H, n0 := 0, c0 := 0, E := NoE }, [.scr ns, .dat (.int n)], _, ⟨rfl, rfl, rfl, ⟨fun _ z => z.elim, fun _ z => z.elim, Nat.zero_le _⟩, fun _ h => h.1, fun _ z => z.elim⟩, .scr (notfrz r1) (.dat (.int n) .nil), by rw [hps]; rfl, h3, ?_, ?_⟩
        · rintro d v H1 ⟨x1, y1, rfl, b1, b2, b3, b4, hg⟩ fin rr
          cases rr with
          | @lst q xs ds eq nq zq rq =>
            cases rq with
            | cons t1 rq =>
            cases rq with
            | cons t2 rq =>
            cases rq with
            | cons t3 rq =>
            cases rq
            cases t1
            cases t2
            cases t3
            have hx : ∀ b o, H b = some o → H1 b = some o := fun b o e => fin.since b o e id
            have hq : H q = none := by
              cases e : H q with
              | none => rfl
              | some o =>
                exfalso
                refine nq ⟨by rw [e]; simp, fun ⟨ob, xs, z⟩ => ?_⟩
                have := hx q _ z
                rw [eq] at this
                cases this
            have nAq : ¬ AA W σ Δ q := h2.notA hq
            have lim : LIM = 4194304 := rfl
            refine ⟨W.potAt σ Δ q H1 c, rfl, ⟨C.hN, C.hsc, C.nd, C.hr, C.gd, C.calm, C.hK, ⟨fun b p => ?_, fun b p => .inr p, by show 0 + c ≤ LIM; omega⟩, C.tk.imp fun cls d σ2 H2 h => ?_, C.po⟩, 0, Δ.set i .pot, _, by show 0 + c ≤ c; omega, ?_, hg, ?_⟩
            · rw [show b = q from p]
              show H1 q ≠ none
              rw [eq]
              simp
            · obtain ⟨dd, v, d', rfl, u1, u2, u3, u4, u5⟩ := h
              have f0 := fin_back h2 hq hx u2
              refine ⟨dd, v, d', rfl, u1, f0.mono (by omega), u3, ?_, u5.map (Kp.less fun b z => .inl (.inl z))⟩
              cases e : H dd with
              | none => exact h2.fin.free e
              | some o =>
                have u4' : H1 dd = none := u4
                rw [hx dd o e] at u4'
                cases u4'
            · have kp : Kp (AA W σ Δ) (fun b => AA W σ Δ b ∨ b = q) H H1 := fun b o e n => ⟨hx b o e, fun z => z.elim n fun z => by rw [z, hq] at e; cases e⟩
              have same : ∀ a, AA (W.potAt σ Δ q H1 c) (σ.set i (some (.ref q))) (Δ.set i .pot) a → AA W σ Δ a ∨ a = q := fun a h => h.elim id fun h => (no_own_plain hpl (ownA_set (fun _ z => by cases z) h)).elim
              refine ⟨by rw [List.length_set, List.length_set]; exact h2.len, fun t => ?_, fun t1 t2 ds es a g1 => ?_, ⟨fun b o e _ => e, fun b p => ?_⟩, fun b p => ?_⟩
              · by_cases z : t = i
                · subst z
                  rw [nth_set_self hi]
                  exact ⟨q, List.getElem?_set_self (by rw [← h2.len]; exact hi), rfl⟩
                · rw [nth_set_ne z]
                  refine slot_set z (SlotOk.mono same ?_)
                  have s := h2.sl t
                  have pl := nth_plain t hpl
                  revert s pl
                  cases nth Δ t with
                  | un => exact fun _ _ => trivial
                  | dat d => exact fun ⟨v, e, r⟩ _ => ⟨v, e, r.map kp⟩
                  | scr ns => exact fun ⟨v, e, r⟩ _ => ⟨v, e, r.map kp⟩
                  | pot => exact fun _ pl => by cases pl
                  | own ds => exact fun _ pl => by cases pl
              · by_cases z : t1 = i
                · rw [z, nth_set_self hi] at g1
                  cases g1
                · rw [nth_set_ne z] at g1
                  have pl := nth_plain t1 hpl
                  rw [g1] at pl
                  cases pl
              · rw [show b = q from p]
                exact ⟨x1, y1, 0, eq, b1, b2, b3, b4, Int.le_refl 0, Int.le_refl 0⟩
              · rcases p with p | p
                · cases e : H b with
                  | none => exact absurd p (h2.notA e)
                  | some o =>
                    rw [hx b o e]
                    simp
                · rw [show b = q from p, eq]
                  simp
            · have kpe : ∀ {σ' : St} {Δ' : DEnv} {H' : Hp}, Kp (AA (W.potAt σ Δ q H1 c) (σ.set i (some (.ref q))) (Δ.set i .pot)) (AA (W.potAt σ Δ q H1 c) σ' Δ') H1 H' → Kp (AA W σ Δ) (AA W σ' (wash Δ')) H H' := fun {σ' Δ' H'} kp b o e n => by
                obtain ⟨g1, g2⟩ := kp b o (hx b o e) fun z => z.elim (fun z => z.elim n fun z => by rw [z, hq] at e; cases e) fun z => (no_own_plain hpl (ownA_set (fun _ z => by cases z) z)).elim
                exact ⟨g1, fun z => z.elim (fun z => g2 (.inl (.inl (.inl z)))) fun z => no_own_wash z⟩
              exact ⟨fun Δ' σ' H' q1 e kp => h4.nx _ _ _ q1 ((en_back h2 hq hx e).mono (by omega)) (kpe kp), fun d v H' q1 fin rr => h4.rt d v H' q1 ((fin_back h2 hq hx fin).mono (by omega)) (rr.map (Kp.less fun b z => .inl (.inl z))),
                fun Δ' σ' H' q1 e kp => h4.bk _ _ _ q1 ((en_back h2 hq hx e).mono (by omega)) (kpe kp), fun Δ' σ' H' q1 e kp => h4.ct _ _ _ q1 ((en_back h2 hq hx e).mono (by omega)) (kpe kp)⟩
        · intro cls dd v d H1 hE fin hdd hn rr
          exact (show False from hE).elim
      | _ => exact fun z => z.elim
    | _ => exact fun z => z.elim
  | _ => exact fun z => z.elim
end
/-! ### the law's own call -/
theorem call_lawG {P : Program} {w : World} {K : PySem.W.Frag} {mg mb : Str → Option Value} {k : Nat} {g a : Addr} {fd : FuncData} {x : Str} {sp : Sp} {s₁ : Shared} {us : List Value} {ns : List Int}
    (kin : K.In s₁.heap) (hmain : s₁.heap.Ns mainGlobals mg) (hbuilt : s₁.heap.Ns builtinsNs mb) (hboot : ∀ y : Str, y ≠ "__name__" → mb y = bootBuiltins y) (hnl : s₁.heap.NoLimit) (hgens : s₁.gens = #[])
    (hobj : s₁.heap.get? a = some { cls := .type "list", data := .seq us.toArray }) (hint : IntsAre us ns) (hlen : ns.length ≤ sizeLine) (room : Room k callerA) (hgd : callerA.guards = some [])
    (hF : ∀ base : Heap, K.In base → base.Ns mainGlobals mg → FnG P w K mg base k g fd [x] sp) (hbind : ∀ (s : Shared) (u : Value), BindsTo s fd ⟨[u], []⟩ [(x, u)])
    (hsp : ∀ (H : Hp) (A : Addr → Prop), (∀ b, ¬ A b) → ScrAt K A H a ns → sp [.ref a] H (fun v _ => v = .bl true) fun _ _ _ => False) :
    codeAny (model P w) callerA (.call (.ref g) ⟨[.ref a], []⟩) (fun r s' => r = .ok (.ret (.bool true)) ∧ OldK s₁.heap s'.heap ∧ s'.os = s₁.os ∧ AllBare s'.gens) s₁ := by
  have vals := vals_ints hint
  have sameLen := hint.length
  have main : ∀ H : Hp, (∀ b, H b = none ∨ (b = a ∧ K.lookup a = none ∧ H b = some (.frz { cls := .type "list", data := .seq us.toArray } (.lst (ns.map V.int))))) → ScrAt K (fun _ => False) H a ns → HOk P w H s₁.heap →
      codeAny (model P w) callerA (.call (.ref g) ⟨[.ref a], []⟩) (fun r s' => r = .ok (.ret (.bool true)) ∧ OldK s₁.heap s'.heap ∧ s'.os = s₁.os ∧ AllBare s'.gens) s₁ := by
    intro H only scr hok
    have there : ∀ {b : Addr} {o : Obj}, s₁.heap.get? b = some o → H b = none → (hidT s₁.heap H).get? b = some o := fun q z => hidT_get q z
    have dictFree : ∀ {b : Addr} {o : Obj} {es : Array DictEntry} {n : Nat}, s₁.heap.get? b = some o → o.data = .dict es n → H b = none := fun {b o es n} q d => by
      rcases only b with z | ⟨rfl, _, _⟩
      · exact z
      · rw [hobj] at q
        cases q
        have d2 : Data.seq us.toArray _ = Data.dict es n := d
        cases d2
    have space : ∀ {b : Addr} {m : Str → Option Value}, s₁.heap.Ns b m → (hidT s₁.heap H).Ns b m := fun {b m} ⟨o, es, n, q, d, rest⟩ => ⟨o, es, n, there q (dictFree q d), d, rest⟩
    have kinB : K.In (hidT s₁.heap H) := fun b o q => there (kin b o q) (by
      rcases only b with z | ⟨rfl, z, _⟩
      · exact z
      · rw [z] at q
        cases q)
    obtain ⟨mc, lim1, lim2⟩ := hnl
    have mod : Mod K mg (hidT s₁.heap H) := ⟨kinB, space hmain, ⟨mb, space hbuilt, hboot⟩, ⟨mc, space lim1, lim2⟩⟩
    have env : Env0 P w K mg (hidT s₁.heap H) callerA [] s₁ H := ⟨rfl, mod, fun b o q => of_hidT q, Nat.le_of_eq (hidT_size _ _), trivial, fun b z => absurd (show b ∈ ([] : List Addr) from z) (by simp), hok, .of_eq hgens⟩
    refine codeAny_mono ((hF _ kinB (space hmain)).run callerA [] s₁ H ⟨[.ref a], []⟩ [.ref a] [.ref a] _ _ hgd room env (hbind s₁ (.ref a)) (.cons rfl .nil) (hsp H _ (fun _ z => z) scr)) fun r s' h => ?_
    cases r with
    | error e =>
      obtain ⟨_, _, _, _, _, _, _, _, _, _, _, _, z⟩ := h
      exact z.elim
    | ok fl =>
      cases fl with
      | ret u =>
        obtain ⟨v, H2, os, bare, un, hok2, rel, q⟩ := h
        obtain rfl : v = V.bl true := q
        obtain rfl : u = Value.bool true := rel
        refine ⟨rfl, OldK.of_keep fun b o q => ?_, os, bare⟩
        rcases only b with z | ⟨rfl, _, z⟩
        · exact un.keep b o q z (by intro y; exact absurd (show b ∈ ([] : List Addr) from y) (by simp)) (by simp)
        · obtain ⟨g1, _⟩ := hok b _ z
          obtain ⟨g2, _⟩ := hok2 b _ (un.frzs b _ _ z)
          rw [q] at g1
          cases g1
          exact g2
      | next => exact (show False from h).elim
      | brk => exact (show False from h).elim
      | cont => exact (show False from h).elim
  cases hk : K.lookup a with
  | some o =>
    have q := kin a o hk
    rw [hobj] at q
    cases q
    exact main (fun _ => none) (fun _ => .inl rfl) (.inr (.inr ⟨_, us.toArray, _, hk, rfl, rfl, rfl, by rw [List.size_toArray, sameLen]; exact hlen, by simpa using vals⟩)) fun b u z => by cases (show (none : Option HO) = some u from z)
  | none =>
    have at_a : (if a = a then some (HO.frz { cls := .type "list", data := .seq us.toArray } (.lst (ns.map V.int))) else none) = some (HO.frz { cls := .type "list", data := .seq us.toArray } (.lst (ns.map V.int))) := if_pos rfl
    refine main (fun b => if b = a then some (.frz { cls := .type "list", data := .seq us.toArray } (.lst (ns.map V.int))) else none) (fun b => ?_) (.inl ⟨_, at_a, id⟩) fun b u z => ?_
    · by_cases e : b = a
      · exact .inr ⟨e, hk, if_pos e⟩
      · exact .inl (if_neg e)
    · by_cases e : b = a
      · have z2 := (if_pos e).symm.trans z
        cases z2
        subst e
        exact ⟨hobj, by rw [List.length_map]; exact hlen, us, _, vals, hobj⟩
      · cases (if_neg e).symm.trans z
/-- the goal that k_head leaves, from the law's promise over data -/
theorem walk_ofG {l : PySem.W.OpenLaw} {n k c : Nat} {q : Program} {loose : List Str} {XP : (Str → Option Value) → Heap → Prop} {YP : World → Heap → Prop} {d : DefRec} {K : Params → PySem.W.Frag} {F : FSp} {x : Str}
    (hmost : l.most = some n) (hsmall : n ≤ sizeLine) (hdf : d.params.defaults = []) (room : Room k callerA) (hgd : callerA.guards = some []) (hc : c ≤ LIM)
    (hK : ∀ (w : World) (h : Heap), YP w h → (K w.params).In h)
    (hF : ∀ (w : World) (mg : Str → Option Value) (fa : Addr) (h : Heap), (K w.params).In h → h.Ns mainGlobals mg → mg d.name = some (.ref fa) →
      ∃ fd : FuncData, (∀ (s : Shared) (u : Value), BindsTo s fd ⟨[u], []⟩ [(x, u)]) ∧ ∀ base : Heap, (K w.params).In base → base.Ns mainGlobals mg → FnD l.prog w (K w.params) mg base k fa fd [x] F c)
    (hlaw : ∀ (ns : List Int) (Kd : D → Prop), ns.length ≤ n → (∀ z ∈ ns, Builtin.Int.intBits z ≤ 1048576) → Kd (.bool true) → F [.scr ns] Kd NoE) :
    PySem.W.WalkO q loose XP YP l.row.toRowW d [] (fun f vs => PySem.call f vs) := by
  refine Att.attach_callB hmost hdf fun w s₀ s₁ mg mb fa o pm cd doc a us ns G Y ho hd hcd hmg hobj hint hlen hbits hgens => ?_
  have kin := hK w _ Y
  obtain ⟨fd, hbind, hfn⟩ := hF w mg fa _ kin G.T.g hmg
  refine call_lawG kin G.T.g G.T.b G.T.builtins G.T.nolimit hgens hobj hint (Nat.le_trans hlen hsmall) room hgd hfn hbind fun H A nA scr => ?_
  refine ⟨{ K := K w.params, A0 := A, P := fun _ => False, H0 := H, n0 := 0, c0 := c, E := NoE }, [.scr ns], fun d => d = .bool true, ⟨rfl, rfl, rfl, ⟨fun _ z => z.elim, fun _ z => z.elim, by show 0 + c ≤ LIM; omega⟩, fun b z => (nA b z).elim, fun _ z => z.elim⟩, .scr scr .nil, rfl, hlaw ns _ hlen hbits rfl, ?_, ?_⟩
  · rintro d v H' rfl fin r
    cases r
    rfl
  · intro cls dd v d H' z
    exact (show False from z).elim
theorem guards_caller : callerA.guards = some [] := rfl
end DL
/-! DLMore: dict displays, defaults, a def by its body with room for its draws. -/
namespace DL
open PySem PySem.Spec PyProof.Rows L2
theorem vis_by {sc : Scope} {x : Str} (h : (match sc.names.lookup x with | some .local => true | some .cell => true | some .free => true | _ => false) = true) : Vis sc x := by
  unfold Vis
  revert h
  cases sc.names.lookup x with
  | none => exact fun h => by cases h
  | some k => cases k <;> first | exact fun _ => .inl rfl | exact fun _ => .inr (.inl rfl) | exact fun _ => .inr (.inr rfl) | exact fun h => by cases h
theorem loc_by {sc : Scope} {x : Str} (h : (match sc.names.lookup x with | some .local => true | some .cell => true | _ => false) = true) : L2.Loc sc x := by
  unfold L2.Loc
  revert h
  cases sc.names.lookup x with
  | none => exact fun h => by cases h
  | some k => cases k <;> first | exact fun _ => .inl rfl | exact fun _ => .inr rfl | exact fun h => by cases h
section
variable {X : Cx} {W : Wd} {N : List Str} {sc : Scope} {kk : Nat} {e : Expr} {c ca cb : Nat} {g : TDE} {pos p p2 : Pos} {k j : Nat} {σ : St} {Δ : DEnv} {H H' : Hp}
theorem DSs.le {s : List Stmt} {g : TDS} (h : DSs X W s g cb) (l : cb ≤ c) : DSs X W s g c := pss_imp h fun E σ H ⟨k, Δ, D2, h1, h2, h3, h4⟩ => ⟨k, Δ, D2, by omega, h2, h3, h4.le (by omega)⟩
/-- the same context where the object at L changes, too, and nothing is raised -/
theorem Cxt.inn (C : Cxt X W N sc kk) (L : Addr) : Cxt X (W.blk L) N sc kk := ⟨C.hN, C.hsc, C.nd, C.hr, C.gd, C.calm, C.hK, ⟨C.ok.pdom, fun b p => .inl (C.ok.sub b p), C.ok.lim⟩, C.tk.imp fun cls d _ H h => by
  obtain ⟨_, _, _, _, z, _⟩ := h
  exact z.elim, C.po⟩
def gDic0 : TDE := fun _ K => K (.dict [])
theorem de_dic0 (C : Cxt X W N sc kk) : DE X W (.Dict [] [] pos) gDic0 0 := pe_imp pe_dnewK fun σ H Q ⟨k, Δ, K, h1, h2, h3, h4⟩ => fun q hq => h4 _ _ _ h3 (h2.refl.laid C h2 hq) (.dic upd_same (h2.notA hq) .nil)
def gDic1 (x : Str) (g : TDE) : TDE := fun Δ K => g Δ fun d => K (.dict [(.str x, d)])
theorem de_dic1 (C : Cxt X W N sc kk) {x : Str} {j : Nat} (he : ∀ L, Cxt X (W.blk L) N sc kk → DE X (W.blk L) e g c) : DE X W (.Dict [some (.Constant (.str x) j p)] [e] pos) (gDic1 x g) c :=
  pe_imp (pe_disp (pps_cons pe_str (pe_ex fun L => he L (C.inn L)) pps_nil) rfl rfl (by simp) (by simp)) fun σ H Q ⟨k, Δ, K, h1, h2, h3, h4⟩ => fun q hq => by
    obtain ⟨en, kp⟩ := h2.blk (vs := []) C.ok hq (Fin.laid h2.fin (o := .dK []) hq) (by rw [upd_same]; simp) (fun i z => by cases z)
    refine ⟨q, k, Δ, _, h1, en, h3, fun d v H2 q2 c2 r2 => ?_⟩
    have nP : ¬ W.P q := fun z => C.ok.pdom q z (h2.fin.free hq)
    have e2 : H2 q = some (.dK []) := c2.keep q _ upd_same nP
    refine ⟨e2, [(.inr x, v)], rfl, by simp, ?_⟩
    have c3 : Chg W (k + c) H H2 := ((Fin.laid h2.fin (o := .dK []) hq).mono (Nat.le_add_right k c)).trans c2.ofBlk
    have c4 : Chg W (k + c) H (upd H2 q (.dK (mergeK [] [(.inr x, v)]))) := by
      refine ⟨fun b o z n => ?_, fun b z => ?_⟩
      · rw [upd_ne (ne_of_none z hq)]
        exact c3.keep b o z n
      · obtain ⟨x1, y1, z1, g1, r⟩ := c3.pots b z
        exact ⟨x1, y1, z1, by rw [upd_ne (show b ≠ q from fun w => nP (by rw [← w]; exact z))]; exact g1, r⟩
    refine h4 _ _ _ q2 c4 (.dic (kvs := [(.inr x, v)]) (upd_same) (h2.notA hq) (.cons ?_ .nil))
    refine r2.map fun b o z n => ⟨?_, fun w => n (w.elim (fun w => .inl (.inl w)) fun w => .inr w)⟩
    rw [upd_ne (show b ≠ q from fun w => n (.inl (.inr w)))]
    exact z
end
section
variable {K : PySem.W.Frag} {fd : FuncData} {ps ks : List Str} {n : Nat} {ds : List Value}
theorem BindG.dfl {T : Addr} {o : Obj} {its : Array Value} {m : Nat} (lT : K.lookup T = some o) (oT : o.data = .seq its m)
    (h : ∀ us ws : List Value, us.length = n → ws.length = ks.length → ∃ k, bindArgs fd ⟨us, ks.zip ws⟩ = seqItems? (.ref T) >>= k ∧ k (some its) = pure (ps.zip (us ++ (ws ++ ds)))) : BindG K fd ps n ks ds := fun s us ws X h1 h2 => by
  obtain ⟨k, e1, e2⟩ := h us ws h1 h2
  refine L2.BindsTo.of_looks fun M => ?_
  rw [e1]
  exact looks_items X lT oT (.of_pure e2)
end
section
variable {P : Program} {w : World} {K : PySem.W.Frag} {mg : Str → Option Value} {base : Heap} {k c : Nat} {f : Addr} {ps N : List Str} {F : FSp} {scope : Scope} {body : List Stmt} {qual name : Str} {params : Arguments} {dV kV doc pm cdv ct oc : Value} {an od : Option Addr} {osl : Array (Option Value)}
/-- what a body reads, as a promise -/
def specOf (n : Nat) (N : List Str) (g : (Value → D → Prop) → TDS) : FSp := fun as Kd E => as.length = n ∧ g E { nx := fun _ => Kd .none, rt := Kd } (startD N as)
theorem fnd_by (lk : K.lookup f = some ⟨oc, od, .func (PySem.W.fnOf name qual params body scope dV kV doc pm an cdv ct), osl⟩) (hcd : PySem.W.codeIn K cdv qual = true) (S : FnScope N ps scope) {g : (Value → D → Prop) → TDS} (hpn : ps.length ≤ N.length)
    (hbody : ∀ (X : Cx) (W : Wd) (E : Value → D → Prop), W.E = E → X.prog = P → X.w = w → X.K = K → X.mg = mg → X.base = base → (∀ x, X.fn x = true) → Cxt X W N scope k → ∃ cb, cb ≤ c ∧ DSs X W body (g E) cb) :
    FnD P w K mg base (k + 1) f (PySem.W.fnOf name qual params body scope dV kV doc pm an cdv ct) ps (specOf ps.length N g) c :=
  fnd_of lk hcd S (cb := c) (Nat.le_refl c) hpn (fun X W E e1 e2 e3 e4 e5 e6 hf C => by
    obtain ⟨cb, l, h⟩ := hbody X W E e1 e2 e3 e4 e5 e6 hf C
    exact h.le l) fun as Kd E hl h => h.2
end
/-! ### constants of the module -/
theorem KRep.non {K : PySem.W.Frag} : KRep K .none .none := ⟨.non, rfl, fun _ _ => .non⟩
theorem KRep.bl {K : PySem.W.Frag} {b : Bool} : KRep K (.bool b) (.bool b) := ⟨.bl b, rfl, fun _ _ => .bl b⟩
inductive KReps (K : PySem.W.Frag) : List Value → List D → Prop
  | nil : KReps K [] []
  | cons {u : Value} {us : List Value} {d : D} {ds : List D} : KRep K u d → KReps K us ds → KReps K (u :: us) (d :: ds)
theorem KReps.vals {K : PySem.W.Frag} : ∀ {us : List Value} {ds : List D}, KReps K us ds → ∃ vs, Vals vs us ∧ ∀ A H, RepAll K A H vs ds
  | _, _, .nil => ⟨[], .nil, fun _ _ => .nil⟩
  | _, _, .cons ⟨v, r1, r2⟩ t => by
    obtain ⟨vs, h1, h2⟩ := t.vals
    exact ⟨v :: vs, .cons r1 h1, fun A H => .cons (r2 A H) (h2 A H)⟩
theorem KReps.len {K : PySem.W.Frag} : ∀ {us : List Value} {ds : List D}, KReps K us ds → us.length = ds.length
  | _, _, .nil => rfl
  | _, _, .cons _ t => congrArg (· + 1) t.len
theorem KRep.tup {K : PySem.W.Frag} {a : Addr} {od : Option Addr} {its : Array Value} {n : Nat} {sl : Array (Option Value)} {ds : List D} (l : K.lookup a = some ⟨.type "tuple", od, .seq its n, sl⟩) (hz : ds.length ≤ sizeLine) (r : KReps K its.toList ds) : KRep K (.ref a) (.tuple ds) := by
  obtain ⟨vs, h1, h2⟩ := r.vals
  have e := r.len
  rw [Array.length_toList] at e
  exact ⟨.ref a, rfl, fun A H => .tup (.inr (.inr ⟨_, its, n, l, rfl, rfl, by rw [e]; exact hz, h1⟩)) hz (h2 A H)⟩
/-! ### a block of a comprehension; stores from the right -/
section
variable {X : Cx} {W : Wd} {N : List Str} {sc : Scope} {kk : Nat} {scope : Scope}
theorem blk_use (C : Cxt X W N sc kk) {Φ : Cx → Wd → Prop} (h : ∀ (L : Addr) (s : Shared) (H : Hp) (C' : Addr) (cl : List (Str × Addr)) (fp : List Addr), Cxt (X.blk s H scope (compEnvC scope cl C' X.env) fp) (W.blk L) N (relS scope sc) kk → Φ (X.blk s H scope (compEnvC scope cl C' X.env) fp) (W.blk L)) : Blk X W scope Φ :=
  fun L s H C' cl fp => h L s H C' cl fp (C.blk L s H scope cl C' fp)
theorem swp2 (C : Cxt X W N sc kk) {x y : Str} {px py pt pt2 : Pos} {kt k2 : Nat} {a b : Expr} (hk : sc.kind = .function) (lx : sc.names.lookup x = some .local) (ly : sc.names.lookup y = some .local) (hxy : (x == y) = false) (hl : (py.line == px.line) = true)
    (ha : ∀ v p, a ≠ .Starred v p) (hb : ∀ v p, b ≠ .Starred v p) (h2 : [a, b].all (foldedForSure 8) = false) (h3 : [a, b].all (constantsAlone 8) = false) :
    swappedStores [.Tuple [.Name x px, .Name y py] kt pt] (.Tuple [a, b] k2 pt2) X.env = pure (some [x, y]) := by
  have kx : X.env.kindOf x = some .local := by
    show X.env.scope.names.lookup x = _
    rw [C.hsc]
    exact lx
  have ky : X.env.kindOf y = some .local := by
    show X.env.scope.names.lookup y = _
    rw [C.hsc]
    exact ly
  have kb : (X.env.blockKind != .function) = false := by
    have e : X.env.scope.kind = .function := by rw [C.hsc, hk]
    unfold Env.blockKind
    rw [e]
    rfl
  have e1 : (([.Name x px, .Name y py] : List Expr).head?.map (·.pos.line)).getD 0 = px.line := rfl
  have yx : (y == x) = false := by
    cases e : (y == x) with
    | false => rfl
    | true => rw [beq_iff_eq.mp e, beq_self_eq_true] at hxy; cases hxy
  unfold swappedStores
  simp only [e1, kb, h2, h3, List.filterMap_cons, List.filterMap_nil, kx, ky, hl, beq_self_eq_true, Bool.and_self, if_true, List.length_cons, List.length_nil]
  simp [List.eraseDups_cons, hxy, yx, List.filter]
end
/-! ### more draws may be told than are made -/
section
variable {X : Cx} {W : Wd} {e : Expr} {c cb : Nat} {g : TDE} {gt : TDT} {ifs : List Expr}
theorem DE.le (h : DE X W e g cb) (l : cb ≤ c) : DE X W e g c := pe_imp h fun σ H Q ⟨k, Δ, K, h1, h2, h3, h4⟩ => ⟨k, Δ, K, by omega, h2, h3, fun d v H' q ch r => h4 d v H' q (ch.mono (by omega)) r⟩
theorem DT.le (h : DT X W e gt cb) (l : cb ≤ c) : DT X W e gt c := pt_imp h fun σ H Q ⟨k, Δ, K, h1, h2, h3, h4⟩ => ⟨k, Δ, K, by omega, h2, h3, fun d H' q ch => h4 d H' q (ch.mono (by omega))⟩
theorem PTsD.le (h : PTsD X W ifs gt cb) (l : cb ≤ c) : PTsD X W ifs gt c := ⟨⟨fun pins s σ H Q I ⟨k, Δ, K, h1, h2, h3, h4⟩ => h.run.run pins s σ H Q I ⟨k, Δ, K, by omega, h2, h3, fun d H' q ch => h4 d H' q (ch.mono (by omega))⟩⟩⟩
end
end DL
/-! DLRead: the readings' operators, case by case. -/
namespace DL
open PySem PySem.Spec PyProof.Rows
section
variable {K : D → Prop} {i j : Int} {a b : Str} {p q : Bool} {xs ys : List D} {x : D} {v : Int}
theorem addD_ii : addD (.int i) (.int j) K = K (.int (i + j)) := rfl
theorem addD_ss : addD (.str a) (.str b) K = (a.length + b.length ≤ sizeLine ∧ K (.str (a ++ b))) := rfl
theorem addD_ll : addD (.list xs) (.list ys) K = (xs.length + ys.length ≤ sizeLine ∧ K (.list (xs ++ ys))) := rfl
theorem addD_tt : addD (.tuple xs) (.tuple ys) K = (xs.length + ys.length ≤ sizeLine ∧ K (.tuple (xs ++ ys))) := rfl
theorem subD_ii : subD (.int i) (.int j) K = K (.int (i - j)) := rfl
theorem mulD_ii : mulD (.int i) (.int j) K = (MulOk i j ∧ K (.int (i * j))) := rfl
theorem mulD_si : mulD (.str a) (.int j) K = (PySem.MulOk a j ∧ (Txt.mul a j).length ≤ sizeLine ∧ K (.str (Txt.mul a j))) := rfl
theorem mulD_li : mulD (.list xs) (.int j) K = (-(2 ^ 63) ≤ j ∧ j < 2 ^ 63 ∧ xs.length * j.toNat ≤ sizeLine ∧ K (.list (List.replicate j.toNat xs).flatten)) := rfl
theorem fdivD_ii : fdivD (.int i) (.int j) K = (L2.CDivW i j ∧ K (.int (i / j))) := rfl
theorem modD_ii : modD (.int i) (.int j) K = (0 < j ∧ K (.int (i % j))) := rfl
theorem powD_ii : powD (.int i) (.int j) K = (0 ≤ j ∧ (Builtin.Int.intBits i : Int) * j ≤ 2 ^ 27 ∧ K (.int (i ^ j.toNat))) := rfl
theorem eqD_ii : eqD (.int i) (.int j) K = K (.bool (decide (i = j))) := rfl
theorem eqD_ss : eqD (.str a) (.str b) K = K (.bool (decide (a = b))) := rfl
theorem eqD_bb : eqD (.bool p) (.bool q) K = K (.bool (decide (p = q))) := rfl
theorem neD_ii : neD (.int i) (.int j) K = K (.bool (!decide (i = j))) := rfl
theorem neD_ss : neD (.str a) (.str b) K = K (.bool (!decide (a = b))) := rfl
theorem neD_bb : neD (.bool p) (.bool q) K = K (.bool (!decide (p = q))) := rfl
theorem ltD_ii : ltD (.int i) (.int j) K = K (.bool (decide (i < j))) := rfl
theorem ltD_ss : ltD (.str a) (.str b) K = K (.bool (decide (a.cps.toList < b.cps.toList))) := rfl
theorem leD_ii : leD (.int i) (.int j) K = K (.bool (decide (i ≤ j))) := rfl
theorem gtD_ii : gtD (.int i) (.int j) K = K (.bool (decide (j < i))) := rfl
theorem geD_ii : geD (.int i) (.int j) K = K (.bool (decide (j ≤ i))) := rfl
theorem isD_n : isD x .none K = K (.bool (isNo x)) := by cases x <;> rfl
theorem isD_bb : isD (.bool p) (.bool q) K = K (.bool (decide (p = q))) := rfl
theorem isnotD_n : isnotD x .none K = K (.bool (!isNo x)) := by cases x <;> rfl
theorem isnotD_bb : isnotD (.bool p) (.bool q) K = K (.bool (!decide (p = q))) := rfl
theorem inD_ss : inD (.str a) (.str b) K = ∃ c : Nat, a = ⟨#[c]⟩ ∧ K (.bool (decide (c ∈ b.cps.toList))) := rfl
theorem inD_l : inD x (.list ys) K = (SeqAt.shaped x = true ∧ SeqAt.shaped (.list ys) = true ∧ K (.bool (ys.any fun z => PyData.eqv z x))) := by cases x <;> rfl
theorem inD_t : inD x (.tuple ys) K = (SeqAt.shaped x = true ∧ SeqAt.shaped (.tuple ys) = true ∧ K (.bool (ys.any fun z => PyData.eqv z x))) := by cases x <;> rfl
theorem notinD_ss : notinD (.str a) (.str b) K = ∃ c : Nat, a = ⟨#[c]⟩ ∧ K (.bool (!decide (c ∈ b.cps.toList))) := rfl
theorem notinD_l : notinD x (.list ys) K = (SeqAt.shaped x = true ∧ SeqAt.shaped (.list ys) = true ∧ K (.bool (!ys.any fun z => PyData.eqv z x))) := by cases x <;> rfl
theorem notinD_t : notinD x (.tuple ys) K = (SeqAt.shaped x = true ∧ SeqAt.shaped (.tuple ys) = true ∧ K (.bool (!ys.any fun z => PyData.eqv z x))) := by cases x <;> rfl
theorem ixD_l : ixD (.list xs) (.int i) K = ∃ d, L2.atI xs i = some d ∧ K d := rfl
theorem ixD_t : ixD (.tuple xs) (.int i) K = ∃ d, L2.atI xs i = some d ∧ K d := rfl
theorem ixD_s : ixD (.str a) (.int i) K = ∃ c, L2.atI a.cps.toList i = some c ∧ K (.str ⟨#[c]⟩) := rfl
theorem slD_t {lo hi : Option Int} : slD (.tuple xs) lo hi K = K (.tuple (cutL xs lo hi)) := rfl
theorem slD_s {lo hi : Option Int} : slD (.str a) lo hi K = K (.str (L2.cutS a lo hi)) := rfl
theorem slD_l {lo hi : Option Int} : slD (.list xs) lo hi K = K (.list (cutL xs lo hi)) := rfl
theorem lenD_s : lenD [.str a] K = K (.int a.length) := rfl
theorem lenD_l : lenD [.list xs] K = K (.int xs.length) := rfl
theorem lenD_t : lenD [.tuple xs] K = K (.int xs.length) := rfl
theorem tupD_l : tupD [.list xs] K = K (.tuple xs) := rfl
theorem tupD_t : tupD [.tuple xs] K = K (.tuple xs) := rfl
theorem listD_l {K : List D → Prop} : listD [.list xs] K = K xs := rfl
theorem listD_t {K : List D → Prop} : listD [.tuple xs] K = K xs := rfl
theorem allD_l : allD [.list xs] K = ∃ bs : List Bool, xs = bs.map PyData.bool ∧ K (.bool (bs.all id)) := rfl
theorem anyD_l : anyD [.list xs] K = ∃ bs : List Bool, xs = bs.map PyData.bool ∧ K (.bool (bs.any id)) := rfl
theorem sumD_l : sumD [.list xs] K = ∃ ns : List Int, xs = ns.map PyData.int ∧ K (.int ns.sum) := rfl
theorem maxD_ii : maxD [.int i, .int j] K = K (.int (if j > i then j else i)) := rfl
theorem minD_ii : minD [.int i, .int j] K = K (.int (if j < i then j else i)) := rfl
theorem maxD_l : maxD [.list xs] K = ∃ ns : List Int, xs = ns.map PyData.int ∧ 0 < ns.length ∧ ∀ m, m ∈ ns → (∀ y, y ∈ ns → y ≤ m) → K (.int m) := rfl
theorem minD_l : minD [.list xs] K = ∃ ns : List Int, xs = ns.map PyData.int ∧ 0 < ns.length ∧ ∀ m, m ∈ ns → (∀ y, y ∈ ns → m ≤ y) → K (.int m) := rfl
theorem absD_i : absD [.int i] K = K (.int (if i < 0 then -i else i)) := rfl
theorem gcdD_ii : gcdD [.int i, .int j] K = K (.int ((Nat.gcd i.natAbs j.natAbs : Nat) : Int)) := rfl
theorem intD_i : intD [.int i] K = K (.int i) := rfl
theorem intD_b : intD [.bool p] K = K (.int (if p then 1 else 0)) := rfl
theorem intD_s : intD [.str a] K = ∃ n, PySem.intText? a = some n ∧ a.length ≤ 640 ∧ K (.int n) := rfl
theorem strD_i : strD [.int i] K = (i.natAbs.log2 < 1920 ∧ K (.str (toString i))) := rfl
theorem strD_s : strD [.str a] K = K (.str a) := rfl
theorem reprD_1 : reprD [x] K = (x.canLay0 = true ∧ x.showable = true ∧ x.depth ≤ 90 ∧ x.shown.length ≤ sizeLine ∧ K (.str x.shown)) := rfl
theorem joinD_l : joinD [.str a, .list xs] K = ∃ ys : List Str, xs = ys.map PyData.str ∧ (ys.map (·.length)).sum + ys.length * a.length ≤ 16777216 ∧ (Txt.join a ys).length ≤ sizeLine ∧ K (.str (Txt.join a ys)) := rfl
theorem splitD_s : splitD [.str a, .str b] K = ((b.length == 0) = false ∧ a.length + 2 ≤ sizeLine ∧ (Txt.split a b).length ≤ sizeLine ∧ (∀ y ∈ Txt.split a b, y.length ≤ sizeLine) ∧ K (.list ((Txt.split a b).map PyData.str))) := rfl
theorem PB_0 : PB 0 v ↔ 0 ≤ v ∧ v < 10 ^ 300 := by
  unfold PB
  constructor
  · rintro (⟨_, h⟩ | ⟨h, _⟩ | ⟨h, _⟩)
    · exact h
    · cases h
    · cases h
  · exact fun h => .inl ⟨rfl, h⟩
theorem PB_1 : PB 1 v ↔ 0 ≤ v ∧ v < 2 ^ 61 := by
  unfold PB
  constructor
  · rintro (⟨h, _⟩ | ⟨_, h⟩ | ⟨h, _⟩)
    · cases h
    · exact h
    · cases h
  · exact fun h => .inr (.inl ⟨rfl, h⟩)
theorem PB_2 : PB 2 v ↔ 0 ≤ v ∧ v ≤ 4194304 := by
  unfold PB
  constructor
  · rintro (⟨h, _⟩ | ⟨h, _⟩ | ⟨_, h⟩)
    · cases h
    · cases h
    · exact h
  · exact fun h => .inr (.inr ⟨rfl, h⟩)
end
theorem gIte_t {P Q : Prop} : gIte true P Q = P := propext ⟨fun h => h.1 rfl, fun h => ⟨fun _ => h, fun z => (nomatch z)⟩⟩
theorem gIte_f {P Q : Prop} : gIte false P Q = Q := propext ⟨fun h => h.2 rfl, fun h => ⟨fun z => (nomatch z), fun _ => h⟩⟩
theorem gIte_d {p P Q : Prop} [Decidable p] : gIte (decide p) P Q = ((p → P) ∧ (¬ p → Q)) := propext ⟨fun h => ⟨fun z => h.1 (decide_eq_true z), fun z => h.2 (decide_eq_false z)⟩, fun h => ⟨fun z => h.1 (of_decide_eq_true z), fun z => h.2 (of_decide_eq_false z)⟩⟩
theorem gIte_n {b : Bool} {P Q : Prop} : gIte (!b) P Q = gIte b Q P := by cases b <;> simp [gIte]
/-! ### sizes of ints -/
def Sz (b : Nat) (i : Int) : Prop := i.natAbs < 2 ^ b
theorem Sz.le {b c : Nat} {i : Int} (h : Sz b i) (l : b ≤ c) : Sz c i := Nat.lt_of_lt_of_le h (Nat.pow_le_pow_right (by decide) l)
theorem Sz.mul {b c : Nat} {i j : Int} (h : Sz b i) (k : Sz c j) : Sz (b + c) (i * j) := by
  unfold Sz at *
  rw [Int.natAbs_mul, Nat.pow_add]
  exact Nat.mul_lt_mul_of_le_of_lt (Nat.le_of_lt h) k (Nat.pow_pos (by decide))
theorem Sz.add {b c : Nat} {i j : Int} (h : Sz b i) (k : Sz c j) : Sz (max b c + 1) (i + j) := by
  have h1 := h.le (Nat.le_max_left b c)
  have h2 := k.le (Nat.le_max_right b c)
  unfold Sz at *
  rw [Nat.pow_succ]
  omega
theorem Sz.pow {b : Nat} {i : Int} (h : Sz b i) : ∀ n : Nat, Sz (b * n + 1) (i ^ n)
  | 0 => by
    show (i ^ 0).natAbs < 2 ^ (b * 0 + 1)
    rw [Int.pow_zero, Nat.mul_zero]
    decide
  | n + 1 => by
    have := (Sz.pow h n).mul h
    rw [Int.pow_succ]
    exact this.le (by rw [Nat.mul_succ]; omega)
theorem Sz.of_range {b : Nat} {i : Int} (h0 : 0 ≤ i) (h : i < 2 ^ b) : Sz b i := by
  unfold Sz
  have e : ((2 ^ b : Nat) : Int) = (2 : Int) ^ b := by simp
  omega
theorem Sz.log {b : Nat} {i : Int} (h : Sz b i) : i.natAbs.log2 ≤ b := by
  by_cases z : i.natAbs = 0
  · rw [z]
    exact Nat.zero_le _
  · exact Nat.le_of_lt ((Nat.log2_lt z).mpr h)
theorem Sz.mulOk {b c : Nat} {i j : Int} (h : Sz b i) (k : Sz c j) (l : b + c < 1000000 := by decide) : MulOk i j := by
  have h1 := h.log
  have h2 := k.log
  show i.natAbs.log2 + j.natAbs.log2 < 1000000
  omega
theorem Sz.bits {b : Nat} {i : Int} (h : Sz b i) : Builtin.Int.intBits i ≤ b := PySem.intBits_le_iff.mpr h
theorem Sz.emod {b : Nat} {i j : Int} (h : Sz b j) (p : 0 < j) : Sz b (i % j) := by
  have h1 := Int.emod_nonneg i (Int.ne_of_gt p)
  have h2 := Int.emod_lt_of_pos i p
  unfold Sz at *
  omega
theorem Sz.ediv {b : Nat} {i j : Int} (h : Sz b i) (p : 0 < j) : Sz b (i / j) := by
  have h1 := Int.natAbs_ediv_le_natAbs i j
  unfold Sz at *
  omega
theorem Sz.neg {b : Nat} {i : Int} (h : Sz b i) : Sz b (-i) := by
  unfold Sz at *
  omega
/-! ### comprehensions and loops over what is walked -/
def gLcX (cb m : Nat) (vs : List Nat) (xs : List D) (gg : TDG) (gt : TDT) (ge : TDE) (Δ : DEnv) (K : List D → Prop) : Prop := (vs.all fun i => noOwn (nth Δ i)) = true ∧ xs.length * cb ≤ m ∧ ∃ S : Nat → List D → Prop, S 0 [] ∧
  (∀ i d ds, xs[i]? = some d → S i ds → gg d (clr vs Δ) fun Δ2 => gt Δ2 fun b => gIte b (ge Δ2 fun y => S (i + 1) (ds ++ [y])) (S (i + 1) ds)) ∧ ∀ ds, S xs.length ds → K ds
theorem gLcC_x {cb m : Nat} {vs : List Nat} {gi : TDL} {gg : TDG} {gt : TDT} {ge : TDE} {Δ : DEnv} {K : List D → Prop} : gLcC cb m vs gi gg gt ge Δ K = gi Δ fun xs => gLcX cb m vs xs gg gt ge Δ K := rfl
def gForX (cb m : Nat) (xs : List D) (gt : TDG) (gb : TDS) (E : DEnds) (Δ : DEnv) : Prop := xs.length * cb ≤ m ∧ ∃ I : Nat → DEnv → Prop, I 0 Δ ∧ (∀ i d Δ', xs[i]? = some d → I i Δ' → gt d Δ' fun Δ2 => gb { E with nx := I (i + 1), ct := I (i + 1), bk := E.nx } Δ2) ∧ ∀ Δ', I xs.length Δ' → E.nx Δ'
theorem gForC_x {cb m : Nat} {gi : TDL} {gt : TDG} {gb : TDS} {E : DEnds} {Δ : DEnv} : gForC cb m gi gt gb E Δ = gi Δ fun xs => gForX cb m xs gt gb E Δ := rfl
section
variable {cb m i : Nat} {vs : List Nat} {Δ : DEnv} {K : List D → Prop} {ge : TDE} {xs : List D}
theorem lc_to (f : D → D) (hv : (vs.all fun i => noOwn (nth Δ i)) = true) (hm : xs.length * cb ≤ m) (step : ∀ d ∈ xs, ∀ P : D → Prop, P (f d) → ge ((clr vs Δ).set i (.dat d)) P) (hK : K (xs.map f)) : gLcX cb m vs xs (gTo i) gYes ge Δ K := by
  refine ⟨hv, hm, fun j ds => ds = (xs.take j).map f, rfl, fun j d ds hd hS => ⟨fun _ => ?_, fun z => nomatch z⟩, fun ds hS => ?_⟩
  · refine step d (List.mem_of_getElem? hd) _ ?_
    show ds ++ [f d] = (xs.take (j + 1)).map f
    rw [show ds = (xs.take j).map f from hS, List.take_add_one, hd, List.map_append]
    rfl
  · rw [show ds = (xs.take xs.length).map f from hS, List.take_length]
    exact hK
theorem lc_any (R : D → Prop) (hv : (vs.all fun i => noOwn (nth Δ i)) = true) (hm : xs.length * cb ≤ m) (step : ∀ d ∈ xs, ∀ P : D → Prop, (∀ y, R y → P y) → ge ((clr vs Δ).set i (.dat d)) P) (hK : ∀ ys : List D, ys.length = xs.length → (∀ y ∈ ys, R y) → K ys) : gLcX cb m vs xs (gTo i) gYes ge Δ K := by
  refine ⟨hv, hm, fun j ds => ds.length = j ∧ ∀ y ∈ ds, R y, ⟨rfl, fun y hy => by cases hy⟩, fun j d ds hd hS => ⟨fun _ => ?_, fun z => nomatch z⟩, fun ds hS => hK ds hS.1 hS.2⟩
  refine step d (List.mem_of_getElem? hd) _ fun y hy => ⟨by rw [List.length_append, hS.1]; rfl, fun z hz => ?_⟩
  rcases List.mem_append.mp hz with h | h
  · exact hS.2 z h
  · rw [List.mem_singleton.mp h]
    exact hy
end
end DL
/-! K00: what the defs read (printed by gen.py). -/
namespace K00
open PySem DL
def d_MOST_SIGNS : D := (.int 8)
def d_FIGURES : D := (.str "0123456789")
def d_SMALL : D := (.str "abcdefghijklmnopqrstuvwxyz")
def d_RESERVED : D := (.tuple [(.str "number"), (.str "word"), (.str "keep"), (.str "is"), (.str "not"), (.str "from"), (.str "to"), (.str "above"), (.str "below"), (.str "let"), (.str "group"), (.str "tell"), (.str "count"), (.str "sum"), (.str "mean"), (.str "least"), (.str "most"), (.str "mark"), (.str "bars"), (.str "points"), (.str "lines"), (.str "cells"), (.str "stack"), (.str "across"), (.str "up"), (.str "ink"), (.str "panels"), (.str "title")])
def d_MINUS : D := (.str "-")
def d_STROKE : D := (.str "/")
def d_MOST_FIGURES : D := (.int 300)
def N__law_cells : List Str := ["script", "most"]
def G__law_cells (E : Value → D → Prop) : TDS :=
  (gRet (gL (gLRg (gCall maxD (gCo (gC (.int 1)) (gCo (gCall minD (gCo (gVar 1) (gCo (gLenS 0) gN))) gN))))))
@[irreducible] def F__law_cells : FSp := specOf 2 N__law_cells G__law_cells
def N__law_pot : List Str := ["script", "place", "cell", "own", "small"]
def R__law_pot_0 (E : Value → D → Prop) : TDS :=
  (gRet (gL (gLst (gCo (gVar 3) (gCo (gBin modD (gCall intD (gCo (gBin addD (gBin addD (gBin mulD (gVar 4) (gC (.int 133869))) (gBin mulD (gBin mulD (gC (.int 30299)) (gVar 1)) (gVar 1))) (gC (.int 15227))) gN)) (gC (.int 2305843009213693921))) (gCo (gC (.int 0)) gN))))))
def R__law_pot_1 (E : Value → D → Prop) : TDS :=
  (gSeq (gSet 4 (gBin modD (gCall intD (gCo (gVar 2) gN)) (gC (.int 2305843009213693951)))) (R__law_pot_0 E))
def R__law_pot_2 (E : Value → D → Prop) : TDS :=
  (gSeq (gSet 3 (gBin mulD (gBin modD (gCall intD (gCo (gCall absD (gCo (gVar 2) gN)) gN)) (gBin powD (gBin powD (gC (.int 10)) (gC (.int 60))) (gC (.int 5)))) (gCall intD (gCo (gBin geD (gCall absD (gCo (gVar 2) gN)) (gBin powD (gC (.int 10)) (gC (.int 18)))) gN)))) (R__law_pot_1 E))
def G__law_pot (E : Value → D → Prop) : TDS :=
  (gSeq (gSet 2 (gIf (gTB (gBin ltD (gVar 1) (gLenS 0))) (gIxS 0 (gVar 1)) (gBin addD (gBin addD (gBin modD (gSumS 0) (gC (.int 1000003))) (gBin mulD (gC (.int 41583)) (gVar 1))) (gC (.int 12149))))) (R__law_pot_2 E))
@[irreducible] def F__law_pot : FSp := specOf 2 N__law_pot G__law_pot
def N__law_common : List Str := ["one", "other"]
def R__law_common_0 (E : Value → D → Prop) : TDS :=
  (gRet (gVar 0))
def R__law_common_1 (E : Value → D → Prop) : TDS :=
  (gSeq (gWhC (0 + 0) 0 (gTB (gBin neD (gVar 1) (gC (.int 0)))) (gPar 0 1 (gCo (gVar 1) (gCo (gBin modD (gVar 0) (gVar 1)) gN)))) (R__law_common_0 E))
def G__law_common (E : Value → D → Prop) : TDS :=
  (gSeq (gPar 0 1 (gCo (gCall absD (gCo (gVar 0) gN)) (gCo (gCall absD (gCo (gVar 1) gN)) gN))) (R__law_common_1 E))
@[irreducible] def F__law_common : FSp := specOf 2 N__law_common G__law_common
def N__law_take : List Str := ["pot", "upto", "digit", "prime", "blend"]
def R__law_take_0 (E : Value → D → Prop) : TDS :=
  (gRet (gVar 2))
def R__law_take_1 (E : Value → D → Prop) : TDS :=
  (gSeq (gPs0 0 (gBin fdivD (gPix 0 0) (gVar 1))) (R__law_take_0 E))
def R__law_take_2 (E : Value → D → Prop) : TDS :=
  (gRet (gBin modD (gCall intD (gCo (gBin fdivD (gVar 4) (gC (.int 11749))) gN)) (gVar 1)))
def R__law_take_3 (E : Value → D → Prop) : TDS :=
  (gSeq (gSet 4 (gBin modD (gCall intD (gCo (gBin mulD (gVar 4) (gBin addD (gBin modD (gCall intD (gCo (gVar 4) gN)) (gC (.int 36063))) (gBin mulD (gC (.int 4391)) (gPix 0 2)))) gN)) (gC (.int 2305843009213693907)))) (R__law_take_2 E))
def R__law_take_4 (E : Value → D → Prop) : TDS :=
  (gSeq (gSet 4 (gBin modD (gCall intD (gCo (gBin powD (gCall intD (gCo (gBin addD (gBin addD (gPix 0 1) (gBin mulD (gBin mulD (gC (.int 129221)) (gPix 0 2)) (gPix 0 2))) (gC (.int 7861))) gN)) (gC (.int 3))) gN)) (gVar 3))) (R__law_take_3 E))
def R__law_take_5 (E : Value → D → Prop) : TDS :=
  (gSeq (gSet 3 (gBin ixD (gL (gLst (gCo (gC (.int 2147483647)) (gCo (gC (.int 2147483629)) (gCo (gC (.int 2147483587)) (gCo (gC (.int 2147483579)) (gCo (gC (.int 2147483563)) gN))))))) (gBin modD (gCall intD (gCo (gPix 0 2) gN)) (gC (.int 5))))) (R__law_take_4 E))
def R__law_take_6 (E : Value → D → Prop) : TDS :=
  (gSeq (gTick 0) (R__law_take_5 E))
def G__law_take (E : Value → D → Prop) : TDS :=
  (gSeq (gIfS (gTB (gBin gtD (gPix 0 0) (gC (.int 0)))) (gSeq (gSet 2 (gBin modD (gCall intD (gCo (gPix 0 0) gN)) (gVar 1))) (R__law_take_1 E)) gNext) (R__law_take_6 E))
@[irreducible] def F__law_take : FSp := specOf 2 N__law_take G__law_take
def N__law_of : List Str := ["pot", "some"]
def G__law_of (E : Value → D → Prop) : TDS :=
  (gRet (gBin ixD (gVar 1) (gFn F__law_take E [] (gAp 0 (gAd (gCall lenD (gCo (gVar 1) gN)) gAn)))))
@[irreducible] def F__law_of : FSp := specOf 2 N__law_of G__law_of
def N__law_number : List Str := ["pot", "size", "lap"]
def R__law_number_0 (E : Value → D → Prop) : TDS :=
  (gRet (gCall intD (gCo (gM1 joinD (gC (.str "")) (gBin addD (gL (gLst (gCo (gFn F__law_of E [] (gAp 0 (gAd (gL (gLst (gCo (gC (.str "1")) (gCo (gC (.str "2")) (gCo (gC (.str "9")) gN))))) gAn))) gN))) (gL (gLcC (0 + 1) 299 [2] (gRg1 (gBin subD (gVar 1) (gC (.int 1)))) (gTo 2) gYes (gFn F__law_of NoE [] (gAp 0 (gAd (gL (gLst (gCo (gC (.str "0")) (gCo (gC (.str "3")) (gCo (gC (.str "7")) gN))))) gAn))))))) gN)))
def G__law_number (E : Value → D → Prop) : TDS :=
  (gSeq (gSet 1 (gFn F__law_of E [] (gAp 0 (gAd (gL (gLst (gCo (gC (.int 1)) (gCo (gC (.int 1)) (gCo (gC (.int 2)) (gCo (gC (.int 5)) (gCo (gC (.int 30)) (gCo (gC (.int 300)) gN)))))))) gAn)))) (R__law_number_0 E))
@[irreducible] def F__law_number : FSp := specOf 1 N__law_number G__law_number
def N__law_odd : List Str := ["pot", "some", "value", "lap"]
def R__law_odd_0 (E : Value → D → Prop) : TDS :=
  (gRet (gVar 2))
def R__law_odd_1 (E : Value → D → Prop) : TDS :=
  (gSeq (gForC 1 2 (gRg1 (gFn F__law_take E [] (gAp 0 (gAd (gC (.int 3)) gAn)))) (gTo 3) (gSet 2 (gFn F__law_of E [] (gAp 0 (gAd (gL (gLst (gCo (gTup (gCo (gVar 2) gN)) (gCo (gL (gLst (gCo (gVar 2) gN))) (gCo (gDic1 "k" (gVar 2)) (gCo (gTup (gCo (gVar 2) (gCo (gVar 2) gN))) (gCo (gTup (gCo (gC (.str "at")) (gCo (gVar 2) gN))) gN))))))) gAn))))) (R__law_odd_0 E))
def R__law_odd_2 (E : Value → D → Prop) : TDS :=
  (gSeq (gSet 2 (gFn F__law_of E [] (gAp 0 (gAd (gVar 1) gAn)))) (R__law_odd_1 E))
def G__law_odd (E : Value → D → Prop) : TDS :=
  (gSeq (gSet 1 (gL (gLst (gCo (gC .none) (gCo (gC (.bool true)) (gCo (gC (.bool false)) (gCo (gC (.int 0)) (gCo (gNeg (gC (.int 1))) (gCo (gC (.int 7)) (gCo (gBin powD (gC (.int 10)) (gC (.int 9))) (gCo (gC (.str "")) (gCo (gC (.str "a")) (gCo (gC (.str "p")) (gCo (gC (.str "holds")) (gCo (gTup gN) (gCo (gL (gLst gN)) (gCo gDic0 (gCo (gTup (gCo (gC (.str "a")) gN)) (gCo (gL (gLst (gCo (gC (.str "a")) gN))) (gCo (gTup (gCo (gC (.int 1)) (gCo (gC (.int 2)) gN))) (gCo (gTup (gCo (gC .none) (gCo (gTup gN) gN))) gN))))))))))))))))))))) (R__law_odd_2 E))
@[irreducible] def F__law_odd : FSp := specOf 1 N__law_odd G__law_odd
def N_is_word : List Str := ["value", "sign"]
def R_is_word_0 (E : Value → D → Prop) : TDS :=
  (gRet (gCall allD (gCo (gL (gLcC (0 + 0) 0 [1] (gSeqI (gVar 0)) (gTo 1) gYes (gOrV (gBin inD (gVar 1) (gC d_SMALL)) (gBin inD (gVar 1) (gC d_FIGURES))))) gN)))
def G_is_word (E : Value → D → Prop) : TDS :=
  (gSeq (gIfS (gOrT (gNotT (gTB (gIsi isStrD (gVar 0)))) (gNotT (gTB (gChain leD leD (gC (.int 1)) (gCall lenD (gCo (gVar 0) gN)) (gC d_MOST_SIGNS))))) (gRet (gC (.bool false))) gNext) (R_is_word_0 E))
@[irreducible] def F_is_word : FSp := specOf 1 N_is_word G_is_word
def N__law_own_word : List Str := ["value", "sign"]
def R__law_own_word_0 (E : Value → D → Prop) : TDS :=
  (gRet (gCall allD (gCo (gL (gLcC (0 + 0) 0 [1] (gSeqI (gVar 0)) (gTo 1) gYes (gBin inD (gVar 1) (gC (.str "abcdefghijklmnopqrstuvwxyz0123456789"))))) gN)))
def G__law_own_word (E : Value → D → Prop) : TDS :=
  (gSeq (gIfS (gOrT (gNotT (gTB (gIsi isStrD (gVar 0)))) (gNotT (gTB (gChain leD leD (gC (.int 1)) (gCall lenD (gCo (gVar 0) gN)) (gC (.int 8)))))) (gRet (gC (.bool false))) gNext) (R__law_own_word_0 E))
@[irreducible] def F__law_own_word : FSp := specOf 1 N__law_own_word G__law_own_word
def N_is_name : List Str := ["value"]
def G_is_name (E : Value → D → Prop) : TDS :=
  (gRet (gAndV (gFn F_is_word E [] (gAd (gVar 0) gAn)) (gAndV (gBin inD (gBin ixD (gVar 0) (gC (.int 0))) (gC d_SMALL)) (gBin notinD (gVar 0) (gC d_RESERVED)))))
@[irreducible] def F_is_name : FSp := specOf 1 N_is_name G_is_name
def N__law_own_name : List Str := ["value", "words"]
def R__law_own_name_0 (E : Value → D → Prop) : TDS :=
  (gRet (gAndV (gFn F__law_own_word E [] (gAd (gVar 0) gAn)) (gAndV (gBin notinD (gBin ixD (gVar 0) (gC (.int 0))) (gC (.str "0123456789"))) (gBin notinD (gVar 0) (gM1 splitD (gVar 1) (gC (.str " ")))))))
def R__law_own_name_1 (E : Value → D → Prop) : TDS :=
  (gSeq (gSet 1 (gBin addD (gVar 1) (gC (.str " lines cells stack across up ink panels title")))) (R__law_own_name_0 E))
def G__law_own_name (E : Value → D → Prop) : TDS :=
  (gSeq (gSet 1 (gC (.str "number word keep is not from to above below let group tell count sum mean least most mark bars points"))) (R__law_own_name_1 E))
@[irreducible] def F__law_own_name : FSp := specOf 1 N__law_own_name G__law_own_name
def N_common : List Str := ["one", "other"]
def G_common (E : Value → D → Prop) : TDS :=
  (gRet (gCall gcdD (gCo (gVar 0) (gCo (gVar 1) gN))))
@[irreducible] def F_common : FSp := specOf 2 N_common G_common
def N_is_integer : List Str := ["value"]
def G_is_integer (E : Value → D → Prop) : TDS :=
  (gRet (gAndV (gIsi isIntD (gVar 0)) (gNotV (gIsi isBoolD (gVar 0)))))
@[irreducible] def F_is_integer : FSp := specOf 1 N_is_integer G_is_integer
def N_is_fraction : List Str := ["value", "part"]
def R_is_fraction_0 (E : Value → D → Prop) : TDS :=
  (gRet (gAndV (gBin geD (gBin ixD (gVar 0) (gC (.int 1))) (gC (.int 1))) (gBin eqD (gFn F_common E [] (gAd (gBin ixD (gVar 0) (gC (.int 0))) (gAd (gBin ixD (gVar 0) (gC (.int 1))) gAn))) (gC (.int 1)))))
def G_is_fraction (E : Value → D → Prop) : TDS :=
  (gSeq (gIfS (gOrT (gNotT (gTB (gIsi isTupD (gVar 0)))) (gOrT (gTB (gBin neD (gCall lenD (gCo (gVar 0) gN)) (gC (.int 2)))) (gNotT (gTB (gCall allD (gCo (gL (gLcC (0 + 0) 0 [1] (gSeqI (gVar 0)) (gTo 1) gYes (gFn F_is_integer NoE [] (gAd (gVar 1) gAn)))) gN)))))) (gRet (gC (.bool false))) gNext) (R_is_fraction_0 E))
@[irreducible] def F_is_fraction : FSp := specOf 1 N_is_fraction G_is_fraction
def N__law_own_read : List Str := ["text", "parts", "numbers", "part", "figures", "sign"]
def R__law_own_read_0 (E : Value → D → Prop) : TDS :=
  (gApp 2 (gCall intD (gCo (gVar 3) gN)))
def R__law_own_read_1 (E : Value → D → Prop) : TDS :=
  (gSeq (gIfS (gTB (gBin neD (gCall strD (gCo (gCall intD (gCo (gVar 3) gN)) gN)) (gVar 3))) (gRet (gC .none)) gNext) (R__law_own_read_0 E))
def R__law_own_read_2 (E : Value → D → Prop) : TDS :=
  (gSeq (gIfS (gOrT (gTB (gBin eqD (gVar 4) (gC (.str "")))) (gOrT (gTB (gBin gtD (gCall lenD (gCo (gVar 4) gN)) (gC (.int 300)))) (gNotT (gTB (gCall allD (gCo (gL (gLcC (0 + 0) 0 [5] (gSeqI (gVar 4)) (gTo 5) gYes (gBin inD (gVar 5) (gC (.str "0123456789"))))) gN)))))) (gRet (gC .none)) gNext) (R__law_own_read_1 E))
def R__law_own_read_3 (E : Value → D → Prop) : TDS :=
  (gRet (gIf (gAndT (gTB (gBin gtD (gBin ixD (gVarB 2) (gC (.int 1))) (gC (.int 1)))) (gTB (gBin eqD (gFn F__law_common E [] (gAd (gBin ixD (gVarB 2) (gC (.int 0))) (gAd (gBin ixD (gVarB 2) (gC (.int 1))) gAn))) (gC (.int 1))))) (gTup (gCo (gBin ixD (gVarB 2) (gC (.int 0))) (gCo (gBin ixD (gVarB 2) (gC (.int 1))) gN))) (gC .none)))
def R__law_own_read_4 (E : Value → D → Prop) : TDS :=
  (gSeq (gIfS (gTB (gBin eqD (gCall lenD (gCo (gVarB 2) gN)) (gC (.int 1)))) (gRet (gTup (gCo (gBin ixD (gVarB 2) (gC (.int 0))) (gCo (gC (.int 1)) gN)))) gNext) (R__law_own_read_3 E))
def R__law_own_read_5 (E : Value → D → Prop) : TDS :=
  (gSeq (gForC 0 0 (gSeqI (gVar 1)) (gTo 3) (gSeq (gSet 4 (gIf (gTB (gBin eqD (gSl slD (gVar 3) gNo (gPart (gC (.int 1)))) (gC (.str "-")))) (gSl slD (gVar 3) (gPart (gC (.int 1))) gNo) (gVar 3))) (R__law_own_read_2 E))) (R__law_own_read_4 E))
def R__law_own_read_6 (E : Value → D → Prop) : TDS :=
  (gSeq (gSetF 2 (gLst gN)) (R__law_own_read_5 E))
def R__law_own_read_7 (E : Value → D → Prop) : TDS :=
  (gSeq (gIfS (gTB (gBin gtD (gCall lenD (gCo (gVar 1) gN)) (gC (.int 2)))) (gRet (gC .none)) gNext) (R__law_own_read_6 E))
def G__law_own_read (E : Value → D → Prop) : TDS :=
  (gSeq (gSet 1 (gM1 splitD (gVar 0) (gC (.str "/")))) (R__law_own_read_7 E))
@[irreducible] def F__law_own_read : FSp := specOf 1 N__law_own_read G__law_own_read
def N_read_integer : List Str := ["text", "most", "figures", "sign"]
def R_read_integer_0 (E : Value → D → Prop) : TDS :=
  (gRet (gCall intD (gCo (gVar 0) gN)))
def R_read_integer_1 (E : Value → D → Prop) : TDS :=
  (gSeq (gIfS (gAndT (gTB (gBin eqD (gBin ixD (gVar 2) (gC (.int 0))) (gC (.str "0")))) (gOrT (gTB (gBin gtD (gCall lenD (gCo (gVar 2) gN)) (gC (.int 1)))) (gTB (gBin neD (gVar 0) (gVar 2))))) (gRet (gC .none)) gNext) (R_read_integer_0 E))
def R_read_integer_2 (E : Value → D → Prop) : TDS :=
  (gSeq (gIfS (gOrT (gNotT (gTB (gChain leD leD (gC (.int 1)) (gCall lenD (gCo (gVar 2) gN)) (gVar 1)))) (gNotT (gTB (gCall allD (gCo (gL (gLcC (0 + 0) 0 [3] (gSeqI (gVar 2)) (gTo 3) gYes (gBin inD (gVar 3) (gC d_FIGURES)))) gN))))) (gRet (gC .none)) gNext) (R_read_integer_1 E))
def G_read_integer (E : Value → D → Prop) : TDS :=
  (gSeq (gSet 2 (gIf (gTB (gBin eqD (gSl slD (gVar 0) gNo (gPart (gC (.int 1)))) (gC d_MINUS))) (gSl slD (gVar 0) (gPart (gC (.int 1))) gNo) (gVar 0))) (R_read_integer_2 E))
@[irreducible] def F_read_integer : FSp := specOf 2 N_read_integer G_read_integer
def N_read_of_figures : List Str := ["text", "most", "parts", "numbers", "found", "part"]
def R_read_of_figures_0 (E : Value → D → Prop) : TDS :=
  (gRet (gIf (gAndT (gTB (gBin gtD (gBin ixD (gVar 3) (gC (.int 1))) (gC (.int 1)))) (gTB (gFn F_is_fraction E [] (gAd (gVar 4) gAn)))) (gVar 4) (gC .none)))
def R_read_of_figures_1 (E : Value → D → Prop) : TDS :=
  (gSeq (gSet 4 (gTup (gCo (gBin ixD (gVar 3) (gC (.int 0))) (gCo (gBin ixD (gVar 3) (gC (.int 1))) gN)))) (R_read_of_figures_0 E))
def R_read_of_figures_2 (E : Value → D → Prop) : TDS :=
  (gSeq (gIfS (gTB (gBin eqD (gCall lenD (gCo (gVar 2) gN)) (gC (.int 1)))) (gRet (gTup (gCo (gBin ixD (gVar 3) (gC (.int 0))) (gCo (gC (.int 1)) gN)))) gNext) (R_read_of_figures_1 E))
def R_read_of_figures_3 (E : Value → D → Prop) : TDS :=
  (gSeq (gIfS (gOrT (gNotT (gTB (gChain leD leD (gC (.int 1)) (gCall lenD (gCo (gVar 2) gN)) (gC (.int 2))))) (gTB (gBin inD (gC .none) (gVar 3)))) (gRet (gC .none)) gNext) (R_read_of_figures_2 E))
def R_read_of_figures_4 (E : Value → D → Prop) : TDS :=
  (gSeq (gSet 3 (gL (gLcC (0 + 0) 0 [5] (gSeqI (gVar 2)) (gTo 5) gYes (gFn F_read_integer NoE [] (gAd (gVar 5) (gAd (gVar 1) gAn)))))) (R_read_of_figures_3 E))
def G_read_of_figures (E : Value → D → Prop) : TDS :=
  (gSeq (gSet 2 (gIf (gTB (gIsi isStrD (gVar 0))) (gM1 splitD (gVar 0) (gC d_STROKE)) (gL (gLst gN)))) (R_read_of_figures_4 E))
@[irreducible] def F_read_of_figures : FSp := specOf 2 N_read_of_figures G_read_of_figures
def N_read_fraction : List Str := ["text"]
def G_read_fraction (E : Value → D → Prop) : TDS :=
  (gRet (gFn F_read_of_figures E [] (gAd (gVar 0) (gAd (gC d_MOST_FIGURES) gAn))))
@[irreducible] def F_read_fraction : FSp := specOf 1 N_read_fraction G_read_fraction
def N_fraction_text : List Str := ["one"]
def G_fraction_text (E : Value → D → Prop) : TDS :=
  (gRet (gIf (gTB (gBin eqD (gBin ixD (gVar 0) (gC (.int 1))) (gC (.int 1)))) (gCall strD (gCo (gBin ixD (gVar 0) (gC (.int 0))) gN)) (gBin addD (gBin addD (gCall strD (gCo (gBin ixD (gVar 0) (gC (.int 0))) gN)) (gC d_STROKE)) (gCall strD (gCo (gBin ixD (gVar 0) (gC (.int 1))) gN)))))
@[irreducible] def F_fraction_text : FSp := specOf 1 N_fraction_text G_fraction_text
def N__law_right : List Str := ["pot", "words", "signs", "value", "top", "low", "by", "one", "due", "text", "lap"]
def R__law_right_0 (E : Value → D → Prop) : TDS :=
  (gIfS (gTB (gBin neD (gFn F_is_name E [] (gAd (gVar 3) gAn)) (gFn F__law_own_name E [] (gAd (gVar 3) gAn)))) (gRet (gC (.bool false))) gNext)
def R__law_right_1 (E : Value → D → Prop) : TDS :=
  (gIfS (gOrT (gTB (gBin neD (gFn F_fraction_text E [] (gAd (gVar 7) gAn)) (gVar 9))) (gTB (gBin neD (gCall reprD (gCo (gFn F_read_fraction E [] (gAd (gVar 9) gAn)) gN)) (gCall reprD (gCo (gVar 7) gN))))) (gRet (gC (.bool false))) gNext)
def R__law_right_2 (E : Value → D → Prop) : TDS :=
  (gIfS (gTB (gVar 8)) (gSeq (gSet 9 (gIf (gTB (gBin eqD (gBin ixD (gVar 7) (gC (.int 1))) (gC (.int 1)))) (gCall strD (gCo (gBin ixD (gVar 7) (gC (.int 0))) gN)) (gBin addD (gBin addD (gCall strD (gCo (gBin ixD (gVar 7) (gC (.int 0))) gN)) (gC (.str "/"))) (gCall strD (gCo (gBin ixD (gVar 7) (gC (.int 1))) gN))))) (R__law_right_1 E)) gNext)
def R__law_right_3 (E : Value → D → Prop) : TDS :=
  (gSeq (gIfS (gTB (gBin neD (gFn F_is_fraction E [] (gAd (gVar 7) gAn)) (gVar 8))) (gRet (gC (.bool false))) gNext) (R__law_right_2 E))
def R__law_right_4 (E : Value → D → Prop) : TDS :=
  (gSeq (gSet 8 (gAndV (gVar 8) (gBin eqD (gFn F__law_common E [] (gAd (gBin ixD (gVar 7) (gC (.int 0))) (gAd (gBin ixD (gVar 7) (gC (.int 1))) gAn))) (gC (.int 1))))) (R__law_right_3 E))
def R__law_right_5 (E : Value → D → Prop) : TDS :=
  (gIfS (gTB (gBin neD (gCall reprD (gCo (gFn F_read_fraction E [] (gAd (gVar 3) gAn)) gN)) (gCall reprD (gCo (gVar 8) gN)))) (gRet (gC (.bool false))) gNext)
def R__law_right_6 (E : Value → D → Prop) : TDS :=
  (gRet (gC (.bool true)))
def R__law_right_7 (E : Value → D → Prop) : TDS :=
  (gSeq (gForC 0 0 (gSeqI (gTup (gCo (gVar 9) (gCo (gC (.str "+1")) (gCo (gC (.str "01")) (gCo (gC (.str "-0")) (gCo (gC (.str "1/02")) (gCo (gFn F__law_odd E [] (gAp 0 gAn)) gN)))))))) (gTo 3) (gSeq (gSet 8 (gIf (gTB (gIsi isStrD (gVar 3))) (gFn F__law_own_read E [] (gAd (gVar 3) gAn)) (gC .none))) (R__law_right_5 E))) (R__law_right_6 E))
def R__law_right_8 (E : Value → D → Prop) : TDS :=
  (gSeq (gSet 9 (gBin addD (gCall strD (gCo (gVar 4) gN)) (gFn F__law_of E [] (gAp 0 (gAd (gL (gLst (gCo (gC (.str "")) (gCo (gC (.str "/")) (gCo (gC (.str "/1")) (gCo (gC (.str "/0")) (gCo (gC (.str "/-2")) (gCo (gC (.str "//2")) (gCo (gC (.str ".5")) (gCo (gC (.str " ")) (gCo (gBin addD (gC (.str "/")) (gCall strD (gCo (gVar 5) gN))) (gCo (gBin mulD (gC (.str "0")) (gC (.int 5))) gN)))))))))))) gAn))))) (R__law_right_7 E))
def R__law_right_9 (E : Value → D → Prop) : TDS :=
  (gSeq (gForC 0 0 (gSeqI (gTup (gCo (gTup (gCo (gBin fdivD (gVar 4) (gVar 6)) (gCo (gBin fdivD (gVar 5) (gVar 6)) gN))) (gCo (gTup (gCo (gVar 4) (gCo (gVar 5) gN))) (gCo (gTup (gCo (gC (.int 0)) (gCo (gC (.int 1)) gN))) (gCo (gTup (gCo (gC (.int 0)) (gCo (gC (.int 2)) gN))) (gCo (gTup (gCo (gVar 4) (gCo (gC (.int 0)) gN))) (gCo (gTup (gCo (gVar 4) (gCo (gNeg (gVar 5)) gN))) (gCo (gTup (gCo (gVar 4) gN)) (gCo (gL (gLst (gCo (gC (.int 1)) (gCo (gC (.int 2)) gN)))) (gCo (gTup (gCo (gC (.bool true)) (gCo (gC (.int 1)) gN))) gN))))))))))) (gTo 7) (gSeq (gSet 8 (gAndV (gIsi isTupD (gVar 7)) (gAndV (gBin eqD (gCall lenD (gCo (gVar 7) gN)) (gC (.int 2))) (gAndV (gNotV (gIsi isBoolD (gBin ixD (gVar 7) (gC (.int 0))))) (gBin gtD (gBin ixD (gVar 7) (gC (.int 1))) (gC (.int 0))))))) (R__law_right_4 E))) (R__law_right_8 E))
def R__law_right_10 (E : Value → D → Prop) : TDS :=
  (gSeq (gSet 6 (gFn F__law_common E [] (gAd (gVar 4) (gAd (gVar 5) gAn)))) (R__law_right_9 E))
def R__law_right_11 (E : Value → D → Prop) : TDS :=
  (gSeq (gPar 4 5 (gCo (gBin mulD (gFn F__law_number E [] (gAp 0 gAn)) (gFn F__law_of E [] (gAp 0 (gAd (gL (gLst (gCo (gC (.int 1)) (gCo (gNeg (gC (.int 1))) gN)))) gAn)))) (gCo (gFn F__law_number E [] (gAp 0 gAn)) gN))) (R__law_right_10 E))
def R__law_right_12 (E : Value → D → Prop) : TDS :=
  (gSeq (gForC 0 0 (gSeqI (gBin addD (gVar 1) (gL (gLst (gCo (gM1 joinD (gC (.str "")) (gVar 2)) (gCo (gFn F__law_odd E [] (gAp 0 gAn)) gN)))))) (gTo 3) (gSeq (gIfS (gTB (gBin neD (gFn F_is_word E [] (gAd (gVar 3) gAn)) (gFn F__law_own_word E [] (gAd (gVar 3) gAn)))) (gRet (gC (.bool false))) gNext) (R__law_right_0 E))) (R__law_right_11 E))
def R__law_right_13 (E : Value → D → Prop) : TDS :=
  (gSeq (gSet 2 (gL (gLcC (0 + 1) 9 [10] (gRg1 (gBin addD (gC (.int 1)) (gFn F__law_take E [] (gAp 0 (gAd (gC (.int 9)) gAn))))) (gTo 10) gYes (gFn F__law_of NoE [] (gAp 0 (gAd (gL (gLst (gCo (gC (.str "a")) (gCo (gC (.str "z")) (gCo (gC (.str "0")) (gCo (gC (.str "9")) (gCo (gC (.str ".")) (gCo (gC (.str "B")) gN)))))))) gAn)))))) (R__law_right_12 E))
def G__law_right (E : Value → D → Prop) : TDS :=
  (gSeq (gSet 1 (gL (gLst (gCo (gC (.str "rome")) (gCo (gC (.str "up")) (gCo (gC (.str "ups")) (gCo (gC (.str "abcdefgh")) (gCo (gC (.str "abcdefghi")) (gCo (gC (.str "7a")) (gCo (gC (.str "a7")) (gCo (gC (.str "A")) (gCo (gC (.str "")) (gCo (gC (.str "a b")) (gCo (gC (.str "a-b")) (gCo (gC (.str "word")) (gCo (gC (.str "title")) gN)))))))))))))))) (R__law_right_13 E))
@[irreducible] def F__law_right : FSp := specOf 1 N__law_right G__law_right
def N_law : List Str := ["script", "place", "pot", "lap"]
def R_law_0 (E : Value → D → Prop) : TDS :=
  (gRet (gC (.bool true)))
def G_law (E : Value → D → Prop) : TDS :=
  (gSeq (gForC 0 0 (gSeqI (gFn F__law_cells E [] (gAs 0 (gAd (gC (.int 3)) gAn)))) (gTo 1) (gPot F__law_pot 2 0 1 (gIfS (gNotT (gTB (gCall allD (gCo (gL (gLcC (0 + 622) 2488 [3] (gRg1 (gC (.int 4))) (gTo 3) gYes (gFn F__law_right NoE [] (gAp 2 gAn)))) gN)))) (gRet (gC (.bool false))) gNext))) (R_law_0 E))
@[irreducible] def F_law : FSp := specOf 1 N_law G_law
end K00
/-! K00m: the plain law. -/
namespace K00
open PySem DL
variable {K : D → Prop} {E : Value → D → Prop}
theorem lit {b : Nat} {i : Int} (h : i.natAbs < 2 ^ b := by decide) : Sz b i := h
theorem cdiv_of {i j : Int} {b : Nat} (h : 0 < j) (s : Sz b j) (l : b < 9000) : L2.CDivW i j := ⟨h, Nat.lt_of_le_of_lt s.log l⟩
theorem three : 3 ≤ sizeLine := by rw [sizeLine_eq]; decide
/-! ### draws -/
theorem take_ok {u : Int} (hu : 0 < u) (hz : u < 2 ^ 24) (h : ∀ i, 0 ≤ i → i < u → K (.int i)) : F__law_take [.pot, .dat (.int u)] K E := by
  have su : Sz 24 u := Sz.of_range (Int.le_of_lt hu) hz
  unfold F__law_take specOf G__law_take N__law_take
  refine ⟨rfl, ?_⟩
  simp only [gSeq, gSet, gVar, gVarB, gC, gBin, gChain, gTB, gIf, gIfS, gRet, gCall, gCallF, gCo, gN, gTup, gLst, gL, gNotT, gNotV, gAndT, gOrT, gAndV, gOrV, gIsi, gSl, gPart, gNo, gM0, gM1, gFn, gAn, gAd, gAp, gAs, gAsg, gTo, gToT, gToC, gTo0, gNext, gNeg, gPs0, gTick, gPix, gLenS, gIxS, gSumS, gLRg, gPar, gDic0, gDic1, gYes, gSeqI, gRg1, gRg2, gRetN, gSetF, gApp, gExt, gDrop, gFrz, gLcC_x, gForC_x, clr, startD, nth, List.set, true_or, or_true, true_and, and_true, R__law_pot_0, R__law_pot_1, R__law_pot_2, R__law_common_0, R__law_common_1, R__law_take_0, R__law_take_1, R__law_take_2, R__law_take_3, R__law_take_4, R__law_take_5, R__law_take_6, R__law_number_0, R__law_odd_0, R__law_odd_1, R__law_odd_2, R_is_word_0, R__law_own_word_0, R__law_own_name_0, R__law_own_name_1, R_is_fraction_0, R__law_own_read_0, R__law_own_read_1, R__law_own_read_2, R__law_own_read_3, R__law_own_read_4, R__law_own_read_5, R__law_own_read_6, R__law_own_read_7, R_read_integer_0, R_read_integer_1, R_read_integer_2, R_read_of_figures_0, R_read_of_figures_1, R_read_of_figures_2, R_read_of_figures_3, R_read_of_figures_4, addD_ii, addD_ss, addD_ll, addD_tt, subD_ii, mulD_ii, mulD_si, mulD_li, fdivD_ii, modD_ii, powD_ii, eqD_ii, eqD_ss, eqD_bb, neD_ii, neD_ss, neD_bb, ltD_ii, ltD_ss, leD_ii, gtD_ii, geD_ii, isD_n, isD_bb, isnotD_n, isnotD_bb, inD_ss, inD_l, inD_t, notinD_ss, notinD_l, notinD_t, ixD_l, ixD_t, ixD_s, slD_t, slD_s, slD_l, lenD_s, lenD_l, lenD_t, tupD_l, tupD_t, listD_l, listD_t, allD_l, anyD_l, sumD_l, maxD_ii, minD_ii, maxD_l, minD_l, absD_i, gcdD_ii, intD_i, intD_b, intD_s, strD_i, strD_s, reprD_1, joinD_l, splitD_s, PB_0, PB_1, PB_2, gIte_t, gIte_f, gIte_d, gIte_n]
  intro v hv
  refine ⟨fun h0 v1 hv1 => ⟨hu, fun v2 hv2 => ⟨cdiv_of hu su (by decide), Int.ediv_nonneg hv2.1 (Int.le_of_lt hu), ?_, ?_⟩⟩, fun h0 => ⟨by decide, fun z hz2 => ⟨by decide, ?_⟩⟩⟩
  · exact Int.lt_of_le_of_lt (Int.ediv_le_self _ hv2.1) hv2.2
  · exact h _ (Int.emod_nonneg _ (Int.ne_of_gt hu)) (Int.emod_lt_of_pos _ hu)
  · have h5 : z % 5 = 0 ∨ z % 5 = 1 ∨ z % 5 = 2 ∨ z % 5 = 3 ∨ z % 5 = 4 := by omega
    obtain ⟨p, hp, p0, p1⟩ : ∃ p : Int, L2.atI [PyData.int 2147483647, PyData.int 2147483629, PyData.int 2147483587, PyData.int 2147483579, PyData.int 2147483563] (z % 5) = some (.int p) ∧ 0 < p ∧ p < 2 ^ 31 := by
      rcases h5 with e | e | e | e | e <;> rw [e] <;> exact ⟨_, rfl, by decide, by decide⟩
    refine ⟨_, hp, fun a ha b hb => ?_⟩
    have sa : Sz 61 a := Sz.of_range ha.1 ha.2
    have sb : Sz 23 b := Sz.of_range hb.1 (by omega)
    have sp : Sz 31 p := Sz.of_range (Int.le_of_lt p0) p1
    have l1 : Sz 30 129221 := lit
    refine ⟨Sz.mulOk l1 sb, fun c hc => ?_⟩
    have sc : Sz 23 c := Sz.of_range hc.1 (by omega)
    refine ⟨Sz.mulOk (l1.mul sb) sc, by decide, ?_, ?_⟩
    · have l2 : Sz 30 7861 := lit
      have := ((sa.add ((l1.mul sb).mul sc)).add l2).bits
      omega
    · simp only [modD_ii, intD_i]
      refine ⟨p0, by decide, fun q hq => ?_⟩
      have sq : Sz 23 q := Sz.of_range hq.1 (by omega)
      refine ⟨Sz.mulOk (lit (b := 30)) sq, ?_⟩
      simp only [addD_ii, mulD_ii, modD_ii, intD_i, fdivD_ii]
      refine ⟨Sz.mulOk (sp.emod p0) ((Sz.emod (lit (b := 30)) (by decide)).add ((lit (b := 30)).mul sq)), by decide, ⟨by decide, by decide⟩, hu, ?_⟩
      exact h _ (Int.emod_nonneg _ (Int.ne_of_gt hu)) (Int.emod_lt_of_pos _ hu)
theorem of_ok {xs : List D} (h0 : xs ≠ []) (hz : xs.length < 2 ^ 24) (h : ∀ x ∈ xs, K x) : F__law_of [.pot, .dat (.list xs)] K E := by
  have hp : 0 < xs.length := List.length_pos_iff.mpr h0
  unfold F__law_of specOf G__law_of N__law_of
  refine ⟨rfl, ?_⟩
  simp only [gSeq, gSet, gVar, gVarB, gC, gBin, gChain, gTB, gIf, gIfS, gRet, gCall, gCallF, gCo, gN, gTup, gLst, gL, gNotT, gNotV, gAndT, gOrT, gAndV, gOrV, gIsi, gSl, gPart, gNo, gM0, gM1, gFn, gAn, gAd, gAp, gAs, gAsg, gTo, gToT, gToC, gTo0, gNext, gNeg, gPs0, gTick, gPix, gLenS, gIxS, gSumS, gLRg, gPar, gDic0, gDic1, gYes, gSeqI, gRg1, gRg2, gRetN, gSetF, gApp, gExt, gDrop, gFrz, gLcC_x, gForC_x, clr, startD, nth, List.set, true_or, or_true, true_and, and_true, R__law_pot_0, R__law_pot_1, R__law_pot_2, R__law_common_0, R__law_common_1, R__law_take_0, R__law_take_1, R__law_take_2, R__law_take_3, R__law_take_4, R__law_take_5, R__law_take_6, R__law_number_0, R__law_odd_0, R__law_odd_1, R__law_odd_2, R_is_word_0, R__law_own_word_0, R__law_own_name_0, R__law_own_name_1, R_is_fraction_0, R__law_own_read_0, R__law_own_read_1, R__law_own_read_2, R__law_own_read_3, R__law_own_read_4, R__law_own_read_5, R__law_own_read_6, R__law_own_read_7, R_read_integer_0, R_read_integer_1, R_read_integer_2, R_read_of_figures_0, R_read_of_figures_1, R_read_of_figures_2, R_read_of_figures_3, R_read_of_figures_4, addD_ii, addD_ss, addD_ll, addD_tt, subD_ii, mulD_ii, mulD_si, mulD_li, fdivD_ii, modD_ii, powD_ii, eqD_ii, eqD_ss, eqD_bb, neD_ii, neD_ss, neD_bb, ltD_ii, ltD_ss, leD_ii, gtD_ii, geD_ii, isD_n, isD_bb, isnotD_n, isnotD_bb, inD_ss, inD_l, inD_t, notinD_ss, notinD_l, notinD_t, ixD_l, ixD_t, ixD_s, slD_t, slD_s, slD_l, lenD_s, lenD_l, lenD_t, tupD_l, tupD_t, listD_l, listD_t, allD_l, anyD_l, sumD_l, maxD_ii, minD_ii, maxD_l, minD_l, absD_i, gcdD_ii, intD_i, intD_b, intD_s, strD_i, strD_s, reprD_1, joinD_l, splitD_s, PB_0, PB_1, PB_2, gIte_t, gIte_f, gIte_d, gIte_n, List.append_nil]
  refine take_ok (by omega) (by omega) fun i h1 h2 => ?_
  simp only [ixD_l]
  have hi : i.toNat < xs.length := by omega
  refine ⟨xs[i.toNat], ?_, h _ (List.getElem_mem hi)⟩
  have e := L2.atI_nat (List.getElem?_eq_getElem hi)
  rwa [Int.toNat_of_nonneg h1] at e
theorem pot_ok {ns : List Int} {n : Int} (h0 : 0 ≤ n) (h1 : n < 1000) (h : ∀ x y : Int, 0 ≤ x → x < 10 ^ 300 → 0 ≤ y → y < 2 ^ 61 → K (.list [.int x, .int y, .int 0])) : F__law_pot [.scr ns, .dat (.int n)] K E := by
  unfold F__law_pot specOf G__law_pot N__law_pot
  refine ⟨rfl, ?_⟩
  simp only [gSeq, gSet, gVar, gVarB, gC, gBin, gChain, gTB, gIf, gIfS, gRet, gCall, gCallF, gCo, gN, gTup, gLst, gL, gNotT, gNotV, gAndT, gOrT, gAndV, gOrV, gIsi, gSl, gPart, gNo, gM0, gM1, gFn, gAn, gAd, gAp, gAs, gAsg, gTo, gToT, gToC, gTo0, gNext, gNeg, gPs0, gTick, gPix, gLenS, gIxS, gSumS, gLRg, gPar, gDic0, gDic1, gYes, gSeqI, gRg1, gRg2, gRetN, gSetF, gApp, gExt, gDrop, gFrz, gLcC_x, gForC_x, clr, startD, nth, List.set, true_or, or_true, true_and, and_true, R__law_pot_0, R__law_pot_1, R__law_pot_2, R__law_common_0, R__law_common_1, R__law_take_0, R__law_take_1, R__law_take_2, R__law_take_3, R__law_take_4, R__law_take_5, R__law_take_6, R__law_number_0, R__law_odd_0, R__law_odd_1, R__law_odd_2, R_is_word_0, R__law_own_word_0, R__law_own_name_0, R__law_own_name_1, R_is_fraction_0, R__law_own_read_0, R__law_own_read_1, R__law_own_read_2, R__law_own_read_3, R__law_own_read_4, R__law_own_read_5, R__law_own_read_6, R__law_own_read_7, R_read_integer_0, R_read_integer_1, R_read_integer_2, R_read_of_figures_0, R_read_of_figures_1, R_read_of_figures_2, R_read_of_figures_3, R_read_of_figures_4, addD_ii, addD_ss, addD_ll, addD_tt, subD_ii, mulD_ii, mulD_si, mulD_li, fdivD_ii, modD_ii, powD_ii, eqD_ii, eqD_ss, eqD_bb, neD_ii, neD_ss, neD_bb, ltD_ii, ltD_ss, leD_ii, gtD_ii, geD_ii, isD_n, isD_bb, isnotD_n, isnotD_bb, inD_ss, inD_l, inD_t, notinD_ss, notinD_l, notinD_t, ixD_l, ixD_t, ixD_s, slD_t, slD_s, slD_l, lenD_s, lenD_l, lenD_t, tupD_l, tupD_t, listD_l, listD_t, allD_l, anyD_l, sumD_l, maxD_ii, minD_ii, maxD_l, minD_l, absD_i, gcdD_ii, intD_i, intD_b, intD_s, strD_i, strD_s, reprD_1, joinD_l, splitD_s, PB_0, PB_1, PB_2, gIte_t, gIte_f, gIte_d, gIte_n]
  have hM : ((10 : Int) ^ Int.toNat 60) ^ Int.toNat 5 = 10 ^ 300 := by decide +kernel
  have pM : (0 : Int) < 10 ^ 300 := by decide +kernel
  have sM : Sz 1000 ((10 : Int) ^ 300) := by unfold Sz; decide +kernel
  have l0 : Sz 1 0 := lit
  have l1 : Sz 1 1 := lit
  have hx : ∀ (a : Int) (b : Bool), DL.MulOk (a % 10 ^ 300) (if b = true then 1 else 0) ∧ 0 ≤ a % 10 ^ 300 * (if b = true then 1 else 0) ∧ a % 10 ^ 300 * (if b = true then 1 else 0) < 10 ^ 300 := fun a b => by
    cases b with
    | false =>
      rw [if_neg (by decide), Int.mul_zero]
      exact ⟨Sz.mulOk (Sz.emod sM pM) l0, Int.le_refl 0, pM⟩
    | true =>
      rw [if_pos rfl, Int.mul_one]
      exact ⟨Sz.mulOk (Sz.emod sM pM) l1, Int.emod_nonneg _ (Int.ne_of_gt pM), Int.emod_lt_of_pos _ pM⟩
  have l2 : Sz 30 133869 := lit
  have l3 : Sz 30 30299 := lit
  have l4 : Sz 30 41583 := lit
  have l5 : Sz 62 2305843009213693951 := lit
  have sn : Sz 10 n := Sz.of_range h0 (by omega)
  refine ⟨fun hn => ?_, fun hn => ⟨by decide, Sz.mulOk l4 sn, ?_⟩⟩
  · have hi : n.toNat < ns.length := by omega
    have e := L2.atI_nat (List.getElem?_eq_getElem hi)
    rw [Int.toNat_of_nonneg h0] at e
    refine ⟨_, e, ?_⟩
    refine ⟨by decide, by decide +kernel, by decide, by decide +kernel, by decide +kernel, by decide, by decide +kernel, ?_, by decide, Sz.mulOk (Sz.emod l5 (by decide)) l2, Sz.mulOk l3 sn, Sz.mulOk (l3.mul sn) sn, by decide, three, ?_⟩
    · rw [hM]
      exact (hx _ _).1
    · rw [hM]
      refine h _ _ ?_ ?_ ?_ ?_
      · exact (hx _ _).2.1
      · exact (hx _ _).2.2
      · exact Int.emod_nonneg _ (by decide)
      · exact Int.lt_of_lt_of_le (Int.emod_lt_of_pos _ (by decide)) (by decide)
  · refine ⟨by decide, by decide +kernel, by decide, by decide +kernel, by decide +kernel, by decide, by decide +kernel, ?_, by decide, Sz.mulOk (Sz.emod l5 (by decide)) l2, Sz.mulOk l3 sn, Sz.mulOk (l3.mul sn) sn, by decide, three, ?_⟩
    · rw [hM]
      exact (hx _ _).1
    · rw [hM]
      refine h _ _ ?_ ?_ ?_ ?_
      · exact (hx _ _).2.1
      · exact (hx _ _).2.2
      · exact Int.emod_nonneg _ (by decide)
      · exact Int.lt_of_lt_of_le (Int.emod_lt_of_pos _ (by decide)) (by decide)
theorem cells_ok {ns : List Int} {m : Int} (h0 : 1 ≤ m) (h1 : m < 1000) (h : ∀ k : Int, 1 ≤ k → k ≤ m → K (.list (rgD 0 k))) : F__law_cells [.scr ns, .dat (.int m)] K E := by
  unfold F__law_cells specOf G__law_cells N__law_cells
  refine ⟨rfl, ?_⟩
  simp only [gSeq, gSet, gVar, gVarB, gC, gBin, gChain, gTB, gIf, gIfS, gRet, gCall, gCallF, gCo, gN, gTup, gLst, gL, gNotT, gNotV, gAndT, gOrT, gAndV, gOrV, gIsi, gSl, gPart, gNo, gM0, gM1, gFn, gAn, gAd, gAp, gAs, gAsg, gTo, gToT, gToC, gTo0, gNext, gNeg, gPs0, gTick, gPix, gLenS, gIxS, gSumS, gLRg, gPar, gDic0, gDic1, gYes, gSeqI, gRg1, gRg2, gRetN, gSetF, gApp, gExt, gDrop, gFrz, gLcC_x, gForC_x, clr, startD, nth, List.set, true_or, or_true, true_and, and_true, R__law_pot_0, R__law_pot_1, R__law_pot_2, R__law_common_0, R__law_common_1, R__law_take_0, R__law_take_1, R__law_take_2, R__law_take_3, R__law_take_4, R__law_take_5, R__law_take_6, R__law_number_0, R__law_odd_0, R__law_odd_1, R__law_odd_2, R_is_word_0, R__law_own_word_0, R__law_own_name_0, R__law_own_name_1, R_is_fraction_0, R__law_own_read_0, R__law_own_read_1, R__law_own_read_2, R__law_own_read_3, R__law_own_read_4, R__law_own_read_5, R__law_own_read_6, R__law_own_read_7, R_read_integer_0, R_read_integer_1, R_read_integer_2, R_read_of_figures_0, R_read_of_figures_1, R_read_of_figures_2, R_read_of_figures_3, R_read_of_figures_4, addD_ii, addD_ss, addD_ll, addD_tt, subD_ii, mulD_ii, mulD_si, mulD_li, fdivD_ii, modD_ii, powD_ii, eqD_ii, eqD_ss, eqD_bb, neD_ii, neD_ss, neD_bb, ltD_ii, ltD_ss, leD_ii, gtD_ii, geD_ii, isD_n, isD_bb, isnotD_n, isnotD_bb, inD_ss, inD_l, inD_t, notinD_ss, notinD_l, notinD_t, ixD_l, ixD_t, ixD_s, slD_t, slD_s, slD_l, lenD_s, lenD_l, lenD_t, tupD_l, tupD_t, listD_l, listD_t, allD_l, anyD_l, sumD_l, maxD_ii, minD_ii, maxD_l, minD_l, absD_i, gcdD_ii, intD_i, intD_b, intD_s, strD_i, strD_s, reprD_1, joinD_l, splitD_s, PB_0, PB_1, PB_2, gIte_t, gIte_f, gIte_d, gIte_n]
  refine ⟨?_, ?_, h _ ?_ ?_⟩ <;> by_cases c : (ns.length : Int) < m <;> simp only [c, if_true, if_false] <;> split <;> omega
/-! ### words, names -/
def smallL : List Nat := (Str.ofString "abcdefghijklmnopqrstuvwxyz").cps.toList
def figL : List Nat := (Str.ofString "0123456789").cps.toList
def signB (c : Nat) : Bool := decide (c ∈ smallL) || decide (c ∈ figL)
def wordS (x : Str) : Bool := decide (1 ≤ x.length ∧ x.length ≤ 8) && x.cps.toList.all signB
def wordB : D → Bool
  | .str x => wordS x
  | _ => false
theorem mem_signs {x : Str} {d : D} (h : d ∈ signs x) : ∃ c ∈ x.cps.toList, d = .str ⟨#[c]⟩ := by
  obtain ⟨c, hc, e⟩ := List.mem_map.mp h
  exact ⟨c, hc, e.symm⟩
theorem all_signs {x : Str} {f : D → D} {p : Nat → Bool} (e : ∀ c, f (.str ⟨#[c]⟩) = .bool (p c)) (h : K (.bool (x.cps.toList.all p))) : ∃ bs, (signs x).map f = List.map PyData.bool bs ∧ K (.bool (bs.all id)) := by
  refine ⟨x.cps.toList.map p, ?_, ?_⟩
  · unfold signs
    rw [List.map_map, List.map_map]
    exact List.map_congr_left fun c _ => e c
  · rw [List.all_map]
    exact h
theorem len_cast {x : Str} : ((1 : Int) ≤ (x.length : Int)) = (1 ≤ x.length) := by
  refine propext ⟨fun h => by omega, fun h => by omega⟩
def strP (p : Nat → Bool) : D → D
  | .str x => .bool (x.cps.toList.all p)
  | _ => .none
theorem strP_1 {p : Nat → Bool} (c : Nat) : strP p (.str ⟨#[c]⟩) = .bool (p c) := by
  show PyData.bool ([c].all p) = _
  simp
theorem isWord_ok {d : D} (h : K (.bool (wordB d))) : F_is_word [.dat d] K E := by
  unfold F_is_word specOf G_is_word N_is_word
  refine ⟨rfl, ?_⟩
  cases d with
  | str x =>
    simp only [gSeq, gSet, gVar, gVarB, gC, gBin, gChain, gTB, gIf, gIfS, gRet, gCall, gCallF, gCo, gN, gTup, gLst, gL, gNotT, gNotV, gAndT, gOrT, gAndV, gOrV, gIsi, gSl, gPart, gNo, gM0, gM1, gFn, gAn, gAd, gAp, gAs, gAsg, gTo, gToT, gToC, gTo0, gNext, gNeg, gPs0, gTick, gPix, gLenS, gIxS, gSumS, gLRg, gPar, gDic0, gDic1, gYes, gSeqI, gRg1, gRg2, gRetN, gSetF, gApp, gExt, gDrop, gFrz, gLcC_x, gForC_x, clr, startD, nth, List.set, true_or, or_true, true_and, and_true, R__law_pot_0, R__law_pot_1, R__law_pot_2, R__law_common_0, R__law_common_1, R__law_take_0, R__law_take_1, R__law_take_2, R__law_take_3, R__law_take_4, R__law_take_5, R__law_take_6, R__law_number_0, R__law_odd_0, R__law_odd_1, R__law_odd_2, R_is_word_0, R__law_own_word_0, R__law_own_name_0, R__law_own_name_1, R_is_fraction_0, R__law_own_read_0, R__law_own_read_1, R__law_own_read_2, R__law_own_read_3, R__law_own_read_4, R__law_own_read_5, R__law_own_read_6, R__law_own_read_7, R_read_integer_0, R_read_integer_1, R_read_integer_2, R_read_of_figures_0, R_read_of_figures_1, R_read_of_figures_2, R_read_of_figures_3, R_read_of_figures_4, addD_ii, addD_ss, addD_ll, addD_tt, subD_ii, mulD_ii, mulD_si, mulD_li, fdivD_ii, modD_ii, powD_ii, eqD_ii, eqD_ss, eqD_bb, neD_ii, neD_ss, neD_bb, ltD_ii, ltD_ss, leD_ii, gtD_ii, geD_ii, isD_n, isD_bb, isnotD_n, isnotD_bb, inD_ss, inD_l, inD_t, notinD_ss, notinD_l, notinD_t, ixD_l, ixD_t, ixD_s, slD_t, slD_s, slD_l, lenD_s, lenD_l, lenD_t, tupD_l, tupD_t, listD_l, listD_t, allD_l, anyD_l, sumD_l, maxD_ii, minD_ii, maxD_l, minD_l, absD_i, gcdD_ii, intD_i, intD_b, intD_s, strD_i, strD_s, reprD_1, joinD_l, splitD_s, PB_0, PB_1, PB_2, gIte_t, gIte_f, gIte_d, gIte_n, isStrD, d_MOST_SIGNS, Bool.not_true, Bool.not_false]
    have h' : K (.bool (decide (1 ≤ x.length ∧ x.length ≤ 8) && x.cps.toList.all signB)) := h
    refine ⟨fun h1 => ⟨fun h2 => ?_, fun h2 => ?_⟩, fun h1 => ?_⟩
    · rw [decide_eq_true ⟨by omega, by omega⟩, Bool.true_and] at h'
      refine lc_to (strP signB) rfl (Nat.le_refl _) (fun d hd P hP => ?_) (all_signs strP_1 h')
      obtain ⟨c, hc, rfl⟩ := mem_signs hd
      rw [strP_1] at hP
      simp only [gSeq, gSet, gVar, gVarB, gC, gBin, gChain, gTB, gIf, gIfS, gRet, gCall, gCallF, gCo, gN, gTup, gLst, gL, gNotT, gNotV, gAndT, gOrT, gAndV, gOrV, gIsi, gSl, gPart, gNo, gM0, gM1, gFn, gAn, gAd, gAp, gAs, gAsg, gTo, gToT, gToC, gTo0, gNext, gNeg, gPs0, gTick, gPix, gLenS, gIxS, gSumS, gLRg, gPar, gDic0, gDic1, gYes, gSeqI, gRg1, gRg2, gRetN, gSetF, gApp, gExt, gDrop, gFrz, gLcC_x, gForC_x, clr, startD, nth, List.set, true_or, or_true, true_and, and_true, R__law_pot_0, R__law_pot_1, R__law_pot_2, R__law_common_0, R__law_common_1, R__law_take_0, R__law_take_1, R__law_take_2, R__law_take_3, R__law_take_4, R__law_take_5, R__law_take_6, R__law_number_0, R__law_odd_0, R__law_odd_1, R__law_odd_2, R_is_word_0, R__law_own_word_0, R__law_own_name_0, R__law_own_name_1, R_is_fraction_0, R__law_own_read_0, R__law_own_read_1, R__law_own_read_2, R__law_own_read_3, R__law_own_read_4, R__law_own_read_5, R__law_own_read_6, R__law_own_read_7, R_read_integer_0, R_read_integer_1, R_read_integer_2, R_read_of_figures_0, R_read_of_figures_1, R_read_of_figures_2, R_read_of_figures_3, R_read_of_figures_4, addD_ii, addD_ss, addD_ll, addD_tt, subD_ii, mulD_ii, mulD_si, mulD_li, fdivD_ii, modD_ii, powD_ii, eqD_ii, eqD_ss, eqD_bb, neD_ii, neD_ss, neD_bb, ltD_ii, ltD_ss, leD_ii, gtD_ii, geD_ii, isD_n, isD_bb, isnotD_n, isnotD_bb, inD_ss, inD_l, inD_t, notinD_ss, notinD_l, notinD_t, ixD_l, ixD_t, ixD_s, slD_t, slD_s, slD_l, lenD_s, lenD_l, lenD_t, tupD_l, tupD_t, listD_l, listD_t, allD_l, anyD_l, sumD_l, maxD_ii, minD_ii, maxD_l, minD_l, absD_i, gcdD_ii, intD_i, intD_b, intD_s, strD_i, strD_s, reprD_1, joinD_l, splitD_s, PB_0, PB_1, PB_2, gIte_t, gIte_f, gIte_d, gIte_n, d_SMALL, d_FIGURES]
      refine ⟨c, rfl, ?_⟩
      unfold signB at hP
      refine ⟨fun e => ?_, fun e => ⟨c, rfl, ?_⟩⟩
      · have e' : decide (c ∈ smallL) = true := decide_eq_true e
        rwa [e', Bool.true_or] at hP
      · have e' : decide (c ∈ smallL) = false := decide_eq_false e
        rwa [e', Bool.false_or] at hP
    · rwa [decide_eq_false (fun z => h2 (by omega)), Bool.false_and] at h'
    · rwa [decide_eq_false (fun z => h1 (by omega)), Bool.false_and] at h'
  | _ =>
    simp only [gSeq, gSet, gVar, gVarB, gC, gBin, gChain, gTB, gIf, gIfS, gRet, gCall, gCallF, gCo, gN, gTup, gLst, gL, gNotT, gNotV, gAndT, gOrT, gAndV, gOrV, gIsi, gSl, gPart, gNo, gM0, gM1, gFn, gAn, gAd, gAp, gAs, gAsg, gTo, gToT, gToC, gTo0, gNext, gNeg, gPs0, gTick, gPix, gLenS, gIxS, gSumS, gLRg, gPar, gDic0, gDic1, gYes, gSeqI, gRg1, gRg2, gRetN, gSetF, gApp, gExt, gDrop, gFrz, gLcC_x, gForC_x, clr, startD, nth, List.set, true_or, or_true, true_and, and_true, R__law_pot_0, R__law_pot_1, R__law_pot_2, R__law_common_0, R__law_common_1, R__law_take_0, R__law_take_1, R__law_take_2, R__law_take_3, R__law_take_4, R__law_take_5, R__law_take_6, R__law_number_0, R__law_odd_0, R__law_odd_1, R__law_odd_2, R_is_word_0, R__law_own_word_0, R__law_own_name_0, R__law_own_name_1, R_is_fraction_0, R__law_own_read_0, R__law_own_read_1, R__law_own_read_2, R__law_own_read_3, R__law_own_read_4, R__law_own_read_5, R__law_own_read_6, R__law_own_read_7, R_read_integer_0, R_read_integer_1, R_read_integer_2, R_read_of_figures_0, R_read_of_figures_1, R_read_of_figures_2, R_read_of_figures_3, R_read_of_figures_4, addD_ii, addD_ss, addD_ll, addD_tt, subD_ii, mulD_ii, mulD_si, mulD_li, fdivD_ii, modD_ii, powD_ii, eqD_ii, eqD_ss, eqD_bb, neD_ii, neD_ss, neD_bb, ltD_ii, ltD_ss, leD_ii, gtD_ii, geD_ii, isD_n, isD_bb, isnotD_n, isnotD_bb, inD_ss, inD_l, inD_t, notinD_ss, notinD_l, notinD_t, ixD_l, ixD_t, ixD_s, slD_t, slD_s, slD_l, lenD_s, lenD_l, lenD_t, tupD_l, tupD_t, listD_l, listD_t, allD_l, anyD_l, sumD_l, maxD_ii, minD_ii, maxD_l, minD_l, absD_i, gcdD_ii, intD_i, intD_b, intD_s, strD_i, strD_s, reprD_1, joinD_l, splitD_s, PB_0, PB_1, PB_2, gIte_t, gIte_f, gIte_d, gIte_n, isStrD, d_MOST_SIGNS, Bool.not_true, Bool.not_false]
    exact h
theorem signB_all (c : Nat) : decide (c ∈ (Str.ofString "abcdefghijklmnopqrstuvwxyz0123456789").cps.toList) = signB c := by
  have e : (Str.ofString "abcdefghijklmnopqrstuvwxyz0123456789").cps.toList = smallL ++ figL := by decide +kernel
  unfold signB
  rw [e]
  simp only [List.mem_append]
  by_cases a : c ∈ smallL <;> by_cases b : c ∈ figL <;> simp [a, b]
theorem ownWord_ok {d : D} (h : K (.bool (wordB d))) : F__law_own_word [.dat d] K E := by
  unfold F__law_own_word specOf G__law_own_word N__law_own_word
  refine ⟨rfl, ?_⟩
  cases d with
  | str x =>
    simp only [gSeq, gSet, gVar, gVarB, gC, gBin, gChain, gTB, gIf, gIfS, gRet, gCall, gCallF, gCo, gN, gTup, gLst, gL, gNotT, gNotV, gAndT, gOrT, gAndV, gOrV, gIsi, gSl, gPart, gNo, gM0, gM1, gFn, gAn, gAd, gAp, gAs, gAsg, gTo, gToT, gToC, gTo0, gNext, gNeg, gPs0, gTick, gPix, gLenS, gIxS, gSumS, gLRg, gPar, gDic0, gDic1, gYes, gSeqI, gRg1, gRg2, gRetN, gSetF, gApp, gExt, gDrop, gFrz, gLcC_x, gForC_x, clr, startD, nth, List.set, true_or, or_true, true_and, and_true, R__law_pot_0, R__law_pot_1, R__law_pot_2, R__law_common_0, R__law_common_1, R__law_take_0, R__law_take_1, R__law_take_2, R__law_take_3, R__law_take_4, R__law_take_5, R__law_take_6, R__law_number_0, R__law_odd_0, R__law_odd_1, R__law_odd_2, R_is_word_0, R__law_own_word_0, R__law_own_name_0, R__law_own_name_1, R_is_fraction_0, R__law_own_read_0, R__law_own_read_1, R__law_own_read_2, R__law_own_read_3, R__law_own_read_4, R__law_own_read_5, R__law_own_read_6, R__law_own_read_7, R_read_integer_0, R_read_integer_1, R_read_integer_2, R_read_of_figures_0, R_read_of_figures_1, R_read_of_figures_2, R_read_of_figures_3, R_read_of_figures_4, addD_ii, addD_ss, addD_ll, addD_tt, subD_ii, mulD_ii, mulD_si, mulD_li, fdivD_ii, modD_ii, powD_ii, eqD_ii, eqD_ss, eqD_bb, neD_ii, neD_ss, neD_bb, ltD_ii, ltD_ss, leD_ii, gtD_ii, geD_ii, isD_n, isD_bb, isnotD_n, isnotD_bb, inD_ss, inD_l, inD_t, notinD_ss, notinD_l, notinD_t, ixD_l, ixD_t, ixD_s, slD_t, slD_s, slD_l, lenD_s, lenD_l, lenD_t, tupD_l, tupD_t, listD_l, listD_t, allD_l, anyD_l, sumD_l, maxD_ii, minD_ii, maxD_l, minD_l, absD_i, gcdD_ii, intD_i, intD_b, intD_s, strD_i, strD_s, reprD_1, joinD_l, splitD_s, PB_0, PB_1, PB_2, gIte_t, gIte_f, gIte_d, gIte_n, isStrD, Bool.not_true, Bool.not_false]
    have h' : K (.bool (decide (1 ≤ x.length ∧ x.length ≤ 8) && x.cps.toList.all signB)) := h
    refine ⟨fun h1 => ⟨fun h2 => ?_, fun h2 => ?_⟩, fun h1 => ?_⟩
    · rw [decide_eq_true ⟨by omega, by omega⟩, Bool.true_and] at h'
      refine lc_to (strP signB) rfl (Nat.le_refl _) (fun d hd P hP => ?_) (all_signs strP_1 h')
      obtain ⟨c, hc, rfl⟩ := mem_signs hd
      rw [strP_1, ← signB_all] at hP
      simp only [gSeq, gSet, gVar, gVarB, gC, gBin, gChain, gTB, gIf, gIfS, gRet, gCall, gCallF, gCo, gN, gTup, gLst, gL, gNotT, gNotV, gAndT, gOrT, gAndV, gOrV, gIsi, gSl, gPart, gNo, gM0, gM1, gFn, gAn, gAd, gAp, gAs, gAsg, gTo, gToT, gToC, gTo0, gNext, gNeg, gPs0, gTick, gPix, gLenS, gIxS, gSumS, gLRg, gPar, gDic0, gDic1, gYes, gSeqI, gRg1, gRg2, gRetN, gSetF, gApp, gExt, gDrop, gFrz, gLcC_x, gForC_x, clr, startD, nth, List.set, true_or, or_true, true_and, and_true, R__law_pot_0, R__law_pot_1, R__law_pot_2, R__law_common_0, R__law_common_1, R__law_take_0, R__law_take_1, R__law_take_2, R__law_take_3, R__law_take_4, R__law_take_5, R__law_take_6, R__law_number_0, R__law_odd_0, R__law_odd_1, R__law_odd_2, R_is_word_0, R__law_own_word_0, R__law_own_name_0, R__law_own_name_1, R_is_fraction_0, R__law_own_read_0, R__law_own_read_1, R__law_own_read_2, R__law_own_read_3, R__law_own_read_4, R__law_own_read_5, R__law_own_read_6, R__law_own_read_7, R_read_integer_0, R_read_integer_1, R_read_integer_2, R_read_of_figures_0, R_read_of_figures_1, R_read_of_figures_2, R_read_of_figures_3, R_read_of_figures_4, addD_ii, addD_ss, addD_ll, addD_tt, subD_ii, mulD_ii, mulD_si, mulD_li, fdivD_ii, modD_ii, powD_ii, eqD_ii, eqD_ss, eqD_bb, neD_ii, neD_ss, neD_bb, ltD_ii, ltD_ss, leD_ii, gtD_ii, geD_ii, isD_n, isD_bb, isnotD_n, isnotD_bb, inD_ss, inD_l, inD_t, notinD_ss, notinD_l, notinD_t, ixD_l, ixD_t, ixD_s, slD_t, slD_s, slD_l, lenD_s, lenD_l, lenD_t, tupD_l, tupD_t, listD_l, listD_t, allD_l, anyD_l, sumD_l, maxD_ii, minD_ii, maxD_l, minD_l, absD_i, gcdD_ii, intD_i, intD_b, intD_s, strD_i, strD_s, reprD_1, joinD_l, splitD_s, PB_0, PB_1, PB_2, gIte_t, gIte_f, gIte_d, gIte_n]
      exact ⟨c, rfl, hP⟩
    · rwa [decide_eq_false (fun z => h2 (by omega)), Bool.false_and] at h'
    · rwa [decide_eq_false (fun z => h1 (by omega)), Bool.false_and] at h'
  | _ =>
    simp only [gSeq, gSet, gVar, gVarB, gC, gBin, gChain, gTB, gIf, gIfS, gRet, gCall, gCallF, gCo, gN, gTup, gLst, gL, gNotT, gNotV, gAndT, gOrT, gAndV, gOrV, gIsi, gSl, gPart, gNo, gM0, gM1, gFn, gAn, gAd, gAp, gAs, gAsg, gTo, gToT, gToC, gTo0, gNext, gNeg, gPs0, gTick, gPix, gLenS, gIxS, gSumS, gLRg, gPar, gDic0, gDic1, gYes, gSeqI, gRg1, gRg2, gRetN, gSetF, gApp, gExt, gDrop, gFrz, gLcC_x, gForC_x, clr, startD, nth, List.set, true_or, or_true, true_and, and_true, R__law_pot_0, R__law_pot_1, R__law_pot_2, R__law_common_0, R__law_common_1, R__law_take_0, R__law_take_1, R__law_take_2, R__law_take_3, R__law_take_4, R__law_take_5, R__law_take_6, R__law_number_0, R__law_odd_0, R__law_odd_1, R__law_odd_2, R_is_word_0, R__law_own_word_0, R__law_own_name_0, R__law_own_name_1, R_is_fraction_0, R__law_own_read_0, R__law_own_read_1, R__law_own_read_2, R__law_own_read_3, R__law_own_read_4, R__law_own_read_5, R__law_own_read_6, R__law_own_read_7, R_read_integer_0, R_read_integer_1, R_read_integer_2, R_read_of_figures_0, R_read_of_figures_1, R_read_of_figures_2, R_read_of_figures_3, R_read_of_figures_4, addD_ii, addD_ss, addD_ll, addD_tt, subD_ii, mulD_ii, mulD_si, mulD_li, fdivD_ii, modD_ii, powD_ii, eqD_ii, eqD_ss, eqD_bb, neD_ii, neD_ss, neD_bb, ltD_ii, ltD_ss, leD_ii, gtD_ii, geD_ii, isD_n, isD_bb, isnotD_n, isnotD_bb, inD_ss, inD_l, inD_t, notinD_ss, notinD_l, notinD_t, ixD_l, ixD_t, ixD_s, slD_t, slD_s, slD_l, lenD_s, lenD_l, lenD_t, tupD_l, tupD_t, listD_l, listD_t, allD_l, anyD_l, sumD_l, maxD_ii, minD_ii, maxD_l, minD_l, absD_i, gcdD_ii, intD_i, intD_b, intD_s, strD_i, strD_s, reprD_1, joinD_l, splitD_s, PB_0, PB_1, PB_2, gIte_t, gIte_f, gIte_d, gIte_n, isStrD, Bool.not_true, Bool.not_false]
    exact h
def resL : List D := match d_RESERVED with | .tuple ys => ys | _ => []
def resS : List Str := resL.map fun d => match d with | .str x => x | _ => ""
theorem res_1 : d_RESERVED = .tuple resL := rfl
theorem res_2 : resL = resS.map PyData.str := rfl
def resB (x : Str) : Bool := resL.any fun z => PyData.eqv z (.str x)
def nameB : D → Bool
  | .str x => wordS x && ((match x.cps.toList with | c :: _ => decide (c ∈ smallL) | [] => false) && !resB x)
  | _ => false
theorem sign_small {c : Nat} (h : signB c = true) : c < 128 := by
  have e1 : ∀ c ∈ smallL, c < 128 := by decide +kernel
  have e2 : ∀ c ∈ figL, c < 128 := by decide +kernel
  unfold signB at h
  rw [Bool.or_eq_true, decide_eq_true_eq, decide_eq_true_eq] at h
  exact h.elim (e1 c) (e2 c)
theorem shaped_word {x : Str} (h : wordS x = true) : SeqAt.shaped (.str x) = true := by
  unfold wordS at h
  rw [Bool.and_eq_true, List.all_eq_true] at h
  unfold SeqAt.shaped
  simp only [PyData.canLay0, PyData.depth]
  rw [Bool.and_eq_true]
  refine ⟨?_, rfl⟩
  unfold PyData.strOk
  rw [← Array.all_toList, List.all_eq_true]
  intro c hc
  have := sign_small (h.2 c hc)
  exact decide_eq_true (by omega)
theorem word_cons {x : Str} (h : wordS x = true) : ∃ c r, x.cps.toList = c :: r ∧ signB c = true := by
  unfold wordS at h
  rw [Bool.and_eq_true, decide_eq_true_eq] at h
  have hl : x.length = x.cps.toList.length := by simp [Str.length]
  cases e : x.cps.toList with
  | nil =>
    rw [e] at hl
    exact absurd h.1.1 (by rw [hl]; decide)
  | cons c r =>
    rw [e, List.all_cons, Bool.and_eq_true] at h
    exact ⟨c, r, rfl, h.2.1⟩
theorem small_fig (c : Nat) (h : signB c = true) : decide (c ∈ smallL) = !decide (c ∈ figL) := by
  have e : ∀ c ∈ smallL, ¬ c ∈ figL := by decide +kernel
  unfold signB at h
  by_cases a : c ∈ smallL
  · rw [decide_eq_true a, decide_eq_false (e c a)]
    rfl
  · rw [decide_eq_false a, Bool.false_or] at h
    rw [decide_eq_false a, h]
    rfl
theorem isName_ok {d : D} (h : K (.bool (nameB d))) : F_is_name [.dat d] K E := by
  unfold F_is_name specOf G_is_name N_is_name
  refine ⟨rfl, ?_⟩
  simp only [gSeq, gSet, gVar, gVarB, gC, gBin, gChain, gTB, gIf, gIfS, gRet, gCall, gCallF, gCo, gN, gTup, gLst, gL, gNotT, gNotV, gAndT, gOrT, gAndV, gOrV, gIsi, gSl, gPart, gNo, gM0, gM1, gFn, gAn, gAd, gAp, gAs, gAsg, gTo, gToT, gToC, gTo0, gNext, gNeg, gPs0, gTick, gPix, gLenS, gIxS, gSumS, gLRg, gPar, gDic0, gDic1, gYes, gSeqI, gRg1, gRg2, gRetN, gSetF, gApp, gExt, gDrop, gFrz, gLcC_x, gForC_x, clr, startD, nth, List.set, true_or, or_true, true_and, and_true, R__law_pot_0, R__law_pot_1, R__law_pot_2, R__law_common_0, R__law_common_1, R__law_take_0, R__law_take_1, R__law_take_2, R__law_take_3, R__law_take_4, R__law_take_5, R__law_take_6, R__law_number_0, R__law_odd_0, R__law_odd_1, R__law_odd_2, R_is_word_0, R__law_own_word_0, R__law_own_name_0, R__law_own_name_1, R_is_fraction_0, R__law_own_read_0, R__law_own_read_1, R__law_own_read_2, R__law_own_read_3, R__law_own_read_4, R__law_own_read_5, R__law_own_read_6, R__law_own_read_7, R_read_integer_0, R_read_integer_1, R_read_integer_2, R_read_of_figures_0, R_read_of_figures_1, R_read_of_figures_2, R_read_of_figures_3, R_read_of_figures_4, addD_ii, addD_ss, addD_ll, addD_tt, subD_ii, mulD_ii, mulD_si, mulD_li, fdivD_ii, modD_ii, powD_ii, eqD_ii, eqD_ss, eqD_bb, neD_ii, neD_ss, neD_bb, ltD_ii, ltD_ss, leD_ii, gtD_ii, geD_ii, isD_n, isD_bb, isnotD_n, isnotD_bb, inD_ss, inD_l, inD_t, notinD_ss, notinD_l, notinD_t, ixD_l, ixD_t, ixD_s, slD_t, slD_s, slD_l, lenD_s, lenD_l, lenD_t, tupD_l, tupD_t, listD_l, listD_t, allD_l, anyD_l, sumD_l, maxD_ii, minD_ii, maxD_l, minD_l, absD_i, gcdD_ii, intD_i, intD_b, intD_s, strD_i, strD_s, reprD_1, joinD_l, splitD_s, PB_0, PB_1, PB_2, gIte_t, gIte_f, gIte_d, gIte_n, List.append_nil]
  refine isWord_ok ?_
  cases d with
  | str x =>
    have h' : K (.bool (wordS x && ((match x.cps.toList with | c :: _ => decide (c ∈ smallL) | [] => false) && !resB x))) := h
    simp only [gSeq, gSet, gVar, gVarB, gC, gBin, gChain, gTB, gIf, gIfS, gRet, gCall, gCallF, gCo, gN, gTup, gLst, gL, gNotT, gNotV, gAndT, gOrT, gAndV, gOrV, gIsi, gSl, gPart, gNo, gM0, gM1, gFn, gAn, gAd, gAp, gAs, gAsg, gTo, gToT, gToC, gTo0, gNext, gNeg, gPs0, gTick, gPix, gLenS, gIxS, gSumS, gLRg, gPar, gDic0, gDic1, gYes, gSeqI, gRg1, gRg2, gRetN, gSetF, gApp, gExt, gDrop, gFrz, gLcC_x, gForC_x, clr, startD, nth, List.set, true_or, or_true, true_and, and_true, R__law_pot_0, R__law_pot_1, R__law_pot_2, R__law_common_0, R__law_common_1, R__law_take_0, R__law_take_1, R__law_take_2, R__law_take_3, R__law_take_4, R__law_take_5, R__law_take_6, R__law_number_0, R__law_odd_0, R__law_odd_1, R__law_odd_2, R_is_word_0, R__law_own_word_0, R__law_own_name_0, R__law_own_name_1, R_is_fraction_0, R__law_own_read_0, R__law_own_read_1, R__law_own_read_2, R__law_own_read_3, R__law_own_read_4, R__law_own_read_5, R__law_own_read_6, R__law_own_read_7, R_read_integer_0, R_read_integer_1, R_read_integer_2, R_read_of_figures_0, R_read_of_figures_1, R_read_of_figures_2, R_read_of_figures_3, R_read_of_figures_4, addD_ii, addD_ss, addD_ll, addD_tt, subD_ii, mulD_ii, mulD_si, mulD_li, fdivD_ii, modD_ii, powD_ii, eqD_ii, eqD_ss, eqD_bb, neD_ii, neD_ss, neD_bb, ltD_ii, ltD_ss, leD_ii, gtD_ii, geD_ii, isD_n, isD_bb, isnotD_n, isnotD_bb, inD_ss, inD_l, inD_t, notinD_ss, notinD_l, notinD_t, ixD_l, ixD_t, ixD_s, slD_t, slD_s, slD_l, lenD_s, lenD_l, lenD_t, tupD_l, tupD_t, listD_l, listD_t, allD_l, anyD_l, sumD_l, maxD_ii, minD_ii, maxD_l, minD_l, absD_i, gcdD_ii, intD_i, intD_b, intD_s, strD_i, strD_s, reprD_1, joinD_l, splitD_s, PB_0, PB_1, PB_2, gIte_t, gIte_f, gIte_d, gIte_n, wordB, d_SMALL, res_1]
    refine ⟨fun w => ?_, fun w => ?_⟩
    · obtain ⟨c, r, e, hs⟩ := word_cons w
      rw [w, Bool.true_and, e] at h'
      have h' : K (.bool (decide (c ∈ smallL) && !resB x)) := h'
      rw [e]
      refine ⟨c, L2.atI_nat (j := 0) rfl, c, rfl, fun m => ⟨shaped_word w, by decide +kernel, ?_⟩, fun m => ?_⟩
      · have m' : decide (c ∈ smallL) = true := decide_eq_true m
        rwa [m', Bool.true_and] at h'
      · have m' : decide (c ∈ smallL) = false := decide_eq_false m
        rwa [m', Bool.false_and] at h'
    · rwa [w, Bool.false_and] at h'
  | _ => exact ⟨fun z => (nomatch z), fun _ => h⟩
theorem ownName_ok {d : D} (h : K (.bool (nameB d))) : F__law_own_name [.dat d] K E := by
  unfold F__law_own_name specOf G__law_own_name N__law_own_name
  refine ⟨rfl, ?_⟩
  simp only [gSeq, gSet, gVar, gVarB, gC, gBin, gChain, gTB, gIf, gIfS, gRet, gCall, gCallF, gCo, gN, gTup, gLst, gL, gNotT, gNotV, gAndT, gOrT, gAndV, gOrV, gIsi, gSl, gPart, gNo, gM0, gM1, gFn, gAn, gAd, gAp, gAs, gAsg, gTo, gToT, gToC, gTo0, gNext, gNeg, gPs0, gTick, gPix, gLenS, gIxS, gSumS, gLRg, gPar, gDic0, gDic1, gYes, gSeqI, gRg1, gRg2, gRetN, gSetF, gApp, gExt, gDrop, gFrz, gLcC_x, gForC_x, clr, startD, nth, List.set, true_or, or_true, true_and, and_true, R__law_pot_0, R__law_pot_1, R__law_pot_2, R__law_common_0, R__law_common_1, R__law_take_0, R__law_take_1, R__law_take_2, R__law_take_3, R__law_take_4, R__law_take_5, R__law_take_6, R__law_number_0, R__law_odd_0, R__law_odd_1, R__law_odd_2, R_is_word_0, R__law_own_word_0, R__law_own_name_0, R__law_own_name_1, R_is_fraction_0, R__law_own_read_0, R__law_own_read_1, R__law_own_read_2, R__law_own_read_3, R__law_own_read_4, R__law_own_read_5, R__law_own_read_6, R__law_own_read_7, R_read_integer_0, R_read_integer_1, R_read_integer_2, R_read_of_figures_0, R_read_of_figures_1, R_read_of_figures_2, R_read_of_figures_3, R_read_of_figures_4, addD_ii, addD_ss, addD_ll, addD_tt, subD_ii, mulD_ii, mulD_si, mulD_li, fdivD_ii, modD_ii, powD_ii, eqD_ii, eqD_ss, eqD_bb, neD_ii, neD_ss, neD_bb, ltD_ii, ltD_ss, leD_ii, gtD_ii, geD_ii, isD_n, isD_bb, isnotD_n, isnotD_bb, inD_ss, inD_l, inD_t, notinD_ss, notinD_l, notinD_t, ixD_l, ixD_t, ixD_s, slD_t, slD_s, slD_l, lenD_s, lenD_l, lenD_t, tupD_l, tupD_t, listD_l, listD_t, allD_l, anyD_l, sumD_l, maxD_ii, minD_ii, maxD_l, minD_l, absD_i, gcdD_ii, intD_i, intD_b, intD_s, strD_i, strD_s, reprD_1, joinD_l, splitD_s, PB_0, PB_1, PB_2, gIte_t, gIte_f, gIte_d, gIte_n, List.append_nil]
  refine ⟨by rw [sizeLine_eq]; decide +kernel, ?_⟩
  refine ownWord_ok ?_
  cases d with
  | str x =>
    have h' : K (.bool (wordS x && ((match x.cps.toList with | c :: _ => decide (c ∈ smallL) | [] => false) && !resB x))) := h
    have es : Txt.split (Str.ofString "number word keep is not from to above below let group tell count sum mean least most mark bars points" ++ Str.ofString " lines cells stack across up ink panels title") (Str.ofString " ") = resS := by decide +kernel
    simp only [gSeq, gSet, gVar, gVarB, gC, gBin, gChain, gTB, gIf, gIfS, gRet, gCall, gCallF, gCo, gN, gTup, gLst, gL, gNotT, gNotV, gAndT, gOrT, gAndV, gOrV, gIsi, gSl, gPart, gNo, gM0, gM1, gFn, gAn, gAd, gAp, gAs, gAsg, gTo, gToT, gToC, gTo0, gNext, gNeg, gPs0, gTick, gPix, gLenS, gIxS, gSumS, gLRg, gPar, gDic0, gDic1, gYes, gSeqI, gRg1, gRg2, gRetN, gSetF, gApp, gExt, gDrop, gFrz, gLcC_x, gForC_x, clr, startD, nth, List.set, true_or, or_true, true_and, and_true, R__law_pot_0, R__law_pot_1, R__law_pot_2, R__law_common_0, R__law_common_1, R__law_take_0, R__law_take_1, R__law_take_2, R__law_take_3, R__law_take_4, R__law_take_5, R__law_take_6, R__law_number_0, R__law_odd_0, R__law_odd_1, R__law_odd_2, R_is_word_0, R__law_own_word_0, R__law_own_name_0, R__law_own_name_1, R_is_fraction_0, R__law_own_read_0, R__law_own_read_1, R__law_own_read_2, R__law_own_read_3, R__law_own_read_4, R__law_own_read_5, R__law_own_read_6, R__law_own_read_7, R_read_integer_0, R_read_integer_1, R_read_integer_2, R_read_of_figures_0, R_read_of_figures_1, R_read_of_figures_2, R_read_of_figures_3, R_read_of_figures_4, addD_ii, addD_ss, addD_ll, addD_tt, subD_ii, mulD_ii, mulD_si, mulD_li, fdivD_ii, modD_ii, powD_ii, eqD_ii, eqD_ss, eqD_bb, neD_ii, neD_ss, neD_bb, ltD_ii, ltD_ss, leD_ii, gtD_ii, geD_ii, isD_n, isD_bb, isnotD_n, isnotD_bb, inD_ss, inD_l, inD_t, notinD_ss, notinD_l, notinD_t, ixD_l, ixD_t, ixD_s, slD_t, slD_s, slD_l, lenD_s, lenD_l, lenD_t, tupD_l, tupD_t, listD_l, listD_t, allD_l, anyD_l, sumD_l, maxD_ii, minD_ii, maxD_l, minD_l, absD_i, gcdD_ii, intD_i, intD_b, intD_s, strD_i, strD_s, reprD_1, joinD_l, splitD_s, PB_0, PB_1, PB_2, gIte_t, gIte_f, gIte_d, gIte_n, wordB, es, isStrD]
    refine ⟨fun w => ?_, fun w => ?_⟩
    · obtain ⟨c, r, e, hs⟩ := word_cons w
      have sf := small_fig c hs
      rw [w, Bool.true_and, e] at h'
      have h' : K (.bool (decide (c ∈ smallL) && !resB x)) := h'
      rw [e]
      refine ⟨c, L2.atI_nat (j := 0) rfl, c, rfl, fun m => ?_, fun m => ⟨by decide +kernel, by rw [sizeLine_eq]; decide +kernel, by rw [sizeLine_eq]; decide +kernel, by rw [sizeLine_eq]; decide +kernel, shaped_word w, by decide +kernel, ?_⟩⟩
      · have m' : decide (c ∈ figL) = true := decide_eq_true m
        rw [m'] at sf
        rw [sf] at h'
        exact h'
      · have m' : decide (c ∈ figL) = false := decide_eq_false m
        rw [m'] at sf
        rw [sf] at h'
        exact h'
    · rwa [w, Bool.false_and] at h'
  | _ => exact ⟨fun z => (nomatch z), fun _ => h⟩
/-! ### whole numbers, fractions -/
def intB : D → Bool
  | .int _ => true
  | _ => false
theorem isInteger_ok {d : D} (h : K (.bool (intB d))) : F_is_integer [.dat d] K E := by
  unfold F_is_integer specOf G_is_integer N_is_integer
  refine ⟨rfl, ?_⟩
  simp only [gSeq, gSet, gVar, gVarB, gC, gBin, gChain, gTB, gIf, gIfS, gRet, gCall, gCallF, gCo, gN, gTup, gLst, gL, gNotT, gNotV, gAndT, gOrT, gAndV, gOrV, gIsi, gSl, gPart, gNo, gM0, gM1, gFn, gAn, gAd, gAp, gAs, gAsg, gTo, gToT, gToC, gTo0, gNext, gNeg, gPs0, gTick, gPix, gLenS, gIxS, gSumS, gLRg, gPar, gDic0, gDic1, gYes, gSeqI, gRg1, gRg2, gRetN, gSetF, gApp, gExt, gDrop, gFrz, gLcC_x, gForC_x, clr, startD, nth, List.set, true_or, or_true, true_and, and_true, R__law_pot_0, R__law_pot_1, R__law_pot_2, R__law_common_0, R__law_common_1, R__law_take_0, R__law_take_1, R__law_take_2, R__law_take_3, R__law_take_4, R__law_take_5, R__law_take_6, R__law_number_0, R__law_odd_0, R__law_odd_1, R__law_odd_2, R_is_word_0, R__law_own_word_0, R__law_own_name_0, R__law_own_name_1, R_is_fraction_0, R__law_own_read_0, R__law_own_read_1, R__law_own_read_2, R__law_own_read_3, R__law_own_read_4, R__law_own_read_5, R__law_own_read_6, R__law_own_read_7, R_read_integer_0, R_read_integer_1, R_read_integer_2, R_read_of_figures_0, R_read_of_figures_1, R_read_of_figures_2, R_read_of_figures_3, R_read_of_figures_4, addD_ii, addD_ss, addD_ll, addD_tt, subD_ii, mulD_ii, mulD_si, mulD_li, fdivD_ii, modD_ii, powD_ii, eqD_ii, eqD_ss, eqD_bb, neD_ii, neD_ss, neD_bb, ltD_ii, ltD_ss, leD_ii, gtD_ii, geD_ii, isD_n, isD_bb, isnotD_n, isnotD_bb, inD_ss, inD_l, inD_t, notinD_ss, notinD_l, notinD_t, ixD_l, ixD_t, ixD_s, slD_t, slD_s, slD_l, lenD_s, lenD_l, lenD_t, tupD_l, tupD_t, listD_l, listD_t, allD_l, anyD_l, sumD_l, maxD_ii, minD_ii, maxD_l, minD_l, absD_i, gcdD_ii, intD_i, intD_b, intD_s, strD_i, strD_s, reprD_1, joinD_l, splitD_s, PB_0, PB_1, PB_2, gIte_t, gIte_f, gIte_d, gIte_n]
  cases d <;> simp only [gIte, isIntD, isBoolD, intB] at h ⊢ <;> simp <;> exact h
theorem common_ok {a b : Int} (h : K (.int ((Nat.gcd a.natAbs b.natAbs : Nat) : Int))) : F_common [.dat (.int a), .dat (.int b)] K E := by
  unfold F_common specOf G_common N_common
  refine ⟨rfl, ?_⟩
  simp only [gSeq, gSet, gVar, gVarB, gC, gBin, gChain, gTB, gIf, gIfS, gRet, gCall, gCallF, gCo, gN, gTup, gLst, gL, gNotT, gNotV, gAndT, gOrT, gAndV, gOrV, gIsi, gSl, gPart, gNo, gM0, gM1, gFn, gAn, gAd, gAp, gAs, gAsg, gTo, gToT, gToC, gTo0, gNext, gNeg, gPs0, gTick, gPix, gLenS, gIxS, gSumS, gLRg, gPar, gDic0, gDic1, gYes, gSeqI, gRg1, gRg2, gRetN, gSetF, gApp, gExt, gDrop, gFrz, gLcC_x, gForC_x, clr, startD, nth, List.set, true_or, or_true, true_and, and_true, R__law_pot_0, R__law_pot_1, R__law_pot_2, R__law_common_0, R__law_common_1, R__law_take_0, R__law_take_1, R__law_take_2, R__law_take_3, R__law_take_4, R__law_take_5, R__law_take_6, R__law_number_0, R__law_odd_0, R__law_odd_1, R__law_odd_2, R_is_word_0, R__law_own_word_0, R__law_own_name_0, R__law_own_name_1, R_is_fraction_0, R__law_own_read_0, R__law_own_read_1, R__law_own_read_2, R__law_own_read_3, R__law_own_read_4, R__law_own_read_5, R__law_own_read_6, R__law_own_read_7, R_read_integer_0, R_read_integer_1, R_read_integer_2, R_read_of_figures_0, R_read_of_figures_1, R_read_of_figures_2, R_read_of_figures_3, R_read_of_figures_4, addD_ii, addD_ss, addD_ll, addD_tt, subD_ii, mulD_ii, mulD_si, mulD_li, fdivD_ii, modD_ii, powD_ii, eqD_ii, eqD_ss, eqD_bb, neD_ii, neD_ss, neD_bb, ltD_ii, ltD_ss, leD_ii, gtD_ii, geD_ii, isD_n, isD_bb, isnotD_n, isnotD_bb, inD_ss, inD_l, inD_t, notinD_ss, notinD_l, notinD_t, ixD_l, ixD_t, ixD_s, slD_t, slD_s, slD_l, lenD_s, lenD_l, lenD_t, tupD_l, tupD_t, listD_l, listD_t, allD_l, anyD_l, sumD_l, maxD_ii, minD_ii, maxD_l, minD_l, absD_i, gcdD_ii, intD_i, intD_b, intD_s, strD_i, strD_s, reprD_1, joinD_l, splitD_s, PB_0, PB_1, PB_2, gIte_t, gIte_f, gIte_d, gIte_n]
  exact h
theorem abs_if (a : Int) : (if a < 0 then -a else a) = (a.natAbs : Int) := by
  split <;> omega
theorem ownCommon_ok {a b : Int} (h : K (.int ((Nat.gcd a.natAbs b.natAbs : Nat) : Int))) : F__law_common [.dat (.int a), .dat (.int b)] K E := by
  unfold F__law_common specOf G__law_common N__law_common
  refine ⟨rfl, ?_⟩
  simp only [gSeq, gSet, gVar, gVarB, gC, gBin, gChain, gTB, gIf, gIfS, gRet, gCall, gCallF, gCo, gN, gTup, gLst, gL, gNotT, gNotV, gAndT, gOrT, gAndV, gOrV, gIsi, gSl, gPart, gNo, gM0, gM1, gFn, gAn, gAd, gAp, gAs, gAsg, gTo, gToT, gToC, gTo0, gNext, gNeg, gPs0, gTick, gPix, gLenS, gIxS, gSumS, gLRg, gPar, gDic0, gDic1, gYes, gSeqI, gRg1, gRg2, gRetN, gSetF, gApp, gExt, gDrop, gFrz, gLcC_x, gForC_x, clr, startD, nth, List.set, true_or, or_true, true_and, and_true, R__law_pot_0, R__law_pot_1, R__law_pot_2, R__law_common_0, R__law_common_1, R__law_take_0, R__law_take_1, R__law_take_2, R__law_take_3, R__law_take_4, R__law_take_5, R__law_take_6, R__law_number_0, R__law_odd_0, R__law_odd_1, R__law_odd_2, R_is_word_0, R__law_own_word_0, R__law_own_name_0, R__law_own_name_1, R_is_fraction_0, R__law_own_read_0, R__law_own_read_1, R__law_own_read_2, R__law_own_read_3, R__law_own_read_4, R__law_own_read_5, R__law_own_read_6, R__law_own_read_7, R_read_integer_0, R_read_integer_1, R_read_integer_2, R_read_of_figures_0, R_read_of_figures_1, R_read_of_figures_2, R_read_of_figures_3, R_read_of_figures_4, addD_ii, addD_ss, addD_ll, addD_tt, subD_ii, mulD_ii, mulD_si, mulD_li, fdivD_ii, modD_ii, powD_ii, eqD_ii, eqD_ss, eqD_bb, neD_ii, neD_ss, neD_bb, ltD_ii, ltD_ss, leD_ii, gtD_ii, geD_ii, isD_n, isD_bb, isnotD_n, isnotD_bb, inD_ss, inD_l, inD_t, notinD_ss, notinD_l, notinD_t, ixD_l, ixD_t, ixD_s, slD_t, slD_s, slD_l, lenD_s, lenD_l, lenD_t, tupD_l, tupD_t, listD_l, listD_t, allD_l, anyD_l, sumD_l, maxD_ii, minD_ii, maxD_l, minD_l, absD_i, gcdD_ii, intD_i, intD_b, intD_s, strD_i, strD_s, reprD_1, joinD_l, splitD_s, PB_0, PB_1, PB_2, gIte_t, gIte_f, gIte_d, gIte_n, abs_if]
  refine ⟨fun n Δ' => ∃ x y : Nat, Δ' = [.dat (.int x), .dat (.int y)] ∧ Nat.gcd x y = Nat.gcd a.natAbs b.natAbs ∧ y ≤ n, ⟨b.natAbs, Nat.le_refl _, a.natAbs, b.natAbs, rfl, rfl, Nat.le_refl _⟩, ?_⟩
  rintro n Δ' ⟨x, y, rfl, hg, hn⟩
  simp only [gSeq, gSet, gVar, gVarB, gC, gBin, gChain, gTB, gIf, gIfS, gRet, gCall, gCallF, gCo, gN, gTup, gLst, gL, gNotT, gNotV, gAndT, gOrT, gAndV, gOrV, gIsi, gSl, gPart, gNo, gM0, gM1, gFn, gAn, gAd, gAp, gAs, gAsg, gTo, gToT, gToC, gTo0, gNext, gNeg, gPs0, gTick, gPix, gLenS, gIxS, gSumS, gLRg, gPar, gDic0, gDic1, gYes, gSeqI, gRg1, gRg2, gRetN, gSetF, gApp, gExt, gDrop, gFrz, gLcC_x, gForC_x, clr, startD, nth, List.set, true_or, or_true, true_and, and_true, R__law_pot_0, R__law_pot_1, R__law_pot_2, R__law_common_0, R__law_common_1, R__law_take_0, R__law_take_1, R__law_take_2, R__law_take_3, R__law_take_4, R__law_take_5, R__law_take_6, R__law_number_0, R__law_odd_0, R__law_odd_1, R__law_odd_2, R_is_word_0, R__law_own_word_0, R__law_own_name_0, R__law_own_name_1, R_is_fraction_0, R__law_own_read_0, R__law_own_read_1, R__law_own_read_2, R__law_own_read_3, R__law_own_read_4, R__law_own_read_5, R__law_own_read_6, R__law_own_read_7, R_read_integer_0, R_read_integer_1, R_read_integer_2, R_read_of_figures_0, R_read_of_figures_1, R_read_of_figures_2, R_read_of_figures_3, R_read_of_figures_4, addD_ii, addD_ss, addD_ll, addD_tt, subD_ii, mulD_ii, mulD_si, mulD_li, fdivD_ii, modD_ii, powD_ii, eqD_ii, eqD_ss, eqD_bb, neD_ii, neD_ss, neD_bb, ltD_ii, ltD_ss, leD_ii, gtD_ii, geD_ii, isD_n, isD_bb, isnotD_n, isnotD_bb, inD_ss, inD_l, inD_t, notinD_ss, notinD_l, notinD_t, ixD_l, ixD_t, ixD_s, slD_t, slD_s, slD_l, lenD_s, lenD_l, lenD_t, tupD_l, tupD_t, listD_l, listD_t, allD_l, anyD_l, sumD_l, maxD_ii, minD_ii, maxD_l, minD_l, absD_i, gcdD_ii, intD_i, intD_b, intD_s, strD_i, strD_s, reprD_1, joinD_l, splitD_s, PB_0, PB_1, PB_2, gIte_t, gIte_f, gIte_d, gIte_n]
  refine ⟨fun e => ?_, fun e => ?_⟩
  · have e' : y = 0 := by omega
    rw [e', Nat.gcd_zero_right] at hg
    rw [hg]
    exact h
  · have hy : 0 < y := by omega
    refine ⟨n - 1, by omega, by omega, y, x % y, ?_, ?_, ?_⟩
    · rw [Int.natCast_emod]
    · rw [← hg, Nat.gcd_comm y, ← Nat.gcd_rec, Nat.gcd_comm]
    · have := Nat.mod_lt x hy
      omega
theorem eqv_none {o : Option Int} : PyData.eqv (match o with | some i => PyData.int i | none => .none) .none = o.isNone := by
  cases o <;> rfl
/-- a fraction as it should be -/
def fracB : D → Bool
  | .tuple [.int a, .int b] => decide (1 ≤ b) && decide (Nat.gcd a.natAbs b.natAbs = 1)
  | _ => false
def intP (d : D) : D := .bool (intB d)
theorem ints_map (xs : List D) : xs.map intP = (xs.map intB).map PyData.bool := by
  rw [List.map_map]
  rfl
theorem intB_int {x : D} (h : intB x = true) : ∃ i, x = .int i := by
  cases x <;> simp [intB] at h
  exact ⟨_, rfl⟩
theorem frac_ints {x y : D} (h : (intB x && intB y) = false) : fracB (.tuple [x, y]) = false := by
  cases x <;> cases y <;> simp [intB] at h <;> rfl
theorem frac_len : ∀ {xs : List D}, ¬ (xs.length : Int) = 2 → fracB (.tuple xs) = false
  | [], _ => rfl
  | [x], _ => by cases x <;> rfl
  | [x, y], h => absurd rfl h
  | x :: y :: z :: r, _ => by cases x <;> cases y <;> rfl
theorem isFraction_ok {d : D} (h : K (.bool (fracB d))) : F_is_fraction [.dat d] K E := by
  unfold F_is_fraction specOf G_is_fraction N_is_fraction
  refine ⟨rfl, ?_⟩
  cases d with
  | tuple xs =>
    simp only [gSeq, gSet, gVar, gVarB, gC, gBin, gChain, gTB, gIf, gIfS, gRet, gCall, gCallF, gCo, gN, gTup, gLst, gL, gNotT, gNotV, gAndT, gOrT, gAndV, gOrV, gIsi, gSl, gPart, gNo, gM0, gM1, gFn, gAn, gAd, gAp, gAs, gAsg, gTo, gToT, gToC, gTo0, gNext, gNeg, gPs0, gTick, gPix, gLenS, gIxS, gSumS, gLRg, gPar, gDic0, gDic1, gYes, gSeqI, gRg1, gRg2, gRetN, gSetF, gApp, gExt, gDrop, gFrz, gLcC_x, gForC_x, clr, startD, nth, List.set, true_or, or_true, true_and, and_true, R__law_pot_0, R__law_pot_1, R__law_pot_2, R__law_common_0, R__law_common_1, R__law_take_0, R__law_take_1, R__law_take_2, R__law_take_3, R__law_take_4, R__law_take_5, R__law_take_6, R__law_number_0, R__law_odd_0, R__law_odd_1, R__law_odd_2, R_is_word_0, R__law_own_word_0, R__law_own_name_0, R__law_own_name_1, R_is_fraction_0, R__law_own_read_0, R__law_own_read_1, R__law_own_read_2, R__law_own_read_3, R__law_own_read_4, R__law_own_read_5, R__law_own_read_6, R__law_own_read_7, R_read_integer_0, R_read_integer_1, R_read_integer_2, R_read_of_figures_0, R_read_of_figures_1, R_read_of_figures_2, R_read_of_figures_3, R_read_of_figures_4, addD_ii, addD_ss, addD_ll, addD_tt, subD_ii, mulD_ii, mulD_si, mulD_li, fdivD_ii, modD_ii, powD_ii, eqD_ii, eqD_ss, eqD_bb, neD_ii, neD_ss, neD_bb, ltD_ii, ltD_ss, leD_ii, gtD_ii, geD_ii, isD_n, isD_bb, isnotD_n, isnotD_bb, inD_ss, inD_l, inD_t, notinD_ss, notinD_l, notinD_t, ixD_l, ixD_t, ixD_s, slD_t, slD_s, slD_l, lenD_s, lenD_l, lenD_t, tupD_l, tupD_t, listD_l, listD_t, allD_l, anyD_l, sumD_l, maxD_ii, minD_ii, maxD_l, minD_l, absD_i, gcdD_ii, intD_i, intD_b, intD_s, strD_i, strD_s, reprD_1, joinD_l, splitD_s, PB_0, PB_1, PB_2, gIte_t, gIte_f, gIte_d, gIte_n, isTupD, Bool.not_true, List.append_nil]
    refine ⟨fun hl => ?_, fun hl => ?_⟩
    · match xs, hl, h with
      | [x, y], _, h =>
        refine lc_to intP rfl (Nat.le_refl _) (fun d hd P hP => isInteger_ok hP) ⟨_, ints_map _, ?_⟩
        have e : ([x, y].map intB).all id = (intB x && intB y) := by simp
        rw [e]
        refine ⟨fun z => ?_, fun z => ?_⟩
        · rw [Bool.and_eq_true] at z
          obtain ⟨i, rfl⟩ := intB_int z.1
          obtain ⟨j, rfl⟩ := intB_int z.2
          refine ⟨_, rfl, ?_⟩
          have h' : K (.bool (decide (1 ≤ j) && decide (Nat.gcd i.natAbs j.natAbs = 1))) := h
          simp only [geD_ii, gIte_d]
          refine ⟨fun w => ⟨_, rfl, _, rfl, common_ok ?_⟩, fun w => ?_⟩
          · simp only [eqD_ii]
            rw [decide_eq_true w, Bool.true_and] at h'
            have e2 : decide (((Nat.gcd i.natAbs j.natAbs : Nat) : Int) = 1) = decide (Nat.gcd i.natAbs j.natAbs = 1) := by
              by_cases q : Nat.gcd i.natAbs j.natAbs = 1
              · rw [decide_eq_true q, decide_eq_true (by omega)]
              · rw [decide_eq_false q, decide_eq_false (by omega)]
            rw [e2]
            exact h'
          · rwa [decide_eq_false w, Bool.false_and] at h'
        · rwa [frac_ints z] at h
    · rwa [frac_len hl] at h
  | _ =>
    simp only [gSeq, gSet, gVar, gVarB, gC, gBin, gChain, gTB, gIf, gIfS, gRet, gCall, gCallF, gCo, gN, gTup, gLst, gL, gNotT, gNotV, gAndT, gOrT, gAndV, gOrV, gIsi, gSl, gPart, gNo, gM0, gM1, gFn, gAn, gAd, gAp, gAs, gAsg, gTo, gToT, gToC, gTo0, gNext, gNeg, gPs0, gTick, gPix, gLenS, gIxS, gSumS, gLRg, gPar, gDic0, gDic1, gYes, gSeqI, gRg1, gRg2, gRetN, gSetF, gApp, gExt, gDrop, gFrz, gLcC_x, gForC_x, clr, startD, nth, List.set, true_or, or_true, true_and, and_true, R__law_pot_0, R__law_pot_1, R__law_pot_2, R__law_common_0, R__law_common_1, R__law_take_0, R__law_take_1, R__law_take_2, R__law_take_3, R__law_take_4, R__law_take_5, R__law_take_6, R__law_number_0, R__law_odd_0, R__law_odd_1, R__law_odd_2, R_is_word_0, R__law_own_word_0, R__law_own_name_0, R__law_own_name_1, R_is_fraction_0, R__law_own_read_0, R__law_own_read_1, R__law_own_read_2, R__law_own_read_3, R__law_own_read_4, R__law_own_read_5, R__law_own_read_6, R__law_own_read_7, R_read_integer_0, R_read_integer_1, R_read_integer_2, R_read_of_figures_0, R_read_of_figures_1, R_read_of_figures_2, R_read_of_figures_3, R_read_of_figures_4, addD_ii, addD_ss, addD_ll, addD_tt, subD_ii, mulD_ii, mulD_si, mulD_li, fdivD_ii, modD_ii, powD_ii, eqD_ii, eqD_ss, eqD_bb, neD_ii, neD_ss, neD_bb, ltD_ii, ltD_ss, leD_ii, gtD_ii, geD_ii, isD_n, isD_bb, isnotD_n, isnotD_bb, inD_ss, inD_l, inD_t, notinD_ss, notinD_l, notinD_t, ixD_l, ixD_t, ixD_s, slD_t, slD_s, slD_l, lenD_s, lenD_l, lenD_t, tupD_l, tupD_t, listD_l, listD_t, allD_l, anyD_l, sumD_l, maxD_ii, minD_ii, maxD_l, minD_l, absD_i, gcdD_ii, intD_i, intD_b, intD_s, strD_i, strD_s, reprD_1, joinD_l, splitD_s, PB_0, PB_1, PB_2, gIte_t, gIte_f, gIte_d, gIte_n, isTupD, Bool.not_false]
    exact h
def fracT (a b : Int) : Str := if b = 1 then (toString a : Str) else (toString a : Str) ++ "/" ++ (toString b : Str)
theorem fractionText_ok {a b : Int} (ha : a.natAbs.log2 < 1900) (hb : b.natAbs.log2 < 1900) (h : K (.str (fracT a b))) : F_fraction_text [.dat (.tuple [.int a, .int b])] K E := by
  unfold F_fraction_text specOf G_fraction_text N_fraction_text
  refine ⟨rfl, ?_⟩
  simp only [gSeq, gSet, gVar, gVarB, gC, gBin, gChain, gTB, gIf, gIfS, gRet, gCall, gCallF, gCo, gN, gTup, gLst, gL, gNotT, gNotV, gAndT, gOrT, gAndV, gOrV, gIsi, gSl, gPart, gNo, gM0, gM1, gFn, gAn, gAd, gAp, gAs, gAsg, gTo, gToT, gToC, gTo0, gNext, gNeg, gPs0, gTick, gPix, gLenS, gIxS, gSumS, gLRg, gPar, gDic0, gDic1, gYes, gSeqI, gRg1, gRg2, gRetN, gSetF, gApp, gExt, gDrop, gFrz, gLcC_x, gForC_x, clr, startD, nth, List.set, true_or, or_true, true_and, and_true, R__law_pot_0, R__law_pot_1, R__law_pot_2, R__law_common_0, R__law_common_1, R__law_take_0, R__law_take_1, R__law_take_2, R__law_take_3, R__law_take_4, R__law_take_5, R__law_take_6, R__law_number_0, R__law_odd_0, R__law_odd_1, R__law_odd_2, R_is_word_0, R__law_own_word_0, R__law_own_name_0, R__law_own_name_1, R_is_fraction_0, R__law_own_read_0, R__law_own_read_1, R__law_own_read_2, R__law_own_read_3, R__law_own_read_4, R__law_own_read_5, R__law_own_read_6, R__law_own_read_7, R_read_integer_0, R_read_integer_1, R_read_integer_2, R_read_of_figures_0, R_read_of_figures_1, R_read_of_figures_2, R_read_of_figures_3, R_read_of_figures_4, addD_ii, addD_ss, addD_ll, addD_tt, subD_ii, mulD_ii, mulD_si, mulD_li, fdivD_ii, modD_ii, powD_ii, eqD_ii, eqD_ss, eqD_bb, neD_ii, neD_ss, neD_bb, ltD_ii, ltD_ss, leD_ii, gtD_ii, geD_ii, isD_n, isD_bb, isnotD_n, isnotD_bb, inD_ss, inD_l, inD_t, notinD_ss, notinD_l, notinD_t, ixD_l, ixD_t, ixD_s, slD_t, slD_s, slD_l, lenD_s, lenD_l, lenD_t, tupD_l, tupD_t, listD_l, listD_t, allD_l, anyD_l, sumD_l, maxD_ii, minD_ii, maxD_l, minD_l, absD_i, gcdD_ii, intD_i, intD_b, intD_s, strD_i, strD_s, reprD_1, joinD_l, splitD_s, PB_0, PB_1, PB_2, gIte_t, gIte_f, gIte_d, gIte_n, d_STROKE]
  have l1 := PySem.int_text_length_le (a := a) (k := 1900) (by decide) ha
  have l2 := PySem.int_text_length_le (a := b) (k := 1900) (by decide) hb
  have m1 : (toString a : Str).length = (toString a : String).length := PySem.ofString_length _
  have m2 : (toString b : Str).length = (toString b : String).length := PySem.ofString_length _
  have m3 : ((toString a : Str) ++ Str.ofString "/").length = (toString a : Str).length + 1 := by
    rw [DL.strLen_app]
    rfl
  refine ⟨_, rfl, ?_⟩
  simp only [gSeq, gSet, gVar, gVarB, gC, gBin, gChain, gTB, gIf, gIfS, gRet, gCall, gCallF, gCo, gN, gTup, gLst, gL, gNotT, gNotV, gAndT, gOrT, gAndV, gOrV, gIsi, gSl, gPart, gNo, gM0, gM1, gFn, gAn, gAd, gAp, gAs, gAsg, gTo, gToT, gToC, gTo0, gNext, gNeg, gPs0, gTick, gPix, gLenS, gIxS, gSumS, gLRg, gPar, gDic0, gDic1, gYes, gSeqI, gRg1, gRg2, gRetN, gSetF, gApp, gExt, gDrop, gFrz, gLcC_x, gForC_x, clr, startD, nth, List.set, true_or, or_true, true_and, and_true, R__law_pot_0, R__law_pot_1, R__law_pot_2, R__law_common_0, R__law_common_1, R__law_take_0, R__law_take_1, R__law_take_2, R__law_take_3, R__law_take_4, R__law_take_5, R__law_take_6, R__law_number_0, R__law_odd_0, R__law_odd_1, R__law_odd_2, R_is_word_0, R__law_own_word_0, R__law_own_name_0, R__law_own_name_1, R_is_fraction_0, R__law_own_read_0, R__law_own_read_1, R__law_own_read_2, R__law_own_read_3, R__law_own_read_4, R__law_own_read_5, R__law_own_read_6, R__law_own_read_7, R_read_integer_0, R_read_integer_1, R_read_integer_2, R_read_of_figures_0, R_read_of_figures_1, R_read_of_figures_2, R_read_of_figures_3, R_read_of_figures_4, addD_ii, addD_ss, addD_ll, addD_tt, subD_ii, mulD_ii, mulD_si, mulD_li, fdivD_ii, modD_ii, powD_ii, eqD_ii, eqD_ss, eqD_bb, neD_ii, neD_ss, neD_bb, ltD_ii, ltD_ss, leD_ii, gtD_ii, geD_ii, isD_n, isD_bb, isnotD_n, isnotD_bb, inD_ss, inD_l, inD_t, notinD_ss, notinD_l, notinD_t, ixD_l, ixD_t, ixD_s, slD_t, slD_s, slD_l, lenD_s, lenD_l, lenD_t, tupD_l, tupD_t, listD_l, listD_t, allD_l, anyD_l, sumD_l, maxD_ii, minD_ii, maxD_l, minD_l, absD_i, gcdD_ii, intD_i, intD_b, intD_s, strD_i, strD_s, reprD_1, joinD_l, splitD_s, PB_0, PB_1, PB_2, gIte_t, gIte_f, gIte_d, gIte_n]
  refine ⟨fun z => ⟨_, rfl, ?_⟩, fun z => ⟨_, rfl, ?_⟩⟩
  · simp only [gSeq, gSet, gVar, gVarB, gC, gBin, gChain, gTB, gIf, gIfS, gRet, gCall, gCallF, gCo, gN, gTup, gLst, gL, gNotT, gNotV, gAndT, gOrT, gAndV, gOrV, gIsi, gSl, gPart, gNo, gM0, gM1, gFn, gAn, gAd, gAp, gAs, gAsg, gTo, gToT, gToC, gTo0, gNext, gNeg, gPs0, gTick, gPix, gLenS, gIxS, gSumS, gLRg, gPar, gDic0, gDic1, gYes, gSeqI, gRg1, gRg2, gRetN, gSetF, gApp, gExt, gDrop, gFrz, gLcC_x, gForC_x, clr, startD, nth, List.set, true_or, or_true, true_and, and_true, R__law_pot_0, R__law_pot_1, R__law_pot_2, R__law_common_0, R__law_common_1, R__law_take_0, R__law_take_1, R__law_take_2, R__law_take_3, R__law_take_4, R__law_take_5, R__law_take_6, R__law_number_0, R__law_odd_0, R__law_odd_1, R__law_odd_2, R_is_word_0, R__law_own_word_0, R__law_own_name_0, R__law_own_name_1, R_is_fraction_0, R__law_own_read_0, R__law_own_read_1, R__law_own_read_2, R__law_own_read_3, R__law_own_read_4, R__law_own_read_5, R__law_own_read_6, R__law_own_read_7, R_read_integer_0, R_read_integer_1, R_read_integer_2, R_read_of_figures_0, R_read_of_figures_1, R_read_of_figures_2, R_read_of_figures_3, R_read_of_figures_4, addD_ii, addD_ss, addD_ll, addD_tt, subD_ii, mulD_ii, mulD_si, mulD_li, fdivD_ii, modD_ii, powD_ii, eqD_ii, eqD_ss, eqD_bb, neD_ii, neD_ss, neD_bb, ltD_ii, ltD_ss, leD_ii, gtD_ii, geD_ii, isD_n, isD_bb, isnotD_n, isnotD_bb, inD_ss, inD_l, inD_t, notinD_ss, notinD_l, notinD_t, ixD_l, ixD_t, ixD_s, slD_t, slD_s, slD_l, lenD_s, lenD_l, lenD_t, tupD_l, tupD_t, listD_l, listD_t, allD_l, anyD_l, sumD_l, maxD_ii, minD_ii, maxD_l, minD_l, absD_i, gcdD_ii, intD_i, intD_b, intD_s, strD_i, strD_s, reprD_1, joinD_l, splitD_s, PB_0, PB_1, PB_2, gIte_t, gIte_f, gIte_d, gIte_n]
    refine ⟨by omega, ?_⟩
    unfold fracT at h
    rwa [if_pos z] at h
  · simp only [gSeq, gSet, gVar, gVarB, gC, gBin, gChain, gTB, gIf, gIfS, gRet, gCall, gCallF, gCo, gN, gTup, gLst, gL, gNotT, gNotV, gAndT, gOrT, gAndV, gOrV, gIsi, gSl, gPart, gNo, gM0, gM1, gFn, gAn, gAd, gAp, gAs, gAsg, gTo, gToT, gToC, gTo0, gNext, gNeg, gPs0, gTick, gPix, gLenS, gIxS, gSumS, gLRg, gPar, gDic0, gDic1, gYes, gSeqI, gRg1, gRg2, gRetN, gSetF, gApp, gExt, gDrop, gFrz, gLcC_x, gForC_x, clr, startD, nth, List.set, true_or, or_true, true_and, and_true, R__law_pot_0, R__law_pot_1, R__law_pot_2, R__law_common_0, R__law_common_1, R__law_take_0, R__law_take_1, R__law_take_2, R__law_take_3, R__law_take_4, R__law_take_5, R__law_take_6, R__law_number_0, R__law_odd_0, R__law_odd_1, R__law_odd_2, R_is_word_0, R__law_own_word_0, R__law_own_name_0, R__law_own_name_1, R_is_fraction_0, R__law_own_read_0, R__law_own_read_1, R__law_own_read_2, R__law_own_read_3, R__law_own_read_4, R__law_own_read_5, R__law_own_read_6, R__law_own_read_7, R_read_integer_0, R_read_integer_1, R_read_integer_2, R_read_of_figures_0, R_read_of_figures_1, R_read_of_figures_2, R_read_of_figures_3, R_read_of_figures_4, addD_ii, addD_ss, addD_ll, addD_tt, subD_ii, mulD_ii, mulD_si, mulD_li, fdivD_ii, modD_ii, powD_ii, eqD_ii, eqD_ss, eqD_bb, neD_ii, neD_ss, neD_bb, ltD_ii, ltD_ss, leD_ii, gtD_ii, geD_ii, isD_n, isD_bb, isnotD_n, isnotD_bb, inD_ss, inD_l, inD_t, notinD_ss, notinD_l, notinD_t, ixD_l, ixD_t, ixD_s, slD_t, slD_s, slD_l, lenD_s, lenD_l, lenD_t, tupD_l, tupD_t, listD_l, listD_t, allD_l, anyD_l, sumD_l, maxD_ii, minD_ii, maxD_l, minD_l, absD_i, gcdD_ii, intD_i, intD_b, intD_s, strD_i, strD_s, reprD_1, joinD_l, splitD_s, PB_0, PB_1, PB_2, gIte_t, gIte_f, gIte_d, gIte_n]
    rw [sizeLine_eq]
    refine ⟨by omega, by rw [m1]; show _ + 1 ≤ _; omega, _, rfl, ?_⟩
    simp only [gSeq, gSet, gVar, gVarB, gC, gBin, gChain, gTB, gIf, gIfS, gRet, gCall, gCallF, gCo, gN, gTup, gLst, gL, gNotT, gNotV, gAndT, gOrT, gAndV, gOrV, gIsi, gSl, gPart, gNo, gM0, gM1, gFn, gAn, gAd, gAp, gAs, gAsg, gTo, gToT, gToC, gTo0, gNext, gNeg, gPs0, gTick, gPix, gLenS, gIxS, gSumS, gLRg, gPar, gDic0, gDic1, gYes, gSeqI, gRg1, gRg2, gRetN, gSetF, gApp, gExt, gDrop, gFrz, gLcC_x, gForC_x, clr, startD, nth, List.set, true_or, or_true, true_and, and_true, R__law_pot_0, R__law_pot_1, R__law_pot_2, R__law_common_0, R__law_common_1, R__law_take_0, R__law_take_1, R__law_take_2, R__law_take_3, R__law_take_4, R__law_take_5, R__law_take_6, R__law_number_0, R__law_odd_0, R__law_odd_1, R__law_odd_2, R_is_word_0, R__law_own_word_0, R__law_own_name_0, R__law_own_name_1, R_is_fraction_0, R__law_own_read_0, R__law_own_read_1, R__law_own_read_2, R__law_own_read_3, R__law_own_read_4, R__law_own_read_5, R__law_own_read_6, R__law_own_read_7, R_read_integer_0, R_read_integer_1, R_read_integer_2, R_read_of_figures_0, R_read_of_figures_1, R_read_of_figures_2, R_read_of_figures_3, R_read_of_figures_4, addD_ii, addD_ss, addD_ll, addD_tt, subD_ii, mulD_ii, mulD_si, mulD_li, fdivD_ii, modD_ii, powD_ii, eqD_ii, eqD_ss, eqD_bb, neD_ii, neD_ss, neD_bb, ltD_ii, ltD_ss, leD_ii, gtD_ii, geD_ii, isD_n, isD_bb, isnotD_n, isnotD_bb, inD_ss, inD_l, inD_t, notinD_ss, notinD_l, notinD_t, ixD_l, ixD_t, ixD_s, slD_t, slD_s, slD_l, lenD_s, lenD_l, lenD_t, tupD_l, tupD_t, listD_l, listD_t, allD_l, anyD_l, sumD_l, maxD_ii, minD_ii, maxD_l, minD_l, absD_i, gcdD_ii, intD_i, intD_b, intD_s, strD_i, strD_s, reprD_1, joinD_l, splitD_s, PB_0, PB_1, PB_2, gIte_t, gIte_f, gIte_d, gIte_n]
    unfold fracT at h
    rw [if_neg z] at h
    refine ⟨by omega, by rw [sizeLine_eq, m3]; omega, h⟩
/-! ### reading -/
def figsL (l : List Nat) : List Nat := match l with
  | 45 :: r => r
  | l => l
def partOk (l : List Nat) : Bool := decide (1 ≤ (figsL l).length) && (decide ((figsL l).length ≤ 300) && ((figsL l).all (fun c => decide (c ∈ figL)) && !(decide ((figsL l).head? = some 48) && (decide (1 < (figsL l).length) || decide (l ≠ figsL l)))))
def partV (x : Str) : Option Int := if partOk x.cps.toList = true then PySem.intText? x else none
def optD : Option Int → D
  | some i => .int i
  | none => .none
theorem partOk_iff (l : List Nat) : partOk l = true ↔ (1 ≤ (figsL l).length ∧ (figsL l).length ≤ 300 ∧ (∀ c ∈ figsL l, c ∈ figL) ∧ ¬ ((figsL l).head? = some 48 ∧ (1 < (figsL l).length ∨ l ≠ figsL l))) := by
  unfold partOk
  simp only [Bool.and_eq_true, decide_eq_true_eq, List.all_eq_true, Bool.not_eq_true', Bool.and_eq_false_iff, Bool.or_eq_false_iff, decide_eq_false_iff_not, not_and, not_or]
  constructor
  · rintro ⟨h1, h2, h3, h4⟩
    exact ⟨h1, h2, h3, fun h5 => h4.elim (fun z => absurd h5 z) id⟩
  · rintro ⟨h1, h2, h3, h4⟩
    refine ⟨h1, h2, h3, ?_⟩
    by_cases z : (figsL l).head? = some 48
    · exact .inr (h4 z)
    · exact .inl z
theorem str_len (x : Str) : x.length = x.cps.toList.length := by simp [Str.length]
theorem str_eq {x y : Str} : x = y ↔ x.cps.toList = y.cps.toList := by
  constructor
  · exact fun h => by rw [h]
  · intro h
    cases x
    cases y
    simp only [Array.toList_inj] at h
    rw [h]
theorem sign_eq (c : Nat) (y : Nat) : ((⟨#[c]⟩ : Str) = ⟨#[y]⟩) ↔ c = y := by
  rw [str_eq]
  simp
theorem zero_eq (c : Nat) : ((⟨#[c]⟩ : Str) = Str.ofString "0") ↔ c = 48 := by
  rw [show Str.ofString "0" = ⟨#[48]⟩ by decide +kernel]
  exact sign_eq c 48
theorem cut_head (x : Str) : (L2.cutS x none (some 1) = Str.ofString "-") ↔ ∃ r, x.cps.toList = 45 :: r := by
  rw [show Str.ofString "-" = ⟨#[45]⟩ by decide +kernel, str_eq]
  have e : (L2.cutS x none (some 1)).cps.toList = x.cps.toList.take 1 := by
    unfold L2.cutS
    have h := cut01 x.cps.toList
    unfold cutL at h
    rw [← str_len] at h
    simpa using h
  rw [e]
  cases x.cps.toList with
  | nil => simp
  | cons c r =>
    constructor
    · intro h
      have : c = 45 := by simpa using h
      exact ⟨r, by rw [this]⟩
    · rintro ⟨r', h⟩
      cases h
      rfl
theorem cut_tail {x : Str} {r : List Nat} (h : x.cps.toList = 45 :: r) : (L2.cutS x (some 1) none).cps.toList = r := by
  unfold L2.cutS
  have e1 : HT.sIx x.length 0 (some 1) = 1 := by
    rw [show HT.sIx x.length 0 (some 1) = min 1 x.length from HT.sIx_nat x.length 0 1, str_len, h, List.length_cons]
    omega
  rw [e1, HT.sIx_none, h, str_len, h]
  simp
theorem fig_range {c : Nat} (h : c ∈ figL) : 48 ≤ c ∧ c ≤ 57 := by
  have e : ∀ c ∈ figL, 48 ≤ c ∧ c ≤ 57 := by decide +kernel
  exact e c h
theorem figs_cases (l : List Nat) : (∃ r, l = 45 :: r ∧ figsL l = r) ∨ ((¬ ∃ r, l = 45 :: r) ∧ figsL l = l) := by
  unfold figsL
  split
  · exact .inl ⟨_, rfl, rfl⟩
  · rename_i h
    refine .inr ⟨?_, rfl⟩
    rintro ⟨r, e⟩
    exact h r e
theorem partOk_int {x : Str} (h : partOk x.cps.toList = true) : ∃ n, PySem.intText? x = some n ∧ x.length ≤ 301 := by
  obtain ⟨h1, h2, h3, h4⟩ := (partOk_iff _).mp h
  have hd : PySem.NumText.AllDigits (figsL x.cps.toList) := fun c hc => fig_range (h3 c hc)
  have hl := str_len x
  rcases figs_cases x.cps.toList with ⟨r, e1, e2⟩ | ⟨e1, e2⟩
  · rw [e2] at h1 h2 hd
    rw [e1, List.length_cons] at hl
    exact ⟨_, PySem.intText_neg e1 hd (fun z => by rw [z] at h1; cases h1) (by omega), by omega⟩
  · rw [e2] at h1 h2 hd
    exact ⟨_, PySem.intText_digits hd (fun z => by rw [z] at h1; cases h1) (by omega), by omega⟩
def digB (c : Nat) : Bool := decide (c ∈ figL)
theorem signs_map (p : Nat → Bool) (x : Str) : (signs x).map (strP p) = (x.cps.toList.map p).map PyData.bool := by
  unfold signs
  rw [List.map_map, List.map_map]
  exact List.map_congr_left fun c _ => strP_1 c
theorem rest_ok {x fig : Str} {q : Prop} {s0 s1 s2 : Sv} (hf : fig.cps.toList = figsL x.cps.toList) (hq : q ↔ x = fig) (h : K (optD (partV x))) :
    (1 ≤ (fig.length : Int) → ((fig.length : Int) ≤ 300 → gLcX (0 + 0) 0 [3] (signs fig) (gTo 3) gYes (gBin inD (gVar 3) (gC (.str "0123456789"))) [s0, s1, s2, Sv.un] fun ds => ∃ bs, ds = List.map PyData.bool bs ∧ gIte (bs.all id)
      (∃ c, L2.atI fig.cps.toList 0 = some c ∧ ((⟨#[c]⟩ : Str) = Str.ofString "0" → (1 < (fig.length : Int) → K PyData.none) ∧ (¬ 1 < (fig.length : Int) → (q → ∃ n, PySem.intText? x = some n ∧ x.length ≤ 640 ∧ K (PyData.int n)) ∧ (¬ q → K PyData.none))) ∧ (¬ (⟨#[c]⟩ : Str) = Str.ofString "0" → ∃ n, PySem.intText? x = some n ∧ x.length ≤ 640 ∧ K (PyData.int n))) (K PyData.none)) ∧
      (¬ (fig.length : Int) ≤ 300 → K PyData.none)) ∧ (¬ 1 ≤ (fig.length : Int) → K PyData.none) := by
  have hl : fig.length = (figsL x.cps.toList).length := by rw [str_len, hf]
  have no : partOk x.cps.toList ≠ true → K PyData.none := fun z => by
    unfold partV at h
    rwa [if_neg z] at h
  have yes : partOk x.cps.toList = true → ∃ n, PySem.intText? x = some n ∧ x.length ≤ 640 ∧ K (PyData.int n) := fun z => by
    unfold partV at h
    rw [if_pos z] at h
    obtain ⟨n, e, l⟩ := partOk_int z
    rw [e] at h
    exact ⟨n, e, by omega, h⟩
  refine ⟨fun h1 => ⟨fun h2 => ?_, fun h2 => no fun z => ?_⟩, fun h1 => no fun z => ?_⟩
  · refine lc_to (strP digB) rfl (Nat.le_refl _) (fun d hd P hP => ?_) ⟨_, signs_map _ _, ?_⟩
    · obtain ⟨c, hc, rfl⟩ := mem_signs hd
      rw [strP_1] at hP
      exact ⟨c, rfl, hP⟩
    · rw [List.all_map]
      refine ⟨fun ha => ?_, fun ha => no fun z => ?_⟩
      · have ha' : ∀ c ∈ figsL x.cps.toList, c ∈ figL := fun c hc => by
          have := List.all_eq_true.mp ha c (by rw [hf]; exact hc)
          exact of_decide_eq_true this
        cases e : figsL x.cps.toList with
        | nil =>
          rw [e] at hl
          have : fig.length = 0 := hl
          omega
        | cons c r =>
          rw [hf, e]
          refine ⟨c, L2.atI_nat (j := 0) rfl, fun hc => ⟨fun h3 => no fun z => ?_, fun h3 => ⟨fun hqq => yes ?_, fun hqq => no fun z => ?_⟩⟩, fun hc => yes ?_⟩
          · have hc' := (zero_eq c).mp hc
            exact ((partOk_iff _).mp z).2.2.2 ⟨by rw [e, hc']; rfl, .inl (by omega)⟩
          · refine (partOk_iff _).mpr ⟨by omega, by omega, ha', fun z => z.2.elim (fun z => h3 (by omega)) fun z => z ?_⟩
            rw [← hf, ← hq.mp hqq]
          · have hc' := (zero_eq c).mp hc
            exact ((partOk_iff _).mp z).2.2.2 ⟨by rw [e, hc']; rfl, .inr fun w => hqq (hq.mpr (str_eq.mpr (by rw [hf]; exact w)))⟩
          · refine (partOk_iff _).mpr ⟨by omega, by omega, ha', fun z => hc ((zero_eq c).mpr ?_)⟩
            have := z.1
            rw [e] at this
            exact Option.some.inj this
      · have ha' : fig.cps.toList.all digB = false := ha
        have := (partOk_iff _).mp z
        have t : fig.cps.toList.all digB = true := List.all_eq_true.mpr fun c hc => (decide_eq_true (this.2.2.1 c (by rw [← hf]; exact hc)) : digB c = true)
        rw [t] at ha'
        cases ha'
  · have := (partOk_iff _).mp z
    omega
  · have := (partOk_iff _).mp z
    omega
theorem readInteger_ok {x : Str} (h : K (optD (partV x))) : F_read_integer [.dat (.str x), .dat (.int 300)] K E := by
  unfold F_read_integer specOf G_read_integer N_read_integer
  refine ⟨rfl, ?_⟩
  simp only [gSeq, gSet, gVar, gVarB, gC, gBin, gChain, gTB, gIf, gIfS, gRet, gCall, gCallF, gCo, gN, gTup, gLst, gL, gNotT, gNotV, gAndT, gOrT, gAndV, gOrV, gIsi, gSl, gPart, gNo, gM0, gM1, gFn, gAn, gAd, gAp, gAs, gAsg, gTo, gToT, gToC, gTo0, gNext, gNeg, gPs0, gTick, gPix, gLenS, gIxS, gSumS, gLRg, gPar, gDic0, gDic1, gYes, gSeqI, gRg1, gRg2, gRetN, gSetF, gApp, gExt, gDrop, gFrz, gLcC_x, gForC_x, clr, startD, nth, List.set, true_or, or_true, true_and, and_true, R__law_pot_0, R__law_pot_1, R__law_pot_2, R__law_common_0, R__law_common_1, R__law_take_0, R__law_take_1, R__law_take_2, R__law_take_3, R__law_take_4, R__law_take_5, R__law_take_6, R__law_number_0, R__law_odd_0, R__law_odd_1, R__law_odd_2, R_is_word_0, R__law_own_word_0, R__law_own_name_0, R__law_own_name_1, R_is_fraction_0, R__law_own_read_0, R__law_own_read_1, R__law_own_read_2, R__law_own_read_3, R__law_own_read_4, R__law_own_read_5, R__law_own_read_6, R__law_own_read_7, R_read_integer_0, R_read_integer_1, R_read_integer_2, R_read_of_figures_0, R_read_of_figures_1, R_read_of_figures_2, R_read_of_figures_3, R_read_of_figures_4, addD_ii, addD_ss, addD_ll, addD_tt, subD_ii, mulD_ii, mulD_si, mulD_li, fdivD_ii, modD_ii, powD_ii, eqD_ii, eqD_ss, eqD_bb, neD_ii, neD_ss, neD_bb, ltD_ii, ltD_ss, leD_ii, gtD_ii, geD_ii, isD_n, isD_bb, isnotD_n, isnotD_bb, inD_ss, inD_l, inD_t, notinD_ss, notinD_l, notinD_t, ixD_l, ixD_t, ixD_s, slD_t, slD_s, slD_l, lenD_s, lenD_l, lenD_t, tupD_l, tupD_t, listD_l, listD_t, allD_l, anyD_l, sumD_l, maxD_ii, minD_ii, maxD_l, minD_l, absD_i, gcdD_ii, intD_i, intD_b, intD_s, strD_i, strD_s, reprD_1, joinD_l, splitD_s, PB_0, PB_1, PB_2, gIte_t, gIte_f, gIte_d, gIte_n, d_MINUS, d_FIGURES, cut_head]
  rcases figs_cases x.cps.toList with ⟨r, e1, e2⟩ | ⟨e1, e2⟩
  · exact ⟨fun _ => rest_ok (by rw [cut_tail e1, e2]) Iff.rfl h, fun z => absurd ⟨r, e1⟩ z⟩
  · exact ⟨fun z => absurd z e1, fun _ => rest_ok e2.symm ⟨fun _ => rfl, fun _ => trivial⟩ h⟩
def readL (ps : List (Option Int)) : D := match ps with
  | [some n] => .tuple [.int n, .int 1]
  | [some n, some m] => if 1 < m ∧ Nat.gcd n.natAbs m.natAbs = 1 then .tuple [.int n, .int m] else .none
  | _ => .none
def readD (x : Str) : D := readL ((Txt.split x (Str.ofString "/")).map partV)
def readAny : D → D
  | .str x => readD x
  | _ => .none
def strOkD : D → Prop
  | .str x => x.length ≤ 10000
  | _ => True
theorem split_pre {x : Str} (h : x.length ≤ 10000) : ((Str.ofString "/").length == 0) = false ∧ x.length + 2 ≤ sizeLine ∧ (Txt.split x (Str.ofString "/")).length ≤ sizeLine ∧ ∀ y ∈ Txt.split x (Str.ofString "/"), y.length ≤ sizeLine := by
  have h2 := PyProof.Rows.split_le x (Str.ofString "/")
  rw [sizeLine_eq]
  refine ⟨by decide +kernel, by omega, by omega, fun y hy => ?_⟩
  have := PyProof.Rows.part_short hy
  omega
def partF : D → D
  | .str x => optD (partV x)
  | _ => .none
theorem part_map (ps : List Str) : (ps.map PyData.str).map partF = ps.map fun p => optD (partV p) := by
  rw [List.map_map]
  rfl
theorem shaped_opt : ∀ (os : List (Option Int)), SeqAt.shaped (.list (os.map optD)) = true := fun os => by
  have h1 : ∀ os : List (Option Int), PyData.canLayAll0 (os.map optD) = true ∧ PyData.depthAll (os.map optD) = 0 := fun os => by
    induction os with
    | nil => exact ⟨rfl, rfl⟩
    | cons o os ih =>
      rw [List.map_cons]
      unfold PyData.canLayAll0 PyData.depthAll
      rw [ih.1, ih.2]
      cases o <;> simp [optD, PyData.canLay0, PyData.depth]
  have h := h1 os
  unfold SeqAt.shaped
  simp only [PyData.canLay0, PyData.depth, h.1, h.2]
  rfl
theorem eqv_opt (o : Option Int) : PyData.eqv (optD o) .none = o.isNone := by
  cases o <;> rfl
theorem readOf_ok {d : D} (hd : strOkD d) (h : K (readAny d)) : F_read_of_figures [.dat d, .dat (.int 300)] K E := by
  unfold F_read_of_figures specOf G_read_of_figures N_read_of_figures
  refine ⟨rfl, ?_⟩
  cases d with
  | str x =>
    simp only [gSeq, gSet, gVar, gVarB, gC, gBin, gChain, gTB, gIf, gIfS, gRet, gCall, gCallF, gCo, gN, gTup, gLst, gL, gNotT, gNotV, gAndT, gOrT, gAndV, gOrV, gIsi, gSl, gPart, gNo, gM0, gM1, gFn, gAn, gAd, gAp, gAs, gAsg, gTo, gToT, gToC, gTo0, gNext, gNeg, gPs0, gTick, gPix, gLenS, gIxS, gSumS, gLRg, gPar, gDic0, gDic1, gYes, gSeqI, gRg1, gRg2, gRetN, gSetF, gApp, gExt, gDrop, gFrz, gLcC_x, gForC_x, clr, startD, nth, List.set, true_or, or_true, true_and, and_true, R__law_pot_0, R__law_pot_1, R__law_pot_2, R__law_common_0, R__law_common_1, R__law_take_0, R__law_take_1, R__law_take_2, R__law_take_3, R__law_take_4, R__law_take_5, R__law_take_6, R__law_number_0, R__law_odd_0, R__law_odd_1, R__law_odd_2, R_is_word_0, R__law_own_word_0, R__law_own_name_0, R__law_own_name_1, R_is_fraction_0, R__law_own_read_0, R__law_own_read_1, R__law_own_read_2, R__law_own_read_3, R__law_own_read_4, R__law_own_read_5, R__law_own_read_6, R__law_own_read_7, R_read_integer_0, R_read_integer_1, R_read_integer_2, R_read_of_figures_0, R_read_of_figures_1, R_read_of_figures_2, R_read_of_figures_3, R_read_of_figures_4, addD_ii, addD_ss, addD_ll, addD_tt, subD_ii, mulD_ii, mulD_si, mulD_li, fdivD_ii, modD_ii, powD_ii, eqD_ii, eqD_ss, eqD_bb, neD_ii, neD_ss, neD_bb, ltD_ii, ltD_ss, leD_ii, gtD_ii, geD_ii, isD_n, isD_bb, isnotD_n, isnotD_bb, inD_ss, inD_l, inD_t, notinD_ss, notinD_l, notinD_t, ixD_l, ixD_t, ixD_s, slD_t, slD_s, slD_l, lenD_s, lenD_l, lenD_t, tupD_l, tupD_t, listD_l, listD_t, allD_l, anyD_l, sumD_l, maxD_ii, minD_ii, maxD_l, minD_l, absD_i, gcdD_ii, intD_i, intD_b, intD_s, strD_i, strD_s, reprD_1, joinD_l, splitD_s, PB_0, PB_1, PB_2, gIte_t, gIte_f, gIte_d, gIte_n, d_STROKE, isStrD, List.append_nil]
    obtain ⟨p1, p2, p3, p4⟩ := split_pre hd
    refine ⟨p1, p2, p3, p4, ?_⟩
    have h' : K (readL ((Txt.split x (Str.ofString "/")).map partV)) := h
    revert h'
    generalize Txt.split x (Str.ofString "/") = ps
    intro h'
    refine lc_to partF rfl (Nat.le_refl _) (fun d hd P hP => ?_) ?_
    · obtain ⟨p, _, rfl⟩ := List.mem_map.mp hd
      exact readInteger_ok hP
    · rw [part_map, List.length_map]
      match ps, h' with
      | [], h' => exact ⟨fun z => absurd z (by decide), fun _ => h'⟩
      | [p], h' =>
        refine ⟨fun _ => ⟨fun _ => ⟨rfl, shaped_opt [partV p], ?_⟩, fun z => absurd (show (1 : Int) ≤ 2 by decide) z⟩, fun z => absurd (show (1 : Int) ≤ 1 by decide) z⟩
        have h2 : K (readL [partV p]) := h'
        rw [show ([p].map fun p => optD (partV p)) = [optD (partV p)] from rfl, List.any_cons, List.any_nil, Bool.or_false, eqv_opt]
        cases e : partV p with
        | none =>
          rw [e] at h2
          exact ⟨fun _ => h2, fun z => (nomatch z)⟩
        | some n =>
          rw [e] at h2
          exact ⟨fun z => (nomatch z), fun _ => ⟨fun _ => ⟨_, rfl, (show 2 ≤ sizeLine by rw [sizeLine_eq]; decide), h2⟩, fun z => absurd rfl z⟩⟩
      | [p, q], h' =>
        refine ⟨fun _ => ⟨fun _ => ⟨rfl, shaped_opt [partV p, partV q], ?_⟩, fun z => absurd (show (2 : Int) ≤ 2 by decide) z⟩, fun z => absurd (show (1 : Int) ≤ 2 by decide) z⟩
        have h2 : K (readL [partV p, partV q]) := h'
        rw [show ([p, q].map fun p => optD (partV p)) = [optD (partV p), optD (partV q)] from rfl, List.any_cons, List.any_cons, List.any_nil, Bool.or_false, eqv_opt, eqv_opt]
        cases e : partV p with
        | none =>
          rw [e] at h2
          exact ⟨fun _ => h2, fun z => nomatch z⟩
        | some n =>
          cases e2 : partV q with
          | none =>
            rw [e, e2] at h2
            exact ⟨fun _ => h2, fun z => nomatch z⟩
          | some m =>
            rw [e, e2] at h2
            have h2 : K (if 1 < m ∧ Nat.gcd n.natAbs m.natAbs = 1 then .tuple [.int n, .int m] else .none) := h2
            refine ⟨fun z => (nomatch z), fun _ => ⟨fun z => absurd z (show ¬ (2 : Int) = 1 by decide), fun _ => ⟨_, rfl, _, rfl, (show 2 ≤ sizeLine by rw [sizeLine_eq]; decide), _, rfl, ?_⟩⟩⟩
            simp only [optD, gSeq, gSet, gVar, gVarB, gC, gBin, gChain, gTB, gIf, gIfS, gRet, gCall, gCallF, gCo, gN, gTup, gLst, gL, gNotT, gNotV, gAndT, gOrT, gAndV, gOrV, gIsi, gSl, gPart, gNo, gM0, gM1, gFn, gAn, gAd, gAp, gAs, gAsg, gTo, gToT, gToC, gTo0, gNext, gNeg, gPs0, gTick, gPix, gLenS, gIxS, gSumS, gLRg, gPar, gDic0, gDic1, gYes, gSeqI, gRg1, gRg2, gRetN, gSetF, gApp, gExt, gDrop, gFrz, gLcC_x, gForC_x, clr, startD, nth, List.set, true_or, or_true, true_and, and_true, R__law_pot_0, R__law_pot_1, R__law_pot_2, R__law_common_0, R__law_common_1, R__law_take_0, R__law_take_1, R__law_take_2, R__law_take_3, R__law_take_4, R__law_take_5, R__law_take_6, R__law_number_0, R__law_odd_0, R__law_odd_1, R__law_odd_2, R_is_word_0, R__law_own_word_0, R__law_own_name_0, R__law_own_name_1, R_is_fraction_0, R__law_own_read_0, R__law_own_read_1, R__law_own_read_2, R__law_own_read_3, R__law_own_read_4, R__law_own_read_5, R__law_own_read_6, R__law_own_read_7, R_read_integer_0, R_read_integer_1, R_read_integer_2, R_read_of_figures_0, R_read_of_figures_1, R_read_of_figures_2, R_read_of_figures_3, R_read_of_figures_4, addD_ii, addD_ss, addD_ll, addD_tt, subD_ii, mulD_ii, mulD_si, mulD_li, fdivD_ii, modD_ii, powD_ii, eqD_ii, eqD_ss, eqD_bb, neD_ii, neD_ss, neD_bb, ltD_ii, ltD_ss, leD_ii, gtD_ii, geD_ii, isD_n, isD_bb, isnotD_n, isnotD_bb, inD_ss, inD_l, inD_t, notinD_ss, notinD_l, notinD_t, ixD_l, ixD_t, ixD_s, slD_t, slD_s, slD_l, lenD_s, lenD_l, lenD_t, tupD_l, tupD_t, listD_l, listD_t, allD_l, anyD_l, sumD_l, maxD_ii, minD_ii, maxD_l, minD_l, absD_i, gcdD_ii, intD_i, intD_b, intD_s, strD_i, strD_s, reprD_1, joinD_l, splitD_s, PB_0, PB_1, PB_2, gIte_t, gIte_f, gIte_d, gIte_n]
            refine ⟨fun w => isFraction_ok ?_, fun w => ?_⟩
            · have e3 : fracB (.tuple [.int n, .int m]) = (decide (1 ≤ m) && decide (Nat.gcd n.natAbs m.natAbs = 1)) := rfl
              rw [e3, decide_eq_true (show 1 ≤ m by omega), Bool.true_and]
              refine ⟨fun g => ?_, fun g => ?_⟩
              · rwa [if_pos ⟨w, of_decide_eq_true g⟩] at h2
              · rwa [if_neg fun z => of_decide_eq_false g z.2] at h2
            · rwa [if_neg fun z => w z.1] at h2
      | p :: q :: r :: t, h' =>
        have h2 : K .none := by
          have e : readL ((p :: q :: r :: t).map partV) = .none := by
            simp only [List.map_cons]
            unfold readL
            cases partV p <;> cases partV q <;> rfl
          rwa [e] at h'
        exact ⟨fun _ => ⟨fun z => absurd z (by simp only [List.length_cons]; omega), fun _ => h2⟩, fun _ => h2⟩
  | _ =>
    simp only [gSeq, gSet, gVar, gVarB, gC, gBin, gChain, gTB, gIf, gIfS, gRet, gCall, gCallF, gCo, gN, gTup, gLst, gL, gNotT, gNotV, gAndT, gOrT, gAndV, gOrV, gIsi, gSl, gPart, gNo, gM0, gM1, gFn, gAn, gAd, gAp, gAs, gAsg, gTo, gToT, gToC, gTo0, gNext, gNeg, gPs0, gTick, gPix, gLenS, gIxS, gSumS, gLRg, gPar, gDic0, gDic1, gYes, gSeqI, gRg1, gRg2, gRetN, gSetF, gApp, gExt, gDrop, gFrz, gLcC_x, gForC_x, clr, startD, nth, List.set, true_or, or_true, true_and, and_true, R__law_pot_0, R__law_pot_1, R__law_pot_2, R__law_common_0, R__law_common_1, R__law_take_0, R__law_take_1, R__law_take_2, R__law_take_3, R__law_take_4, R__law_take_5, R__law_take_6, R__law_number_0, R__law_odd_0, R__law_odd_1, R__law_odd_2, R_is_word_0, R__law_own_word_0, R__law_own_name_0, R__law_own_name_1, R_is_fraction_0, R__law_own_read_0, R__law_own_read_1, R__law_own_read_2, R__law_own_read_3, R__law_own_read_4, R__law_own_read_5, R__law_own_read_6, R__law_own_read_7, R_read_integer_0, R_read_integer_1, R_read_integer_2, R_read_of_figures_0, R_read_of_figures_1, R_read_of_figures_2, R_read_of_figures_3, R_read_of_figures_4, addD_ii, addD_ss, addD_ll, addD_tt, subD_ii, mulD_ii, mulD_si, mulD_li, fdivD_ii, modD_ii, powD_ii, eqD_ii, eqD_ss, eqD_bb, neD_ii, neD_ss, neD_bb, ltD_ii, ltD_ss, leD_ii, gtD_ii, geD_ii, isD_n, isD_bb, isnotD_n, isnotD_bb, inD_ss, inD_l, inD_t, notinD_ss, notinD_l, notinD_t, ixD_l, ixD_t, ixD_s, slD_t, slD_s, slD_l, lenD_s, lenD_l, lenD_t, tupD_l, tupD_t, listD_l, listD_t, allD_l, anyD_l, sumD_l, maxD_ii, minD_ii, maxD_l, minD_l, absD_i, gcdD_ii, intD_i, intD_b, intD_s, strD_i, strD_s, reprD_1, joinD_l, splitD_s, PB_0, PB_1, PB_2, gIte_t, gIte_f, gIte_d, gIte_n, d_STROKE, isStrD, List.append_nil]
    refine ⟨Nat.zero_le _, ?_⟩
    refine lc_to partF rfl (Nat.le_refl _) (fun d hd P hP => by cases hd) ?_
    exact ⟨fun z => absurd z (by decide), fun _ => h⟩
theorem readFraction_ok {d : D} (hd : strOkD d) (h : K (readAny d)) : F_read_fraction [.dat d] K E := by
  unfold F_read_fraction specOf G_read_fraction N_read_fraction
  refine ⟨rfl, ?_⟩
  simp only [gSeq, gSet, gVar, gVarB, gC, gBin, gChain, gTB, gIf, gIfS, gRet, gCall, gCallF, gCo, gN, gTup, gLst, gL, gNotT, gNotV, gAndT, gOrT, gAndV, gOrV, gIsi, gSl, gPart, gNo, gM0, gM1, gFn, gAn, gAd, gAp, gAs, gAsg, gTo, gToT, gToC, gTo0, gNext, gNeg, gPs0, gTick, gPix, gLenS, gIxS, gSumS, gLRg, gPar, gDic0, gDic1, gYes, gSeqI, gRg1, gRg2, gRetN, gSetF, gApp, gExt, gDrop, gFrz, gLcC_x, gForC_x, clr, startD, nth, List.set, true_or, or_true, true_and, and_true, R__law_pot_0, R__law_pot_1, R__law_pot_2, R__law_common_0, R__law_common_1, R__law_take_0, R__law_take_1, R__law_take_2, R__law_take_3, R__law_take_4, R__law_take_5, R__law_take_6, R__law_number_0, R__law_odd_0, R__law_odd_1, R__law_odd_2, R_is_word_0, R__law_own_word_0, R__law_own_name_0, R__law_own_name_1, R_is_fraction_0, R__law_own_read_0, R__law_own_read_1, R__law_own_read_2, R__law_own_read_3, R__law_own_read_4, R__law_own_read_5, R__law_own_read_6, R__law_own_read_7, R_read_integer_0, R_read_integer_1, R_read_integer_2, R_read_of_figures_0, R_read_of_figures_1, R_read_of_figures_2, R_read_of_figures_3, R_read_of_figures_4, addD_ii, addD_ss, addD_ll, addD_tt, subD_ii, mulD_ii, mulD_si, mulD_li, fdivD_ii, modD_ii, powD_ii, eqD_ii, eqD_ss, eqD_bb, neD_ii, neD_ss, neD_bb, ltD_ii, ltD_ss, leD_ii, gtD_ii, geD_ii, isD_n, isD_bb, isnotD_n, isnotD_bb, inD_ss, inD_l, inD_t, notinD_ss, notinD_l, notinD_t, ixD_l, ixD_t, ixD_s, slD_t, slD_s, slD_l, lenD_s, lenD_l, lenD_t, tupD_l, tupD_t, listD_l, listD_t, allD_l, anyD_l, sumD_l, maxD_ii, minD_ii, maxD_l, minD_l, absD_i, gcdD_ii, intD_i, intD_b, intD_s, strD_i, strD_s, reprD_1, joinD_l, splitD_s, PB_0, PB_1, PB_2, gIte_t, gIte_f, gIte_d, gIte_n, d_MOST_FIGURES, List.append_nil]
  exact readOf_ok hd h
/-! ### texts of ints -/
theorem toNat_ofNat {c : Nat} (h : 48 ≤ c ∧ c ≤ 57) : (Char.ofNat c).toNat = c := by
  have e : ∀ k : Fin 10, (Char.ofNat (48 + k.val)).toNat = 48 + k.val := by decide
  have := e ⟨c - 48, by omega⟩
  simp only at this
  rwa [show 48 + (c - 48) = c by omega] at this
theorem back_map {cs : List Nat} (h : PySem.NumText.AllDigits cs) : (cs.map Char.ofNat).map Char.toNat = cs := by
  rw [List.map_map]
  conv => rhs; rw [← List.map_id cs]
  exact List.map_congr_left fun c hc => toNat_ofNat (h c hc)
theorem numL_eq {cs : List Nat} (h : PySem.NumText.AllDigits cs) (h0 : cs ≠ []) : TL.numL (PySem.NumText.digitsVal cs) = cs ↔ ¬ (cs.head? = some 48 ∧ 1 < cs.length) := by
  have e := PySem.NumText.toDigits_all cs h
  cases cs with
  | nil => exact absurd rfl h0
  | cons c r =>
    have hc := h.head
    unfold TL.numL
    rw [e, List.dropWhile_cons]
    by_cases z : c = 48
    · subst z
      rw [if_pos (by rfl)]
      constructor
      · rintro q ⟨_, l⟩
        have len := congrArg List.length q
        cases d : r.dropWhile (· == 48) with
        | nil =>
          rw [d] at len
          rw [List.length_cons] at l
          cases r with
          | nil => exact absurd l (by decide)
          | cons a b => simp at len
        | cons a b =>
          rw [d] at len
          have sub := (List.dropWhile_sublist (l := r) (· == 48)).length_le
          rw [d] at sub
          simp at len sub
          omega
      · intro q
        cases r with
        | nil => rfl
        | cons a b => exact absurd ⟨rfl, by simp⟩ q
    · rw [if_neg (by rw [beq_iff_eq]; exact z)]
      constructor
      · rintro _ ⟨q, _⟩
        exact z (Option.some.inj q)
      · exact fun _ => back_map h
theorem tl_neg {n : Nat} (h : 0 < n) : (Str.ofString (toString (-(n : Int)))).cps.toList = 45 :: TL.numL n := by
  obtain ⟨m, rfl⟩ : ∃ m, n = m + 1 := ⟨n - 1, by omega⟩
  have e : toString (-((m + 1 : Nat) : Int)) = "-" ++ Nat.repr (m + 1) := rfl
  rw [e, PyProof.Rows.signs_ofString]
  simp [TL.numL, Nat.toList_repr]
theorem canon {x : Str} {n : Int} (h1 : figsL x.cps.toList ≠ []) (h2 : (figsL x.cps.toList).length ≤ 300) (h3 : ∀ c ∈ figsL x.cps.toList, c ∈ figL) (hn : PySem.intText? x = some n) :
    (toString n : Str) = x ↔ ¬ ((figsL x.cps.toList).head? = some 48 ∧ (1 < (figsL x.cps.toList).length ∨ x.cps.toList ≠ figsL x.cps.toList)) := by
  have hd : PySem.NumText.AllDigits (figsL x.cps.toList) := fun c hc => fig_range (h3 c hc)
  have hl := str_len x
  rw [str_eq]
  rcases figs_cases x.cps.toList with ⟨r, e1, e2⟩ | ⟨e1, e2⟩
  · rw [e2] at h1 h2 hd ⊢
    rw [e1, List.length_cons] at hl
    have e := PySem.intText_neg e1 hd h1 (by omega)
    rw [hn] at e
    have e' := Option.some.inj e
    subst e'
    have q := numL_eq hd h1
    by_cases v : PySem.NumText.digitsVal r = 0
    · rw [v] at q ⊢
      constructor
      · intro w
        exfalso
        rw [e1] at w
        have : (Str.ofString (toString (-((0 : Nat) : Int)))).cps.toList = [48] := by decide +kernel
        rw [show (Str.ofString (toString (-((0 : Nat) : Int)))).cps.toList = [48] from this] at w
        cases w
      · intro w
        exfalso
        refine w ⟨?_, .inr (by rw [e1]; intro z; have := congrArg List.length z; simp at this)⟩
        cases r with
        | nil => exact absurd rfl h1
        | cons c t =>
          by_cases c49 : 49 ≤ c
          · have := PySem.NumText.digitsVal_pos (cs := t) c49
            omega
          · have := hd.head
            rw [show c = 48 by omega]
            rfl
    · rw [tl_neg (by omega), e1]
      constructor
      · intro w
        have w' : TL.numL (PySem.NumText.digitsVal r) = r := by
          injection w
        have q' := q.mp w'
        rintro ⟨z1, z2⟩
        cases r with
        | nil => exact absurd rfl h1
        | cons c t =>
          by_cases t0 : t = []
          · subst t0
            have : c = 48 := Option.some.inj z1
            subst this
            exact v rfl
          · refine q' ⟨z1, ?_⟩
            cases t with
            | nil => exact absurd rfl t0
            | cons _ _ => simp
      · intro w
        rw [q.mpr fun z => w ⟨z.1, .inl z.2⟩]
  · rw [e2] at h1 h2 hd ⊢
    have e := PySem.intText_digits hd h1 (by omega)
    rw [hn] at e
    have e' := Option.some.inj e
    subst e'
    rw [show (Str.ofString (toString ((PySem.NumText.digitsVal x.cps.toList : Nat) : Int))).cps.toList = TL.numL (PySem.NumText.digitsVal x.cps.toList) from TL.tl_num _, numL_eq hd h1]
    constructor
    · rintro w ⟨z1, z2⟩
      exact z2.elim (fun z => w ⟨z1, z⟩) fun z => z rfl
    · exact fun w z => w ⟨z.1, .inl z.2⟩
theorem digits_lt : ∀ (cs : List Nat) (a : Nat), PySem.NumText.AllDigits cs → cs.foldl (fun acc c => acc * 10 + (c - 48)) a < (a + 1) * 10 ^ cs.length
  | [], a, _ => by simp
  | c :: cs, a, h => by
    have ih := digits_lt cs (a * 10 + (c - 48)) h.tail
    have hc := h.head
    rw [List.foldl_cons, List.length_cons, Nat.pow_succ]
    refine Nat.lt_of_lt_of_le ih ?_
    rw [Nat.mul_comm (10 ^ cs.length) 10, ← Nat.mul_assoc]
    exact Nat.mul_le_mul_right _ (by omega)
theorem val_log {cs : List Nat} (h : PySem.NumText.AllDigits cs) (l : cs.length ≤ 300) : PySem.NumText.digitsVal cs < 2 ^ 1000 := by
  have h1 := digits_lt cs 0 h
  have h2 : (0 + 1) * 10 ^ cs.length ≤ 10 ^ 300 := by
    rw [Nat.zero_add, Nat.one_mul]
    exact Nat.pow_le_pow_right (by decide) l
  have h3 : (10 : Nat) ^ 300 < 2 ^ 1000 := by decide +kernel
  exact Nat.lt_trans (Nat.lt_of_lt_of_le h1 h2) h3
theorem text_int {x : Str} (h1 : figsL x.cps.toList ≠ []) (h2 : (figsL x.cps.toList).length ≤ 300) (h3 : ∀ c ∈ figsL x.cps.toList, c ∈ figL) : ∃ n, PySem.intText? x = some n ∧ x.length ≤ 301 ∧ n.natAbs.log2 < 1100 := by
  have hd : PySem.NumText.AllDigits (figsL x.cps.toList) := fun c hc => fig_range (h3 c hc)
  have hl := str_len x
  have lg : ∀ v : Nat, v < 2 ^ 1000 → v.log2 < 1100 := fun v hv => by
    by_cases z : v = 0
    · rw [z]
      decide
    · have := (Nat.log2_lt z).mpr hv
      omega
  rcases figs_cases x.cps.toList with ⟨r, e1, e2⟩ | ⟨e1, e2⟩
  · rw [e2] at h1 h2 hd
    rw [e1, List.length_cons] at hl
    exact ⟨_, PySem.intText_neg e1 hd h1 (by omega), by omega, by rw [Int.natAbs_neg]; exact lg _ (val_log hd h2)⟩
  · rw [e2] at h1 h2 hd
    exact ⟨_, PySem.intText_digits hd h1 (by omega), by omega, lg _ (val_log hd h2)⟩
theorem empty_eq (x : Str) : x = Str.ofString "" ↔ x.cps.toList = [] := by
  rw [str_eq, show (Str.ofString "").cps.toList = [] by decide +kernel]
theorem own_part {p fig : Str} {s0 s1 s2 s3 s4 : Sv} {B : Int → Prop} {k : D → Prop} (hv : ([5].all fun i => noOwn (nth [s0, s1, s2, s3, s4, Sv.un] i)) = true) (hf : fig.cps.toList = figsL p.cps.toList) (no : partV p = none → k PyData.none) (yes : ∀ n, partV p = some n → B n) :
    (fig = Str.ofString "" → k PyData.none) ∧ (¬ fig = Str.ofString "" → (300 < (fig.length : Int) → k PyData.none) ∧ (¬ 300 < (fig.length : Int) → gLcX (0 + 0) 0 [5] (signs fig) (gTo 5) gYes (gBin inD (gVar 5) (gC (PyData.str (Str.ofString "0123456789")))) [s0, s1, s2, s3, s4, Sv.un] fun ds => ∃ bs, ds = List.map PyData.bool bs ∧ gIte (bs.all id)
      (∃ n, PySem.intText? p = some n ∧ p.length ≤ 640 ∧ n.natAbs.log2 < 1920 ∧ (Str.ofString (toString n) = p → ∃ n, PySem.intText? p = some n ∧ p.length ≤ 640 ∧ B n) ∧ (¬ Str.ofString (toString n) = p → k PyData.none)) (k PyData.none))) := by
  have hl : fig.length = (figsL p.cps.toList).length := by rw [str_len, hf]
  have no' : partOk p.cps.toList ≠ true → k PyData.none := fun z => no (by unfold partV; rw [if_neg z])
  refine ⟨fun h1 => no' fun z => ?_, fun h1 => ⟨fun h2 => no' fun z => ?_, fun h2 => ?_⟩⟩
  · have := (partOk_iff _).mp z
    rw [empty_eq, hf] at h1
    rw [h1] at this
    exact absurd this.1 (by decide)
  · have := (partOk_iff _).mp z
    omega
  · have h1' : figsL p.cps.toList ≠ [] := fun z => h1 ((empty_eq _).mpr (by rw [hf]; exact z))
    refine lc_to (strP digB) hv (Nat.le_refl _) (fun d hd P hP => ?_) ⟨_, signs_map _ _, ?_⟩
    · obtain ⟨c, hc, rfl⟩ := mem_signs hd
      rw [strP_1] at hP
      exact ⟨c, rfl, hP⟩
    · rw [List.all_map]
      refine ⟨fun ha => ?_, fun ha => no' fun z => ?_⟩
      · have ha' : ∀ c ∈ figsL p.cps.toList, c ∈ figL := fun c hc => by
          have := List.all_eq_true.mp ha c (by rw [hf]; exact hc)
          exact of_decide_eq_true this
        have l300 : (figsL p.cps.toList).length ≤ 300 := by omega
        obtain ⟨n, e1, e2, e3⟩ := text_int h1' l300 ha'
        have cn := canon h1' l300 ha' e1
        have pos : 1 ≤ (figsL p.cps.toList).length := List.length_pos_iff.mpr h1'
        refine ⟨n, e1, by omega, by omega, fun z => ⟨n, e1, by omega, yes n ?_⟩, fun z => no' fun w => ?_⟩
        · unfold partV
          rw [if_pos ((partOk_iff _).mpr ⟨pos, l300, ha', cn.mp z⟩)]
          exact e1
        · exact z (cn.mpr ((partOk_iff _).mp w).2.2.2)
      · have ha' : fig.cps.toList.all digB = false := ha
        have := (partOk_iff _).mp z
        have t : fig.cps.toList.all digB = true := List.all_eq_true.mpr fun c hc => (decide_eq_true (this.2.2.1 c (by rw [← hf]; exact hc)) : digB c = true)
        rw [t] at ha'
        cases ha'
theorem readL_none {os : List (Option Int)} (h : none ∈ os) : readL os = .none := by
  unfold readL
  split
  · simp at h
  · simp at h
  · rfl
theorem readL_long {os : List (Option Int)} (h : 2 < os.length) : readL os = .none := by
  match os, h with
  | a :: b :: c :: r, _ => cases a <;> cases b <;> rfl
theorem ownRead_ok {x : Str} (hd : x.length ≤ 10000) (h : K (readD x)) : F__law_own_read [.dat (.str x)] K E := by
  unfold F__law_own_read specOf G__law_own_read N__law_own_read
  refine ⟨rfl, ?_⟩
  simp only [gSeq, gSet, gVar, gVarB, gC, gBin, gChain, gTB, gIf, gIfS, gRet, gCall, gCallF, gCo, gN, gTup, gLst, gL, gNotT, gNotV, gAndT, gOrT, gAndV, gOrV, gIsi, gSl, gPart, gNo, gM0, gM1, gFn, gAn, gAd, gAp, gAs, gAsg, gTo, gToT, gToC, gTo0, gNext, gNeg, gPs0, gTick, gPix, gLenS, gIxS, gSumS, gLRg, gPar, gDic0, gDic1, gYes, gSeqI, gRg1, gRg2, gRetN, gSetF, gApp, gExt, gDrop, gFrz, gLcC_x, gForC_x, clr, startD, nth, List.set, true_or, or_true, true_and, and_true, R__law_pot_0, R__law_pot_1, R__law_pot_2, R__law_common_0, R__law_common_1, R__law_take_0, R__law_take_1, R__law_take_2, R__law_take_3, R__law_take_4, R__law_take_5, R__law_take_6, R__law_number_0, R__law_odd_0, R__law_odd_1, R__law_odd_2, R_is_word_0, R__law_own_word_0, R__law_own_name_0, R__law_own_name_1, R_is_fraction_0, R__law_own_read_0, R__law_own_read_1, R__law_own_read_2, R__law_own_read_3, R__law_own_read_4, R__law_own_read_5, R__law_own_read_6, R__law_own_read_7, R_read_integer_0, R_read_integer_1, R_read_integer_2, R_read_of_figures_0, R_read_of_figures_1, R_read_of_figures_2, R_read_of_figures_3, R_read_of_figures_4, addD_ii, addD_ss, addD_ll, addD_tt, subD_ii, mulD_ii, mulD_si, mulD_li, fdivD_ii, modD_ii, powD_ii, eqD_ii, eqD_ss, eqD_bb, neD_ii, neD_ss, neD_bb, ltD_ii, ltD_ss, leD_ii, gtD_ii, geD_ii, isD_n, isD_bb, isnotD_n, isnotD_bb, inD_ss, inD_l, inD_t, notinD_ss, notinD_l, notinD_t, ixD_l, ixD_t, ixD_s, slD_t, slD_s, slD_l, lenD_s, lenD_l, lenD_t, tupD_l, tupD_t, listD_l, listD_t, allD_l, anyD_l, sumD_l, maxD_ii, minD_ii, maxD_l, minD_l, absD_i, gcdD_ii, intD_i, intD_b, intD_s, strD_i, strD_s, reprD_1, joinD_l, splitD_s, PB_0, PB_1, PB_2, gIte_t, gIte_f, gIte_d, gIte_n]
  obtain ⟨p1, p2, p3, p4⟩ := split_pre hd
  refine ⟨rfl, p1, p2, p3, p4, ?_⟩
  have h' : K (readL ((Txt.split x (Str.ofString "/")).map partV)) := h
  have hpos := PyProof.Rows.split_pos x (Str.ofString "/")
  revert h' hpos
  generalize Txt.split x (Str.ofString "/") = ps
  intro h' hpos
  rw [List.length_map]
  refine ⟨fun z => ?_, fun z => ⟨Nat.zero_le _, (show 2 < 6 by decide), Nat.le_of_eq (Nat.mul_zero _), fun i Δ' => ∃ (ns : List Int) (a b : Sv), Δ' = [.dat (.str x), .dat (.list (ps.map .str)), .own (ns.map .int), a, b, .un] ∧ (ps.take i).map partV = ns.map some, ⟨[], _, _, rfl, rfl⟩, ?_, ?_⟩⟩
  · rwa [readL_long (by rw [List.length_map]; omega)] at h'
  · rintro i d Δ' hdd ⟨ns, a, b, rfl, hns⟩
    rw [List.getElem?_map] at hdd
    cases e : ps[i]? with
    | none =>
      rw [e] at hdd
      cases hdd
    | some p =>
      rw [e] at hdd
      cases hdd
      have no : partV p = none → K PyData.none := fun q => by
        rwa [readL_none (by rw [← q]; exact List.mem_map_of_mem (List.mem_of_getElem? e))] at h'
      have hi : ns.length ≤ i := by
        have := congrArg List.length hns
        rw [List.length_map, List.length_map, List.length_take] at this
        omega
      have hil : i < ps.length := (List.getElem?_eq_some_iff.mp e).1
      have yes : ∀ (fig : Str) (n : Int), partV p = some n → (List.map PyData.int ns).length < sizeLine ∧ ∃ (ns_1 : List Int) (a b : Sv), [Sv.dat (PyData.str x), Sv.dat (PyData.list (List.map PyData.str ps)), Sv.own (List.map PyData.int ns ++ [PyData.int n]), Sv.dat (PyData.str p), Sv.dat (PyData.str fig), Sv.un] =
          [Sv.dat (PyData.str x), Sv.dat (PyData.list (List.map PyData.str ps)), Sv.own (List.map PyData.int ns_1), a, b, Sv.un] ∧ List.map partV (List.take (i + 1) ps) = List.map some ns_1 := fun fig n q => by
        refine ⟨by rw [List.length_map, sizeLine_eq]; omega, ns ++ [n], _, _, by rw [List.map_append]; rfl, ?_⟩
        rw [List.take_add_one, e, List.map_append, hns, List.map_append]
        show _ ++ [partV p] = _
        rw [q]
        rfl
      simp only [gSeq, gSet, gVar, gVarB, gC, gBin, gChain, gTB, gIf, gIfS, gRet, gCall, gCallF, gCo, gN, gTup, gLst, gL, gNotT, gNotV, gAndT, gOrT, gAndV, gOrV, gIsi, gSl, gPart, gNo, gM0, gM1, gFn, gAn, gAd, gAp, gAs, gAsg, gTo, gToT, gToC, gTo0, gNext, gNeg, gPs0, gTick, gPix, gLenS, gIxS, gSumS, gLRg, gPar, gDic0, gDic1, gYes, gSeqI, gRg1, gRg2, gRetN, gSetF, gApp, gExt, gDrop, gFrz, gLcC_x, gForC_x, clr, startD, nth, List.set, true_or, or_true, true_and, and_true, R__law_pot_0, R__law_pot_1, R__law_pot_2, R__law_common_0, R__law_common_1, R__law_take_0, R__law_take_1, R__law_take_2, R__law_take_3, R__law_take_4, R__law_take_5, R__law_take_6, R__law_number_0, R__law_odd_0, R__law_odd_1, R__law_odd_2, R_is_word_0, R__law_own_word_0, R__law_own_name_0, R__law_own_name_1, R_is_fraction_0, R__law_own_read_0, R__law_own_read_1, R__law_own_read_2, R__law_own_read_3, R__law_own_read_4, R__law_own_read_5, R__law_own_read_6, R__law_own_read_7, R_read_integer_0, R_read_integer_1, R_read_integer_2, R_read_of_figures_0, R_read_of_figures_1, R_read_of_figures_2, R_read_of_figures_3, R_read_of_figures_4, addD_ii, addD_ss, addD_ll, addD_tt, subD_ii, mulD_ii, mulD_si, mulD_li, fdivD_ii, modD_ii, powD_ii, eqD_ii, eqD_ss, eqD_bb, neD_ii, neD_ss, neD_bb, ltD_ii, ltD_ss, leD_ii, gtD_ii, geD_ii, isD_n, isD_bb, isnotD_n, isnotD_bb, inD_ss, inD_l, inD_t, notinD_ss, notinD_l, notinD_t, ixD_l, ixD_t, ixD_s, slD_t, slD_s, slD_l, lenD_s, lenD_l, lenD_t, tupD_l, tupD_t, listD_l, listD_t, allD_l, anyD_l, sumD_l, maxD_ii, minD_ii, maxD_l, minD_l, absD_i, gcdD_ii, intD_i, intD_b, intD_s, strD_i, strD_s, reprD_1, joinD_l, splitD_s, PB_0, PB_1, PB_2, gIte_t, gIte_f, gIte_d, gIte_n, cut_head]
      rcases figs_cases p.cps.toList with ⟨r, e1, e2⟩ | ⟨e1, e2⟩
      · exact ⟨fun _ => own_part rfl (by rw [cut_tail e1, e2]) no (yes _), fun z => absurd ⟨r, e1⟩ z⟩
      · exact ⟨fun z => absurd z e1, fun _ => own_part rfl e2.symm no (yes _)⟩
  · rintro Δ' ⟨ns, a, b, rfl, hns⟩
    rw [List.length_map, List.take_length] at hns
    rw [hns] at h'
    have hl : ns.length = ps.length := by
      have := congrArg List.length hns
      rwa [List.length_map, List.length_map, eq_comm] at this
    simp only [gSeq, gSet, gVar, gVarB, gC, gBin, gChain, gTB, gIf, gIfS, gRet, gCall, gCallF, gCo, gN, gTup, gLst, gL, gNotT, gNotV, gAndT, gOrT, gAndV, gOrV, gIsi, gSl, gPart, gNo, gM0, gM1, gFn, gAn, gAd, gAp, gAs, gAsg, gTo, gToT, gToC, gTo0, gNext, gNeg, gPs0, gTick, gPix, gLenS, gIxS, gSumS, gLRg, gPar, gDic0, gDic1, gYes, gSeqI, gRg1, gRg2, gRetN, gSetF, gApp, gExt, gDrop, gFrz, gLcC_x, gForC_x, clr, startD, nth, List.set, true_or, or_true, true_and, and_true, R__law_pot_0, R__law_pot_1, R__law_pot_2, R__law_common_0, R__law_common_1, R__law_take_0, R__law_take_1, R__law_take_2, R__law_take_3, R__law_take_4, R__law_take_5, R__law_take_6, R__law_number_0, R__law_odd_0, R__law_odd_1, R__law_odd_2, R_is_word_0, R__law_own_word_0, R__law_own_name_0, R__law_own_name_1, R_is_fraction_0, R__law_own_read_0, R__law_own_read_1, R__law_own_read_2, R__law_own_read_3, R__law_own_read_4, R__law_own_read_5, R__law_own_read_6, R__law_own_read_7, R_read_integer_0, R_read_integer_1, R_read_integer_2, R_read_of_figures_0, R_read_of_figures_1, R_read_of_figures_2, R_read_of_figures_3, R_read_of_figures_4, addD_ii, addD_ss, addD_ll, addD_tt, subD_ii, mulD_ii, mulD_si, mulD_li, fdivD_ii, modD_ii, powD_ii, eqD_ii, eqD_ss, eqD_bb, neD_ii, neD_ss, neD_bb, ltD_ii, ltD_ss, leD_ii, gtD_ii, geD_ii, isD_n, isD_bb, isnotD_n, isnotD_bb, inD_ss, inD_l, inD_t, notinD_ss, notinD_l, notinD_t, ixD_l, ixD_t, ixD_s, slD_t, slD_s, slD_l, lenD_s, lenD_l, lenD_t, tupD_l, tupD_t, listD_l, listD_t, allD_l, anyD_l, sumD_l, maxD_ii, minD_ii, maxD_l, minD_l, absD_i, gcdD_ii, intD_i, intD_b, intD_s, strD_i, strD_s, reprD_1, joinD_l, splitD_s, PB_0, PB_1, PB_2, gIte_t, gIte_f, gIte_d, gIte_n, List.length_map, List.append_nil]
    match ns, hl, h' with
    | [], hl, _ => exact absurd hpos (by rw [← hl]; decide)
    | [n], _, h' => exact ⟨fun _ => ⟨_, rfl, (show 2 ≤ sizeLine by rw [sizeLine_eq]; decide), h'⟩, fun z => absurd rfl z⟩
    | [n, m], _, h' =>
      have h2 : K (if 1 < m ∧ Nat.gcd n.natAbs m.natAbs = 1 then .tuple [.int n, .int m] else .none) := h'
      refine ⟨fun z => absurd z (show ¬ (2 : Int) = 1 by decide), fun _ => ⟨.int m, rfl, ?_⟩⟩
      simp only [gSeq, gSet, gVar, gVarB, gC, gBin, gChain, gTB, gIf, gIfS, gRet, gCall, gCallF, gCo, gN, gTup, gLst, gL, gNotT, gNotV, gAndT, gOrT, gAndV, gOrV, gIsi, gSl, gPart, gNo, gM0, gM1, gFn, gAn, gAd, gAp, gAs, gAsg, gTo, gToT, gToC, gTo0, gNext, gNeg, gPs0, gTick, gPix, gLenS, gIxS, gSumS, gLRg, gPar, gDic0, gDic1, gYes, gSeqI, gRg1, gRg2, gRetN, gSetF, gApp, gExt, gDrop, gFrz, gLcC_x, gForC_x, clr, startD, nth, List.set, true_or, or_true, true_and, and_true, R__law_pot_0, R__law_pot_1, R__law_pot_2, R__law_common_0, R__law_common_1, R__law_take_0, R__law_take_1, R__law_take_2, R__law_take_3, R__law_take_4, R__law_take_5, R__law_take_6, R__law_number_0, R__law_odd_0, R__law_odd_1, R__law_odd_2, R_is_word_0, R__law_own_word_0, R__law_own_name_0, R__law_own_name_1, R_is_fraction_0, R__law_own_read_0, R__law_own_read_1, R__law_own_read_2, R__law_own_read_3, R__law_own_read_4, R__law_own_read_5, R__law_own_read_6, R__law_own_read_7, R_read_integer_0, R_read_integer_1, R_read_integer_2, R_read_of_figures_0, R_read_of_figures_1, R_read_of_figures_2, R_read_of_figures_3, R_read_of_figures_4, addD_ii, addD_ss, addD_ll, addD_tt, subD_ii, mulD_ii, mulD_si, mulD_li, fdivD_ii, modD_ii, powD_ii, eqD_ii, eqD_ss, eqD_bb, neD_ii, neD_ss, neD_bb, ltD_ii, ltD_ss, leD_ii, gtD_ii, geD_ii, isD_n, isD_bb, isnotD_n, isnotD_bb, inD_ss, inD_l, inD_t, notinD_ss, notinD_l, notinD_t, ixD_l, ixD_t, ixD_s, slD_t, slD_s, slD_l, lenD_s, lenD_l, lenD_t, tupD_l, tupD_t, listD_l, listD_t, allD_l, anyD_l, sumD_l, maxD_ii, minD_ii, maxD_l, minD_l, absD_i, gcdD_ii, intD_i, intD_b, intD_s, strD_i, strD_s, reprD_1, joinD_l, splitD_s, PB_0, PB_1, PB_2, gIte_t, gIte_f, gIte_d, gIte_n]
      refine ⟨fun w => ⟨.int n, rfl, .int m, rfl, ownCommon_ok ?_⟩, fun w => ?_⟩
      · simp only [gSeq, gSet, gVar, gVarB, gC, gBin, gChain, gTB, gIf, gIfS, gRet, gCall, gCallF, gCo, gN, gTup, gLst, gL, gNotT, gNotV, gAndT, gOrT, gAndV, gOrV, gIsi, gSl, gPart, gNo, gM0, gM1, gFn, gAn, gAd, gAp, gAs, gAsg, gTo, gToT, gToC, gTo0, gNext, gNeg, gPs0, gTick, gPix, gLenS, gIxS, gSumS, gLRg, gPar, gDic0, gDic1, gYes, gSeqI, gRg1, gRg2, gRetN, gSetF, gApp, gExt, gDrop, gFrz, gLcC_x, gForC_x, clr, startD, nth, List.set, true_or, or_true, true_and, and_true, R__law_pot_0, R__law_pot_1, R__law_pot_2, R__law_common_0, R__law_common_1, R__law_take_0, R__law_take_1, R__law_take_2, R__law_take_3, R__law_take_4, R__law_take_5, R__law_take_6, R__law_number_0, R__law_odd_0, R__law_odd_1, R__law_odd_2, R_is_word_0, R__law_own_word_0, R__law_own_name_0, R__law_own_name_1, R_is_fraction_0, R__law_own_read_0, R__law_own_read_1, R__law_own_read_2, R__law_own_read_3, R__law_own_read_4, R__law_own_read_5, R__law_own_read_6, R__law_own_read_7, R_read_integer_0, R_read_integer_1, R_read_integer_2, R_read_of_figures_0, R_read_of_figures_1, R_read_of_figures_2, R_read_of_figures_3, R_read_of_figures_4, addD_ii, addD_ss, addD_ll, addD_tt, subD_ii, mulD_ii, mulD_si, mulD_li, fdivD_ii, modD_ii, powD_ii, eqD_ii, eqD_ss, eqD_bb, neD_ii, neD_ss, neD_bb, ltD_ii, ltD_ss, leD_ii, gtD_ii, geD_ii, isD_n, isD_bb, isnotD_n, isnotD_bb, inD_ss, inD_l, inD_t, notinD_ss, notinD_l, notinD_t, ixD_l, ixD_t, ixD_s, slD_t, slD_s, slD_l, lenD_s, lenD_l, lenD_t, tupD_l, tupD_t, listD_l, listD_t, allD_l, anyD_l, sumD_l, maxD_ii, minD_ii, maxD_l, minD_l, absD_i, gcdD_ii, intD_i, intD_b, intD_s, strD_i, strD_s, reprD_1, joinD_l, splitD_s, PB_0, PB_1, PB_2, gIte_t, gIte_f, gIte_d, gIte_n]
        refine ⟨fun g => ⟨_, rfl, _, rfl, (show 2 ≤ sizeLine by rw [sizeLine_eq]; decide), ?_⟩, fun g => ?_⟩
        · rwa [if_pos ⟨w, by omega⟩] at h2
        · rwa [if_neg fun z => g (by omega)] at h2
      · rwa [if_neg fun z => w z.1] at h2
    | _ :: _ :: _ :: _, hl, _ =>
      simp only [List.length_cons] at hl
      omega
/-! ### drawn numbers, odd values -/
theorem chars_of : ∀ (ds : List D), (∀ y ∈ ds, ∃ c : Nat, y = .str ⟨#[c]⟩ ∧ 48 ≤ c ∧ c ≤ 57) → ∃ cs : List Nat, ds = cs.map (fun c => PyData.str ⟨#[c]⟩) ∧ ∀ c ∈ cs, 48 ≤ c ∧ c ≤ 57
  | [], _ => ⟨[], rfl, fun c hc => by cases hc⟩
  | d :: ds, h => by
    obtain ⟨c, rfl, h1⟩ := h d List.mem_cons_self
    obtain ⟨cs, rfl, h2⟩ := chars_of ds fun y hy => h y (List.mem_cons_of_mem _ hy)
    exact ⟨c :: cs, rfl, fun e he => (List.mem_cons.mp he).elim (fun z => z ▸ h1) (h2 e)⟩
theorem number_ok (h : ∀ n : Int, 0 < n → n < 10 ^ 300 → K (.int n)) : F__law_number [.pot] K E := by
  unfold F__law_number specOf G__law_number N__law_number
  refine ⟨rfl, ?_⟩
  simp only [gSeq, gSet, gVar, gVarB, gC, gBin, gChain, gTB, gIf, gIfS, gRet, gCall, gCallF, gCo, gN, gTup, gLst, gL, gNotT, gNotV, gAndT, gOrT, gAndV, gOrV, gIsi, gSl, gPart, gNo, gM0, gM1, gFn, gAn, gAd, gAp, gAs, gAsg, gTo, gToT, gToC, gTo0, gNext, gNeg, gPs0, gTick, gPix, gLenS, gIxS, gSumS, gLRg, gPar, gDic0, gDic1, gYes, gSeqI, gRg1, gRg2, gRetN, gSetF, gApp, gExt, gDrop, gFrz, gLcC_x, gForC_x, clr, startD, nth, List.set, true_or, or_true, true_and, and_true, R__law_pot_0, R__law_pot_1, R__law_pot_2, R__law_common_0, R__law_common_1, R__law_take_0, R__law_take_1, R__law_take_2, R__law_take_3, R__law_take_4, R__law_take_5, R__law_take_6, R__law_number_0, R__law_odd_0, R__law_odd_1, R__law_odd_2, R_is_word_0, R__law_own_word_0, R__law_own_name_0, R__law_own_name_1, R_is_fraction_0, R__law_own_read_0, R__law_own_read_1, R__law_own_read_2, R__law_own_read_3, R__law_own_read_4, R__law_own_read_5, R__law_own_read_6, R__law_own_read_7, R_read_integer_0, R_read_integer_1, R_read_integer_2, R_read_of_figures_0, R_read_of_figures_1, R_read_of_figures_2, R_read_of_figures_3, R_read_of_figures_4, addD_ii, addD_ss, addD_ll, addD_tt, subD_ii, mulD_ii, mulD_si, mulD_li, fdivD_ii, modD_ii, powD_ii, eqD_ii, eqD_ss, eqD_bb, neD_ii, neD_ss, neD_bb, ltD_ii, ltD_ss, leD_ii, gtD_ii, geD_ii, isD_n, isD_bb, isnotD_n, isnotD_bb, inD_ss, inD_l, inD_t, notinD_ss, notinD_l, notinD_t, ixD_l, ixD_t, ixD_s, slD_t, slD_s, slD_l, lenD_s, lenD_l, lenD_t, tupD_l, tupD_t, listD_l, listD_t, allD_l, anyD_l, sumD_l, maxD_ii, minD_ii, maxD_l, minD_l, absD_i, gcdD_ii, intD_i, intD_b, intD_s, strD_i, strD_s, reprD_1, joinD_l, splitD_s, PB_0, PB_1, PB_2, gIte_t, gIte_f, gIte_d, gIte_n, List.append_nil]
  refine ⟨by rw [sizeLine_eq]; decide, of_ok (by simp) (by decide) fun x hx => ?_⟩
  obtain ⟨k, rfl, k1, k2⟩ : ∃ k : Int, x = .int k ∧ 1 ≤ k ∧ k ≤ 300 := by
    simp only [List.mem_cons, List.not_mem_nil, or_false] at hx
    rcases hx with rfl | rfl | rfl | rfl | rfl | rfl <;> exact ⟨_, rfl, by decide, by decide⟩
  simp only [gSeq, gSet, gVar, gVarB, gC, gBin, gChain, gTB, gIf, gIfS, gRet, gCall, gCallF, gCo, gN, gTup, gLst, gL, gNotT, gNotV, gAndT, gOrT, gAndV, gOrV, gIsi, gSl, gPart, gNo, gM0, gM1, gFn, gAn, gAd, gAp, gAs, gAsg, gTo, gToT, gToC, gTo0, gNext, gNeg, gPs0, gTick, gPix, gLenS, gIxS, gSumS, gLRg, gPar, gDic0, gDic1, gYes, gSeqI, gRg1, gRg2, gRetN, gSetF, gApp, gExt, gDrop, gFrz, gLcC_x, gForC_x, clr, startD, nth, List.set, true_or, or_true, true_and, and_true, R__law_pot_0, R__law_pot_1, R__law_pot_2, R__law_common_0, R__law_common_1, R__law_take_0, R__law_take_1, R__law_take_2, R__law_take_3, R__law_take_4, R__law_take_5, R__law_take_6, R__law_number_0, R__law_odd_0, R__law_odd_1, R__law_odd_2, R_is_word_0, R__law_own_word_0, R__law_own_name_0, R__law_own_name_1, R_is_fraction_0, R__law_own_read_0, R__law_own_read_1, R__law_own_read_2, R__law_own_read_3, R__law_own_read_4, R__law_own_read_5, R__law_own_read_6, R__law_own_read_7, R_read_integer_0, R_read_integer_1, R_read_integer_2, R_read_of_figures_0, R_read_of_figures_1, R_read_of_figures_2, R_read_of_figures_3, R_read_of_figures_4, addD_ii, addD_ss, addD_ll, addD_tt, subD_ii, mulD_ii, mulD_si, mulD_li, fdivD_ii, modD_ii, powD_ii, eqD_ii, eqD_ss, eqD_bb, neD_ii, neD_ss, neD_bb, ltD_ii, ltD_ss, leD_ii, gtD_ii, geD_ii, isD_n, isD_bb, isnotD_n, isnotD_bb, inD_ss, inD_l, inD_t, notinD_ss, notinD_l, notinD_t, ixD_l, ixD_t, ixD_s, slD_t, slD_s, slD_l, lenD_s, lenD_l, lenD_t, tupD_l, tupD_t, listD_l, listD_t, allD_l, anyD_l, sumD_l, maxD_ii, minD_ii, maxD_l, minD_l, absD_i, gcdD_ii, intD_i, intD_b, intD_s, strD_i, strD_s, reprD_1, joinD_l, splitD_s, PB_0, PB_1, PB_2, gIte_t, gIte_f, gIte_d, gIte_n]
  refine ⟨rfl, by rw [sizeLine_eq]; decide, of_ok (by simp) (by decide) fun x hx => ?_⟩
  obtain ⟨c0, rfl, c1, c2⟩ : ∃ c : Nat, x = .str ⟨#[c]⟩ ∧ 49 ≤ c ∧ c ≤ 57 := by
    simp only [List.mem_cons, List.not_mem_nil, or_false] at hx
    rcases hx with rfl | rfl | rfl
    · exact ⟨49, by rw [show Str.ofString "1" = ⟨#[49]⟩ by decide +kernel], by decide, by decide⟩
    · exact ⟨50, by rw [show Str.ofString "2" = ⟨#[50]⟩ by decide +kernel], by decide, by decide⟩
    · exact ⟨57, by rw [show Str.ofString "9" = ⟨#[57]⟩ by decide +kernel], by decide, by decide⟩
  have hk : (k - 1 - 0).toNat ≤ 299 := by omega
  have hr : (rangeD 0 (k - 1)).length = (k - 1 - 0).toNat := by
    unfold rangeD
    rw [List.length_map, List.length_range]
  refine ⟨(show 1 ≤ sizeLine by rw [sizeLine_eq]; decide), by omega, by rw [sizeLine_eq]; omega, ?_⟩
  refine lc_any (fun y => ∃ c : Nat, y = .str ⟨#[c]⟩ ∧ 48 ≤ c ∧ c ≤ 57) rfl (by omega) (fun d hd P hP => ?_) fun ds hl hds => ?_
  · simp only [gSeq, gSet, gVar, gVarB, gC, gBin, gChain, gTB, gIf, gIfS, gRet, gCall, gCallF, gCo, gN, gTup, gLst, gL, gNotT, gNotV, gAndT, gOrT, gAndV, gOrV, gIsi, gSl, gPart, gNo, gM0, gM1, gFn, gAn, gAd, gAp, gAs, gAsg, gTo, gToT, gToC, gTo0, gNext, gNeg, gPs0, gTick, gPix, gLenS, gIxS, gSumS, gLRg, gPar, gDic0, gDic1, gYes, gSeqI, gRg1, gRg2, gRetN, gSetF, gApp, gExt, gDrop, gFrz, gLcC_x, gForC_x, clr, startD, nth, List.set, true_or, or_true, true_and, and_true, R__law_pot_0, R__law_pot_1, R__law_pot_2, R__law_common_0, R__law_common_1, R__law_take_0, R__law_take_1, R__law_take_2, R__law_take_3, R__law_take_4, R__law_take_5, R__law_take_6, R__law_number_0, R__law_odd_0, R__law_odd_1, R__law_odd_2, R_is_word_0, R__law_own_word_0, R__law_own_name_0, R__law_own_name_1, R_is_fraction_0, R__law_own_read_0, R__law_own_read_1, R__law_own_read_2, R__law_own_read_3, R__law_own_read_4, R__law_own_read_5, R__law_own_read_6, R__law_own_read_7, R_read_integer_0, R_read_integer_1, R_read_integer_2, R_read_of_figures_0, R_read_of_figures_1, R_read_of_figures_2, R_read_of_figures_3, R_read_of_figures_4, addD_ii, addD_ss, addD_ll, addD_tt, subD_ii, mulD_ii, mulD_si, mulD_li, fdivD_ii, modD_ii, powD_ii, eqD_ii, eqD_ss, eqD_bb, neD_ii, neD_ss, neD_bb, ltD_ii, ltD_ss, leD_ii, gtD_ii, geD_ii, isD_n, isD_bb, isnotD_n, isnotD_bb, inD_ss, inD_l, inD_t, notinD_ss, notinD_l, notinD_t, ixD_l, ixD_t, ixD_s, slD_t, slD_s, slD_l, lenD_s, lenD_l, lenD_t, tupD_l, tupD_t, listD_l, listD_t, allD_l, anyD_l, sumD_l, maxD_ii, minD_ii, maxD_l, minD_l, absD_i, gcdD_ii, intD_i, intD_b, intD_s, strD_i, strD_s, reprD_1, joinD_l, splitD_s, PB_0, PB_1, PB_2, gIte_t, gIte_f, gIte_d, gIte_n, List.append_nil]
    refine ⟨(show 3 ≤ sizeLine by rw [sizeLine_eq]; decide), of_ok (by simp) (by decide) fun y hy => hP y ?_⟩
    simp only [List.mem_cons, List.not_mem_nil, or_false] at hy
    rcases hy with rfl | rfl | rfl
    · exact ⟨48, by rw [show Str.ofString "0" = ⟨#[48]⟩ by decide +kernel], by decide, by decide⟩
    · exact ⟨51, by rw [show Str.ofString "3" = ⟨#[51]⟩ by decide +kernel], by decide, by decide⟩
    · exact ⟨55, by rw [show Str.ofString "7" = ⟨#[55]⟩ by decide +kernel], by decide, by decide⟩
  · obtain ⟨cs, rfl, hcs⟩ := chars_of ds hds
    rw [List.length_map] at hl
    have hlen : (c0 :: cs).length ≤ 300 := by rw [List.length_cons]; omega
    have ej : Txt.join (Str.ofString "") ((c0 :: cs).map fun c => (⟨#[c]⟩ : Str)) = ⟨(c0 :: cs).toArray⟩ := by
      rw [TL.join_eq, show Str.ofString "" = ⟨#[]⟩ by decide +kernel]
      exact PyProof.Rows.join_ones _
    have hd : PySem.NumText.AllDigits (c0 :: cs) := fun c hc => by
      rcases List.mem_cons.mp hc with e | e
      · omega
      · exact hcs c e
    have el : (⟨(c0 :: cs).toArray⟩ : Str).length = (c0 :: cs).length := by rw [str_len]
    refine ⟨by rw [List.length_map, sizeLine_eq]; show 1 + _ ≤ _; rw [List.length_cons] at hlen; omega, (c0 :: cs).map fun c => (⟨#[c]⟩ : Str), by rw [List.map_map]; rfl, ?_, by rw [ej, sizeLine_eq, el]; omega, ?_⟩
    · rw [List.map_map, List.length_map, show (Str.ofString "").length = 0 by decide +kernel, Nat.mul_zero, Nat.add_zero]
      have : ∀ l : List Nat, (l.map ((fun x => x.length) ∘ fun c => (⟨#[c]⟩ : Str))).sum = l.length := fun l => by
        induction l with
        | nil => rfl
        | cons a b ih => rw [List.map_cons, List.sum_cons, ih, List.length_cons]; show 1 + _ = _; omega
      rw [this]
      omega
    · rw [ej]
      refine ⟨_, PySem.intText_digits (x := ⟨(c0 :: cs).toArray⟩) hd (by simp) (by omega), by omega, h _ ?_ ?_⟩
      · have := PySem.NumText.digitsVal_pos (cs := cs) c1
        show (0 : Int) < ((PySem.NumText.digitsVal (c0 :: cs) : Nat) : Int)
        omega
      · have h1 := digits_lt (c0 :: cs) 0 hd
        have h2 : (0 + 1) * 10 ^ (c0 :: cs).length ≤ 10 ^ 300 := by
          rw [Nat.zero_add, Nat.one_mul]
          exact Nat.pow_le_pow_right (by decide) hlen
        have h3 : PySem.NumText.digitsVal (c0 :: cs) < 10 ^ 300 := Nat.lt_of_lt_of_le h1 h2
        have h4 : ((10 ^ 300 : Nat) : Int) = (10 : Int) ^ 300 := by simp
        rw [← h4]
        exact Int.ofNat_lt.mpr h3
end K00
/-! K00n: the plain law, the rest. -/
namespace K00
open PySem DL
variable {K : D → Prop} {E : Value → D → Prop}
def oddB : D → Bool
  | .str x => decide (x.length ≤ 5)
  | _ => true
theorem all_of {l : List D} {v : D} (h : l.all oddB = true) (hv : v ∈ l) : oddB v = true := List.all_eq_true.mp h v hv
theorem sl {n : Nat} (h : n ≤ 100) : n ≤ sizeLine := by rw [sizeLine_eq]; omega
theorem odd_ok (h : ∀ d : D, oddB d = true → K d) : F__law_odd [.pot] K E := by
  unfold F__law_odd specOf G__law_odd N__law_odd
  refine ⟨rfl, ?_⟩
  simp only [gSeq, gSet, gVar, gVarB, gC, gBin, gChain, gTB, gIf, gIfS, gRet, gCall, gCallF, gCo, gN, gTup, gLst, gL, gNotT, gNotV, gAndT, gOrT, gAndV, gOrV, gIsi, gSl, gPart, gNo, gM0, gM1, gFn, gAn, gAd, gAp, gAs, gAsg, gTo, gToT, gToC, gTo0, gNext, gNeg, gPs0, gTick, gPix, gLenS, gIxS, gSumS, gLRg, gPar, gDic0, gDic1, gYes, gSeqI, gRg1, gRg2, gRetN, gSetF, gApp, gExt, gDrop, gFrz, gLcC_x, gForC_x, clr, startD, nth, List.set, true_or, or_true, true_and, and_true, R__law_pot_0, R__law_pot_1, R__law_pot_2, R__law_common_0, R__law_common_1, R__law_take_0, R__law_take_1, R__law_take_2, R__law_take_3, R__law_take_4, R__law_take_5, R__law_take_6, R__law_number_0, R__law_odd_0, R__law_odd_1, R__law_odd_2, R_is_word_0, R__law_own_word_0, R__law_own_name_0, R__law_own_name_1, R_is_fraction_0, R__law_own_read_0, R__law_own_read_1, R__law_own_read_2, R__law_own_read_3, R__law_own_read_4, R__law_own_read_5, R__law_own_read_6, R__law_own_read_7, R_read_integer_0, R_read_integer_1, R_read_integer_2, R_read_of_figures_0, R_read_of_figures_1, R_read_of_figures_2, R_read_of_figures_3, R_read_of_figures_4, addD_ii, addD_ss, addD_ll, addD_tt, subD_ii, mulD_ii, mulD_si, mulD_li, fdivD_ii, modD_ii, powD_ii, eqD_ii, eqD_ss, eqD_bb, neD_ii, neD_ss, neD_bb, ltD_ii, ltD_ss, leD_ii, gtD_ii, geD_ii, isD_n, isD_bb, isnotD_n, isnotD_bb, inD_ss, inD_l, inD_t, notinD_ss, notinD_l, notinD_t, ixD_l, ixD_t, ixD_s, slD_t, slD_s, slD_l, lenD_s, lenD_l, lenD_t, tupD_l, tupD_t, listD_l, listD_t, allD_l, anyD_l, sumD_l, maxD_ii, minD_ii, maxD_l, minD_l, absD_i, gcdD_ii, intD_i, intD_b, intD_s, strD_i, strD_s, reprD_1, joinD_l, splitD_s, PB_0, PB_1, PB_2, gIte_t, gIte_f, gIte_d, gIte_n, List.append_nil]
  refine ⟨by decide, by decide +kernel, sl (n := 0) (by decide), sl (n := 0) (by decide), sl (n := 1) (by decide), sl (n := 1) (by decide), sl (n := 2) (by decide), sl (n := 0) (by decide), sl (n := 2) (by decide), sl (n := 18) (by decide), ?_⟩
  generalize hL : ([PyData.none, PyData.bool true, PyData.bool false, PyData.int 0, PyData.int (-1), PyData.int 7, PyData.int (10 ^ Int.toNat 9), PyData.str (Str.ofString ""), PyData.str (Str.ofString "a"), PyData.str (Str.ofString "p"), PyData.str (Str.ofString "holds"), PyData.tuple [], PyData.list [], PyData.dict [], PyData.tuple [PyData.str (Str.ofString "a")], PyData.list [PyData.str (Str.ofString "a")], PyData.tuple [PyData.int 1, PyData.int 2], PyData.tuple [PyData.none, PyData.tuple []]] : List D) = L
  have hall : L.all oddB = true := by
    rw [← hL]
    decide +kernel
  have hlen : L.length = 18 := by rw [← hL]; rfl
  have hne : L ≠ [] := by
    intro z
    rw [z] at hlen
    cases hlen
  clear hL
  refine of_ok hne (by rw [hlen]; decide) fun v hv => ?_
  have v0 := all_of hall hv
  refine take_ok (by omega) (by omega) fun i i0 i1 => ?_
  have hr : (rangeD 0 i).length = (i - 0).toNat := by
    unfold rangeD
    rw [List.length_map, List.length_range]
  refine ⟨by omega, by rw [sizeLine_eq]; omega, by rw [hr]; omega, fun j Δ' => ∃ (d : D) (s1 s3 : Sv), Δ' = [.pot, s1, .dat d, s3] ∧ oddB d = true, ⟨v, _, _, rfl, v0⟩, ?_, ?_⟩
  · rintro j d Δ' hd ⟨w, s1, s3, rfl, hw⟩
    refine ⟨sl (n := 1) (by decide), sl (n := 1) (by decide), sl (n := 2) (by decide), sl (n := 2) (by decide), sl (n := 5) (by decide), of_ok (by simp) (show 5 < 2 ^ 24 by decide) fun y hy => ⟨y, _, _, rfl, ?_⟩⟩
    exact all_of rfl hy
  · rintro Δ' ⟨w, s1, s3, rfl, hw⟩
    simp only [gSeq, gSet, gVar, gVarB, gC, gBin, gChain, gTB, gIf, gIfS, gRet, gCall, gCallF, gCo, gN, gTup, gLst, gL, gNotT, gNotV, gAndT, gOrT, gAndV, gOrV, gIsi, gSl, gPart, gNo, gM0, gM1, gFn, gAn, gAd, gAp, gAs, gAsg, gTo, gToT, gToC, gTo0, gNext, gNeg, gPs0, gTick, gPix, gLenS, gIxS, gSumS, gLRg, gPar, gDic0, gDic1, gYes, gSeqI, gRg1, gRg2, gRetN, gSetF, gApp, gExt, gDrop, gFrz, gLcC_x, gForC_x, clr, startD, nth, List.set, true_or, or_true, true_and, and_true, R__law_pot_0, R__law_pot_1, R__law_pot_2, R__law_common_0, R__law_common_1, R__law_take_0, R__law_take_1, R__law_take_2, R__law_take_3, R__law_take_4, R__law_take_5, R__law_take_6, R__law_number_0, R__law_odd_0, R__law_odd_1, R__law_odd_2, R_is_word_0, R__law_own_word_0, R__law_own_name_0, R__law_own_name_1, R_is_fraction_0, R__law_own_read_0, R__law_own_read_1, R__law_own_read_2, R__law_own_read_3, R__law_own_read_4, R__law_own_read_5, R__law_own_read_6, R__law_own_read_7, R_read_integer_0, R_read_integer_1, R_read_integer_2, R_read_of_figures_0, R_read_of_figures_1, R_read_of_figures_2, R_read_of_figures_3, R_read_of_figures_4, addD_ii, addD_ss, addD_ll, addD_tt, subD_ii, mulD_ii, mulD_si, mulD_li, fdivD_ii, modD_ii, powD_ii, eqD_ii, eqD_ss, eqD_bb, neD_ii, neD_ss, neD_bb, ltD_ii, ltD_ss, leD_ii, gtD_ii, geD_ii, isD_n, isD_bb, isnotD_n, isnotD_bb, inD_ss, inD_l, inD_t, notinD_ss, notinD_l, notinD_t, ixD_l, ixD_t, ixD_s, slD_t, slD_s, slD_l, lenD_s, lenD_l, lenD_t, tupD_l, tupD_t, listD_l, listD_t, allD_l, anyD_l, sumD_l, maxD_ii, minD_ii, maxD_l, minD_l, absD_i, gcdD_ii, intD_i, intD_b, intD_s, strD_i, strD_s, reprD_1, joinD_l, splitD_s, PB_0, PB_1, PB_2, gIte_t, gIte_f, gIte_d, gIte_n]
    exact h w hw
/-! ### the law -/
abbrev EN (K : D → Prop) : DEnds := { nx := fun _ => K .none, rt := K }
/-- what a reading tells: none, or a pair of ints that are not too great -/
def Told (d : D) : Prop := d = .none ∨ ∃ a b : Int, d = .tuple [.int a, .int b] ∧ a.natAbs.log2 < 1900 ∧ b.natAbs.log2 < 1900
theorem told_show {d : D} (t : Told d) : d.canLay0 = true ∧ d.showable = true ∧ d.depth ≤ 90 ∧ d.shown.length ≤ sizeLine := by
  rcases t with rfl | ⟨a, b, rfl, ha, hb⟩
  · exact ⟨rfl, rfl, Nat.zero_le _, by rw [sizeLine_eq]; decide +kernel⟩
  · refine ⟨rfl, ?_, (show 1 ≤ 90 by decide), ?_⟩
    · simp only [PyData.showable, PyData.showableAll, Bool.and_true, Bool.and_eq_true, decide_eq_true_eq]
      omega
    · have l1 := PySem.int_text_length_le (a := a) (k := 1900) (by decide) ha
      have l2 := PySem.int_text_length_le (a := b) (k := 1900) (by decide) hb
      have m1 : (toString a : Str).length = (toString a : String).length := PySem.ofString_length _
      have m2 : (toString b : Str).length = (toString b : String).length := PySem.ofString_length _
      simp only [PyData.shown, PyData.shownAll]
      have := PySem.tupleText_len_le [(toString a : Str), (toString b : Str)]
      simp only [List.map_cons, List.map_nil, List.sum_cons, List.sum_nil, List.length_cons, List.length_nil] at this
      rw [sizeLine_eq]
      omega
theorem partV_log {x : Str} {n : Int} (h : partV x = some n) : n.natAbs.log2 < 1900 := by
  unfold partV at h
  split at h
  · rename_i z
    obtain ⟨h1, h2, h3, _⟩ := (partOk_iff _).mp z
    obtain ⟨m, e, _, l⟩ := text_int (fun w => by rw [w] at h1; cases h1) h2 h3
    rw [h] at e
    cases e
    omega
  · cases h
theorem told_read (d : D) : Told (readAny d) := by
  cases d with
  | str x =>
    show Told (readL ((Txt.split x (Str.ofString "/")).map partV))
    generalize Txt.split x (Str.ofString "/") = ps
    match ps with
    | [] => exact .inl rfl
    | [p] =>
      show Told (readL [partV p])
      cases e : partV p with
      | none => exact .inl rfl
      | some n => exact .inr ⟨n, 1, rfl, partV_log e, by decide⟩
    | [p, q] =>
      show Told (readL [partV p, partV q])
      cases e : partV p with
      | none => exact .inl rfl
      | some n =>
        cases e2 : partV q with
        | none => exact .inl rfl
        | some m =>
          show Told (if 1 < m ∧ Nat.gcd n.natAbs m.natAbs = 1 then .tuple [.int n, .int m] else .none)
          split
          · exact .inr ⟨n, m, rfl, partV_log e, partV_log e2⟩
          · exact .inl rfl
    | p :: q :: r :: t => exact .inl (readL_long (by simp))
  | _ => exact .inl rfl
theorem last_ok {w sg v tp lw by1 on du : Sv} {t : Str} (ht : t.length ≤ 10000) (h : K (.bool true)) : R__law_right_7 E (EN K) [.pot, w, sg, v, tp, lw, by1, on, du, .dat (.str t), .un] := by
  unfold R__law_right_7
  simp only [gSeq, gSet, gVar, gVarB, gC, gBin, gChain, gTB, gIf, gIfS, gRet, gCall, gCallF, gCo, gN, gTup, gLst, gL, gNotT, gNotV, gAndT, gOrT, gAndV, gOrV, gIsi, gSl, gPart, gNo, gM0, gM1, gFn, gAn, gAd, gAp, gAs, gAsg, gTo, gToT, gToC, gTo0, gNext, gNeg, gPs0, gTick, gPix, gLenS, gIxS, gSumS, gLRg, gPar, gDic0, gDic1, gYes, gSeqI, gRg1, gRg2, gRetN, gSetF, gApp, gExt, gDrop, gFrz, gLcC_x, gForC_x, clr, startD, nth, List.set, true_or, or_true, true_and, and_true, R__law_pot_0, R__law_pot_1, R__law_pot_2, R__law_common_0, R__law_common_1, R__law_take_0, R__law_take_1, R__law_take_2, R__law_take_3, R__law_take_4, R__law_take_5, R__law_take_6, R__law_number_0, R__law_odd_0, R__law_odd_1, R__law_odd_2, R_is_word_0, R__law_own_word_0, R__law_own_name_0, R__law_own_name_1, R_is_fraction_0, R__law_own_read_0, R__law_own_read_1, R__law_own_read_2, R__law_own_read_3, R__law_own_read_4, R__law_own_read_5, R__law_own_read_6, R__law_own_read_7, R_read_integer_0, R_read_integer_1, R_read_integer_2, R_read_of_figures_0, R_read_of_figures_1, R_read_of_figures_2, R_read_of_figures_3, R_read_of_figures_4, addD_ii, addD_ss, addD_ll, addD_tt, subD_ii, mulD_ii, mulD_si, mulD_li, fdivD_ii, modD_ii, powD_ii, eqD_ii, eqD_ss, eqD_bb, neD_ii, neD_ss, neD_bb, ltD_ii, ltD_ss, leD_ii, gtD_ii, geD_ii, isD_n, isD_bb, isnotD_n, isnotD_bb, inD_ss, inD_l, inD_t, notinD_ss, notinD_l, notinD_t, ixD_l, ixD_t, ixD_s, slD_t, slD_s, slD_l, lenD_s, lenD_l, lenD_t, tupD_l, tupD_t, listD_l, listD_t, allD_l, anyD_l, sumD_l, maxD_ii, minD_ii, maxD_l, minD_l, absD_i, gcdD_ii, intD_i, intD_b, intD_s, strD_i, strD_s, reprD_1, joinD_l, splitD_s, PB_0, PB_1, PB_2, gIte_t, gIte_f, gIte_d, gIte_n, List.append_nil]
  refine odd_ok fun d hd => ?_
  refine ⟨sl (n := 6) (by decide), Nat.le_of_eq (Nat.mul_zero _), fun i Δ' => ∃ v du : Sv, Δ' = [.pot, w, sg, v, tp, lw, by1, on, du, .dat (.str t), .un], ⟨_, _, rfl⟩, ?_, ?_⟩
  · rintro i x Δ' hx ⟨v, du, rfl⟩
    have hs : strOkD x := by
      have hm := List.mem_of_getElem? hx
      simp only [List.mem_cons, List.not_mem_nil, or_false] at hm
      rcases hm with rfl | rfl | rfl | rfl | rfl | rfl
      · exact ht
      · show Str.length _ ≤ 10000
        decide +kernel
      · show Str.length _ ≤ 10000
        decide +kernel
      · show Str.length _ ≤ 10000
        decide +kernel
      · show Str.length _ ≤ 10000
        decide +kernel
      · cases x with
        | str y =>
          have := of_decide_eq_true hd
          show y.length ≤ 10000
          omega
        | _ => exact True.intro
    obtain ⟨s1, s2, s3, s4⟩ := told_show (told_read x)
    have fin : R__law_right_5 E { nx := fun Δ' => ∃ v du : Sv, Δ' = [.pot, w, sg, v, tp, lw, by1, on, du, .dat (.str t), .un], rt := K, ct := fun Δ' => ∃ v du : Sv, Δ' = [.pot, w, sg, v, tp, lw, by1, on, du, .dat (.str t), .un], bk := R__law_right_6 E (EN K) } [.pot, w, sg, .dat x, tp, lw, by1, on, .dat (readAny x), .dat (.str t), .un] := by
      unfold R__law_right_5
      simp only [gSeq, gSet, gVar, gVarB, gC, gBin, gChain, gTB, gIf, gIfS, gRet, gCall, gCallF, gCo, gN, gTup, gLst, gL, gNotT, gNotV, gAndT, gOrT, gAndV, gOrV, gIsi, gSl, gPart, gNo, gM0, gM1, gFn, gAn, gAd, gAp, gAs, gAsg, gTo, gToT, gToC, gTo0, gNext, gNeg, gPs0, gTick, gPix, gLenS, gIxS, gSumS, gLRg, gPar, gDic0, gDic1, gYes, gSeqI, gRg1, gRg2, gRetN, gSetF, gApp, gExt, gDrop, gFrz, gLcC_x, gForC_x, clr, startD, nth, List.set, true_or, or_true, true_and, and_true, R__law_pot_0, R__law_pot_1, R__law_pot_2, R__law_common_0, R__law_common_1, R__law_take_0, R__law_take_1, R__law_take_2, R__law_take_3, R__law_take_4, R__law_take_5, R__law_take_6, R__law_number_0, R__law_odd_0, R__law_odd_1, R__law_odd_2, R_is_word_0, R__law_own_word_0, R__law_own_name_0, R__law_own_name_1, R_is_fraction_0, R__law_own_read_0, R__law_own_read_1, R__law_own_read_2, R__law_own_read_3, R__law_own_read_4, R__law_own_read_5, R__law_own_read_6, R__law_own_read_7, R_read_integer_0, R_read_integer_1, R_read_integer_2, R_read_of_figures_0, R_read_of_figures_1, R_read_of_figures_2, R_read_of_figures_3, R_read_of_figures_4, addD_ii, addD_ss, addD_ll, addD_tt, subD_ii, mulD_ii, mulD_si, mulD_li, fdivD_ii, modD_ii, powD_ii, eqD_ii, eqD_ss, eqD_bb, neD_ii, neD_ss, neD_bb, ltD_ii, ltD_ss, leD_ii, gtD_ii, geD_ii, isD_n, isD_bb, isnotD_n, isnotD_bb, inD_ss, inD_l, inD_t, notinD_ss, notinD_l, notinD_t, ixD_l, ixD_t, ixD_s, slD_t, slD_s, slD_l, lenD_s, lenD_l, lenD_t, tupD_l, tupD_t, listD_l, listD_t, allD_l, anyD_l, sumD_l, maxD_ii, minD_ii, maxD_l, minD_l, absD_i, gcdD_ii, intD_i, intD_b, intD_s, strD_i, strD_s, reprD_1, joinD_l, splitD_s, PB_0, PB_1, PB_2, gIte_t, gIte_f, gIte_d, gIte_n, List.append_nil]
      exact readFraction_ok hs ⟨s1, s2, s3, s4, s1, s2, s3, s4, fun _ => ⟨_, _, rfl⟩, fun z => absurd rfl z⟩
    cases x with
    | str y =>
      refine ⟨fun _ => ?_, fun z => (nomatch z)⟩
      exact ownRead_ok hs fin
    | _ => exact ⟨fun z => (nomatch z), fun _ => fin⟩
  · rintro Δ' ⟨v, du, rfl⟩
    unfold R__law_right_6
    exact h
theorem text_ok {w sg v by1 on du tx : Sv} {top low : Int} (h1 : top.natAbs.log2 < 1900) (h2 : low.natAbs.log2 < 1900) (h : K (.bool true)) : R__law_right_8 E (EN K) [.pot, w, sg, v, .dat (.int top), .dat (.int low), by1, on, du, tx, .un] := by
  unfold R__law_right_8
  simp only [gSeq, gSet, gVar, gVarB, gC, gBin, gChain, gTB, gIf, gIfS, gRet, gCall, gCallF, gCo, gN, gTup, gLst, gL, gNotT, gNotV, gAndT, gOrT, gAndV, gOrV, gIsi, gSl, gPart, gNo, gM0, gM1, gFn, gAn, gAd, gAp, gAs, gAsg, gTo, gToT, gToC, gTo0, gNext, gNeg, gPs0, gTick, gPix, gLenS, gIxS, gSumS, gLRg, gPar, gDic0, gDic1, gYes, gSeqI, gRg1, gRg2, gRetN, gSetF, gApp, gExt, gDrop, gFrz, gLcC_x, gForC_x, clr, startD, nth, List.set, true_or, or_true, true_and, and_true, R__law_pot_0, R__law_pot_1, R__law_pot_2, R__law_common_0, R__law_common_1, R__law_take_0, R__law_take_1, R__law_take_2, R__law_take_3, R__law_take_4, R__law_take_5, R__law_take_6, R__law_number_0, R__law_odd_0, R__law_odd_1, R__law_odd_2, R_is_word_0, R__law_own_word_0, R__law_own_name_0, R__law_own_name_1, R_is_fraction_0, R__law_own_read_0, R__law_own_read_1, R__law_own_read_2, R__law_own_read_3, R__law_own_read_4, R__law_own_read_5, R__law_own_read_6, R__law_own_read_7, R_read_integer_0, R_read_integer_1, R_read_integer_2, R_read_of_figures_0, R_read_of_figures_1, R_read_of_figures_2, R_read_of_figures_3, R_read_of_figures_4, addD_ii, addD_ss, addD_ll, addD_tt, subD_ii, mulD_ii, mulD_si, mulD_li, fdivD_ii, modD_ii, powD_ii, eqD_ii, eqD_ss, eqD_bb, neD_ii, neD_ss, neD_bb, ltD_ii, ltD_ss, leD_ii, gtD_ii, geD_ii, isD_n, isD_bb, isnotD_n, isnotD_bb, inD_ss, inD_l, inD_t, notinD_ss, notinD_l, notinD_t, ixD_l, ixD_t, ixD_s, slD_t, slD_s, slD_l, lenD_s, lenD_l, lenD_t, tupD_l, tupD_t, listD_l, listD_t, allD_l, anyD_l, sumD_l, maxD_ii, minD_ii, maxD_l, minD_l, absD_i, gcdD_ii, intD_i, intD_b, intD_s, strD_i, strD_s, reprD_1, joinD_l, splitD_s, PB_0, PB_1, PB_2, gIte_t, gIte_f, gIte_d, gIte_n, List.append_nil]
  have l1 := PySem.int_text_length_le (a := top) (k := 1900) (by decide) h1
  have l2 := PySem.int_text_length_le (a := low) (k := 1900) (by decide) h2
  have m1 : (toString top : Str).length = (toString top : String).length := PySem.ofString_length _
  have m2 : (toString low : Str).length = (toString low : String).length := PySem.ofString_length _
  have m3 : (Str.ofString "/" ++ (toString low : Str)).length = 1 + (toString low : Str).length := by
    rw [DL.strLen_app]
    rfl
  refine ⟨by omega, by omega, ?_, ?_, ?_, sl (n := 10) (by decide), of_ok (by simp) (show 10 < 2 ^ 24 by decide) fun y hy => ?_⟩
  · rw [sizeLine_eq]
    show 1 + (toString low : Str).length ≤ _
    omega
  · refine ⟨by decide, fun _ _ => ?_, fun _ _ => ?_⟩ <;> decide +kernel
  · rw [sizeLine_eq]
    decide +kernel
  · obtain ⟨z, rfl, hz⟩ : ∃ z : Str, y = .str z ∧ z.length ≤ 2000 := by
      simp only [List.mem_cons, List.not_mem_nil, or_false] at hy
      rcases hy with rfl | rfl | rfl | rfl | rfl | rfl | rfl | rfl | rfl | rfl
      · exact ⟨_, rfl, by decide +kernel⟩
      · exact ⟨_, rfl, by decide +kernel⟩
      · exact ⟨_, rfl, by decide +kernel⟩
      · exact ⟨_, rfl, by decide +kernel⟩
      · exact ⟨_, rfl, by decide +kernel⟩
      · exact ⟨_, rfl, by decide +kernel⟩
      · exact ⟨_, rfl, by decide +kernel⟩
      · exact ⟨_, rfl, by decide +kernel⟩
      · exact ⟨_, rfl, by rw [m3]; omega⟩
      · exact ⟨_, rfl, by decide +kernel⟩
    simp only [addD_ss]
    have m4 : ((toString top : Str) ++ z).length = (toString top : Str).length + z.length := DL.strLen_app _ _
    refine ⟨by rw [sizeLine_eq]; omega, last_ok (by rw [m4]; omega) h⟩
/-! ### there and back -/
theorem numL_len {n : Nat} (h : n < 10 ^ 300) : (TL.numL n).length ≤ 300 := TL.numL_len (by decide) h
theorem numL_fig (n : Nat) : ∀ c ∈ TL.numL n, c ∈ figL := fun c hc => by
  have h := TL.numL_digits n c hc
  have e : ∀ k : Fin 10, 48 + k.val ∈ figL := by decide +kernel
  have := e ⟨c - 48, by omega⟩
  simp only at this
  rwa [show 48 + (c - 48) = c by omega] at this
theorem numL_head (n : Nat) : ¬ ((TL.numL n).head? = some 48 ∧ 1 < (TL.numL n).length) := by
  refine (numL_eq (TL.numL_digits n) (TL.numL_ne n)).mp ?_
  rw [TL.numL_val]
theorem partV_text {a : Int} (h : a.natAbs < 10 ^ 300) : partV (toString a : Str) = some a := by
  have hn := numL_len h
  have h0 := TL.numL_ne a.natAbs
  have hp : 1 ≤ (TL.numL a.natAbs).length := List.length_pos_iff.mpr h0
  by_cases z : 0 ≤ a
  · obtain ⟨n, rfl⟩ := Int.eq_ofNat_of_zero_le z
    have e : (Str.ofString (toString ((n : Nat) : Int))).cps.toList = TL.numL n := TL.tl_num n
    have ef : figsL (TL.numL n) = TL.numL n := by
      rcases figs_cases (TL.numL n) with ⟨r, e1, _⟩ | ⟨_, e2⟩
      · have := TL.numL_digits n 45 (by rw [e1]; exact List.mem_cons_self)
        omega
      · exact e2
    unfold partV
    rw [e, if_pos ((partOk_iff _).mpr (by
      rw [ef]
      refine ⟨hp, hn, numL_fig n, fun q => q.2.elim (fun w => numL_head n ⟨q.1, w⟩) fun w => w rfl⟩))]
    exact TL.int_num (Nat.le_trans hn (by decide))
  · obtain ⟨n, rfl, hn0⟩ : ∃ n : Nat, a = -(n : Int) ∧ 0 < n := ⟨a.natAbs, by omega, by omega⟩
    rw [Int.natAbs_neg] at hn h0 hp
    have hn : (TL.numL n).length ≤ 300 := hn
    have h0 : TL.numL n ≠ [] := h0
    have hp : 1 ≤ (TL.numL n).length := hp
    have e : (Str.ofString (toString (-(n : Int)))).cps.toList = 45 :: TL.numL n := tl_neg hn0
    have ef : figsL (45 :: TL.numL n) = TL.numL n := rfl
    have l : (Str.ofString (toString (-(n : Int)))).length = (TL.numL n).length + 1 := by rw [str_len, e, List.length_cons]
    unfold partV
    rw [e, if_pos ((partOk_iff _).mpr (by
      rw [ef]
      refine ⟨hp, hn, numL_fig n, fun q => ?_⟩
      have l1 : ¬ 1 < (TL.numL n).length := fun w => numL_head n ⟨q.1, w⟩
      have v := TL.numL_val n
      cases c : TL.numL n with
      | nil => exact h0 c
      | cons x r =>
        rw [c] at q l1 v
        have : r = [] := by
          cases r with
          | nil => rfl
          | cons _ _ => exact absurd (by simp) l1
        subst this
        have : x = 48 := Option.some.inj q.1
        subst this
        have : (0 : Nat) = n := v
        omega))]
    have := PySem.intText_neg e (TL.numL_digits n) h0 (by omega)
    rwa [TL.numL_val] at this
theorem text_free (a : Int) : (47 : Nat) ∉ (Str.ofString (toString a)).cps.toList := by
  by_cases z : 0 ≤ a
  · obtain ⟨n, rfl⟩ := Int.eq_ofNat_of_zero_le z
    rw [show (Str.ofString (toString ((n : Nat) : Int))).cps.toList = TL.numL n from TL.tl_num n]
    exact TL.numL_free (by decide)
  · obtain ⟨n, rfl, hn0⟩ : ∃ n : Nat, a = -(n : Int) ∧ 0 < n := ⟨a.natAbs, by omega, by omega⟩
    rw [show (Str.ofString (toString (-(n : Int)))).cps.toList = 45 :: TL.numL n from tl_neg hn0]
    intro h
    rcases List.mem_cons.mp h with e | e
    · cases e
    · exact TL.numL_free (by decide) e
theorem slash_tl : (Str.ofString "/").cps.toList = 47 :: [] := by decide +kernel
theorem readD_frac {a b : Int} (ha : a.natAbs < 10 ^ 300) (hb : b.natAbs < 10 ^ 300) (h1 : 1 ≤ b) (hg : Nat.gcd a.natAbs b.natAbs = 1) : readD (fracT a b) = .tuple [.int a, .int b] := by
  unfold readD fracT
  by_cases z : b = 1
  · rw [if_pos z]
    have e := TL.split_join (y := Str.ofString "/") slash_tl (by decide +kernel) (parts := [(toString a : Str)]) (by simp) (fun p hp => by rw [List.mem_singleton.mp hp]; exact text_free a)
    rw [TL.join_eq] at e
    have e : Txt.split (toString a : Str) (Str.ofString "/") = [(toString a : Str)] := e
    rw [e, List.map_cons, List.map_nil, partV_text ha, z]
    rfl
  · rw [if_neg z]
    have e := TL.split_join (y := Str.ofString "/") slash_tl (by decide +kernel) (parts := [(toString a : Str), (toString b : Str)]) (by simp) (fun p hp => by
      rcases List.mem_cons.mp hp with q | q
      · rw [q]
        exact text_free a
      · rw [List.mem_singleton.mp q]
        exact text_free b)
    rw [TL.join_eq] at e
    have e : Txt.split ((toString a : Str) ++ Str.ofString "/" ++ (toString b : Str)) (Str.ofString "/") = [(toString a : Str), (toString b : Str)] := e
    rw [e, List.map_cons, List.map_cons, List.map_nil, partV_text ha, partV_text hb]
    show (if 1 < b ∧ Nat.gcd a.natAbs b.natAbs = 1 then PyData.tuple [.int a, .int b] else .none) = _
    rw [if_pos ⟨by omega, hg⟩]
end K00
/-! K00o: the plain law: the loop over pairs. -/
namespace K00
open PySem DL
variable {K : D → Prop} {E : Value → D → Prop}
section
variable {w sg v tp lw by1 du tx : Sv} {a b : Int} {D' : DEnds}
abbrev LR (w sg v tp lw by1 on du tx : Sv) : DEnv := [.pot, w, sg, v, tp, lw, by1, on, du, tx, .un]
theorem log_of {a : Int} (h : a.natAbs < 10 ^ 300) : a.natAbs.log2 < 1900 := by
  have : a.natAbs < 2 ^ 1000 := Nat.lt_of_lt_of_le h (by decide +kernel)
  by_cases z : a.natAbs = 0
  · rw [z]
    decide
  · exact Nat.lt_of_lt_of_le ((Nat.log2_lt z).mpr this) (by decide)
theorem fracT_len {a b : Int} (ha : a.natAbs.log2 < 1900) (hb : b.natAbs.log2 < 1900) : (fracT a b).length ≤ 4000 := by
  have l1 := PySem.int_text_length_le (a := a) (k := 1900) (by decide) ha
  have l2 := PySem.int_text_length_le (a := b) (k := 1900) (by decide) hb
  have m1 : (toString a : Str).length = (toString a : String).length := PySem.ofString_length _
  have m2 : (toString b : Str).length = (toString b : String).length := PySem.ofString_length _
  unfold fracT
  split
  · omega
  · rw [DL.strLen_app, DL.strLen_app, m1, m2]
    show _ + 1 + _ ≤ _
    omega
theorem r1_ok (ha : a.natAbs < 10 ^ 300) (hb : b.natAbs < 10 ^ 300) (h1 : 1 ≤ b) (hg : Nat.gcd a.natAbs b.natAbs = 1) (hn : ∀ du tx : Sv, D'.nx (LR w sg v tp lw by1 (.dat (.tuple [.int a, .int b])) du tx)) : R__law_right_1 E D' (LR w sg v tp lw by1 (.dat (.tuple [.int a, .int b])) du (.dat (.str (fracT a b)))) := by
  have la := log_of ha
  have lb := log_of hb
  have hl := fracT_len la lb
  obtain ⟨s1, s2, s3, s4⟩ := told_show (d := .tuple [.int a, .int b]) (.inr ⟨a, b, rfl, la, lb⟩)
  have er : readAny (.str (fracT a b)) = .tuple [.int a, .int b] := readD_frac ha hb h1 hg
  unfold R__law_right_1
  simp only [gSeq, gSet, gVar, gVarB, gC, gBin, gChain, gTB, gIf, gIfS, gRet, gCall, gCallF, gCo, gN, gTup, gLst, gL, gNotT, gNotV, gAndT, gOrT, gAndV, gOrV, gIsi, gSl, gPart, gNo, gM0, gM1, gFn, gAn, gAd, gAp, gAs, gAsg, gTo, gToT, gToC, gTo0, gNext, gNeg, gPs0, gTick, gPix, gLenS, gIxS, gSumS, gLRg, gPar, gDic0, gDic1, gYes, gSeqI, gRg1, gRg2, gRetN, gSetF, gApp, gExt, gDrop, gFrz, gLcC_x, gForC_x, clr, startD, nth, List.set, true_or, or_true, true_and, and_true, R__law_pot_0, R__law_pot_1, R__law_pot_2, R__law_common_0, R__law_common_1, R__law_take_0, R__law_take_1, R__law_take_2, R__law_take_3, R__law_take_4, R__law_take_5, R__law_take_6, R__law_number_0, R__law_odd_0, R__law_odd_1, R__law_odd_2, R_is_word_0, R__law_own_word_0, R__law_own_name_0, R__law_own_name_1, R_is_fraction_0, R__law_own_read_0, R__law_own_read_1, R__law_own_read_2, R__law_own_read_3, R__law_own_read_4, R__law_own_read_5, R__law_own_read_6, R__law_own_read_7, R_read_integer_0, R_read_integer_1, R_read_integer_2, R_read_of_figures_0, R_read_of_figures_1, R_read_of_figures_2, R_read_of_figures_3, R_read_of_figures_4, addD_ii, addD_ss, addD_ll, addD_tt, subD_ii, mulD_ii, mulD_si, mulD_li, fdivD_ii, modD_ii, powD_ii, eqD_ii, eqD_ss, eqD_bb, neD_ii, neD_ss, neD_bb, ltD_ii, ltD_ss, leD_ii, gtD_ii, geD_ii, isD_n, isD_bb, isnotD_n, isnotD_bb, inD_ss, inD_l, inD_t, notinD_ss, notinD_l, notinD_t, ixD_l, ixD_t, ixD_s, slD_t, slD_s, slD_l, lenD_s, lenD_l, lenD_t, tupD_l, tupD_t, listD_l, listD_t, allD_l, anyD_l, sumD_l, maxD_ii, minD_ii, maxD_l, minD_l, absD_i, gcdD_ii, intD_i, intD_b, intD_s, strD_i, strD_s, reprD_1, joinD_l, splitD_s, PB_0, PB_1, PB_2, gIte_t, gIte_f, gIte_d, gIte_n, List.append_nil]
  refine fractionText_ok la lb ?_
  simp only [gSeq, gSet, gVar, gVarB, gC, gBin, gChain, gTB, gIf, gIfS, gRet, gCall, gCallF, gCo, gN, gTup, gLst, gL, gNotT, gNotV, gAndT, gOrT, gAndV, gOrV, gIsi, gSl, gPart, gNo, gM0, gM1, gFn, gAn, gAd, gAp, gAs, gAsg, gTo, gToT, gToC, gTo0, gNext, gNeg, gPs0, gTick, gPix, gLenS, gIxS, gSumS, gLRg, gPar, gDic0, gDic1, gYes, gSeqI, gRg1, gRg2, gRetN, gSetF, gApp, gExt, gDrop, gFrz, gLcC_x, gForC_x, clr, startD, nth, List.set, true_or, or_true, true_and, and_true, R__law_pot_0, R__law_pot_1, R__law_pot_2, R__law_common_0, R__law_common_1, R__law_take_0, R__law_take_1, R__law_take_2, R__law_take_3, R__law_take_4, R__law_take_5, R__law_take_6, R__law_number_0, R__law_odd_0, R__law_odd_1, R__law_odd_2, R_is_word_0, R__law_own_word_0, R__law_own_name_0, R__law_own_name_1, R_is_fraction_0, R__law_own_read_0, R__law_own_read_1, R__law_own_read_2, R__law_own_read_3, R__law_own_read_4, R__law_own_read_5, R__law_own_read_6, R__law_own_read_7, R_read_integer_0, R_read_integer_1, R_read_integer_2, R_read_of_figures_0, R_read_of_figures_1, R_read_of_figures_2, R_read_of_figures_3, R_read_of_figures_4, addD_ii, addD_ss, addD_ll, addD_tt, subD_ii, mulD_ii, mulD_si, mulD_li, fdivD_ii, modD_ii, powD_ii, eqD_ii, eqD_ss, eqD_bb, neD_ii, neD_ss, neD_bb, ltD_ii, ltD_ss, leD_ii, gtD_ii, geD_ii, isD_n, isD_bb, isnotD_n, isnotD_bb, inD_ss, inD_l, inD_t, notinD_ss, notinD_l, notinD_t, ixD_l, ixD_t, ixD_s, slD_t, slD_s, slD_l, lenD_s, lenD_l, lenD_t, tupD_l, tupD_t, listD_l, listD_t, allD_l, anyD_l, sumD_l, maxD_ii, minD_ii, maxD_l, minD_l, absD_i, gcdD_ii, intD_i, intD_b, intD_s, strD_i, strD_s, reprD_1, joinD_l, splitD_s, PB_0, PB_1, PB_2, gIte_t, gIte_f, gIte_d, gIte_n]
  refine ⟨fun _ => readFraction_ok (show (fracT a b).length ≤ 10000 by omega) ?_, fun z => absurd trivial z⟩
  rw [er]
  simp only [gSeq, gSet, gVar, gVarB, gC, gBin, gChain, gTB, gIf, gIfS, gRet, gCall, gCallF, gCo, gN, gTup, gLst, gL, gNotT, gNotV, gAndT, gOrT, gAndV, gOrV, gIsi, gSl, gPart, gNo, gM0, gM1, gFn, gAn, gAd, gAp, gAs, gAsg, gTo, gToT, gToC, gTo0, gNext, gNeg, gPs0, gTick, gPix, gLenS, gIxS, gSumS, gLRg, gPar, gDic0, gDic1, gYes, gSeqI, gRg1, gRg2, gRetN, gSetF, gApp, gExt, gDrop, gFrz, gLcC_x, gForC_x, clr, startD, nth, List.set, true_or, or_true, true_and, and_true, R__law_pot_0, R__law_pot_1, R__law_pot_2, R__law_common_0, R__law_common_1, R__law_take_0, R__law_take_1, R__law_take_2, R__law_take_3, R__law_take_4, R__law_take_5, R__law_take_6, R__law_number_0, R__law_odd_0, R__law_odd_1, R__law_odd_2, R_is_word_0, R__law_own_word_0, R__law_own_name_0, R__law_own_name_1, R_is_fraction_0, R__law_own_read_0, R__law_own_read_1, R__law_own_read_2, R__law_own_read_3, R__law_own_read_4, R__law_own_read_5, R__law_own_read_6, R__law_own_read_7, R_read_integer_0, R_read_integer_1, R_read_integer_2, R_read_of_figures_0, R_read_of_figures_1, R_read_of_figures_2, R_read_of_figures_3, R_read_of_figures_4, addD_ii, addD_ss, addD_ll, addD_tt, subD_ii, mulD_ii, mulD_si, mulD_li, fdivD_ii, modD_ii, powD_ii, eqD_ii, eqD_ss, eqD_bb, neD_ii, neD_ss, neD_bb, ltD_ii, ltD_ss, leD_ii, gtD_ii, geD_ii, isD_n, isD_bb, isnotD_n, isnotD_bb, inD_ss, inD_l, inD_t, notinD_ss, notinD_l, notinD_t, ixD_l, ixD_t, ixD_s, slD_t, slD_s, slD_l, lenD_s, lenD_l, lenD_t, tupD_l, tupD_t, listD_l, listD_t, allD_l, anyD_l, sumD_l, maxD_ii, minD_ii, maxD_l, minD_l, absD_i, gcdD_ii, intD_i, intD_b, intD_s, strD_i, strD_s, reprD_1, joinD_l, splitD_s, PB_0, PB_1, PB_2, gIte_t, gIte_f, gIte_d, gIte_n]
  exact ⟨s1, s2, s3, s4, s1, s2, s3, s4, fun _ => hn _ _, fun z => absurd trivial z⟩
theorem r2_ok (ha : a.natAbs < 10 ^ 300) (hb : b.natAbs < 10 ^ 300) (h1 : 1 ≤ b) (hg : Nat.gcd a.natAbs b.natAbs = 1) (hn : ∀ du tx : Sv, D'.nx (LR w sg v tp lw by1 (.dat (.tuple [.int a, .int b])) du tx)) : R__law_right_2 E D' (LR w sg v tp lw by1 (.dat (.tuple [.int a, .int b])) (.dat (.bool true)) tx) := by
  have la := log_of ha
  have lb := log_of hb
  have l1 := PySem.int_text_length_le (a := a) (k := 1900) (by decide) la
  have l2 := PySem.int_text_length_le (a := b) (k := 1900) (by decide) lb
  have m1 : (toString a : Str).length = (toString a : String).length := PySem.ofString_length _
  have m2 : (toString b : Str).length = (toString b : String).length := PySem.ofString_length _
  have m3 : ((toString a : Str) ++ Str.ofString "/").length = (toString a : Str).length + 1 := by
    rw [DL.strLen_app]
    rfl
  have fin := r1_ok (E := E) (du := .dat (.bool true)) ha hb h1 hg hn
  unfold fracT at fin
  unfold R__law_right_2
  simp only [gSeq, gSet, gVar, gVarB, gC, gBin, gChain, gTB, gIf, gIfS, gRet, gCall, gCallF, gCo, gN, gTup, gLst, gL, gNotT, gNotV, gAndT, gOrT, gAndV, gOrV, gIsi, gSl, gPart, gNo, gM0, gM1, gFn, gAn, gAd, gAp, gAs, gAsg, gTo, gToT, gToC, gTo0, gNext, gNeg, gPs0, gTick, gPix, gLenS, gIxS, gSumS, gLRg, gPar, gDic0, gDic1, gYes, gSeqI, gRg1, gRg2, gRetN, gSetF, gApp, gExt, gDrop, gFrz, gLcC_x, gForC_x, clr, startD, nth, List.set, true_or, or_true, true_and, and_true, R__law_pot_0, R__law_pot_1, R__law_pot_2, R__law_common_0, R__law_common_1, R__law_take_0, R__law_take_1, R__law_take_2, R__law_take_3, R__law_take_4, R__law_take_5, R__law_take_6, R__law_number_0, R__law_odd_0, R__law_odd_1, R__law_odd_2, R_is_word_0, R__law_own_word_0, R__law_own_name_0, R__law_own_name_1, R_is_fraction_0, R__law_own_read_0, R__law_own_read_1, R__law_own_read_2, R__law_own_read_3, R__law_own_read_4, R__law_own_read_5, R__law_own_read_6, R__law_own_read_7, R_read_integer_0, R_read_integer_1, R_read_integer_2, R_read_of_figures_0, R_read_of_figures_1, R_read_of_figures_2, R_read_of_figures_3, R_read_of_figures_4, addD_ii, addD_ss, addD_ll, addD_tt, subD_ii, mulD_ii, mulD_si, mulD_li, fdivD_ii, modD_ii, powD_ii, eqD_ii, eqD_ss, eqD_bb, neD_ii, neD_ss, neD_bb, ltD_ii, ltD_ss, leD_ii, gtD_ii, geD_ii, isD_n, isD_bb, isnotD_n, isnotD_bb, inD_ss, inD_l, inD_t, notinD_ss, notinD_l, notinD_t, ixD_l, ixD_t, ixD_s, slD_t, slD_s, slD_l, lenD_s, lenD_l, lenD_t, tupD_l, tupD_t, listD_l, listD_t, allD_l, anyD_l, sumD_l, maxD_ii, minD_ii, maxD_l, minD_l, absD_i, gcdD_ii, intD_i, intD_b, intD_s, strD_i, strD_s, reprD_1, joinD_l, splitD_s, PB_0, PB_1, PB_2, gIte_t, gIte_f, gIte_d, gIte_n]
  refine ⟨_, rfl, ?_⟩
  simp only [gSeq, gSet, gVar, gVarB, gC, gBin, gChain, gTB, gIf, gIfS, gRet, gCall, gCallF, gCo, gN, gTup, gLst, gL, gNotT, gNotV, gAndT, gOrT, gAndV, gOrV, gIsi, gSl, gPart, gNo, gM0, gM1, gFn, gAn, gAd, gAp, gAs, gAsg, gTo, gToT, gToC, gTo0, gNext, gNeg, gPs0, gTick, gPix, gLenS, gIxS, gSumS, gLRg, gPar, gDic0, gDic1, gYes, gSeqI, gRg1, gRg2, gRetN, gSetF, gApp, gExt, gDrop, gFrz, gLcC_x, gForC_x, clr, startD, nth, List.set, true_or, or_true, true_and, and_true, R__law_pot_0, R__law_pot_1, R__law_pot_2, R__law_common_0, R__law_common_1, R__law_take_0, R__law_take_1, R__law_take_2, R__law_take_3, R__law_take_4, R__law_take_5, R__law_take_6, R__law_number_0, R__law_odd_0, R__law_odd_1, R__law_odd_2, R_is_word_0, R__law_own_word_0, R__law_own_name_0, R__law_own_name_1, R_is_fraction_0, R__law_own_read_0, R__law_own_read_1, R__law_own_read_2, R__law_own_read_3, R__law_own_read_4, R__law_own_read_5, R__law_own_read_6, R__law_own_read_7, R_read_integer_0, R_read_integer_1, R_read_integer_2, R_read_of_figures_0, R_read_of_figures_1, R_read_of_figures_2, R_read_of_figures_3, R_read_of_figures_4, addD_ii, addD_ss, addD_ll, addD_tt, subD_ii, mulD_ii, mulD_si, mulD_li, fdivD_ii, modD_ii, powD_ii, eqD_ii, eqD_ss, eqD_bb, neD_ii, neD_ss, neD_bb, ltD_ii, ltD_ss, leD_ii, gtD_ii, geD_ii, isD_n, isD_bb, isnotD_n, isnotD_bb, inD_ss, inD_l, inD_t, notinD_ss, notinD_l, notinD_t, ixD_l, ixD_t, ixD_s, slD_t, slD_s, slD_l, lenD_s, lenD_l, lenD_t, tupD_l, tupD_t, listD_l, listD_t, allD_l, anyD_l, sumD_l, maxD_ii, minD_ii, maxD_l, minD_l, absD_i, gcdD_ii, intD_i, intD_b, intD_s, strD_i, strD_s, reprD_1, joinD_l, splitD_s, PB_0, PB_1, PB_2, gIte_t, gIte_f, gIte_d, gIte_n]
  refine ⟨fun z => ⟨_, rfl, ?_⟩, fun z => ⟨_, rfl, ?_⟩⟩
  · simp only [gSeq, gSet, gVar, gVarB, gC, gBin, gChain, gTB, gIf, gIfS, gRet, gCall, gCallF, gCo, gN, gTup, gLst, gL, gNotT, gNotV, gAndT, gOrT, gAndV, gOrV, gIsi, gSl, gPart, gNo, gM0, gM1, gFn, gAn, gAd, gAp, gAs, gAsg, gTo, gToT, gToC, gTo0, gNext, gNeg, gPs0, gTick, gPix, gLenS, gIxS, gSumS, gLRg, gPar, gDic0, gDic1, gYes, gSeqI, gRg1, gRg2, gRetN, gSetF, gApp, gExt, gDrop, gFrz, gLcC_x, gForC_x, clr, startD, nth, List.set, true_or, or_true, true_and, and_true, R__law_pot_0, R__law_pot_1, R__law_pot_2, R__law_common_0, R__law_common_1, R__law_take_0, R__law_take_1, R__law_take_2, R__law_take_3, R__law_take_4, R__law_take_5, R__law_take_6, R__law_number_0, R__law_odd_0, R__law_odd_1, R__law_odd_2, R_is_word_0, R__law_own_word_0, R__law_own_name_0, R__law_own_name_1, R_is_fraction_0, R__law_own_read_0, R__law_own_read_1, R__law_own_read_2, R__law_own_read_3, R__law_own_read_4, R__law_own_read_5, R__law_own_read_6, R__law_own_read_7, R_read_integer_0, R_read_integer_1, R_read_integer_2, R_read_of_figures_0, R_read_of_figures_1, R_read_of_figures_2, R_read_of_figures_3, R_read_of_figures_4, addD_ii, addD_ss, addD_ll, addD_tt, subD_ii, mulD_ii, mulD_si, mulD_li, fdivD_ii, modD_ii, powD_ii, eqD_ii, eqD_ss, eqD_bb, neD_ii, neD_ss, neD_bb, ltD_ii, ltD_ss, leD_ii, gtD_ii, geD_ii, isD_n, isD_bb, isnotD_n, isnotD_bb, inD_ss, inD_l, inD_t, notinD_ss, notinD_l, notinD_t, ixD_l, ixD_t, ixD_s, slD_t, slD_s, slD_l, lenD_s, lenD_l, lenD_t, tupD_l, tupD_t, listD_l, listD_t, allD_l, anyD_l, sumD_l, maxD_ii, minD_ii, maxD_l, minD_l, absD_i, gcdD_ii, intD_i, intD_b, intD_s, strD_i, strD_s, reprD_1, joinD_l, splitD_s, PB_0, PB_1, PB_2, gIte_t, gIte_f, gIte_d, gIte_n]
    rw [if_pos z] at fin
    exact ⟨by omega, fin⟩
  · simp only [gSeq, gSet, gVar, gVarB, gC, gBin, gChain, gTB, gIf, gIfS, gRet, gCall, gCallF, gCo, gN, gTup, gLst, gL, gNotT, gNotV, gAndT, gOrT, gAndV, gOrV, gIsi, gSl, gPart, gNo, gM0, gM1, gFn, gAn, gAd, gAp, gAs, gAsg, gTo, gToT, gToC, gTo0, gNext, gNeg, gPs0, gTick, gPix, gLenS, gIxS, gSumS, gLRg, gPar, gDic0, gDic1, gYes, gSeqI, gRg1, gRg2, gRetN, gSetF, gApp, gExt, gDrop, gFrz, gLcC_x, gForC_x, clr, startD, nth, List.set, true_or, or_true, true_and, and_true, R__law_pot_0, R__law_pot_1, R__law_pot_2, R__law_common_0, R__law_common_1, R__law_take_0, R__law_take_1, R__law_take_2, R__law_take_3, R__law_take_4, R__law_take_5, R__law_take_6, R__law_number_0, R__law_odd_0, R__law_odd_1, R__law_odd_2, R_is_word_0, R__law_own_word_0, R__law_own_name_0, R__law_own_name_1, R_is_fraction_0, R__law_own_read_0, R__law_own_read_1, R__law_own_read_2, R__law_own_read_3, R__law_own_read_4, R__law_own_read_5, R__law_own_read_6, R__law_own_read_7, R_read_integer_0, R_read_integer_1, R_read_integer_2, R_read_of_figures_0, R_read_of_figures_1, R_read_of_figures_2, R_read_of_figures_3, R_read_of_figures_4, addD_ii, addD_ss, addD_ll, addD_tt, subD_ii, mulD_ii, mulD_si, mulD_li, fdivD_ii, modD_ii, powD_ii, eqD_ii, eqD_ss, eqD_bb, neD_ii, neD_ss, neD_bb, ltD_ii, ltD_ss, leD_ii, gtD_ii, geD_ii, isD_n, isD_bb, isnotD_n, isnotD_bb, inD_ss, inD_l, inD_t, notinD_ss, notinD_l, notinD_t, ixD_l, ixD_t, ixD_s, slD_t, slD_s, slD_l, lenD_s, lenD_l, lenD_t, tupD_l, tupD_t, listD_l, listD_t, allD_l, anyD_l, sumD_l, maxD_ii, minD_ii, maxD_l, minD_l, absD_i, gcdD_ii, intD_i, intD_b, intD_s, strD_i, strD_s, reprD_1, joinD_l, splitD_s, PB_0, PB_1, PB_2, gIte_t, gIte_f, gIte_d, gIte_n]
    rw [if_neg z] at fin
    rw [sizeLine_eq]
    refine ⟨by omega, by rw [m1]; show _ + 1 ≤ _; omega, _, rfl, ?_⟩
    simp only [gSeq, gSet, gVar, gVarB, gC, gBin, gChain, gTB, gIf, gIfS, gRet, gCall, gCallF, gCo, gN, gTup, gLst, gL, gNotT, gNotV, gAndT, gOrT, gAndV, gOrV, gIsi, gSl, gPart, gNo, gM0, gM1, gFn, gAn, gAd, gAp, gAs, gAsg, gTo, gToT, gToC, gTo0, gNext, gNeg, gPs0, gTick, gPix, gLenS, gIxS, gSumS, gLRg, gPar, gDic0, gDic1, gYes, gSeqI, gRg1, gRg2, gRetN, gSetF, gApp, gExt, gDrop, gFrz, gLcC_x, gForC_x, clr, startD, nth, List.set, true_or, or_true, true_and, and_true, R__law_pot_0, R__law_pot_1, R__law_pot_2, R__law_common_0, R__law_common_1, R__law_take_0, R__law_take_1, R__law_take_2, R__law_take_3, R__law_take_4, R__law_take_5, R__law_take_6, R__law_number_0, R__law_odd_0, R__law_odd_1, R__law_odd_2, R_is_word_0, R__law_own_word_0, R__law_own_name_0, R__law_own_name_1, R_is_fraction_0, R__law_own_read_0, R__law_own_read_1, R__law_own_read_2, R__law_own_read_3, R__law_own_read_4, R__law_own_read_5, R__law_own_read_6, R__law_own_read_7, R_read_integer_0, R_read_integer_1, R_read_integer_2, R_read_of_figures_0, R_read_of_figures_1, R_read_of_figures_2, R_read_of_figures_3, R_read_of_figures_4, addD_ii, addD_ss, addD_ll, addD_tt, subD_ii, mulD_ii, mulD_si, mulD_li, fdivD_ii, modD_ii, powD_ii, eqD_ii, eqD_ss, eqD_bb, neD_ii, neD_ss, neD_bb, ltD_ii, ltD_ss, leD_ii, gtD_ii, geD_ii, isD_n, isD_bb, isnotD_n, isnotD_bb, inD_ss, inD_l, inD_t, notinD_ss, notinD_l, notinD_t, ixD_l, ixD_t, ixD_s, slD_t, slD_s, slD_l, lenD_s, lenD_l, lenD_t, tupD_l, tupD_t, listD_l, listD_t, allD_l, anyD_l, sumD_l, maxD_ii, minD_ii, maxD_l, minD_l, absD_i, gcdD_ii, intD_i, intD_b, intD_s, strD_i, strD_s, reprD_1, joinD_l, splitD_s, PB_0, PB_1, PB_2, gIte_t, gIte_f, gIte_d, gIte_n]
    exact ⟨by omega, by rw [sizeLine_eq, m3]; omega, fin⟩
theorem r3_ok {x : D} {c : Bool} (hc : fracB x = c) (hp : c = true → ∃ a b : Int, x = .tuple [.int a, .int b] ∧ a.natAbs < 10 ^ 300 ∧ b.natAbs < 10 ^ 300) (hn : ∀ du tx : Sv, D'.nx (LR w sg v tp lw by1 (.dat x) du tx)) : R__law_right_3 E D' (LR w sg v tp lw by1 (.dat x) (.dat (.bool c)) tx) := by
  unfold R__law_right_3
  simp only [gSeq, gSet, gVar, gVarB, gC, gBin, gChain, gTB, gIf, gIfS, gRet, gCall, gCallF, gCo, gN, gTup, gLst, gL, gNotT, gNotV, gAndT, gOrT, gAndV, gOrV, gIsi, gSl, gPart, gNo, gM0, gM1, gFn, gAn, gAd, gAp, gAs, gAsg, gTo, gToT, gToC, gTo0, gNext, gNeg, gPs0, gTick, gPix, gLenS, gIxS, gSumS, gLRg, gPar, gDic0, gDic1, gYes, gSeqI, gRg1, gRg2, gRetN, gSetF, gApp, gExt, gDrop, gFrz, gLcC_x, gForC_x, clr, startD, nth, List.set, true_or, or_true, true_and, and_true, R__law_pot_0, R__law_pot_1, R__law_pot_2, R__law_common_0, R__law_common_1, R__law_take_0, R__law_take_1, R__law_take_2, R__law_take_3, R__law_take_4, R__law_take_5, R__law_take_6, R__law_number_0, R__law_odd_0, R__law_odd_1, R__law_odd_2, R_is_word_0, R__law_own_word_0, R__law_own_name_0, R__law_own_name_1, R_is_fraction_0, R__law_own_read_0, R__law_own_read_1, R__law_own_read_2, R__law_own_read_3, R__law_own_read_4, R__law_own_read_5, R__law_own_read_6, R__law_own_read_7, R_read_integer_0, R_read_integer_1, R_read_integer_2, R_read_of_figures_0, R_read_of_figures_1, R_read_of_figures_2, R_read_of_figures_3, R_read_of_figures_4, addD_ii, addD_ss, addD_ll, addD_tt, subD_ii, mulD_ii, mulD_si, mulD_li, fdivD_ii, modD_ii, powD_ii, eqD_ii, eqD_ss, eqD_bb, neD_ii, neD_ss, neD_bb, ltD_ii, ltD_ss, leD_ii, gtD_ii, geD_ii, isD_n, isD_bb, isnotD_n, isnotD_bb, inD_ss, inD_l, inD_t, notinD_ss, notinD_l, notinD_t, ixD_l, ixD_t, ixD_s, slD_t, slD_s, slD_l, lenD_s, lenD_l, lenD_t, tupD_l, tupD_t, listD_l, listD_t, allD_l, anyD_l, sumD_l, maxD_ii, minD_ii, maxD_l, minD_l, absD_i, gcdD_ii, intD_i, intD_b, intD_s, strD_i, strD_s, reprD_1, joinD_l, splitD_s, PB_0, PB_1, PB_2, gIte_t, gIte_f, gIte_d, gIte_n, List.append_nil]
  refine isFraction_ok ?_
  rw [hc]
  simp only [gSeq, gSet, gVar, gVarB, gC, gBin, gChain, gTB, gIf, gIfS, gRet, gCall, gCallF, gCo, gN, gTup, gLst, gL, gNotT, gNotV, gAndT, gOrT, gAndV, gOrV, gIsi, gSl, gPart, gNo, gM0, gM1, gFn, gAn, gAd, gAp, gAs, gAsg, gTo, gToT, gToC, gTo0, gNext, gNeg, gPs0, gTick, gPix, gLenS, gIxS, gSumS, gLRg, gPar, gDic0, gDic1, gYes, gSeqI, gRg1, gRg2, gRetN, gSetF, gApp, gExt, gDrop, gFrz, gLcC_x, gForC_x, clr, startD, nth, List.set, true_or, or_true, true_and, and_true, R__law_pot_0, R__law_pot_1, R__law_pot_2, R__law_common_0, R__law_common_1, R__law_take_0, R__law_take_1, R__law_take_2, R__law_take_3, R__law_take_4, R__law_take_5, R__law_take_6, R__law_number_0, R__law_odd_0, R__law_odd_1, R__law_odd_2, R_is_word_0, R__law_own_word_0, R__law_own_name_0, R__law_own_name_1, R_is_fraction_0, R__law_own_read_0, R__law_own_read_1, R__law_own_read_2, R__law_own_read_3, R__law_own_read_4, R__law_own_read_5, R__law_own_read_6, R__law_own_read_7, R_read_integer_0, R_read_integer_1, R_read_integer_2, R_read_of_figures_0, R_read_of_figures_1, R_read_of_figures_2, R_read_of_figures_3, R_read_of_figures_4, addD_ii, addD_ss, addD_ll, addD_tt, subD_ii, mulD_ii, mulD_si, mulD_li, fdivD_ii, modD_ii, powD_ii, eqD_ii, eqD_ss, eqD_bb, neD_ii, neD_ss, neD_bb, ltD_ii, ltD_ss, leD_ii, gtD_ii, geD_ii, isD_n, isD_bb, isnotD_n, isnotD_bb, inD_ss, inD_l, inD_t, notinD_ss, notinD_l, notinD_t, ixD_l, ixD_t, ixD_s, slD_t, slD_s, slD_l, lenD_s, lenD_l, lenD_t, tupD_l, tupD_t, listD_l, listD_t, allD_l, anyD_l, sumD_l, maxD_ii, minD_ii, maxD_l, minD_l, absD_i, gcdD_ii, intD_i, intD_b, intD_s, strD_i, strD_s, reprD_1, joinD_l, splitD_s, PB_0, PB_1, PB_2, gIte_t, gIte_f, gIte_d, gIte_n]
  refine ⟨fun _ => ?_, fun z => absurd trivial z⟩
  cases c with
  | false =>
    unfold R__law_right_2
    simp only [gSeq, gSet, gVar, gVarB, gC, gBin, gChain, gTB, gIf, gIfS, gRet, gCall, gCallF, gCo, gN, gTup, gLst, gL, gNotT, gNotV, gAndT, gOrT, gAndV, gOrV, gIsi, gSl, gPart, gNo, gM0, gM1, gFn, gAn, gAd, gAp, gAs, gAsg, gTo, gToT, gToC, gTo0, gNext, gNeg, gPs0, gTick, gPix, gLenS, gIxS, gSumS, gLRg, gPar, gDic0, gDic1, gYes, gSeqI, gRg1, gRg2, gRetN, gSetF, gApp, gExt, gDrop, gFrz, gLcC_x, gForC_x, clr, startD, nth, List.set, true_or, or_true, true_and, and_true, R__law_pot_0, R__law_pot_1, R__law_pot_2, R__law_common_0, R__law_common_1, R__law_take_0, R__law_take_1, R__law_take_2, R__law_take_3, R__law_take_4, R__law_take_5, R__law_take_6, R__law_number_0, R__law_odd_0, R__law_odd_1, R__law_odd_2, R_is_word_0, R__law_own_word_0, R__law_own_name_0, R__law_own_name_1, R_is_fraction_0, R__law_own_read_0, R__law_own_read_1, R__law_own_read_2, R__law_own_read_3, R__law_own_read_4, R__law_own_read_5, R__law_own_read_6, R__law_own_read_7, R_read_integer_0, R_read_integer_1, R_read_integer_2, R_read_of_figures_0, R_read_of_figures_1, R_read_of_figures_2, R_read_of_figures_3, R_read_of_figures_4, addD_ii, addD_ss, addD_ll, addD_tt, subD_ii, mulD_ii, mulD_si, mulD_li, fdivD_ii, modD_ii, powD_ii, eqD_ii, eqD_ss, eqD_bb, neD_ii, neD_ss, neD_bb, ltD_ii, ltD_ss, leD_ii, gtD_ii, geD_ii, isD_n, isD_bb, isnotD_n, isnotD_bb, inD_ss, inD_l, inD_t, notinD_ss, notinD_l, notinD_t, ixD_l, ixD_t, ixD_s, slD_t, slD_s, slD_l, lenD_s, lenD_l, lenD_t, tupD_l, tupD_t, listD_l, listD_t, allD_l, anyD_l, sumD_l, maxD_ii, minD_ii, maxD_l, minD_l, absD_i, gcdD_ii, intD_i, intD_b, intD_s, strD_i, strD_s, reprD_1, joinD_l, splitD_s, PB_0, PB_1, PB_2, gIte_t, gIte_f, gIte_d, gIte_n]
    exact hn _ _
  | true =>
    obtain ⟨a, b, rfl, ha, hb⟩ := hp rfl
    have hc : (decide (1 ≤ b) && decide (Nat.gcd a.natAbs b.natAbs = 1)) = true := hc
    rw [Bool.and_eq_true, decide_eq_true_eq, decide_eq_true_eq] at hc
    exact r2_ok ha hb hc.1 hc.2 hn
theorem r4_no {x : D} (hc : fracB x = false) (hn : ∀ du tx : Sv, D'.nx (LR w sg v tp lw by1 (.dat x) du tx)) : R__law_right_4 E D' (LR w sg v tp lw by1 (.dat x) (.dat (.bool false)) tx) := by
  unfold R__law_right_4
  simp only [gSeq, gSet, gVar, gVarB, gC, gBin, gChain, gTB, gIf, gIfS, gRet, gCall, gCallF, gCo, gN, gTup, gLst, gL, gNotT, gNotV, gAndT, gOrT, gAndV, gOrV, gIsi, gSl, gPart, gNo, gM0, gM1, gFn, gAn, gAd, gAp, gAs, gAsg, gTo, gToT, gToC, gTo0, gNext, gNeg, gPs0, gTick, gPix, gLenS, gIxS, gSumS, gLRg, gPar, gDic0, gDic1, gYes, gSeqI, gRg1, gRg2, gRetN, gSetF, gApp, gExt, gDrop, gFrz, gLcC_x, gForC_x, clr, startD, nth, List.set, true_or, or_true, true_and, and_true, R__law_pot_0, R__law_pot_1, R__law_pot_2, R__law_common_0, R__law_common_1, R__law_take_0, R__law_take_1, R__law_take_2, R__law_take_3, R__law_take_4, R__law_take_5, R__law_take_6, R__law_number_0, R__law_odd_0, R__law_odd_1, R__law_odd_2, R_is_word_0, R__law_own_word_0, R__law_own_name_0, R__law_own_name_1, R_is_fraction_0, R__law_own_read_0, R__law_own_read_1, R__law_own_read_2, R__law_own_read_3, R__law_own_read_4, R__law_own_read_5, R__law_own_read_6, R__law_own_read_7, R_read_integer_0, R_read_integer_1, R_read_integer_2, R_read_of_figures_0, R_read_of_figures_1, R_read_of_figures_2, R_read_of_figures_3, R_read_of_figures_4, addD_ii, addD_ss, addD_ll, addD_tt, subD_ii, mulD_ii, mulD_si, mulD_li, fdivD_ii, modD_ii, powD_ii, eqD_ii, eqD_ss, eqD_bb, neD_ii, neD_ss, neD_bb, ltD_ii, ltD_ss, leD_ii, gtD_ii, geD_ii, isD_n, isD_bb, isnotD_n, isnotD_bb, inD_ss, inD_l, inD_t, notinD_ss, notinD_l, notinD_t, ixD_l, ixD_t, ixD_s, slD_t, slD_s, slD_l, lenD_s, lenD_l, lenD_t, tupD_l, tupD_t, listD_l, listD_t, allD_l, anyD_l, sumD_l, maxD_ii, minD_ii, maxD_l, minD_l, absD_i, gcdD_ii, intD_i, intD_b, intD_s, strD_i, strD_s, reprD_1, joinD_l, splitD_s, PB_0, PB_1, PB_2, gIte_t, gIte_f, gIte_d, gIte_n]
  exact r3_ok hc (fun z => nomatch z) hn
theorem r4_ok (ha : a.natAbs < 10 ^ 300) (hb : b.natAbs < 10 ^ 300) (hn : ∀ du tx : Sv, D'.nx (LR w sg v tp lw by1 (.dat (.tuple [.int a, .int b])) du tx)) : R__law_right_4 E D' (LR w sg v tp lw by1 (.dat (.tuple [.int a, .int b])) (.dat (.bool (decide (0 < b)))) tx) := by
  by_cases z : 0 < b
  · rw [decide_eq_true z]
    unfold R__law_right_4
    simp only [gSeq, gSet, gVar, gVarB, gC, gBin, gChain, gTB, gIf, gIfS, gRet, gCall, gCallF, gCo, gN, gTup, gLst, gL, gNotT, gNotV, gAndT, gOrT, gAndV, gOrV, gIsi, gSl, gPart, gNo, gM0, gM1, gFn, gAn, gAd, gAp, gAs, gAsg, gTo, gToT, gToC, gTo0, gNext, gNeg, gPs0, gTick, gPix, gLenS, gIxS, gSumS, gLRg, gPar, gDic0, gDic1, gYes, gSeqI, gRg1, gRg2, gRetN, gSetF, gApp, gExt, gDrop, gFrz, gLcC_x, gForC_x, clr, startD, nth, List.set, true_or, or_true, true_and, and_true, R__law_pot_0, R__law_pot_1, R__law_pot_2, R__law_common_0, R__law_common_1, R__law_take_0, R__law_take_1, R__law_take_2, R__law_take_3, R__law_take_4, R__law_take_5, R__law_take_6, R__law_number_0, R__law_odd_0, R__law_odd_1, R__law_odd_2, R_is_word_0, R__law_own_word_0, R__law_own_name_0, R__law_own_name_1, R_is_fraction_0, R__law_own_read_0, R__law_own_read_1, R__law_own_read_2, R__law_own_read_3, R__law_own_read_4, R__law_own_read_5, R__law_own_read_6, R__law_own_read_7, R_read_integer_0, R_read_integer_1, R_read_integer_2, R_read_of_figures_0, R_read_of_figures_1, R_read_of_figures_2, R_read_of_figures_3, R_read_of_figures_4, addD_ii, addD_ss, addD_ll, addD_tt, subD_ii, mulD_ii, mulD_si, mulD_li, fdivD_ii, modD_ii, powD_ii, eqD_ii, eqD_ss, eqD_bb, neD_ii, neD_ss, neD_bb, ltD_ii, ltD_ss, leD_ii, gtD_ii, geD_ii, isD_n, isD_bb, isnotD_n, isnotD_bb, inD_ss, inD_l, inD_t, notinD_ss, notinD_l, notinD_t, ixD_l, ixD_t, ixD_s, slD_t, slD_s, slD_l, lenD_s, lenD_l, lenD_t, tupD_l, tupD_t, listD_l, listD_t, allD_l, anyD_l, sumD_l, maxD_ii, minD_ii, maxD_l, minD_l, absD_i, gcdD_ii, intD_i, intD_b, intD_s, strD_i, strD_s, reprD_1, joinD_l, splitD_s, PB_0, PB_1, PB_2, gIte_t, gIte_f, gIte_d, gIte_n, List.append_nil]
    refine ⟨_, rfl, _, rfl, ownCommon_ok ?_⟩
    simp only [gSeq, gSet, gVar, gVarB, gC, gBin, gChain, gTB, gIf, gIfS, gRet, gCall, gCallF, gCo, gN, gTup, gLst, gL, gNotT, gNotV, gAndT, gOrT, gAndV, gOrV, gIsi, gSl, gPart, gNo, gM0, gM1, gFn, gAn, gAd, gAp, gAs, gAsg, gTo, gToT, gToC, gTo0, gNext, gNeg, gPs0, gTick, gPix, gLenS, gIxS, gSumS, gLRg, gPar, gDic0, gDic1, gYes, gSeqI, gRg1, gRg2, gRetN, gSetF, gApp, gExt, gDrop, gFrz, gLcC_x, gForC_x, clr, startD, nth, List.set, true_or, or_true, true_and, and_true, R__law_pot_0, R__law_pot_1, R__law_pot_2, R__law_common_0, R__law_common_1, R__law_take_0, R__law_take_1, R__law_take_2, R__law_take_3, R__law_take_4, R__law_take_5, R__law_take_6, R__law_number_0, R__law_odd_0, R__law_odd_1, R__law_odd_2, R_is_word_0, R__law_own_word_0, R__law_own_name_0, R__law_own_name_1, R_is_fraction_0, R__law_own_read_0, R__law_own_read_1, R__law_own_read_2, R__law_own_read_3, R__law_own_read_4, R__law_own_read_5, R__law_own_read_6, R__law_own_read_7, R_read_integer_0, R_read_integer_1, R_read_integer_2, R_read_of_figures_0, R_read_of_figures_1, R_read_of_figures_2, R_read_of_figures_3, R_read_of_figures_4, addD_ii, addD_ss, addD_ll, addD_tt, subD_ii, mulD_ii, mulD_si, mulD_li, fdivD_ii, modD_ii, powD_ii, eqD_ii, eqD_ss, eqD_bb, neD_ii, neD_ss, neD_bb, ltD_ii, ltD_ss, leD_ii, gtD_ii, geD_ii, isD_n, isD_bb, isnotD_n, isnotD_bb, inD_ss, inD_l, inD_t, notinD_ss, notinD_l, notinD_t, ixD_l, ixD_t, ixD_s, slD_t, slD_s, slD_l, lenD_s, lenD_l, lenD_t, tupD_l, tupD_t, listD_l, listD_t, allD_l, anyD_l, sumD_l, maxD_ii, minD_ii, maxD_l, minD_l, absD_i, gcdD_ii, intD_i, intD_b, intD_s, strD_i, strD_s, reprD_1, joinD_l, splitD_s, PB_0, PB_1, PB_2, gIte_t, gIte_f, gIte_d, gIte_n]
    refine r3_ok ?_ (fun _ => ⟨a, b, rfl, ha, hb⟩) hn
    show (decide (1 ≤ b) && decide (Nat.gcd a.natAbs b.natAbs = 1)) = _
    rw [decide_eq_true (show 1 ≤ b by omega), Bool.true_and]
    by_cases q : Nat.gcd a.natAbs b.natAbs = 1
    · rw [decide_eq_true q, decide_eq_true (by omega)]
    · rw [decide_eq_false q, decide_eq_false (by omega)]
  · rw [decide_eq_false z]
    refine r4_no ?_ hn
    show (decide (1 ≤ b) && decide (Nat.gcd a.natAbs b.natAbs = 1)) = _
    rw [decide_eq_false (show ¬ 1 ≤ b by omega), Bool.false_and]
def B9 (E : Value → D → Prop) : TDS := (gSeq (gSet 8 (gAndV (gIsi isTupD (gVar 7)) (gAndV (gBin eqD (gCall lenD (gCo (gVar 7) gN)) (gC (.int 2))) (gAndV (gNotV (gIsi isBoolD (gBin ixD (gVar 7) (gC (.int 0))))) (gBin gtD (gBin ixD (gVar 7) (gC (.int 1))) (gC (.int 0))))))) (R__law_right_4 E))
inductive It : D → Prop
  | pr {a b : Int} (ha : a.natAbs < 10 ^ 300) (hb : b.natAbs < 10 ^ 300) : It (.tuple [.int a, .int b])
  | one {a : Int} : It (.tuple [.int a])
  | lst {a b : Int} : It (.list [.int a, .int b])
  | bl {b : Int} : It (.tuple [.bool true, .int b])
theorem b9_ok {x : D} (hx : It x) (hn : ∀ du tx : Sv, D'.nx (LR w sg v tp lw by1 (.dat x) du tx)) : B9 E D' (LR w sg v tp lw by1 (.dat x) du tx) := by
  unfold B9
  cases hx with
  | pr ha hb =>
    simp only [gSeq, gSet, gVar, gVarB, gC, gBin, gChain, gTB, gIf, gIfS, gRet, gCall, gCallF, gCo, gN, gTup, gLst, gL, gNotT, gNotV, gAndT, gOrT, gAndV, gOrV, gIsi, gSl, gPart, gNo, gM0, gM1, gFn, gAn, gAd, gAp, gAs, gAsg, gTo, gToT, gToC, gTo0, gNext, gNeg, gPs0, gTick, gPix, gLenS, gIxS, gSumS, gLRg, gPar, gDic0, gDic1, gYes, gSeqI, gRg1, gRg2, gRetN, gSetF, gApp, gExt, gDrop, gFrz, gLcC_x, gForC_x, clr, startD, nth, List.set, true_or, or_true, true_and, and_true, R__law_pot_0, R__law_pot_1, R__law_pot_2, R__law_common_0, R__law_common_1, R__law_take_0, R__law_take_1, R__law_take_2, R__law_take_3, R__law_take_4, R__law_take_5, R__law_take_6, R__law_number_0, R__law_odd_0, R__law_odd_1, R__law_odd_2, R_is_word_0, R__law_own_word_0, R__law_own_name_0, R__law_own_name_1, R_is_fraction_0, R__law_own_read_0, R__law_own_read_1, R__law_own_read_2, R__law_own_read_3, R__law_own_read_4, R__law_own_read_5, R__law_own_read_6, R__law_own_read_7, R_read_integer_0, R_read_integer_1, R_read_integer_2, R_read_of_figures_0, R_read_of_figures_1, R_read_of_figures_2, R_read_of_figures_3, R_read_of_figures_4, addD_ii, addD_ss, addD_ll, addD_tt, subD_ii, mulD_ii, mulD_si, mulD_li, fdivD_ii, modD_ii, powD_ii, eqD_ii, eqD_ss, eqD_bb, neD_ii, neD_ss, neD_bb, ltD_ii, ltD_ss, leD_ii, gtD_ii, geD_ii, isD_n, isD_bb, isnotD_n, isnotD_bb, inD_ss, inD_l, inD_t, notinD_ss, notinD_l, notinD_t, ixD_l, ixD_t, ixD_s, slD_t, slD_s, slD_l, lenD_s, lenD_l, lenD_t, tupD_l, tupD_t, listD_l, listD_t, allD_l, anyD_l, sumD_l, maxD_ii, minD_ii, maxD_l, minD_l, absD_i, gcdD_ii, intD_i, intD_b, intD_s, strD_i, strD_s, reprD_1, joinD_l, splitD_s, PB_0, PB_1, PB_2, gIte_t, gIte_f, gIte_d, gIte_n, isTupD, isBoolD]
    refine ⟨fun _ => ⟨_, rfl, ?_⟩, fun z => absurd rfl z⟩
    simp only [gSeq, gSet, gVar, gVarB, gC, gBin, gChain, gTB, gIf, gIfS, gRet, gCall, gCallF, gCo, gN, gTup, gLst, gL, gNotT, gNotV, gAndT, gOrT, gAndV, gOrV, gIsi, gSl, gPart, gNo, gM0, gM1, gFn, gAn, gAd, gAp, gAs, gAsg, gTo, gToT, gToC, gTo0, gNext, gNeg, gPs0, gTick, gPix, gLenS, gIxS, gSumS, gLRg, gPar, gDic0, gDic1, gYes, gSeqI, gRg1, gRg2, gRetN, gSetF, gApp, gExt, gDrop, gFrz, gLcC_x, gForC_x, clr, startD, nth, List.set, true_or, or_true, true_and, and_true, R__law_pot_0, R__law_pot_1, R__law_pot_2, R__law_common_0, R__law_common_1, R__law_take_0, R__law_take_1, R__law_take_2, R__law_take_3, R__law_take_4, R__law_take_5, R__law_take_6, R__law_number_0, R__law_odd_0, R__law_odd_1, R__law_odd_2, R_is_word_0, R__law_own_word_0, R__law_own_name_0, R__law_own_name_1, R_is_fraction_0, R__law_own_read_0, R__law_own_read_1, R__law_own_read_2, R__law_own_read_3, R__law_own_read_4, R__law_own_read_5, R__law_own_read_6, R__law_own_read_7, R_read_integer_0, R_read_integer_1, R_read_integer_2, R_read_of_figures_0, R_read_of_figures_1, R_read_of_figures_2, R_read_of_figures_3, R_read_of_figures_4, addD_ii, addD_ss, addD_ll, addD_tt, subD_ii, mulD_ii, mulD_si, mulD_li, fdivD_ii, modD_ii, powD_ii, eqD_ii, eqD_ss, eqD_bb, neD_ii, neD_ss, neD_bb, ltD_ii, ltD_ss, leD_ii, gtD_ii, geD_ii, isD_n, isD_bb, isnotD_n, isnotD_bb, inD_ss, inD_l, inD_t, notinD_ss, notinD_l, notinD_t, ixD_l, ixD_t, ixD_s, slD_t, slD_s, slD_l, lenD_s, lenD_l, lenD_t, tupD_l, tupD_t, listD_l, listD_t, allD_l, anyD_l, sumD_l, maxD_ii, minD_ii, maxD_l, minD_l, absD_i, gcdD_ii, intD_i, intD_b, intD_s, strD_i, strD_s, reprD_1, joinD_l, splitD_s, PB_0, PB_1, PB_2, gIte_t, gIte_f, gIte_d, gIte_n, isTupD, isBoolD, Bool.not_false]
    exact ⟨_, rfl, r4_ok ha hb hn⟩
  | one =>
    simp only [gSeq, gSet, gVar, gVarB, gC, gBin, gChain, gTB, gIf, gIfS, gRet, gCall, gCallF, gCo, gN, gTup, gLst, gL, gNotT, gNotV, gAndT, gOrT, gAndV, gOrV, gIsi, gSl, gPart, gNo, gM0, gM1, gFn, gAn, gAd, gAp, gAs, gAsg, gTo, gToT, gToC, gTo0, gNext, gNeg, gPs0, gTick, gPix, gLenS, gIxS, gSumS, gLRg, gPar, gDic0, gDic1, gYes, gSeqI, gRg1, gRg2, gRetN, gSetF, gApp, gExt, gDrop, gFrz, gLcC_x, gForC_x, clr, startD, nth, List.set, true_or, or_true, true_and, and_true, R__law_pot_0, R__law_pot_1, R__law_pot_2, R__law_common_0, R__law_common_1, R__law_take_0, R__law_take_1, R__law_take_2, R__law_take_3, R__law_take_4, R__law_take_5, R__law_take_6, R__law_number_0, R__law_odd_0, R__law_odd_1, R__law_odd_2, R_is_word_0, R__law_own_word_0, R__law_own_name_0, R__law_own_name_1, R_is_fraction_0, R__law_own_read_0, R__law_own_read_1, R__law_own_read_2, R__law_own_read_3, R__law_own_read_4, R__law_own_read_5, R__law_own_read_6, R__law_own_read_7, R_read_integer_0, R_read_integer_1, R_read_integer_2, R_read_of_figures_0, R_read_of_figures_1, R_read_of_figures_2, R_read_of_figures_3, R_read_of_figures_4, addD_ii, addD_ss, addD_ll, addD_tt, subD_ii, mulD_ii, mulD_si, mulD_li, fdivD_ii, modD_ii, powD_ii, eqD_ii, eqD_ss, eqD_bb, neD_ii, neD_ss, neD_bb, ltD_ii, ltD_ss, leD_ii, gtD_ii, geD_ii, isD_n, isD_bb, isnotD_n, isnotD_bb, inD_ss, inD_l, inD_t, notinD_ss, notinD_l, notinD_t, ixD_l, ixD_t, ixD_s, slD_t, slD_s, slD_l, lenD_s, lenD_l, lenD_t, tupD_l, tupD_t, listD_l, listD_t, allD_l, anyD_l, sumD_l, maxD_ii, minD_ii, maxD_l, minD_l, absD_i, gcdD_ii, intD_i, intD_b, intD_s, strD_i, strD_s, reprD_1, joinD_l, splitD_s, PB_0, PB_1, PB_2, gIte_t, gIte_f, gIte_d, gIte_n, isTupD, isBoolD]
    exact ⟨fun z => (nomatch z), fun _ => r4_no rfl hn⟩
  | lst =>
    simp only [gSeq, gSet, gVar, gVarB, gC, gBin, gChain, gTB, gIf, gIfS, gRet, gCall, gCallF, gCo, gN, gTup, gLst, gL, gNotT, gNotV, gAndT, gOrT, gAndV, gOrV, gIsi, gSl, gPart, gNo, gM0, gM1, gFn, gAn, gAd, gAp, gAs, gAsg, gTo, gToT, gToC, gTo0, gNext, gNeg, gPs0, gTick, gPix, gLenS, gIxS, gSumS, gLRg, gPar, gDic0, gDic1, gYes, gSeqI, gRg1, gRg2, gRetN, gSetF, gApp, gExt, gDrop, gFrz, gLcC_x, gForC_x, clr, startD, nth, List.set, true_or, or_true, true_and, and_true, R__law_pot_0, R__law_pot_1, R__law_pot_2, R__law_common_0, R__law_common_1, R__law_take_0, R__law_take_1, R__law_take_2, R__law_take_3, R__law_take_4, R__law_take_5, R__law_take_6, R__law_number_0, R__law_odd_0, R__law_odd_1, R__law_odd_2, R_is_word_0, R__law_own_word_0, R__law_own_name_0, R__law_own_name_1, R_is_fraction_0, R__law_own_read_0, R__law_own_read_1, R__law_own_read_2, R__law_own_read_3, R__law_own_read_4, R__law_own_read_5, R__law_own_read_6, R__law_own_read_7, R_read_integer_0, R_read_integer_1, R_read_integer_2, R_read_of_figures_0, R_read_of_figures_1, R_read_of_figures_2, R_read_of_figures_3, R_read_of_figures_4, addD_ii, addD_ss, addD_ll, addD_tt, subD_ii, mulD_ii, mulD_si, mulD_li, fdivD_ii, modD_ii, powD_ii, eqD_ii, eqD_ss, eqD_bb, neD_ii, neD_ss, neD_bb, ltD_ii, ltD_ss, leD_ii, gtD_ii, geD_ii, isD_n, isD_bb, isnotD_n, isnotD_bb, inD_ss, inD_l, inD_t, notinD_ss, notinD_l, notinD_t, ixD_l, ixD_t, ixD_s, slD_t, slD_s, slD_l, lenD_s, lenD_l, lenD_t, tupD_l, tupD_t, listD_l, listD_t, allD_l, anyD_l, sumD_l, maxD_ii, minD_ii, maxD_l, minD_l, absD_i, gcdD_ii, intD_i, intD_b, intD_s, strD_i, strD_s, reprD_1, joinD_l, splitD_s, PB_0, PB_1, PB_2, gIte_t, gIte_f, gIte_d, gIte_n, isTupD, isBoolD]
    exact r4_no rfl hn
  | bl =>
    simp only [gSeq, gSet, gVar, gVarB, gC, gBin, gChain, gTB, gIf, gIfS, gRet, gCall, gCallF, gCo, gN, gTup, gLst, gL, gNotT, gNotV, gAndT, gOrT, gAndV, gOrV, gIsi, gSl, gPart, gNo, gM0, gM1, gFn, gAn, gAd, gAp, gAs, gAsg, gTo, gToT, gToC, gTo0, gNext, gNeg, gPs0, gTick, gPix, gLenS, gIxS, gSumS, gLRg, gPar, gDic0, gDic1, gYes, gSeqI, gRg1, gRg2, gRetN, gSetF, gApp, gExt, gDrop, gFrz, gLcC_x, gForC_x, clr, startD, nth, List.set, true_or, or_true, true_and, and_true, R__law_pot_0, R__law_pot_1, R__law_pot_2, R__law_common_0, R__law_common_1, R__law_take_0, R__law_take_1, R__law_take_2, R__law_take_3, R__law_take_4, R__law_take_5, R__law_take_6, R__law_number_0, R__law_odd_0, R__law_odd_1, R__law_odd_2, R_is_word_0, R__law_own_word_0, R__law_own_name_0, R__law_own_name_1, R_is_fraction_0, R__law_own_read_0, R__law_own_read_1, R__law_own_read_2, R__law_own_read_3, R__law_own_read_4, R__law_own_read_5, R__law_own_read_6, R__law_own_read_7, R_read_integer_0, R_read_integer_1, R_read_integer_2, R_read_of_figures_0, R_read_of_figures_1, R_read_of_figures_2, R_read_of_figures_3, R_read_of_figures_4, addD_ii, addD_ss, addD_ll, addD_tt, subD_ii, mulD_ii, mulD_si, mulD_li, fdivD_ii, modD_ii, powD_ii, eqD_ii, eqD_ss, eqD_bb, neD_ii, neD_ss, neD_bb, ltD_ii, ltD_ss, leD_ii, gtD_ii, geD_ii, isD_n, isD_bb, isnotD_n, isnotD_bb, inD_ss, inD_l, inD_t, notinD_ss, notinD_l, notinD_t, ixD_l, ixD_t, ixD_s, slD_t, slD_s, slD_l, lenD_s, lenD_l, lenD_t, tupD_l, tupD_t, listD_l, listD_t, allD_l, anyD_l, sumD_l, maxD_ii, minD_ii, maxD_l, minD_l, absD_i, gcdD_ii, intD_i, intD_b, intD_s, strD_i, strD_s, reprD_1, joinD_l, splitD_s, PB_0, PB_1, PB_2, gIte_t, gIte_f, gIte_d, gIte_n, isTupD, isBoolD]
    refine ⟨fun _ => ⟨_, rfl, ?_⟩, fun z => absurd rfl z⟩
    simp only [gSeq, gSet, gVar, gVarB, gC, gBin, gChain, gTB, gIf, gIfS, gRet, gCall, gCallF, gCo, gN, gTup, gLst, gL, gNotT, gNotV, gAndT, gOrT, gAndV, gOrV, gIsi, gSl, gPart, gNo, gM0, gM1, gFn, gAn, gAd, gAp, gAs, gAsg, gTo, gToT, gToC, gTo0, gNext, gNeg, gPs0, gTick, gPix, gLenS, gIxS, gSumS, gLRg, gPar, gDic0, gDic1, gYes, gSeqI, gRg1, gRg2, gRetN, gSetF, gApp, gExt, gDrop, gFrz, gLcC_x, gForC_x, clr, startD, nth, List.set, true_or, or_true, true_and, and_true, R__law_pot_0, R__law_pot_1, R__law_pot_2, R__law_common_0, R__law_common_1, R__law_take_0, R__law_take_1, R__law_take_2, R__law_take_3, R__law_take_4, R__law_take_5, R__law_take_6, R__law_number_0, R__law_odd_0, R__law_odd_1, R__law_odd_2, R_is_word_0, R__law_own_word_0, R__law_own_name_0, R__law_own_name_1, R_is_fraction_0, R__law_own_read_0, R__law_own_read_1, R__law_own_read_2, R__law_own_read_3, R__law_own_read_4, R__law_own_read_5, R__law_own_read_6, R__law_own_read_7, R_read_integer_0, R_read_integer_1, R_read_integer_2, R_read_of_figures_0, R_read_of_figures_1, R_read_of_figures_2, R_read_of_figures_3, R_read_of_figures_4, addD_ii, addD_ss, addD_ll, addD_tt, subD_ii, mulD_ii, mulD_si, mulD_li, fdivD_ii, modD_ii, powD_ii, eqD_ii, eqD_ss, eqD_bb, neD_ii, neD_ss, neD_bb, ltD_ii, ltD_ss, leD_ii, gtD_ii, geD_ii, isD_n, isD_bb, isnotD_n, isnotD_bb, inD_ss, inD_l, inD_t, notinD_ss, notinD_l, notinD_t, ixD_l, ixD_t, ixD_s, slD_t, slD_s, slD_l, lenD_s, lenD_l, lenD_t, tupD_l, tupD_t, listD_l, listD_t, allD_l, anyD_l, sumD_l, maxD_ii, minD_ii, maxD_l, minD_l, absD_i, gcdD_ii, intD_i, intD_b, intD_s, strD_i, strD_s, reprD_1, joinD_l, splitD_s, PB_0, PB_1, PB_2, gIte_t, gIte_f, gIte_d, gIte_n, isTupD, isBoolD, Bool.not_true]
    exact r4_no rfl hn
end
theorem r9_ok {w sg v on du tx : Sv} {top low : Int} (h1 : top.natAbs < 10 ^ 300) (h2 : low.natAbs < 10 ^ 300) (h0 : 0 < low) (h : K (.bool true)) : R__law_right_9 E (EN K) [.pot, w, sg, v, .dat (.int top), .dat (.int low), .dat (.int ((Nat.gcd top.natAbs low.natAbs : Nat) : Int)), on, du, tx, .un] := by
  have g0 : 0 < Nat.gcd top.natAbs low.natAbs := Nat.gcd_pos_of_pos_right _ (by omega)
  have g1 : Nat.gcd top.natAbs low.natAbs ≤ low.natAbs := Nat.gcd_le_right _ (by omega)
  have gl : Nat.log2 (Nat.gcd top.natAbs low.natAbs) < 9000 := by
    have : (((Nat.gcd top.natAbs low.natAbs : Nat) : Int)).natAbs < 10 ^ 300 := by omega
    have := log_of this
    have e : (((Nat.gcd top.natAbs low.natAbs : Nat) : Int)).natAbs = Nat.gcd top.natAbs low.natAbs := rfl
    rw [e] at this
    omega
  generalize hg : Nat.gcd top.natAbs low.natAbs = g at *
  have q1 : (top / (g : Int)).natAbs < 10 ^ 300 := Nat.lt_of_le_of_lt (Int.natAbs_ediv_le_natAbs _ _) h1
  have q2 : (low / (g : Int)).natAbs < 10 ^ 300 := Nat.lt_of_le_of_lt (Int.natAbs_ediv_le_natAbs _ _) h2
  have cd : ∀ i : Int, L2.CDivW i (g : Int) := fun i => ⟨by omega, gl⟩
  unfold R__law_right_9
  simp only [gSeq, gSet, gVar, gVarB, gC, gBin, gChain, gTB, gIf, gIfS, gRet, gCall, gCallF, gCo, gN, gTup, gLst, gL, gNotT, gNotV, gAndT, gOrT, gAndV, gOrV, gIsi, gSl, gPart, gNo, gM0, gM1, gFn, gAn, gAd, gAp, gAs, gAsg, gTo, gToT, gToC, gTo0, gNext, gNeg, gPs0, gTick, gPix, gLenS, gIxS, gSumS, gLRg, gPar, gDic0, gDic1, gYes, gSeqI, gRg1, gRg2, gRetN, gSetF, gApp, gExt, gDrop, gFrz, gLcC_x, gForC_x, clr, startD, nth, List.set, true_or, or_true, true_and, and_true, R__law_pot_0, R__law_pot_1, R__law_pot_2, R__law_common_0, R__law_common_1, R__law_take_0, R__law_take_1, R__law_take_2, R__law_take_3, R__law_take_4, R__law_take_5, R__law_take_6, R__law_number_0, R__law_odd_0, R__law_odd_1, R__law_odd_2, R_is_word_0, R__law_own_word_0, R__law_own_name_0, R__law_own_name_1, R_is_fraction_0, R__law_own_read_0, R__law_own_read_1, R__law_own_read_2, R__law_own_read_3, R__law_own_read_4, R__law_own_read_5, R__law_own_read_6, R__law_own_read_7, R_read_integer_0, R_read_integer_1, R_read_integer_2, R_read_of_figures_0, R_read_of_figures_1, R_read_of_figures_2, R_read_of_figures_3, R_read_of_figures_4, addD_ii, addD_ss, addD_ll, addD_tt, subD_ii, mulD_ii, mulD_si, mulD_li, fdivD_ii, modD_ii, powD_ii, eqD_ii, eqD_ss, eqD_bb, neD_ii, neD_ss, neD_bb, ltD_ii, ltD_ss, leD_ii, gtD_ii, geD_ii, isD_n, isD_bb, isnotD_n, isnotD_bb, inD_ss, inD_l, inD_t, notinD_ss, notinD_l, notinD_t, ixD_l, ixD_t, ixD_s, slD_t, slD_s, slD_l, lenD_s, lenD_l, lenD_t, tupD_l, tupD_t, listD_l, listD_t, allD_l, anyD_l, sumD_l, maxD_ii, minD_ii, maxD_l, minD_l, absD_i, gcdD_ii, intD_i, intD_b, intD_s, strD_i, strD_s, reprD_1, joinD_l, splitD_s, PB_0, PB_1, PB_2, gIte_t, gIte_f, gIte_d, gIte_n]
  refine ⟨cd _, cd _, sl (n := 2) (by decide), sl (n := 2) (by decide), sl (n := 2) (by decide), sl (n := 2) (by decide), sl (n := 2) (by decide), sl (n := 2) (by decide), sl (n := 1) (by decide), sl (n := 2) (by decide), sl (n := 2) (by decide), sl (n := 9) (by decide), Nat.le_of_eq (Nat.mul_zero _), fun i Δ' => ∃ on du tx : Sv, Δ' = LR w sg v (.dat (.int top)) (.dat (.int low)) (.dat (.int (g : Int))) on du tx, ⟨_, _, _, rfl⟩, ?_, ?_⟩
  · rintro i x Δ' hx ⟨on, du, tx, rfl⟩
    have hi : It x := by
      have hm := List.mem_of_getElem? hx
      simp only [List.mem_cons, List.not_mem_nil, or_false] at hm
      rcases hm with rfl | rfl | rfl | rfl | rfl | rfl | rfl | rfl | rfl
      · exact .pr q1 q2
      · exact .pr h1 h2
      · exact .pr (by decide +kernel) (by decide +kernel)
      · exact .pr (by decide +kernel) (by decide +kernel)
      · exact .pr h1 (by decide +kernel)
      · exact .pr h1 (by rw [Int.natAbs_neg]; exact h2)
      · exact .one
      · exact .lst
      · exact .bl
    exact b9_ok hi fun du tx => ⟨_, _, _, rfl⟩
  · rintro Δ' ⟨on, du, tx, rfl⟩
    exact text_ok (log_of h1) (log_of h2) h
theorem r10_ok {w sg v by1 on du tx : Sv} {top low : Int} (h1 : top.natAbs < 10 ^ 300) (h2 : low.natAbs < 10 ^ 300) (h0 : 0 < low) (h : K (.bool true)) : R__law_right_10 E (EN K) [.pot, w, sg, v, .dat (.int top), .dat (.int low), by1, on, du, tx, .un] := by
  unfold R__law_right_10
  simp only [gSeq, gSet, gVar, gVarB, gC, gBin, gChain, gTB, gIf, gIfS, gRet, gCall, gCallF, gCo, gN, gTup, gLst, gL, gNotT, gNotV, gAndT, gOrT, gAndV, gOrV, gIsi, gSl, gPart, gNo, gM0, gM1, gFn, gAn, gAd, gAp, gAs, gAsg, gTo, gToT, gToC, gTo0, gNext, gNeg, gPs0, gTick, gPix, gLenS, gIxS, gSumS, gLRg, gPar, gDic0, gDic1, gYes, gSeqI, gRg1, gRg2, gRetN, gSetF, gApp, gExt, gDrop, gFrz, gLcC_x, gForC_x, clr, startD, nth, List.set, true_or, or_true, true_and, and_true, R__law_pot_0, R__law_pot_1, R__law_pot_2, R__law_common_0, R__law_common_1, R__law_take_0, R__law_take_1, R__law_take_2, R__law_take_3, R__law_take_4, R__law_take_5, R__law_take_6, R__law_number_0, R__law_odd_0, R__law_odd_1, R__law_odd_2, R_is_word_0, R__law_own_word_0, R__law_own_name_0, R__law_own_name_1, R_is_fraction_0, R__law_own_read_0, R__law_own_read_1, R__law_own_read_2, R__law_own_read_3, R__law_own_read_4, R__law_own_read_5, R__law_own_read_6, R__law_own_read_7, R_read_integer_0, R_read_integer_1, R_read_integer_2, R_read_of_figures_0, R_read_of_figures_1, R_read_of_figures_2, R_read_of_figures_3, R_read_of_figures_4, addD_ii, addD_ss, addD_ll, addD_tt, subD_ii, mulD_ii, mulD_si, mulD_li, fdivD_ii, modD_ii, powD_ii, eqD_ii, eqD_ss, eqD_bb, neD_ii, neD_ss, neD_bb, ltD_ii, ltD_ss, leD_ii, gtD_ii, geD_ii, isD_n, isD_bb, isnotD_n, isnotD_bb, inD_ss, inD_l, inD_t, notinD_ss, notinD_l, notinD_t, ixD_l, ixD_t, ixD_s, slD_t, slD_s, slD_l, lenD_s, lenD_l, lenD_t, tupD_l, tupD_t, listD_l, listD_t, allD_l, anyD_l, sumD_l, maxD_ii, minD_ii, maxD_l, minD_l, absD_i, gcdD_ii, intD_i, intD_b, intD_s, strD_i, strD_s, reprD_1, joinD_l, splitD_s, PB_0, PB_1, PB_2, gIte_t, gIte_f, gIte_d, gIte_n, List.append_nil]
  exact ownCommon_ok (r9_ok h1 h2 h0 h)
theorem natAbs_lt {n : Int} (h0 : 0 < n) (h : n < 10 ^ 300) : n.natAbs < 10 ^ 300 := by
  have h4 : ((10 ^ 300 : Nat) : Int) = (10 : Int) ^ 300 := by simp
  generalize (10 : Nat) ^ 300 = z at *
  rw [← h4] at h
  omega
theorem r11_ok {w sg v tp lw by1 on du tx : Sv} (h : K (.bool true)) : R__law_right_11 E (EN K) [.pot, w, sg, v, tp, lw, by1, on, du, tx, .un] := by
  unfold R__law_right_11
  simp only [gSeq, gSet, gVar, gVarB, gC, gBin, gChain, gTB, gIf, gIfS, gRet, gCall, gCallF, gCo, gN, gTup, gLst, gL, gNotT, gNotV, gAndT, gOrT, gAndV, gOrV, gIsi, gSl, gPart, gNo, gM0, gM1, gFn, gAn, gAd, gAp, gAs, gAsg, gTo, gToT, gToC, gTo0, gNext, gNeg, gPs0, gTick, gPix, gLenS, gIxS, gSumS, gLRg, gPar, gDic0, gDic1, gYes, gSeqI, gRg1, gRg2, gRetN, gSetF, gApp, gExt, gDrop, gFrz, gLcC_x, gForC_x, clr, startD, nth, List.set, true_or, or_true, true_and, and_true, R__law_pot_0, R__law_pot_1, R__law_pot_2, R__law_common_0, R__law_common_1, R__law_take_0, R__law_take_1, R__law_take_2, R__law_take_3, R__law_take_4, R__law_take_5, R__law_take_6, R__law_number_0, R__law_odd_0, R__law_odd_1, R__law_odd_2, R_is_word_0, R__law_own_word_0, R__law_own_name_0, R__law_own_name_1, R_is_fraction_0, R__law_own_read_0, R__law_own_read_1, R__law_own_read_2, R__law_own_read_3, R__law_own_read_4, R__law_own_read_5, R__law_own_read_6, R__law_own_read_7, R_read_integer_0, R_read_integer_1, R_read_integer_2, R_read_of_figures_0, R_read_of_figures_1, R_read_of_figures_2, R_read_of_figures_3, R_read_of_figures_4, addD_ii, addD_ss, addD_ll, addD_tt, subD_ii, mulD_ii, mulD_si, mulD_li, fdivD_ii, modD_ii, powD_ii, eqD_ii, eqD_ss, eqD_bb, neD_ii, neD_ss, neD_bb, ltD_ii, ltD_ss, leD_ii, gtD_ii, geD_ii, isD_n, isD_bb, isnotD_n, isnotD_bb, inD_ss, inD_l, inD_t, notinD_ss, notinD_l, notinD_t, ixD_l, ixD_t, ixD_s, slD_t, slD_s, slD_l, lenD_s, lenD_l, lenD_t, tupD_l, tupD_t, listD_l, listD_t, allD_l, anyD_l, sumD_l, maxD_ii, minD_ii, maxD_l, minD_l, absD_i, gcdD_ii, intD_i, intD_b, intD_s, strD_i, strD_s, reprD_1, joinD_l, splitD_s, PB_0, PB_1, PB_2, gIte_t, gIte_f, gIte_d, gIte_n, List.append_nil]
  refine number_ok fun n n0 n1 => ⟨sl (n := 2) (by decide), of_ok (by simp) (show 2 < 2 ^ 24 by decide) fun y hy => ?_⟩
  have a1 := natAbs_lt n0 n1
  have s1 : Sz 1000 n := Nat.lt_of_lt_of_le a1 (by decide +kernel)
  obtain ⟨s, rfl, hs⟩ : ∃ s : Int, y = .int s ∧ (s = 1 ∨ s = -1) := by
    simp only [List.mem_cons, List.not_mem_nil, or_false] at hy
    rcases hy with rfl | rfl
    · exact ⟨_, rfl, .inl rfl⟩
    · exact ⟨_, rfl, .inr rfl⟩
  have s2 : Sz 1 s := by rcases hs with rfl | rfl <;> exact lit
  simp only [gSeq, gSet, gVar, gVarB, gC, gBin, gChain, gTB, gIf, gIfS, gRet, gCall, gCallF, gCo, gN, gTup, gLst, gL, gNotT, gNotV, gAndT, gOrT, gAndV, gOrV, gIsi, gSl, gPart, gNo, gM0, gM1, gFn, gAn, gAd, gAp, gAs, gAsg, gTo, gToT, gToC, gTo0, gNext, gNeg, gPs0, gTick, gPix, gLenS, gIxS, gSumS, gLRg, gPar, gDic0, gDic1, gYes, gSeqI, gRg1, gRg2, gRetN, gSetF, gApp, gExt, gDrop, gFrz, gLcC_x, gForC_x, clr, startD, nth, List.set, true_or, or_true, true_and, and_true, R__law_pot_0, R__law_pot_1, R__law_pot_2, R__law_common_0, R__law_common_1, R__law_take_0, R__law_take_1, R__law_take_2, R__law_take_3, R__law_take_4, R__law_take_5, R__law_take_6, R__law_number_0, R__law_odd_0, R__law_odd_1, R__law_odd_2, R_is_word_0, R__law_own_word_0, R__law_own_name_0, R__law_own_name_1, R_is_fraction_0, R__law_own_read_0, R__law_own_read_1, R__law_own_read_2, R__law_own_read_3, R__law_own_read_4, R__law_own_read_5, R__law_own_read_6, R__law_own_read_7, R_read_integer_0, R_read_integer_1, R_read_integer_2, R_read_of_figures_0, R_read_of_figures_1, R_read_of_figures_2, R_read_of_figures_3, R_read_of_figures_4, addD_ii, addD_ss, addD_ll, addD_tt, subD_ii, mulD_ii, mulD_si, mulD_li, fdivD_ii, modD_ii, powD_ii, eqD_ii, eqD_ss, eqD_bb, neD_ii, neD_ss, neD_bb, ltD_ii, ltD_ss, leD_ii, gtD_ii, geD_ii, isD_n, isD_bb, isnotD_n, isnotD_bb, inD_ss, inD_l, inD_t, notinD_ss, notinD_l, notinD_t, ixD_l, ixD_t, ixD_s, slD_t, slD_s, slD_l, lenD_s, lenD_l, lenD_t, tupD_l, tupD_t, listD_l, listD_t, allD_l, anyD_l, sumD_l, maxD_ii, minD_ii, maxD_l, minD_l, absD_i, gcdD_ii, intD_i, intD_b, intD_s, strD_i, strD_s, reprD_1, joinD_l, splitD_s, PB_0, PB_1, PB_2, gIte_t, gIte_f, gIte_d, gIte_n]
  refine ⟨Sz.mulOk s1 s2, number_ok fun m m0 m1 => r10_ok ?_ (natAbs_lt m0 m1) m0 h⟩
  have : (n * s).natAbs = n.natAbs := by rcases hs with rfl | rfl <;> simp
  rw [this]
  exact a1
end K00
/-! K00q: the plain law: words, and all together. -/
namespace K00
open PySem DL
variable {K : D → Prop} {E : Value → D → Prop}
theorem ones_of : ∀ (ds : List D), (∀ y ∈ ds, ∃ c : Nat, y = .str ⟨#[c]⟩) → ∃ cs : List Nat, ds = cs.map (fun c => PyData.str ⟨#[c]⟩)
  | [], _ => ⟨[], rfl⟩
  | d :: ds, h => by
    obtain ⟨c, rfl⟩ := h d List.mem_cons_self
    obtain ⟨cs, rfl⟩ := ones_of ds fun y hy => h y (List.mem_cons_of_mem _ hy)
    exact ⟨c :: cs, rfl⟩
theorem ones_sum (l : List Nat) : (l.map ((fun x => x.length) ∘ fun c => (⟨#[c]⟩ : Str))).sum = l.length := by
  induction l with
  | nil => rfl
  | cons a b ih =>
    rw [List.map_cons, List.sum_cons, ih, List.length_cons]
    show 1 + _ = _
    omega
theorem ones_join (cs : List Nat) : Txt.join (Str.ofString "") (cs.map fun c => (⟨#[c]⟩ : Str)) = ⟨cs.toArray⟩ := by
  rw [TL.join_eq, show Str.ofString "" = ⟨#[]⟩ by decide +kernel]
  exact PyProof.Rows.join_ones _
theorem b12_ok {p w sg tp lw by1 on du tx q : Sv} {x : D} {D' : DEnds} (hn : D'.nx [p, w, sg, .dat x, tp, lw, by1, on, du, tx, q]) : (gSeq (gIfS (gTB (gBin neD (gFn F_is_word E [] (gAd (gVar 3) gAn)) (gFn F__law_own_word E [] (gAd (gVar 3) gAn)))) (gRet (gC (.bool false))) gNext) (R__law_right_0 E)) D' [p, w, sg, .dat x, tp, lw, by1, on, du, tx, q] := by
  unfold R__law_right_0
  simp only [gSeq, gSet, gVar, gVarB, gC, gBin, gChain, gTB, gIf, gIfS, gRet, gCall, gCallF, gCo, gN, gTup, gLst, gL, gNotT, gNotV, gAndT, gOrT, gAndV, gOrV, gIsi, gSl, gPart, gNo, gM0, gM1, gFn, gAn, gAd, gAp, gAs, gAsg, gTo, gToT, gToC, gTo0, gNext, gNeg, gPs0, gTick, gPix, gLenS, gIxS, gSumS, gLRg, gPar, gDic0, gDic1, gYes, gSeqI, gRg1, gRg2, gRetN, gSetF, gApp, gExt, gDrop, gFrz, gLcC_x, gForC_x, clr, startD, nth, List.set, true_or, or_true, true_and, and_true, R__law_pot_0, R__law_pot_1, R__law_pot_2, R__law_common_0, R__law_common_1, R__law_take_0, R__law_take_1, R__law_take_2, R__law_take_3, R__law_take_4, R__law_take_5, R__law_take_6, R__law_number_0, R__law_odd_0, R__law_odd_1, R__law_odd_2, R_is_word_0, R__law_own_word_0, R__law_own_name_0, R__law_own_name_1, R_is_fraction_0, R__law_own_read_0, R__law_own_read_1, R__law_own_read_2, R__law_own_read_3, R__law_own_read_4, R__law_own_read_5, R__law_own_read_6, R__law_own_read_7, R_read_integer_0, R_read_integer_1, R_read_integer_2, R_read_of_figures_0, R_read_of_figures_1, R_read_of_figures_2, R_read_of_figures_3, R_read_of_figures_4, addD_ii, addD_ss, addD_ll, addD_tt, subD_ii, mulD_ii, mulD_si, mulD_li, fdivD_ii, modD_ii, powD_ii, eqD_ii, eqD_ss, eqD_bb, neD_ii, neD_ss, neD_bb, ltD_ii, ltD_ss, leD_ii, gtD_ii, geD_ii, isD_n, isD_bb, isnotD_n, isnotD_bb, inD_ss, inD_l, inD_t, notinD_ss, notinD_l, notinD_t, ixD_l, ixD_t, ixD_s, slD_t, slD_s, slD_l, lenD_s, lenD_l, lenD_t, tupD_l, tupD_t, listD_l, listD_t, allD_l, anyD_l, sumD_l, maxD_ii, minD_ii, maxD_l, minD_l, absD_i, gcdD_ii, intD_i, intD_b, intD_s, strD_i, strD_s, reprD_1, joinD_l, splitD_s, PB_0, PB_1, PB_2, gIte_t, gIte_f, gIte_d, gIte_n, List.append_nil]
  refine isWord_ok (ownWord_ok ?_)
  simp only [gSeq, gSet, gVar, gVarB, gC, gBin, gChain, gTB, gIf, gIfS, gRet, gCall, gCallF, gCo, gN, gTup, gLst, gL, gNotT, gNotV, gAndT, gOrT, gAndV, gOrV, gIsi, gSl, gPart, gNo, gM0, gM1, gFn, gAn, gAd, gAp, gAs, gAsg, gTo, gToT, gToC, gTo0, gNext, gNeg, gPs0, gTick, gPix, gLenS, gIxS, gSumS, gLRg, gPar, gDic0, gDic1, gYes, gSeqI, gRg1, gRg2, gRetN, gSetF, gApp, gExt, gDrop, gFrz, gLcC_x, gForC_x, clr, startD, nth, List.set, true_or, or_true, true_and, and_true, R__law_pot_0, R__law_pot_1, R__law_pot_2, R__law_common_0, R__law_common_1, R__law_take_0, R__law_take_1, R__law_take_2, R__law_take_3, R__law_take_4, R__law_take_5, R__law_take_6, R__law_number_0, R__law_odd_0, R__law_odd_1, R__law_odd_2, R_is_word_0, R__law_own_word_0, R__law_own_name_0, R__law_own_name_1, R_is_fraction_0, R__law_own_read_0, R__law_own_read_1, R__law_own_read_2, R__law_own_read_3, R__law_own_read_4, R__law_own_read_5, R__law_own_read_6, R__law_own_read_7, R_read_integer_0, R_read_integer_1, R_read_integer_2, R_read_of_figures_0, R_read_of_figures_1, R_read_of_figures_2, R_read_of_figures_3, R_read_of_figures_4, addD_ii, addD_ss, addD_ll, addD_tt, subD_ii, mulD_ii, mulD_si, mulD_li, fdivD_ii, modD_ii, powD_ii, eqD_ii, eqD_ss, eqD_bb, neD_ii, neD_ss, neD_bb, ltD_ii, ltD_ss, leD_ii, gtD_ii, geD_ii, isD_n, isD_bb, isnotD_n, isnotD_bb, inD_ss, inD_l, inD_t, notinD_ss, notinD_l, notinD_t, ixD_l, ixD_t, ixD_s, slD_t, slD_s, slD_l, lenD_s, lenD_l, lenD_t, tupD_l, tupD_t, listD_l, listD_t, allD_l, anyD_l, sumD_l, maxD_ii, minD_ii, maxD_l, minD_l, absD_i, gcdD_ii, intD_i, intD_b, intD_s, strD_i, strD_s, reprD_1, joinD_l, splitD_s, PB_0, PB_1, PB_2, gIte_t, gIte_f, gIte_d, gIte_n]
  refine ⟨fun _ => isName_ok (ownName_ok ?_), fun z => absurd trivial z⟩
  simp only [gSeq, gSet, gVar, gVarB, gC, gBin, gChain, gTB, gIf, gIfS, gRet, gCall, gCallF, gCo, gN, gTup, gLst, gL, gNotT, gNotV, gAndT, gOrT, gAndV, gOrV, gIsi, gSl, gPart, gNo, gM0, gM1, gFn, gAn, gAd, gAp, gAs, gAsg, gTo, gToT, gToC, gTo0, gNext, gNeg, gPs0, gTick, gPix, gLenS, gIxS, gSumS, gLRg, gPar, gDic0, gDic1, gYes, gSeqI, gRg1, gRg2, gRetN, gSetF, gApp, gExt, gDrop, gFrz, gLcC_x, gForC_x, clr, startD, nth, List.set, true_or, or_true, true_and, and_true, R__law_pot_0, R__law_pot_1, R__law_pot_2, R__law_common_0, R__law_common_1, R__law_take_0, R__law_take_1, R__law_take_2, R__law_take_3, R__law_take_4, R__law_take_5, R__law_take_6, R__law_number_0, R__law_odd_0, R__law_odd_1, R__law_odd_2, R_is_word_0, R__law_own_word_0, R__law_own_name_0, R__law_own_name_1, R_is_fraction_0, R__law_own_read_0, R__law_own_read_1, R__law_own_read_2, R__law_own_read_3, R__law_own_read_4, R__law_own_read_5, R__law_own_read_6, R__law_own_read_7, R_read_integer_0, R_read_integer_1, R_read_integer_2, R_read_of_figures_0, R_read_of_figures_1, R_read_of_figures_2, R_read_of_figures_3, R_read_of_figures_4, addD_ii, addD_ss, addD_ll, addD_tt, subD_ii, mulD_ii, mulD_si, mulD_li, fdivD_ii, modD_ii, powD_ii, eqD_ii, eqD_ss, eqD_bb, neD_ii, neD_ss, neD_bb, ltD_ii, ltD_ss, leD_ii, gtD_ii, geD_ii, isD_n, isD_bb, isnotD_n, isnotD_bb, inD_ss, inD_l, inD_t, notinD_ss, notinD_l, notinD_t, ixD_l, ixD_t, ixD_s, slD_t, slD_s, slD_l, lenD_s, lenD_l, lenD_t, tupD_l, tupD_t, listD_l, listD_t, allD_l, anyD_l, sumD_l, maxD_ii, minD_ii, maxD_l, minD_l, absD_i, gcdD_ii, intD_i, intD_b, intD_s, strD_i, strD_s, reprD_1, joinD_l, splitD_s, PB_0, PB_1, PB_2, gIte_t, gIte_f, gIte_d, gIte_n]
  exact ⟨fun _ => hn, fun z => absurd trivial z⟩
theorem r12_ok {v tp lw by1 on du tx : Sv} {ws : List D} {cs : List Nat} (hw : ws.length ≤ 50) (hc : cs.length ≤ 50) (h : K (.bool true)) : R__law_right_12 E (EN K) [.pot, .dat (.list ws), .dat (.list (cs.map fun c => PyData.str ⟨#[c]⟩)), v, tp, lw, by1, on, du, tx, .un] := by
  unfold R__law_right_12
  simp only [gSeq, gForC_x, gSeqI, gBin, gVar, nth, gL, gLst, gCo, gM1, gC, isStrD, joinD_l, true_and, gN, gFn, gAp, gAn, List.append_nil]
  refine ⟨cs.map fun c => (⟨#[c]⟩ : Str), by rw [List.map_map]; rfl, ?_, ?_, odd_ok fun d hd => ⟨sl (n := 2) (by decide), ?_⟩⟩
  · rw [List.map_map, List.length_map, show (Str.ofString "").length = 0 by decide +kernel, Nat.mul_zero, Nat.add_zero, ones_sum]
    omega
  · rw [ones_join, str_len, sizeLine_eq]
    show cs.length ≤ _
    omega
  · rw [addD_ll]
    refine ⟨by rw [sizeLine_eq]; show _ + 2 ≤ _; omega, Nat.le_of_eq (Nat.mul_zero _), fun i Δ' => ∃ v : Sv, Δ' = [.pot, .dat (.list ws), .dat (.list (cs.map fun c => PyData.str ⟨#[c]⟩)), v, tp, lw, by1, on, du, tx, .un], ⟨_, rfl⟩, ?_, ?_⟩
    · rintro i x Δ' hx ⟨v, rfl⟩
      exact b12_ok ⟨_, rfl⟩
    · rintro Δ' ⟨v, rfl⟩
      exact r11_ok h
theorem r13_ok {sg v tp lw by1 on du tx : Sv} {ws : List D} (hw : ws.length ≤ 50) (h : K (.bool true)) : R__law_right_13 E (EN K) [.pot, .dat (.list ws), sg, v, tp, lw, by1, on, du, tx, .un] := by
  unfold R__law_right_13
  simp only [gSeq, gSet, gVar, gVarB, gC, gBin, gChain, gTB, gIf, gIfS, gRet, gCall, gCallF, gCo, gN, gTup, gLst, gL, gNotT, gNotV, gAndT, gOrT, gAndV, gOrV, gIsi, gSl, gPart, gNo, gM0, gM1, gFn, gAn, gAd, gAp, gAs, gAsg, gTo, gToT, gToC, gTo0, gNext, gNeg, gPs0, gTick, gPix, gLenS, gIxS, gSumS, gLRg, gPar, gDic0, gDic1, gYes, gSeqI, gRg1, gRg2, gRetN, gSetF, gApp, gExt, gDrop, gFrz, gLcC_x, gForC_x, clr, startD, nth, List.set, true_or, or_true, true_and, and_true, R__law_pot_0, R__law_pot_1, R__law_pot_2, R__law_common_0, R__law_common_1, R__law_take_0, R__law_take_1, R__law_take_2, R__law_take_3, R__law_take_4, R__law_take_5, R__law_take_6, R__law_number_0, R__law_odd_0, R__law_odd_1, R__law_odd_2, R_is_word_0, R__law_own_word_0, R__law_own_name_0, R__law_own_name_1, R_is_fraction_0, R__law_own_read_0, R__law_own_read_1, R__law_own_read_2, R__law_own_read_3, R__law_own_read_4, R__law_own_read_5, R__law_own_read_6, R__law_own_read_7, R_read_integer_0, R_read_integer_1, R_read_integer_2, R_read_of_figures_0, R_read_of_figures_1, R_read_of_figures_2, R_read_of_figures_3, R_read_of_figures_4, addD_ii, addD_ss, addD_ll, addD_tt, subD_ii, mulD_ii, mulD_si, mulD_li, fdivD_ii, modD_ii, powD_ii, eqD_ii, eqD_ss, eqD_bb, neD_ii, neD_ss, neD_bb, ltD_ii, ltD_ss, leD_ii, gtD_ii, geD_ii, isD_n, isD_bb, isnotD_n, isnotD_bb, inD_ss, inD_l, inD_t, notinD_ss, notinD_l, notinD_t, ixD_l, ixD_t, ixD_s, slD_t, slD_s, slD_l, lenD_s, lenD_l, lenD_t, tupD_l, tupD_t, listD_l, listD_t, allD_l, anyD_l, sumD_l, maxD_ii, minD_ii, maxD_l, minD_l, absD_i, gcdD_ii, intD_i, intD_b, intD_s, strD_i, strD_s, reprD_1, joinD_l, splitD_s, PB_0, PB_1, PB_2, gIte_t, gIte_f, gIte_d, gIte_n, List.append_nil]
  refine take_ok (by decide) (by decide) fun i i0 i1 => ?_
  have hr : (rangeD 0 (1 + i)).length = (1 + i - 0).toNat := by
    unfold rangeD
    rw [List.length_map, List.length_range]
  simp only [gSeq, gSet, gVar, gVarB, gC, gBin, gChain, gTB, gIf, gIfS, gRet, gCall, gCallF, gCo, gN, gTup, gLst, gL, gNotT, gNotV, gAndT, gOrT, gAndV, gOrV, gIsi, gSl, gPart, gNo, gM0, gM1, gFn, gAn, gAd, gAp, gAs, gAsg, gTo, gToT, gToC, gTo0, gNext, gNeg, gPs0, gTick, gPix, gLenS, gIxS, gSumS, gLRg, gPar, gDic0, gDic1, gYes, gSeqI, gRg1, gRg2, gRetN, gSetF, gApp, gExt, gDrop, gFrz, gLcC_x, gForC_x, clr, startD, nth, List.set, true_or, or_true, true_and, and_true, R__law_pot_0, R__law_pot_1, R__law_pot_2, R__law_common_0, R__law_common_1, R__law_take_0, R__law_take_1, R__law_take_2, R__law_take_3, R__law_take_4, R__law_take_5, R__law_take_6, R__law_number_0, R__law_odd_0, R__law_odd_1, R__law_odd_2, R_is_word_0, R__law_own_word_0, R__law_own_name_0, R__law_own_name_1, R_is_fraction_0, R__law_own_read_0, R__law_own_read_1, R__law_own_read_2, R__law_own_read_3, R__law_own_read_4, R__law_own_read_5, R__law_own_read_6, R__law_own_read_7, R_read_integer_0, R_read_integer_1, R_read_integer_2, R_read_of_figures_0, R_read_of_figures_1, R_read_of_figures_2, R_read_of_figures_3, R_read_of_figures_4, addD_ii, addD_ss, addD_ll, addD_tt, subD_ii, mulD_ii, mulD_si, mulD_li, fdivD_ii, modD_ii, powD_ii, eqD_ii, eqD_ss, eqD_bb, neD_ii, neD_ss, neD_bb, ltD_ii, ltD_ss, leD_ii, gtD_ii, geD_ii, isD_n, isD_bb, isnotD_n, isnotD_bb, inD_ss, inD_l, inD_t, notinD_ss, notinD_l, notinD_t, ixD_l, ixD_t, ixD_s, slD_t, slD_s, slD_l, lenD_s, lenD_l, lenD_t, tupD_l, tupD_t, listD_l, listD_t, allD_l, anyD_l, sumD_l, maxD_ii, minD_ii, maxD_l, minD_l, absD_i, gcdD_ii, intD_i, intD_b, intD_s, strD_i, strD_s, reprD_1, joinD_l, splitD_s, PB_0, PB_1, PB_2, gIte_t, gIte_f, gIte_d, gIte_n]
  refine ⟨by omega, by rw [sizeLine_eq]; omega, ?_⟩
  refine lc_any (fun y => ∃ c : Nat, y = .str ⟨#[c]⟩) rfl (by omega) (fun d hd P hP => ?_) fun ds hl hds => ?_
  · simp only [gSeq, gSet, gVar, gVarB, gC, gBin, gChain, gTB, gIf, gIfS, gRet, gCall, gCallF, gCo, gN, gTup, gLst, gL, gNotT, gNotV, gAndT, gOrT, gAndV, gOrV, gIsi, gSl, gPart, gNo, gM0, gM1, gFn, gAn, gAd, gAp, gAs, gAsg, gTo, gToT, gToC, gTo0, gNext, gNeg, gPs0, gTick, gPix, gLenS, gIxS, gSumS, gLRg, gPar, gDic0, gDic1, gYes, gSeqI, gRg1, gRg2, gRetN, gSetF, gApp, gExt, gDrop, gFrz, gLcC_x, gForC_x, clr, startD, nth, List.set, true_or, or_true, true_and, and_true, R__law_pot_0, R__law_pot_1, R__law_pot_2, R__law_common_0, R__law_common_1, R__law_take_0, R__law_take_1, R__law_take_2, R__law_take_3, R__law_take_4, R__law_take_5, R__law_take_6, R__law_number_0, R__law_odd_0, R__law_odd_1, R__law_odd_2, R_is_word_0, R__law_own_word_0, R__law_own_name_0, R__law_own_name_1, R_is_fraction_0, R__law_own_read_0, R__law_own_read_1, R__law_own_read_2, R__law_own_read_3, R__law_own_read_4, R__law_own_read_5, R__law_own_read_6, R__law_own_read_7, R_read_integer_0, R_read_integer_1, R_read_integer_2, R_read_of_figures_0, R_read_of_figures_1, R_read_of_figures_2, R_read_of_figures_3, R_read_of_figures_4, addD_ii, addD_ss, addD_ll, addD_tt, subD_ii, mulD_ii, mulD_si, mulD_li, fdivD_ii, modD_ii, powD_ii, eqD_ii, eqD_ss, eqD_bb, neD_ii, neD_ss, neD_bb, ltD_ii, ltD_ss, leD_ii, gtD_ii, geD_ii, isD_n, isD_bb, isnotD_n, isnotD_bb, inD_ss, inD_l, inD_t, notinD_ss, notinD_l, notinD_t, ixD_l, ixD_t, ixD_s, slD_t, slD_s, slD_l, lenD_s, lenD_l, lenD_t, tupD_l, tupD_t, listD_l, listD_t, allD_l, anyD_l, sumD_l, maxD_ii, minD_ii, maxD_l, minD_l, absD_i, gcdD_ii, intD_i, intD_b, intD_s, strD_i, strD_s, reprD_1, joinD_l, splitD_s, PB_0, PB_1, PB_2, gIte_t, gIte_f, gIte_d, gIte_n, List.append_nil]
    refine ⟨sl (n := 6) (by decide), of_ok (by simp) (show 6 < 2 ^ 24 by decide) fun y hy => hP y ?_⟩
    simp only [List.mem_cons, List.not_mem_nil, or_false] at hy
    rcases hy with rfl | rfl | rfl | rfl | rfl | rfl
    · exact ⟨97, by rw [show Str.ofString "a" = ⟨#[97]⟩ by decide +kernel]⟩
    · exact ⟨122, by rw [show Str.ofString "z" = ⟨#[122]⟩ by decide +kernel]⟩
    · exact ⟨48, by rw [show Str.ofString "0" = ⟨#[48]⟩ by decide +kernel]⟩
    · exact ⟨57, by rw [show Str.ofString "9" = ⟨#[57]⟩ by decide +kernel]⟩
    · exact ⟨46, by rw [show Str.ofString "." = ⟨#[46]⟩ by decide +kernel]⟩
    · exact ⟨66, by rw [show Str.ofString "B" = ⟨#[66]⟩ by decide +kernel]⟩
  · obtain ⟨cs, rfl⟩ := ones_of ds hds
    rw [List.length_map] at hl
    exact r12_ok hw (by omega) h
theorem right_ok (h : K (.bool true)) : F__law_right [.pot] K E := by
  unfold F__law_right specOf G__law_right N__law_right
  refine ⟨rfl, ?_⟩
  simp only [gSeq, gSet, gVar, gVarB, gC, gBin, gChain, gTB, gIf, gIfS, gRet, gCall, gCallF, gCo, gN, gTup, gLst, gL, gNotT, gNotV, gAndT, gOrT, gAndV, gOrV, gIsi, gSl, gPart, gNo, gM0, gM1, gFn, gAn, gAd, gAp, gAs, gAsg, gTo, gToT, gToC, gTo0, gNext, gNeg, gPs0, gTick, gPix, gLenS, gIxS, gSumS, gLRg, gPar, gDic0, gDic1, gYes, gSeqI, gRg1, gRg2, gRetN, gSetF, gApp, gExt, gDrop, gFrz, gLcC_x, gForC_x, clr, startD, nth, List.set, true_or, or_true, true_and, and_true, R__law_pot_0, R__law_pot_1, R__law_pot_2, R__law_common_0, R__law_common_1, R__law_take_0, R__law_take_1, R__law_take_2, R__law_take_3, R__law_take_4, R__law_take_5, R__law_take_6, R__law_number_0, R__law_odd_0, R__law_odd_1, R__law_odd_2, R_is_word_0, R__law_own_word_0, R__law_own_name_0, R__law_own_name_1, R_is_fraction_0, R__law_own_read_0, R__law_own_read_1, R__law_own_read_2, R__law_own_read_3, R__law_own_read_4, R__law_own_read_5, R__law_own_read_6, R__law_own_read_7, R_read_integer_0, R_read_integer_1, R_read_integer_2, R_read_of_figures_0, R_read_of_figures_1, R_read_of_figures_2, R_read_of_figures_3, R_read_of_figures_4, addD_ii, addD_ss, addD_ll, addD_tt, subD_ii, mulD_ii, mulD_si, mulD_li, fdivD_ii, modD_ii, powD_ii, eqD_ii, eqD_ss, eqD_bb, neD_ii, neD_ss, neD_bb, ltD_ii, ltD_ss, leD_ii, gtD_ii, geD_ii, isD_n, isD_bb, isnotD_n, isnotD_bb, inD_ss, inD_l, inD_t, notinD_ss, notinD_l, notinD_t, ixD_l, ixD_t, ixD_s, slD_t, slD_s, slD_l, lenD_s, lenD_l, lenD_t, tupD_l, tupD_t, listD_l, listD_t, allD_l, anyD_l, sumD_l, maxD_ii, minD_ii, maxD_l, minD_l, absD_i, gcdD_ii, intD_i, intD_b, intD_s, strD_i, strD_s, reprD_1, joinD_l, splitD_s, PB_0, PB_1, PB_2, gIte_t, gIte_f, gIte_d, gIte_n]
  exact ⟨sl (n := 13) (by decide), r13_ok (show 13 ≤ 50 by decide) h⟩
theorem all_true : ∀ {ys : List D}, (∀ y ∈ ys, y = .bool true) → ∃ bs : List Bool, ys = bs.map PyData.bool ∧ bs.all id = true
  | [], _ => ⟨[], rfl, rfl⟩
  | y :: ys, h => by
    obtain ⟨bs, rfl, e⟩ := all_true fun z hz => h z (List.mem_cons_of_mem _ hz)
    rw [h y List.mem_cons_self]
    exact ⟨true :: bs, rfl, by rw [List.all_cons, e]; rfl⟩
theorem law_true (ns : List Int) (Kd : D → Prop) (h0 : ns.length ≤ 63) (h1 : ∀ z ∈ ns, Builtin.Int.intBits z ≤ 1048576) (h : Kd (.bool true)) : F_law [.scr ns] Kd NoE := by
  unfold F_law specOf G_law N_law
  refine ⟨rfl, ?_⟩
  simp only [gSeq, gForC_x, gSeqI, gFn, gAs, gAd, gAn, gC, startD, nth, List.append_nil]
  refine cells_ok (by decide) (by decide) fun k k1 k3 => ?_
  refine ⟨Nat.le_of_eq (Nat.mul_zero _), fun i Δ' => ∃ s1 : Sv, plainSv s1 = true ∧ Δ' = [.scr ns, s1, .un, .un], ⟨_, rfl, rfl⟩, ?_, ?_⟩
  · rintro i d Δ' hd ⟨s1, hs, rfl⟩
    obtain ⟨m, rfl, m0, m1⟩ : ∃ m : Int, d = .int m ∧ 0 ≤ m ∧ m < 3 := by
      obtain ⟨j, hj, rfl⟩ := List.mem_map.mp (List.mem_of_getElem? hd)
      have := List.mem_range.mp hj
      exact ⟨_, rfl, by omega, by omega⟩
    refine ⟨rfl, (show 2 < 4 by decide), ?_⟩
    refine pot_ok m0 (by omega) fun x y x0 x1 y0 y1 => ⟨x, y, rfl, x0, x1, y0, y1, ?_⟩
    simp only [gIfS, gNotT, gTB, gCall, gCo, gL, gLcC_x, gRg1, gC, gN, List.set]
    refine ⟨by decide, by rw [sizeLine_eq]; decide, ?_⟩
    refine lc_any (fun y => y = .bool true) rfl (by decide) (fun d hd P hP => right_ok (hP _ rfl)) fun ys hl hys => ?_
    obtain ⟨bs, rfl, e⟩ := all_true hys
    refine ⟨bs, rfl, ?_⟩
    rw [e]
    exact ⟨fun z => (nomatch z), fun _ => ⟨_, rfl, rfl⟩⟩
  · rintro Δ' ⟨s1, hs, rfl⟩
    unfold R_law_0
    exact h
end K00
/-! K00: the defs by their bodies (printed by gen.py). -/
namespace K00
open PySem PySem.Spec PyProof.Rows L2 DL
def topS (i : Nat) : Stmt := PySem.Challenge.pw_whatthepicturesays_k00_words_and_fractio.main.body.getD i (.Pass ⟨0, 0, 0, 0⟩)
abbrev s__law_cells : Stmt := topS 22
theorem sc__law_cells : FnScope N__law_cells ["script", "most"] (defScope s__law_cells) := ⟨rfl, rfl, rfl, by decide +kernel, rfl, by decide +kernel, by decide +kernel⟩
theorem ok__law_cells {P : Program} {w : World} {K : PySem.W.Frag} {mg : Str → Option Value} {base : Heap} {f : Addr} {od an : Option Addr} {osl : Array (Option Value)} {oc dV kV doc pm cdv ct : Value}
    (lk : K.lookup f = some ⟨oc, od, .func (PySem.W.fnOf "_law_cells" "_law_cells" (defArgs s__law_cells) (defBody s__law_cells) (defScope s__law_cells) dV kV doc pm an cdv ct), osl⟩) (cd : PySem.W.codeIn K cdv "_law_cells" = true)
    (m_max : mg "max" = none)
    (m_min : mg "min" = none)
    (m_len : mg "len" = none)
    (m_list : mg "list" = none)
    (m_range : mg "range" = none) :
    FnD P w K mg base 1 f (PySem.W.fnOf "_law_cells" "_law_cells" (defArgs s__law_cells) (defBody s__law_cells) (defScope s__law_cells) dV kV doc pm an cdv ct) ["script", "most"] F__law_cells 0 := by
  unfold F__law_cells
  refine fnd_by lk cd sc__law_cells (g := G__law_cells) (by decide) (fun X W E hE h1 h2 h3 h4 h5 hfn C => ?_)
  subst h1 h2 h3 h4 h5
  have d : DSs X W (defBody s__law_cells) (G__law_cells E) _ := (dss_one (ds_ret C (DF.da C (df_lrg C (by decide +kernel) m_list (by decide +kernel) m_range (DE.bo (de_callB C (dc_max C.calm) (by decide +kernel) m_max boot_max (db_cons C (DE.bo de_int) (db_cons C (DE.bo (de_callB C (dc_min C.calm) (by decide +kernel) m_min boot_min (db_cons C (DE.bo (de_var C (i := 1) rfl (vis_by (by decide +kernel)))) (db_cons C (DE.bo (de_lenS C (by decide +kernel) m_len (i := 0) rfl (vis_by (by decide +kernel)))) db_nil)))) db_nil))))))))
  exact ⟨_, by decide +kernel, d⟩
abbrev s__law_pot : Stmt := topS 19
theorem sc__law_pot : FnScope N__law_pot ["script", "place"] (defScope s__law_pot) := ⟨rfl, rfl, rfl, by decide +kernel, rfl, by decide +kernel, by decide +kernel⟩
theorem ok__law_pot {P : Program} {w : World} {K : PySem.W.Frag} {mg : Str → Option Value} {base : Heap} {f : Addr} {od an : Option Addr} {osl : Array (Option Value)} {oc dV kV doc pm cdv ct : Value}
    (lk : K.lookup f = some ⟨oc, od, .func (PySem.W.fnOf "_law_pot" "_law_pot" (defArgs s__law_pot) (defBody s__law_pot) (defScope s__law_pot) dV kV doc pm an cdv ct), osl⟩) (cd : PySem.W.codeIn K cdv "_law_pot" = true)
    (m_len : mg "len" = none)
    (m_sum : mg "sum" = none)
    (m_int : mg "int" = none)
    (m_abs : mg "abs" = none) :
    FnD P w K mg base 1 f (PySem.W.fnOf "_law_pot" "_law_pot" (defArgs s__law_pot) (defBody s__law_pot) (defScope s__law_pot) dV kV doc pm an cdv ct) ["script", "place"] F__law_pot 0 := by
  unfold F__law_pot
  refine fnd_by lk cd sc__law_pot (g := G__law_pot) (by decide) (fun X W E hE h1 h2 h3 h4 h5 hfn C => ?_)
  subst h1 h2 h3 h4 h5
  have d : DSs X W (defBody s__law_pot) (G__law_pot E) _ := (dss_cons (ds_set C (i := 2) rfl (loc_by (by decide +kernel)) (.inl (hfn _)) (de_if C (dt_cmp C dop_lt (DE.bo (de_var C (i := 1) rfl (vis_by (by decide +kernel)))) (DE.bo (de_lenS C (by decide +kernel) m_len (i := 0) rfl (vis_by (by decide +kernel))))) (de_ixS C (i := 0) rfl (vis_by (by decide +kernel)) (DE.bo (de_var C (i := 1) rfl (vis_by (by decide +kernel))))) (de_bin C dop_add (DE.bo (de_bin C dop_add (DE.bo (de_bin C dop_mod (DE.bo (de_sumS C (by decide +kernel) m_sum (i := 0) rfl (vis_by (by decide +kernel)))) (DE.bo de_int))) (DE.bo (de_bin C dop_mul (DE.bo de_int) (DE.bo (de_var C (i := 1) rfl (vis_by (by decide +kernel)))))))) (DE.bo de_int))))
    (dss_cons (ds_set C (i := 3) rfl (loc_by (by decide +kernel)) (.inl (hfn _)) (de_bin C dop_mul (DE.bo (de_bin C dop_mod (DE.bo (de_callT C dc_int (by decide +kernel) m_int boot_int (db_cons C (DE.bo (de_callB C dc_abs (by decide +kernel) m_abs boot_abs (db_cons C (DE.bo (de_var C (i := 2) rfl (vis_by (by decide +kernel)))) db_nil))) db_nil))) (DE.bo (de_bin C dop_pow (DE.bo (de_bin C dop_pow (DE.bo de_int) (DE.bo de_int))) (DE.bo de_int))))) (DE.bo (de_callT C dc_int (by decide +kernel) m_int boot_int (db_cons C (DE.bo (de_cmp C dop_ge (DE.bo (de_callB C dc_abs (by decide +kernel) m_abs boot_abs (db_cons C (DE.bo (de_var C (i := 2) rfl (vis_by (by decide +kernel)))) db_nil))) (DE.bo (de_bin C dop_pow (DE.bo de_int) (DE.bo de_int))))) db_nil)))))
    (dss_cons (ds_set C (i := 4) rfl (loc_by (by decide +kernel)) (.inl (hfn _)) (de_bin C dop_mod (DE.bo (de_callT C dc_int (by decide +kernel) m_int boot_int (db_cons C (DE.bo (de_var C (i := 2) rfl (vis_by (by decide +kernel)))) db_nil))) (DE.bo de_int)))
    (dss_one (ds_ret C (DF.da C (df_lst C (da_cons C (de_var C (i := 3) rfl (vis_by (by decide +kernel))) (da_cons C (de_bin C dop_mod (DE.bo (de_callT C dc_int (by decide +kernel) m_int boot_int (db_cons C (DE.bo (de_bin C dop_add (DE.bo (de_bin C dop_add (DE.bo (de_bin C dop_mul (DE.bo (de_var C (i := 4) rfl (vis_by (by decide +kernel)))) (DE.bo de_int))) (DE.bo (de_bin C dop_mul (DE.bo (de_bin C dop_mul (DE.bo de_int) (DE.bo (de_var C (i := 1) rfl (vis_by (by decide +kernel)))))) (DE.bo (de_var C (i := 1) rfl (vis_by (by decide +kernel)))))))) (DE.bo de_int))) db_nil))) (DE.bo de_int)) (da_cons C de_int da_nil))))))))))
  exact ⟨_, by decide +kernel, d⟩
abbrev s__law_common : Stmt := topS 26
theorem sc__law_common : FnScope N__law_common ["one", "other"] (defScope s__law_common) := ⟨rfl, rfl, rfl, by decide +kernel, rfl, by decide +kernel, by decide +kernel⟩
theorem ok__law_common {P : Program} {w : World} {K : PySem.W.Frag} {mg : Str → Option Value} {base : Heap} {f : Addr} {od an : Option Addr} {osl : Array (Option Value)} {oc dV kV doc pm cdv ct : Value}
    (lk : K.lookup f = some ⟨oc, od, .func (PySem.W.fnOf "_law_common" "_law_common" (defArgs s__law_common) (defBody s__law_common) (defScope s__law_common) dV kV doc pm an cdv ct), osl⟩) (cd : PySem.W.codeIn K cdv "_law_common" = true)
    (m_abs : mg "abs" = none) :
    FnD P w K mg base 1 f (PySem.W.fnOf "_law_common" "_law_common" (defArgs s__law_common) (defBody s__law_common) (defScope s__law_common) dV kV doc pm an cdv ct) ["one", "other"] F__law_common 0 := by
  unfold F__law_common
  refine fnd_by lk cd sc__law_common (g := G__law_common) (by decide) (fun X W E hE h1 h2 h3 h4 h5 hfn C => ?_)
  subst h1 h2 h3 h4 h5
  have d : DSs X W (defBody s__law_common) (G__law_common E) _ := (dss_cons (ds_par C (i := 0) (j := 1) rfl rfl (by decide) (by decide +kernel) (by decide +kernel) (da_cons C (de_callB C dc_abs (by decide +kernel) m_abs boot_abs (db_cons C (DE.bo (de_var C (i := 0) rfl (vis_by (by decide +kernel)))) db_nil)) (da_cons C (de_callB C dc_abs (by decide +kernel) m_abs boot_abs (db_cons C (DE.bo (de_var C (i := 1) rfl (vis_by (by decide +kernel)))) db_nil)) da_nil)) (swp2 C rfl (by decide +kernel) (by decide +kernel) (by decide +kernel) rfl (fun _ _ z => nomatch z) (fun _ _ z => nomatch z) rfl rfl))
    (dss_cons (ds_while C 0 (DT.le (c := 0) (dt_cmp C (dop_ne C.units) (DE.bo (de_var C (i := 1) rfl (vis_by (by decide +kernel)))) (DE.bo de_int)) (by decide +kernel)) (DSs.le (c := 0) (dss_one (ds_par C (i := 0) (j := 1) rfl rfl (by decide) (by decide +kernel) (by decide +kernel) (da_cons C (de_var C (i := 1) rfl (vis_by (by decide +kernel))) (da_cons C (de_bin C dop_mod (DE.bo (de_var C (i := 0) rfl (vis_by (by decide +kernel)))) (DE.bo (de_var C (i := 1) rfl (vis_by (by decide +kernel))))) da_nil)) (swp2 C rfl (by decide +kernel) (by decide +kernel) (by decide +kernel) rfl (fun _ _ z => nomatch z) (fun _ _ z => nomatch z) rfl rfl))) (by decide +kernel)))
    (dss_one (ds_ret C (de_var C (i := 0) rfl (vis_by (by decide +kernel)))))))
  exact ⟨_, by decide +kernel, d⟩
abbrev s__law_take : Stmt := topS 20
theorem sc__law_take : FnScope N__law_take ["pot", "upto"] (defScope s__law_take) := ⟨rfl, rfl, rfl, by decide +kernel, rfl, by decide +kernel, by decide +kernel⟩
theorem ok__law_take {P : Program} {w : World} {K : PySem.W.Frag} {mg : Str → Option Value} {base : Heap} {f : Addr} {od an : Option Addr} {osl : Array (Option Value)} {oc dV kV doc pm cdv ct : Value}
    (lk : K.lookup f = some ⟨oc, od, .func (PySem.W.fnOf "_law_take" "_law_take" (defArgs s__law_take) (defBody s__law_take) (defScope s__law_take) dV kV doc pm an cdv ct), osl⟩) (cd : PySem.W.codeIn K cdv "_law_take" = true)
    (m_int : mg "int" = none) :
    FnD P w K mg base 1 f (PySem.W.fnOf "_law_take" "_law_take" (defArgs s__law_take) (defBody s__law_take) (defScope s__law_take) dV kV doc pm an cdv ct) ["pot", "upto"] F__law_take 1 := by
  unfold F__law_take
  refine fnd_by lk cd sc__law_take (g := G__law_take) (by decide) (fun X W E hE h1 h2 h3 h4 h5 hfn C => ?_)
  subst h1 h2 h3 h4 h5
  have d : DSs X W (defBody s__law_take) (G__law_take E) _ := (dss_cons (ds_if C (dt_cmp C dop_gt (DE.bo (de_pix C (i := 0) rfl (vis_by (by decide +kernel)))) (DE.bo de_int)) (dss_cons (ds_set C (i := 2) rfl (loc_by (by decide +kernel)) (.inl (hfn _)) (de_bin C dop_mod (DE.bo (de_callT C dc_int (by decide +kernel) m_int boot_int (db_cons C (DE.bo (de_pix C (i := 0) rfl (vis_by (by decide +kernel)))) db_nil))) (DE.bo (de_var C (i := 1) rfl (vis_by (by decide +kernel))))))
    (dss_cons (ds_ps0 C (i := 0) rfl (vis_by (by decide +kernel)) (de_bin C dop_fdiv (DE.bo (de_pix C (i := 0) rfl (vis_by (by decide +kernel)))) (DE.bo (de_var C (i := 1) rfl (vis_by (by decide +kernel))))))
    (dss_one (ds_ret C (de_var C (i := 2) rfl (vis_by (by decide +kernel))))))) dss_nil)
    (dss_cons (ds_tick C (i := 0) rfl (vis_by (by decide +kernel)))
    (dss_cons (ds_set C (i := 3) rfl (loc_by (by decide +kernel)) (.inl (hfn _)) (de_ix C dix (DE.bo (DF.da C (df_lst C (da_cons C de_int (da_cons C de_int (da_cons C de_int (da_cons C de_int (da_cons C de_int da_nil)))))))) (DE.bo (de_bin C dop_mod (DE.bo (de_callT C dc_int (by decide +kernel) m_int boot_int (db_cons C (DE.bo (de_pix C (i := 0) rfl (vis_by (by decide +kernel)))) db_nil))) (DE.bo de_int)))))
    (dss_cons (ds_set C (i := 4) rfl (loc_by (by decide +kernel)) (.inl (hfn _)) (de_bin C dop_mod (DE.bo (de_callT C dc_int (by decide +kernel) m_int boot_int (db_cons C (DE.bo (de_bin C dop_pow (DE.bo (de_callT C dc_int (by decide +kernel) m_int boot_int (db_cons C (DE.bo (de_bin C dop_add (DE.bo (de_bin C dop_add (DE.bo (de_pix C (i := 0) rfl (vis_by (by decide +kernel)))) (DE.bo (de_bin C dop_mul (DE.bo (de_bin C dop_mul (DE.bo de_int) (DE.bo (de_pix C (i := 0) rfl (vis_by (by decide +kernel)))))) (DE.bo (de_pix C (i := 0) rfl (vis_by (by decide +kernel)))))))) (DE.bo de_int))) db_nil))) (DE.bo de_int))) db_nil))) (DE.bo (de_var C (i := 3) rfl (vis_by (by decide +kernel))))))
    (dss_cons (ds_set C (i := 4) rfl (loc_by (by decide +kernel)) (.inl (hfn _)) (de_bin C dop_mod (DE.bo (de_callT C dc_int (by decide +kernel) m_int boot_int (db_cons C (DE.bo (de_bin C dop_mul (DE.bo (de_var C (i := 4) rfl (vis_by (by decide +kernel)))) (DE.bo (de_bin C dop_add (DE.bo (de_bin C dop_mod (DE.bo (de_callT C dc_int (by decide +kernel) m_int boot_int (db_cons C (DE.bo (de_var C (i := 4) rfl (vis_by (by decide +kernel)))) db_nil))) (DE.bo de_int))) (DE.bo (de_bin C dop_mul (DE.bo de_int) (DE.bo (de_pix C (i := 0) rfl (vis_by (by decide +kernel)))))))))) db_nil))) (DE.bo de_int)))
    (dss_one (ds_ret C (de_bin C dop_mod (DE.bo (de_callT C dc_int (by decide +kernel) m_int boot_int (db_cons C (DE.bo (de_bin C dop_fdiv (DE.bo (de_var C (i := 4) rfl (vis_by (by decide +kernel)))) (DE.bo de_int))) db_nil))) (DE.bo (de_var C (i := 1) rfl (vis_by (by decide +kernel))))))))))))
  exact ⟨_, by decide +kernel, d⟩
abbrev s__law_of : Stmt := topS 21
theorem sc__law_of : FnScope N__law_of ["pot", "some"] (defScope s__law_of) := ⟨rfl, rfl, rfl, by decide +kernel, rfl, by decide +kernel, by decide +kernel⟩
theorem ok__law_of {P : Program} {w : World} {K : PySem.W.Frag} {mg : Str → Option Value} {base : Heap} {f : Addr} {od an : Option Addr} {osl : Array (Option Value)} {oc dV kV doc pm cdv ct : Value}
    (lk : K.lookup f = some ⟨oc, od, .func (PySem.W.fnOf "_law_of" "_law_of" (defArgs s__law_of) (defBody s__law_of) (defScope s__law_of) dV kV doc pm an cdv ct), osl⟩) (cd : PySem.W.codeIn K cdv "_law_of" = true)
    {f__law_take : Addr} {fd__law_take : FuncData} (M__law_take : FnD P w K mg base 1 f__law_take fd__law_take ["pot", "upto"] F__law_take 1) (a__law_take : mg "_law_take" = some (.ref f__law_take)) (kp__law_take : PySem.W.keepIn K (.ref f__law_take) = true)
    (b__law_take_2 : BindG K fd__law_take ["pot", "upto"] 2 [] [])
    (m_len : mg "len" = none) :
    FnD P w K mg base 2 f (PySem.W.fnOf "_law_of" "_law_of" (defArgs s__law_of) (defBody s__law_of) (defScope s__law_of) dV kV doc pm an cdv ct) ["pot", "some"] F__law_of 1 := by
  unfold F__law_of
  refine fnd_by lk cd sc__law_of (g := G__law_of) (by decide) (fun X W E hE h1 h2 h3 h4 h5 hfn C => ?_)
  subst h1 h2 h3 h4 h5
  have d : DSs X W (defBody s__law_of) (G__law_of E) _ := (dss_one (ds_ret C (de_ix C dix (DE.bo (de_var C (i := 1) rfl (vis_by (by decide +kernel)))) (DE.bo (de_fn C hE M__law_take (by decide) (by decide +kernel) a__law_take kp__law_take b__law_take_2 .nil (das_pot C (i := 0) rfl (vis_by (by decide +kernel)) (das_dat C (de_callB C dc_len (by decide +kernel) m_len PySem.boot_len (db_cons C (DE.bo (de_var C (i := 1) rfl (vis_by (by decide +kernel)))) db_nil)) das_nil)) rfl)))))
  exact ⟨_, by decide +kernel, d⟩
abbrev s__law_number : Stmt := topS 28
theorem sc__law_number : FnScope N__law_number ["pot"] (defScope s__law_number) := ⟨rfl, rfl, rfl, by decide +kernel, rfl, by decide +kernel, by decide +kernel⟩
theorem ok__law_number {P : Program} {w : World} {K : PySem.W.Frag} {mg : Str → Option Value} {base : Heap} {f : Addr} {od an : Option Addr} {osl : Array (Option Value)} {oc dV kV doc pm cdv ct : Value}
    (lk : K.lookup f = some ⟨oc, od, .func (PySem.W.fnOf "_law_number" "_law_number" (defArgs s__law_number) (defBody s__law_number) (defScope s__law_number) dV kV doc pm an cdv ct), osl⟩) (cd : PySem.W.codeIn K cdv "_law_number" = true)
    {f__law_of : Addr} {fd__law_of : FuncData} (M__law_of : FnD P w K mg base 2 f__law_of fd__law_of ["pot", "some"] F__law_of 1) (a__law_of : mg "_law_of" = some (.ref f__law_of)) (kp__law_of : PySem.W.keepIn K (.ref f__law_of) = true)
    (b__law_of_2 : BindG K fd__law_of ["pot", "some"] 2 [] [])
    (m_int : mg "int" = none)
    (m_range : mg "range" = none) :
    FnD P w K mg base 3 f (PySem.W.fnOf "_law_number" "_law_number" (defArgs s__law_number) (defBody s__law_number) (defScope s__law_number) dV kV doc pm an cdv ct) ["pot"] F__law_number 301 := by
  unfold F__law_number
  refine fnd_by lk cd sc__law_number (g := G__law_number) (by decide) (fun X W E hE h1 h2 h3 h4 h5 hfn C => ?_)
  subst h1 h2 h3 h4 h5
  have d : DSs X W (defBody s__law_number) (G__law_number E) _ := (dss_cons (ds_set C (i := 1) rfl (loc_by (by decide +kernel)) (.inl (hfn _)) (de_fn C hE M__law_of (by decide) (by decide +kernel) a__law_of kp__law_of b__law_of_2 .nil (das_pot C (i := 0) rfl (vis_by (by decide +kernel)) (das_dat C (DF.da C (df_lst C (da_cons C de_int (da_cons C de_int (da_cons C de_int (da_cons C de_int (da_cons C de_int (da_cons C de_int da_nil)))))))) das_nil)) rfl))
    (dss_one (ds_ret C (de_callT C dc_int (by decide +kernel) m_int boot_int (db_cons C (DE.bo (de_m1 C PySem.F.slot_str_join PySem.F.type_str_join dm_join (DE.bo de_str) (DE.bo (de_bin C dop_add (DE.bo (DF.da C (df_lst C (da_cons C (de_fn C hE M__law_of (by decide) (by decide +kernel) a__law_of kp__law_of b__law_of_2 .nil (das_pot C (i := 0) rfl (vis_by (by decide +kernel)) (das_dat C (DF.da C (df_lst C (da_cons C de_str (da_cons C de_str (da_cons C de_str da_nil))))) das_nil)) rfl) da_nil)))) (DE.bo (DF.da C (df_lc (own := [("lap", 2)]) C 299 (DI.bo (di_range1 C (by decide +kernel) m_range (DE.bo (de_bin C dop_sub (DE.bo (de_var C (i := 1) rfl (vis_by (by decide +kernel)))) (DE.bo de_int))))) (blkOk_by (own := [("lap", 2)]) (by decide +kernel)) (blk_use C fun _ _ _ _ _ _ C1 => (dg_name C1 (i := 2) rfl (loc_by (by decide +kernel)) (.inr (by decide +kernel)))) (blk_use C fun _ _ _ _ _ _ C1 => PTsD.le (c := 0) dts_nil (by decide +kernel)) (blk_use C fun _ _ _ _ _ _ C1 => DE.le (c := 1) (de_fn C1 rfl M__law_of (by decide) (by decide +kernel) a__law_of kp__law_of b__law_of_2 .nil (das_pot C1 (i := 0) rfl (vis_by (by decide +kernel)) (das_dat C1 (DF.da C1 (df_lst C1 (da_cons C1 de_str (da_cons C1 de_str (da_cons C1 de_str da_nil))))) das_nil)) rfl) (by decide +kernel)) (by decide)))))))) db_nil)))))
  exact ⟨_, by decide +kernel, d⟩
abbrev s__law_odd : Stmt := topS 23
theorem sc__law_odd : FnScope N__law_odd ["pot"] (defScope s__law_odd) := ⟨rfl, rfl, rfl, by decide +kernel, rfl, by decide +kernel, by decide +kernel⟩
theorem ok__law_odd {P : Program} {w : World} {K : PySem.W.Frag} {mg : Str → Option Value} {base : Heap} {f : Addr} {od an : Option Addr} {osl : Array (Option Value)} {oc dV kV doc pm cdv ct : Value}
    (lk : K.lookup f = some ⟨oc, od, .func (PySem.W.fnOf "_law_odd" "_law_odd" (defArgs s__law_odd) (defBody s__law_odd) (defScope s__law_odd) dV kV doc pm an cdv ct), osl⟩) (cd : PySem.W.codeIn K cdv "_law_odd" = true)
    {f__law_of : Addr} {fd__law_of : FuncData} (M__law_of : FnD P w K mg base 2 f__law_of fd__law_of ["pot", "some"] F__law_of 1) (a__law_of : mg "_law_of" = some (.ref f__law_of)) (kp__law_of : PySem.W.keepIn K (.ref f__law_of) = true)
    {f__law_take : Addr} {fd__law_take : FuncData} (M__law_take : FnD P w K mg base 1 f__law_take fd__law_take ["pot", "upto"] F__law_take 1) (a__law_take : mg "_law_take" = some (.ref f__law_take)) (kp__law_take : PySem.W.keepIn K (.ref f__law_take) = true)
    (b__law_of_2 : BindG K fd__law_of ["pot", "some"] 2 [] [])
    (b__law_take_2 : BindG K fd__law_take ["pot", "upto"] 2 [] [])
    (m_range : mg "range" = none) :
    FnD P w K mg base 3 f (PySem.W.fnOf "_law_odd" "_law_odd" (defArgs s__law_odd) (defBody s__law_odd) (defScope s__law_odd) dV kV doc pm an cdv ct) ["pot"] F__law_odd 4 := by
  unfold F__law_odd
  refine fnd_by lk cd sc__law_odd (g := G__law_odd) (by decide) (fun X W E hE h1 h2 h3 h4 h5 hfn C => ?_)
  subst h1 h2 h3 h4 h5
  have d : DSs X W (defBody s__law_odd) (G__law_odd E) _ := (dss_cons (ds_set C (i := 1) rfl (loc_by (by decide +kernel)) (.inl (hfn _)) (DF.da C (df_lst C (da_cons C de_non (da_cons C de_bl (da_cons C de_bl (da_cons C de_int (da_cons C (de_neg (DE.bo de_int)) (da_cons C de_int (da_cons C (de_bin C dop_pow (DE.bo de_int) (DE.bo de_int)) (da_cons C de_str (da_cons C de_str (da_cons C de_str (da_cons C de_str (da_cons C (de_tup C da_nil) (da_cons C (DF.da C (df_lst C da_nil)) (da_cons C (de_dic0 C) (da_cons C (de_tup C (da_cons C de_str da_nil)) (da_cons C (DF.da C (df_lst C (da_cons C de_str da_nil))) (da_cons C (de_tup C (da_cons C de_int (da_cons C de_int da_nil))) (da_cons C (de_tup C (da_cons C de_non (da_cons C (de_tup C da_nil) da_nil))) da_nil)))))))))))))))))))))
    (dss_cons (ds_set C (i := 2) rfl (loc_by (by decide +kernel)) (.inl (hfn _)) (de_fn C hE M__law_of (by decide) (by decide +kernel) a__law_of kp__law_of b__law_of_2 .nil (das_pot C (i := 0) rfl (vis_by (by decide +kernel)) (das_dat C (de_var C (i := 1) rfl (vis_by (by decide +kernel))) das_nil)) rfl))
    (dss_cons (ds_for C 2 (di_range1 C (by decide +kernel) m_range (DE.bo (de_fn C hE M__law_take (by decide) (by decide +kernel) a__law_take kp__law_take b__law_take_2 .nil (das_pot C (i := 0) rfl (vis_by (by decide +kernel)) (das_dat C de_int das_nil)) rfl))) (dg_name C (i := 3) rfl (loc_by (by decide +kernel)) (.inl (hfn _))) (DSs.le (c := 1) (dss_one (ds_set C (i := 2) rfl (loc_by (by decide +kernel)) (.inl (hfn _)) (de_fn C hE M__law_of (by decide) (by decide +kernel) a__law_of kp__law_of b__law_of_2 .nil (das_pot C (i := 0) rfl (vis_by (by decide +kernel)) (das_dat C (DF.da C (df_lst C (da_cons C (de_tup C (da_cons C (de_var C (i := 2) rfl (vis_by (by decide +kernel))) da_nil)) (da_cons C (DF.da C (df_lst C (da_cons C (de_var C (i := 2) rfl (vis_by (by decide +kernel))) da_nil))) (da_cons C (de_dic1 C (fun _ C1 => (de_var C1 (i := 2) rfl (vis_by (by decide +kernel))))) (da_cons C (de_tup C (da_cons C (de_var C (i := 2) rfl (vis_by (by decide +kernel))) (da_cons C (de_var C (i := 2) rfl (vis_by (by decide +kernel))) da_nil))) (da_cons C (de_tup C (da_cons C de_str (da_cons C (de_var C (i := 2) rfl (vis_by (by decide +kernel))) da_nil))) da_nil))))))) das_nil)) rfl))) (by decide +kernel)))
    (dss_one (ds_ret C (de_var C (i := 2) rfl (vis_by (by decide +kernel))))))))
  exact ⟨_, by decide +kernel, d⟩
abbrev s_is_word : Stmt := topS 11
theorem sc_is_word : FnScope N_is_word ["value"] (defScope s_is_word) := ⟨rfl, rfl, rfl, by decide +kernel, rfl, by decide +kernel, by decide +kernel⟩
theorem ok_is_word {P : Program} {w : World} {K : PySem.W.Frag} {mg : Str → Option Value} {base : Heap} {f : Addr} {od an : Option Addr} {osl : Array (Option Value)} {oc dV kV doc pm cdv ct : Value}
    (lk : K.lookup f = some ⟨oc, od, .func (PySem.W.fnOf "is_word" "is_word" (defArgs s_is_word) (defBody s_is_word) (defScope s_is_word) dV kV doc pm an cdv ct), osl⟩) (cd : PySem.W.codeIn K cdv "is_word" = true)
    {u_MOST_SIGNS : Value} (m_MOST_SIGNS : mg "MOST_SIGNS" = some u_MOST_SIGNS) (r_MOST_SIGNS : KRep K u_MOST_SIGNS d_MOST_SIGNS)
    {u_FIGURES : Value} (m_FIGURES : mg "FIGURES" = some u_FIGURES) (r_FIGURES : KRep K u_FIGURES d_FIGURES)
    {u_SMALL : Value} (m_SMALL : mg "SMALL" = some u_SMALL) (r_SMALL : KRep K u_SMALL d_SMALL)
    (m_len : mg "len" = none)
    (m_isinstance : mg "isinstance" = none)
    (m_str : mg "str" = none)
    (m_all : mg "all" = none) :
    FnD P w K mg base 1 f (PySem.W.fnOf "is_word" "is_word" (defArgs s_is_word) (defBody s_is_word) (defScope s_is_word) dV kV doc pm an cdv ct) ["value"] F_is_word 0 := by
  unfold F_is_word
  refine fnd_by lk cd sc_is_word (g := G_is_word) (by decide) (fun X W E hE h1 h2 h3 h4 h5 hfn C => ?_)
  subst h1 h2 h3 h4 h5
  have d : DSs X W (defBody s_is_word) (G_is_word E) _ := (dss_cons (ds_if C (DW.t (dw_or C (dt_not (dt_val (DE.bo (de_isi C isi_str (by decide +kernel) m_isinstance (by decide +kernel) m_str boot_str (DE.bo (de_var C (i := 0) rfl (vis_by (by decide +kernel)))))))) (dw_or1 (dt_not (dt_chain C dop_le dop_le (DE.bo de_int) (DE.bo (de_callB C dc_len (by decide +kernel) m_len PySem.boot_len (db_cons C (DE.bo (de_var C (i := 0) rfl (vis_by (by decide +kernel)))) db_nil))) (DE.bo (de_glob C (by decide +kernel) m_MOST_SIGNS r_MOST_SIGNS))))))) (dss_one (ds_ret C de_bl)) dss_nil)
    (dss_one (ds_ret C (de_callB C (dc_all C.calm) (by decide +kernel) m_all boot_all (db_cons C (DE.bo (DF.da C (df_lc (own := [("sign", 1)]) C 0 (DI.bo (di_seq C (de_var C (i := 0) rfl (vis_by (by decide +kernel))))) (blkOk_by (own := [("sign", 1)]) (by decide +kernel)) (blk_use C fun _ _ _ _ _ _ C1 => (dg_name C1 (i := 1) rfl (loc_by (by decide +kernel)) (.inr (by decide +kernel)))) (blk_use C fun _ _ _ _ _ _ C1 => PTsD.le (c := 0) dts_nil (by decide +kernel)) (blk_use C fun _ _ _ _ _ _ C1 => DE.le (c := 0) (de_or C1 (de_cmp C1 (dop_in C1.units) (DE.bo (de_var C1 (i := 1) rfl (vis_by (by decide +kernel)))) (DE.bo (de_glob C1 (by decide +kernel) m_SMALL r_SMALL))) (de_one (de_cmp C1 (dop_in C1.units) (DE.bo (de_var C1 (i := 1) rfl (vis_by (by decide +kernel)))) (DE.bo (de_glob C1 (by decide +kernel) m_FIGURES r_FIGURES))))) (by decide +kernel)) (by decide)))) db_nil)))))
  exact ⟨_, by decide +kernel, d⟩
abbrev s__law_own_word : Stmt := topS 24
theorem sc__law_own_word : FnScope N__law_own_word ["value"] (defScope s__law_own_word) := ⟨rfl, rfl, rfl, by decide +kernel, rfl, by decide +kernel, by decide +kernel⟩
theorem ok__law_own_word {P : Program} {w : World} {K : PySem.W.Frag} {mg : Str → Option Value} {base : Heap} {f : Addr} {od an : Option Addr} {osl : Array (Option Value)} {oc dV kV doc pm cdv ct : Value}
    (lk : K.lookup f = some ⟨oc, od, .func (PySem.W.fnOf "_law_own_word" "_law_own_word" (defArgs s__law_own_word) (defBody s__law_own_word) (defScope s__law_own_word) dV kV doc pm an cdv ct), osl⟩) (cd : PySem.W.codeIn K cdv "_law_own_word" = true)
    (m_len : mg "len" = none)
    (m_isinstance : mg "isinstance" = none)
    (m_str : mg "str" = none)
    (m_all : mg "all" = none) :
    FnD P w K mg base 1 f (PySem.W.fnOf "_law_own_word" "_law_own_word" (defArgs s__law_own_word) (defBody s__law_own_word) (defScope s__law_own_word) dV kV doc pm an cdv ct) ["value"] F__law_own_word 0 := by
  unfold F__law_own_word
  refine fnd_by lk cd sc__law_own_word (g := G__law_own_word) (by decide) (fun X W E hE h1 h2 h3 h4 h5 hfn C => ?_)
  subst h1 h2 h3 h4 h5
  have d : DSs X W (defBody s__law_own_word) (G__law_own_word E) _ := (dss_cons (ds_if C (DW.t (dw_or C (dt_not (dt_val (DE.bo (de_isi C isi_str (by decide +kernel) m_isinstance (by decide +kernel) m_str boot_str (DE.bo (de_var C (i := 0) rfl (vis_by (by decide +kernel)))))))) (dw_or1 (dt_not (dt_chain C dop_le dop_le (DE.bo de_int) (DE.bo (de_callB C dc_len (by decide +kernel) m_len PySem.boot_len (db_cons C (DE.bo (de_var C (i := 0) rfl (vis_by (by decide +kernel)))) db_nil))) (DE.bo de_int)))))) (dss_one (ds_ret C de_bl)) dss_nil)
    (dss_one (ds_ret C (de_callB C (dc_all C.calm) (by decide +kernel) m_all boot_all (db_cons C (DE.bo (DF.da C (df_lc (own := [("sign", 1)]) C 0 (DI.bo (di_seq C (de_var C (i := 0) rfl (vis_by (by decide +kernel))))) (blkOk_by (own := [("sign", 1)]) (by decide +kernel)) (blk_use C fun _ _ _ _ _ _ C1 => (dg_name C1 (i := 1) rfl (loc_by (by decide +kernel)) (.inr (by decide +kernel)))) (blk_use C fun _ _ _ _ _ _ C1 => PTsD.le (c := 0) dts_nil (by decide +kernel)) (blk_use C fun _ _ _ _ _ _ C1 => DE.le (c := 0) (de_cmp C1 (dop_in C1.units) (DE.bo (de_var C1 (i := 1) rfl (vis_by (by decide +kernel)))) (DE.bo de_str)) (by decide +kernel)) (by decide)))) db_nil)))))
  exact ⟨_, by decide +kernel, d⟩
abbrev s_is_name : Stmt := topS 12
theorem sc_is_name : FnScope N_is_name ["value"] (defScope s_is_name) := ⟨rfl, rfl, rfl, by decide +kernel, rfl, by decide +kernel, by decide +kernel⟩
theorem ok_is_name {P : Program} {w : World} {K : PySem.W.Frag} {mg : Str → Option Value} {base : Heap} {f : Addr} {od an : Option Addr} {osl : Array (Option Value)} {oc dV kV doc pm cdv ct : Value}
    (lk : K.lookup f = some ⟨oc, od, .func (PySem.W.fnOf "is_name" "is_name" (defArgs s_is_name) (defBody s_is_name) (defScope s_is_name) dV kV doc pm an cdv ct), osl⟩) (cd : PySem.W.codeIn K cdv "is_name" = true)
    {f_is_word : Addr} {fd_is_word : FuncData} (M_is_word : FnD P w K mg base 1 f_is_word fd_is_word ["value"] F_is_word 0) (a_is_word : mg "is_word" = some (.ref f_is_word)) (kp_is_word : PySem.W.keepIn K (.ref f_is_word) = true)
    (b_is_word_1 : BindG K fd_is_word ["value"] 1 [] [])
    {u_RESERVED : Value} (m_RESERVED : mg "RESERVED" = some u_RESERVED) (r_RESERVED : KRep K u_RESERVED d_RESERVED)
    {u_SMALL : Value} (m_SMALL : mg "SMALL" = some u_SMALL) (r_SMALL : KRep K u_SMALL d_SMALL) :
    FnD P w K mg base 2 f (PySem.W.fnOf "is_name" "is_name" (defArgs s_is_name) (defBody s_is_name) (defScope s_is_name) dV kV doc pm an cdv ct) ["value"] F_is_name 0 := by
  unfold F_is_name
  refine fnd_by lk cd sc_is_name (g := G_is_name) (by decide) (fun X W E hE h1 h2 h3 h4 h5 hfn C => ?_)
  subst h1 h2 h3 h4 h5
  have d : DSs X W (defBody s_is_name) (G_is_name E) _ := (dss_one (ds_ret C (de_and C (de_fn C hE M_is_word (by decide) (by decide +kernel) a_is_word kp_is_word b_is_word_1 .nil (das_dat C (de_var C (i := 0) rfl (vis_by (by decide +kernel))) das_nil) rfl) (de_and C (de_cmp C (dop_in C.units) (DE.bo (de_ix C dix (DE.bo (de_var C (i := 0) rfl (vis_by (by decide +kernel)))) (DE.bo de_int))) (DE.bo (de_glob C (by decide +kernel) m_SMALL r_SMALL))) (de_one (de_cmp C (dop_notin C.units) (DE.bo (de_var C (i := 0) rfl (vis_by (by decide +kernel)))) (DE.bo (de_glob C (by decide +kernel) m_RESERVED r_RESERVED))))))))
  exact ⟨_, by decide +kernel, d⟩
abbrev s__law_own_name : Stmt := topS 25
theorem sc__law_own_name : FnScope N__law_own_name ["value"] (defScope s__law_own_name) := ⟨rfl, rfl, rfl, by decide +kernel, rfl, by decide +kernel, by decide +kernel⟩
theorem ok__law_own_name {P : Program} {w : World} {K : PySem.W.Frag} {mg : Str → Option Value} {base : Heap} {f : Addr} {od an : Option Addr} {osl : Array (Option Value)} {oc dV kV doc pm cdv ct : Value}
    (lk : K.lookup f = some ⟨oc, od, .func (PySem.W.fnOf "_law_own_name" "_law_own_name" (defArgs s__law_own_name) (defBody s__law_own_name) (defScope s__law_own_name) dV kV doc pm an cdv ct), osl⟩) (cd : PySem.W.codeIn K cdv "_law_own_name" = true)
    {f__law_own_word : Addr} {fd__law_own_word : FuncData} (M__law_own_word : FnD P w K mg base 1 f__law_own_word fd__law_own_word ["value"] F__law_own_word 0) (a__law_own_word : mg "_law_own_word" = some (.ref f__law_own_word)) (kp__law_own_word : PySem.W.keepIn K (.ref f__law_own_word) = true)
    (b__law_own_word_1 : BindG K fd__law_own_word ["value"] 1 [] []) :
    FnD P w K mg base 2 f (PySem.W.fnOf "_law_own_name" "_law_own_name" (defArgs s__law_own_name) (defBody s__law_own_name) (defScope s__law_own_name) dV kV doc pm an cdv ct) ["value"] F__law_own_name 0 := by
  unfold F__law_own_name
  refine fnd_by lk cd sc__law_own_name (g := G__law_own_name) (by decide) (fun X W E hE h1 h2 h3 h4 h5 hfn C => ?_)
  subst h1 h2 h3 h4 h5
  have d : DSs X W (defBody s__law_own_name) (G__law_own_name E) _ := (dss_cons (ds_set C (i := 1) rfl (loc_by (by decide +kernel)) (.inl (hfn _)) de_str)
    (dss_cons (ds_set C (i := 1) rfl (loc_by (by decide +kernel)) (.inl (hfn _)) (de_bin C dop_add (DE.bo (de_var C (i := 1) rfl (vis_by (by decide +kernel)))) (DE.bo de_str)))
    (dss_one (ds_ret C (de_and C (de_fn C hE M__law_own_word (by decide) (by decide +kernel) a__law_own_word kp__law_own_word b__law_own_word_1 .nil (das_dat C (de_var C (i := 0) rfl (vis_by (by decide +kernel))) das_nil) rfl) (de_and C (de_cmp C (dop_notin C.units) (DE.bo (de_ix C dix (DE.bo (de_var C (i := 0) rfl (vis_by (by decide +kernel)))) (DE.bo de_int))) (DE.bo de_str)) (de_one (de_cmp C (dop_notin C.units) (DE.bo (de_var C (i := 0) rfl (vis_by (by decide +kernel)))) (DE.bo (de_m1 C PySem.F.slot_str_split PySem.F.type_str_split dm_split (DE.bo (de_var C (i := 1) rfl (vis_by (by decide +kernel)))) (DE.bo de_str)))))))))))
  exact ⟨_, by decide +kernel, d⟩
abbrev s_common : Stmt := topS 13
theorem sc_common : FnScope N_common ["one", "other"] (defScope s_common) := ⟨rfl, rfl, rfl, by decide +kernel, rfl, by decide +kernel, by decide +kernel⟩
theorem ok_common {P : Program} {w : World} {K : PySem.W.Frag} {mg : Str → Option Value} {base : Heap} {f : Addr} {od an : Option Addr} {osl : Array (Option Value)} {oc dV kV doc pm cdv ct : Value}
    (lk : K.lookup f = some ⟨oc, od, .func (PySem.W.fnOf "common" "common" (defArgs s_common) (defBody s_common) (defScope s_common) dV kV doc pm an cdv ct), osl⟩) (cd : PySem.W.codeIn K cdv "common" = true)
    (m_gcd : mg "gcd" = some (.builtin "math.gcd")) :
    FnD P w K mg base 1 f (PySem.W.fnOf "common" "common" (defArgs s_common) (defBody s_common) (defScope s_common) dV kV doc pm an cdv ct) ["one", "other"] F_common 0 := by
  unfold F_common
  refine fnd_by lk cd sc_common (g := G_common) (by decide) (fun X W E hE h1 h2 h3 h4 h5 hfn C => ?_)
  subst h1 h2 h3 h4 h5
  have d : DSs X W (defBody s_common) (G_common E) _ := (dss_one (ds_ret C (de_callG C dc_gcd (by decide +kernel) m_gcd (db_cons C (DE.bo (de_var C (i := 0) rfl (vis_by (by decide +kernel)))) (db_cons C (DE.bo (de_var C (i := 1) rfl (vis_by (by decide +kernel)))) db_nil)))))
  exact ⟨_, by decide +kernel, d⟩
abbrev s_is_integer : Stmt := topS 9
theorem sc_is_integer : FnScope N_is_integer ["value"] (defScope s_is_integer) := ⟨rfl, rfl, rfl, by decide +kernel, rfl, by decide +kernel, by decide +kernel⟩
theorem ok_is_integer {P : Program} {w : World} {K : PySem.W.Frag} {mg : Str → Option Value} {base : Heap} {f : Addr} {od an : Option Addr} {osl : Array (Option Value)} {oc dV kV doc pm cdv ct : Value}
    (lk : K.lookup f = some ⟨oc, od, .func (PySem.W.fnOf "is_integer" "is_integer" (defArgs s_is_integer) (defBody s_is_integer) (defScope s_is_integer) dV kV doc pm an cdv ct), osl⟩) (cd : PySem.W.codeIn K cdv "is_integer" = true)
    (m_isinstance : mg "isinstance" = none)
    (m_bool : mg "bool" = none)
    (m_int : mg "int" = none) :
    FnD P w K mg base 1 f (PySem.W.fnOf "is_integer" "is_integer" (defArgs s_is_integer) (defBody s_is_integer) (defScope s_is_integer) dV kV doc pm an cdv ct) ["value"] F_is_integer 0 := by
  unfold F_is_integer
  refine fnd_by lk cd sc_is_integer (g := G_is_integer) (by decide) (fun X W E hE h1 h2 h3 h4 h5 hfn C => ?_)
  subst h1 h2 h3 h4 h5
  have d : DSs X W (defBody s_is_integer) (G_is_integer E) _ := (dss_one (ds_ret C (de_and C (de_isi C isi_int (by decide +kernel) m_isinstance (by decide +kernel) m_int boot_int (DE.bo (de_var C (i := 0) rfl (vis_by (by decide +kernel))))) (de_one (de_not (de_isi C isi_bool (by decide +kernel) m_isinstance (by decide +kernel) m_bool boot_bool (DE.bo (de_var C (i := 0) rfl (vis_by (by decide +kernel))))))))))
  exact ⟨_, by decide +kernel, d⟩
abbrev s_is_fraction : Stmt := topS 14
theorem sc_is_fraction : FnScope N_is_fraction ["value"] (defScope s_is_fraction) := ⟨rfl, rfl, rfl, by decide +kernel, rfl, by decide +kernel, by decide +kernel⟩
theorem ok_is_fraction {P : Program} {w : World} {K : PySem.W.Frag} {mg : Str → Option Value} {base : Heap} {f : Addr} {od an : Option Addr} {osl : Array (Option Value)} {oc dV kV doc pm cdv ct : Value}
    (lk : K.lookup f = some ⟨oc, od, .func (PySem.W.fnOf "is_fraction" "is_fraction" (defArgs s_is_fraction) (defBody s_is_fraction) (defScope s_is_fraction) dV kV doc pm an cdv ct), osl⟩) (cd : PySem.W.codeIn K cdv "is_fraction" = true)
    {f_is_integer : Addr} {fd_is_integer : FuncData} (M_is_integer : FnD P w K mg base 1 f_is_integer fd_is_integer ["value"] F_is_integer 0) (a_is_integer : mg "is_integer" = some (.ref f_is_integer)) (kp_is_integer : PySem.W.keepIn K (.ref f_is_integer) = true)
    {f_common : Addr} {fd_common : FuncData} (M_common : FnD P w K mg base 1 f_common fd_common ["one", "other"] F_common 0) (a_common : mg "common" = some (.ref f_common)) (kp_common : PySem.W.keepIn K (.ref f_common) = true)
    (b_is_integer_1 : BindG K fd_is_integer ["value"] 1 [] [])
    (b_common_2 : BindG K fd_common ["one", "other"] 2 [] [])
    (m_all : mg "all" = none)
    (m_len : mg "len" = none)
    (m_isinstance : mg "isinstance" = none)
    (m_tuple : mg "tuple" = none) :
    FnD P w K mg base 2 f (PySem.W.fnOf "is_fraction" "is_fraction" (defArgs s_is_fraction) (defBody s_is_fraction) (defScope s_is_fraction) dV kV doc pm an cdv ct) ["value"] F_is_fraction 0 := by
  unfold F_is_fraction
  refine fnd_by lk cd sc_is_fraction (g := G_is_fraction) (by decide) (fun X W E hE h1 h2 h3 h4 h5 hfn C => ?_)
  subst h1 h2 h3 h4 h5
  have d : DSs X W (defBody s_is_fraction) (G_is_fraction E) _ := (dss_cons (ds_if C (DW.t (dw_or C (dt_not (dt_val (DE.bo (de_isi C isi_tuple (by decide +kernel) m_isinstance (by decide +kernel) m_tuple boot_tuple (DE.bo (de_var C (i := 0) rfl (vis_by (by decide +kernel)))))))) (dw_or C (dt_cmp C (dop_ne C.units) (DE.bo (de_callB C dc_len (by decide +kernel) m_len PySem.boot_len (db_cons C (DE.bo (de_var C (i := 0) rfl (vis_by (by decide +kernel)))) db_nil))) (DE.bo de_int)) (dw_or1 (dt_not (dt_val (DE.bo (de_callB C (dc_all C.calm) (by decide +kernel) m_all boot_all (db_cons C (DE.bo (DF.da C (df_lc (own := [("part", 1)]) C 0 (DI.bo (di_seq C (de_var C (i := 0) rfl (vis_by (by decide +kernel))))) (blkOk_by (own := [("part", 1)]) (by decide +kernel)) (blk_use C fun _ _ _ _ _ _ C1 => (dg_name C1 (i := 1) rfl (loc_by (by decide +kernel)) (.inr (by decide +kernel)))) (blk_use C fun _ _ _ _ _ _ C1 => PTsD.le (c := 0) dts_nil (by decide +kernel)) (blk_use C fun _ _ _ _ _ _ C1 => DE.le (c := 0) (de_fn C1 rfl M_is_integer (by decide) (by decide +kernel) a_is_integer kp_is_integer b_is_integer_1 .nil (das_dat C1 (de_var C1 (i := 1) rfl (vis_by (by decide +kernel))) das_nil) rfl) (by decide +kernel)) (by decide)))) db_nil))))))))) (dss_one (ds_ret C de_bl)) dss_nil)
    (dss_one (ds_ret C (de_and C (de_cmp C dop_ge (DE.bo (de_ix C dix (DE.bo (de_var C (i := 0) rfl (vis_by (by decide +kernel)))) (DE.bo de_int))) (DE.bo de_int)) (de_one (de_cmp C (dop_eq C.units) (DE.bo (de_fn C hE M_common (by decide) (by decide +kernel) a_common kp_common b_common_2 .nil (das_dat C (de_ix C dix (DE.bo (de_var C (i := 0) rfl (vis_by (by decide +kernel)))) (DE.bo de_int)) (das_dat C (de_ix C dix (DE.bo (de_var C (i := 0) rfl (vis_by (by decide +kernel)))) (DE.bo de_int)) das_nil)) rfl)) (DE.bo de_int)))))))
  exact ⟨_, by decide +kernel, d⟩
abbrev s__law_own_read : Stmt := topS 27
theorem sc__law_own_read : FnScope N__law_own_read ["text"] (defScope s__law_own_read) := ⟨rfl, rfl, rfl, by decide +kernel, rfl, by decide +kernel, by decide +kernel⟩
theorem ok__law_own_read {P : Program} {w : World} {K : PySem.W.Frag} {mg : Str → Option Value} {base : Heap} {f : Addr} {od an : Option Addr} {osl : Array (Option Value)} {oc dV kV doc pm cdv ct : Value}
    (lk : K.lookup f = some ⟨oc, od, .func (PySem.W.fnOf "_law_own_read" "_law_own_read" (defArgs s__law_own_read) (defBody s__law_own_read) (defScope s__law_own_read) dV kV doc pm an cdv ct), osl⟩) (cd : PySem.W.codeIn K cdv "_law_own_read" = true)
    {f__law_common : Addr} {fd__law_common : FuncData} (M__law_common : FnD P w K mg base 1 f__law_common fd__law_common ["one", "other"] F__law_common 0) (a__law_common : mg "_law_common" = some (.ref f__law_common)) (kp__law_common : PySem.W.keepIn K (.ref f__law_common) = true)
    (b__law_common_2 : BindG K fd__law_common ["one", "other"] 2 [] [])
    (m_len : mg "len" = none)
    (m_all : mg "all" = none)
    (m_str : mg "str" = none)
    (m_int : mg "int" = none) :
    FnD P w K mg base 2 f (PySem.W.fnOf "_law_own_read" "_law_own_read" (defArgs s__law_own_read) (defBody s__law_own_read) (defScope s__law_own_read) dV kV doc pm an cdv ct) ["text"] F__law_own_read 0 := by
  unfold F__law_own_read
  refine fnd_by lk cd sc__law_own_read (g := G__law_own_read) (by decide) (fun X W E hE h1 h2 h3 h4 h5 hfn C => ?_)
  subst h1 h2 h3 h4 h5
  have d : DSs X W (defBody s__law_own_read) (G__law_own_read E) _ := (dss_cons (ds_set C (i := 1) rfl (loc_by (by decide +kernel)) (.inl (hfn _)) (de_m1 C PySem.F.slot_str_split PySem.F.type_str_split dm_split (DE.bo (de_var C (i := 0) rfl (vis_by (by decide +kernel)))) (DE.bo de_str)))
    (dss_cons (ds_if C (dt_cmp C dop_gt (DE.bo (de_callB C dc_len (by decide +kernel) m_len PySem.boot_len (db_cons C (DE.bo (de_var C (i := 1) rfl (vis_by (by decide +kernel)))) db_nil))) (DE.bo de_int)) (dss_one (ds_ret C de_non)) dss_nil)
    (dss_cons (ds_setF C (i := 2) rfl (loc_by (by decide +kernel)) (.inl (hfn _)) (df_lst C da_nil))
    (dss_cons (ds_for C 0 (di_seq C (de_var C (i := 1) rfl (vis_by (by decide +kernel)))) (dg_name C (i := 3) rfl (loc_by (by decide +kernel)) (.inl (hfn _))) (DSs.le (c := 0) (dss_cons (ds_set C (i := 4) rfl (loc_by (by decide +kernel)) (.inl (hfn _)) (de_if C (dt_cmp C (dop_eq C.units) (DE.bo (de_sl C dsl (DE.bo (de_var C (i := 3) rfl (vis_by (by decide +kernel)))) dp_none (dp_some (DE.bo de_int)))) (DE.bo de_str)) (de_sl C dsl (DE.bo (de_var C (i := 3) rfl (vis_by (by decide +kernel)))) (dp_some (DE.bo de_int)) dp_none) (de_var C (i := 3) rfl (vis_by (by decide +kernel)))))
    (dss_cons (ds_if C (DW.t (dw_or C (dt_cmp C (dop_eq C.units) (DE.bo (de_var C (i := 4) rfl (vis_by (by decide +kernel)))) (DE.bo de_str)) (dw_or C (dt_cmp C dop_gt (DE.bo (de_callB C dc_len (by decide +kernel) m_len PySem.boot_len (db_cons C (DE.bo (de_var C (i := 4) rfl (vis_by (by decide +kernel)))) db_nil))) (DE.bo de_int)) (dw_or1 (dt_not (dt_val (DE.bo (de_callB C (dc_all C.calm) (by decide +kernel) m_all boot_all (db_cons C (DE.bo (DF.da C (df_lc (own := [("sign", 5)]) C 0 (DI.bo (di_seq C (de_var C (i := 4) rfl (vis_by (by decide +kernel))))) (blkOk_by (own := [("sign", 5)]) (by decide +kernel)) (blk_use C fun _ _ _ _ _ _ C1 => (dg_name C1 (i := 5) rfl (loc_by (by decide +kernel)) (.inr (by decide +kernel)))) (blk_use C fun _ _ _ _ _ _ C1 => PTsD.le (c := 0) dts_nil (by decide +kernel)) (blk_use C fun _ _ _ _ _ _ C1 => DE.le (c := 0) (de_cmp C1 (dop_in C1.units) (DE.bo (de_var C1 (i := 5) rfl (vis_by (by decide +kernel)))) (DE.bo de_str)) (by decide +kernel)) (by decide)))) db_nil))))))))) (dss_one (ds_ret C de_non)) dss_nil)
    (dss_cons (ds_if C (dt_cmp C (dop_ne C.units) (DE.bo (de_callT C dc_str (by decide +kernel) m_str boot_str (db_cons C (DE.bo (de_callT C dc_int (by decide +kernel) m_int boot_int (db_cons C (DE.bo (de_var C (i := 3) rfl (vis_by (by decide +kernel)))) db_nil))) db_nil))) (DE.bo (de_var C (i := 3) rfl (vis_by (by decide +kernel))))) (dss_one (ds_ret C de_non)) dss_nil)
    (dss_one (ds_app C (i := 2) rfl (vis_by (by decide +kernel)) (de_callT C dc_int (by decide +kernel) m_int boot_int (db_cons C (DE.bo (de_var C (i := 3) rfl (vis_by (by decide +kernel)))) db_nil))))))) (by decide +kernel)))
    (dss_cons (ds_if C (dt_cmp C (dop_eq C.units) (DE.bo (de_callB C dc_len (by decide +kernel) m_len PySem.boot_len (db_cons C (db_var C (i := 2) rfl (vis_by (by decide +kernel))) db_nil))) (DE.bo de_int)) (dss_one (ds_ret C (de_tup C (da_cons C (de_ix C dix (db_var C (i := 2) rfl (vis_by (by decide +kernel))) (DE.bo de_int)) (da_cons C de_int da_nil))))) dss_nil)
    (dss_one (ds_ret C (de_if C (DW.t (dw_and C (dt_cmp C dop_gt (DE.bo (de_ix C dix (db_var C (i := 2) rfl (vis_by (by decide +kernel))) (DE.bo de_int))) (DE.bo de_int)) (dw_and1 (dt_cmp C (dop_eq C.units) (DE.bo (de_fn C hE M__law_common (by decide) (by decide +kernel) a__law_common kp__law_common b__law_common_2 .nil (das_dat C (de_ix C dix (db_var C (i := 2) rfl (vis_by (by decide +kernel))) (DE.bo de_int)) (das_dat C (de_ix C dix (db_var C (i := 2) rfl (vis_by (by decide +kernel))) (DE.bo de_int)) das_nil)) rfl)) (DE.bo de_int))))) (de_tup C (da_cons C (de_ix C dix (db_var C (i := 2) rfl (vis_by (by decide +kernel))) (DE.bo de_int)) (da_cons C (de_ix C dix (db_var C (i := 2) rfl (vis_by (by decide +kernel))) (DE.bo de_int)) da_nil))) de_non))))))))
  exact ⟨_, by decide +kernel, d⟩
abbrev s_read_integer : Stmt := topS 10
theorem sc_read_integer : FnScope N_read_integer ["text", "most"] (defScope s_read_integer) := ⟨rfl, rfl, rfl, by decide +kernel, rfl, by decide +kernel, by decide +kernel⟩
theorem ok_read_integer {P : Program} {w : World} {K : PySem.W.Frag} {mg : Str → Option Value} {base : Heap} {f : Addr} {od an : Option Addr} {osl : Array (Option Value)} {oc dV kV doc pm cdv ct : Value}
    (lk : K.lookup f = some ⟨oc, od, .func (PySem.W.fnOf "read_integer" "read_integer" (defArgs s_read_integer) (defBody s_read_integer) (defScope s_read_integer) dV kV doc pm an cdv ct), osl⟩) (cd : PySem.W.codeIn K cdv "read_integer" = true)
    {u_MINUS : Value} (m_MINUS : mg "MINUS" = some u_MINUS) (r_MINUS : KRep K u_MINUS d_MINUS)
    {u_FIGURES : Value} (m_FIGURES : mg "FIGURES" = some u_FIGURES) (r_FIGURES : KRep K u_FIGURES d_FIGURES)
    (m_all : mg "all" = none)
    (m_len : mg "len" = none)
    (m_int : mg "int" = none) :
    FnD P w K mg base 1 f (PySem.W.fnOf "read_integer" "read_integer" (defArgs s_read_integer) (defBody s_read_integer) (defScope s_read_integer) dV kV doc pm an cdv ct) ["text", "most"] F_read_integer 0 := by
  unfold F_read_integer
  refine fnd_by lk cd sc_read_integer (g := G_read_integer) (by decide) (fun X W E hE h1 h2 h3 h4 h5 hfn C => ?_)
  subst h1 h2 h3 h4 h5
  have d : DSs X W (defBody s_read_integer) (G_read_integer E) _ := (dss_cons (ds_set C (i := 2) rfl (loc_by (by decide +kernel)) (.inl (hfn _)) (de_if C (dt_cmp C (dop_eq C.units) (DE.bo (de_sl C dsl (DE.bo (de_var C (i := 0) rfl (vis_by (by decide +kernel)))) dp_none (dp_some (DE.bo de_int)))) (DE.bo (de_glob C (by decide +kernel) m_MINUS r_MINUS))) (de_sl C dsl (DE.bo (de_var C (i := 0) rfl (vis_by (by decide +kernel)))) (dp_some (DE.bo de_int)) dp_none) (de_var C (i := 0) rfl (vis_by (by decide +kernel)))))
    (dss_cons (ds_if C (DW.t (dw_or C (dt_not (dt_chain C dop_le dop_le (DE.bo de_int) (DE.bo (de_callB C dc_len (by decide +kernel) m_len PySem.boot_len (db_cons C (DE.bo (de_var C (i := 2) rfl (vis_by (by decide +kernel)))) db_nil))) (DE.bo (de_var C (i := 1) rfl (vis_by (by decide +kernel)))))) (dw_or1 (dt_not (dt_val (DE.bo (de_callB C (dc_all C.calm) (by decide +kernel) m_all boot_all (db_cons C (DE.bo (DF.da C (df_lc (own := [("sign", 3)]) C 0 (DI.bo (di_seq C (de_var C (i := 2) rfl (vis_by (by decide +kernel))))) (blkOk_by (own := [("sign", 3)]) (by decide +kernel)) (blk_use C fun _ _ _ _ _ _ C1 => (dg_name C1 (i := 3) rfl (loc_by (by decide +kernel)) (.inr (by decide +kernel)))) (blk_use C fun _ _ _ _ _ _ C1 => PTsD.le (c := 0) dts_nil (by decide +kernel)) (blk_use C fun _ _ _ _ _ _ C1 => DE.le (c := 0) (de_cmp C1 (dop_in C1.units) (DE.bo (de_var C1 (i := 3) rfl (vis_by (by decide +kernel)))) (DE.bo (de_glob C1 (by decide +kernel) m_FIGURES r_FIGURES))) (by decide +kernel)) (by decide)))) db_nil)))))))) (dss_one (ds_ret C de_non)) dss_nil)
    (dss_cons (ds_if C (DW.t (dw_and C (dt_cmp C (dop_eq C.units) (DE.bo (de_ix C dix (DE.bo (de_var C (i := 2) rfl (vis_by (by decide +kernel)))) (DE.bo de_int))) (DE.bo de_str)) (dw_and1 (DW.t (dw_or C (dt_cmp C dop_gt (DE.bo (de_callB C dc_len (by decide +kernel) m_len PySem.boot_len (db_cons C (DE.bo (de_var C (i := 2) rfl (vis_by (by decide +kernel)))) db_nil))) (DE.bo de_int)) (dw_or1 (dt_cmp C (dop_ne C.units) (DE.bo (de_var C (i := 0) rfl (vis_by (by decide +kernel)))) (DE.bo (de_var C (i := 2) rfl (vis_by (by decide +kernel))))))))))) (dss_one (ds_ret C de_non)) dss_nil)
    (dss_one (ds_ret C (de_callT C dc_int (by decide +kernel) m_int boot_int (db_cons C (DE.bo (de_var C (i := 0) rfl (vis_by (by decide +kernel)))) db_nil)))))))
  exact ⟨_, by decide +kernel, d⟩
abbrev s_read_of_figures : Stmt := topS 17
theorem sc_read_of_figures : FnScope N_read_of_figures ["text", "most"] (defScope s_read_of_figures) := ⟨rfl, rfl, rfl, by decide +kernel, rfl, by decide +kernel, by decide +kernel⟩
theorem ok_read_of_figures {P : Program} {w : World} {K : PySem.W.Frag} {mg : Str → Option Value} {base : Heap} {f : Addr} {od an : Option Addr} {osl : Array (Option Value)} {oc dV kV doc pm cdv ct : Value}
    (lk : K.lookup f = some ⟨oc, od, .func (PySem.W.fnOf "read_of_figures" "read_of_figures" (defArgs s_read_of_figures) (defBody s_read_of_figures) (defScope s_read_of_figures) dV kV doc pm an cdv ct), osl⟩) (cd : PySem.W.codeIn K cdv "read_of_figures" = true)
    {f_read_integer : Addr} {fd_read_integer : FuncData} (M_read_integer : FnD P w K mg base 1 f_read_integer fd_read_integer ["text", "most"] F_read_integer 0) (a_read_integer : mg "read_integer" = some (.ref f_read_integer)) (kp_read_integer : PySem.W.keepIn K (.ref f_read_integer) = true)
    {f_is_fraction : Addr} {fd_is_fraction : FuncData} (M_is_fraction : FnD P w K mg base 2 f_is_fraction fd_is_fraction ["value"] F_is_fraction 0) (a_is_fraction : mg "is_fraction" = some (.ref f_is_fraction)) (kp_is_fraction : PySem.W.keepIn K (.ref f_is_fraction) = true)
    (b_read_integer_2 : BindG K fd_read_integer ["text", "most"] 2 [] [])
    (b_is_fraction_1 : BindG K fd_is_fraction ["value"] 1 [] [])
    {u_STROKE : Value} (m_STROKE : mg "STROKE" = some u_STROKE) (r_STROKE : KRep K u_STROKE d_STROKE)
    (m_isinstance : mg "isinstance" = none)
    (m_str : mg "str" = none)
    (m_len : mg "len" = none) :
    FnD P w K mg base 3 f (PySem.W.fnOf "read_of_figures" "read_of_figures" (defArgs s_read_of_figures) (defBody s_read_of_figures) (defScope s_read_of_figures) dV kV doc pm an cdv ct) ["text", "most"] F_read_of_figures 0 := by
  unfold F_read_of_figures
  refine fnd_by lk cd sc_read_of_figures (g := G_read_of_figures) (by decide) (fun X W E hE h1 h2 h3 h4 h5 hfn C => ?_)
  subst h1 h2 h3 h4 h5
  have d : DSs X W (defBody s_read_of_figures) (G_read_of_figures E) _ := (dss_cons (ds_set C (i := 2) rfl (loc_by (by decide +kernel)) (.inl (hfn _)) (de_if C (dt_val (DE.bo (de_isi C isi_str (by decide +kernel) m_isinstance (by decide +kernel) m_str boot_str (DE.bo (de_var C (i := 0) rfl (vis_by (by decide +kernel))))))) (de_m1 C PySem.F.slot_str_split PySem.F.type_str_split dm_split (DE.bo (de_var C (i := 0) rfl (vis_by (by decide +kernel)))) (DE.bo (de_glob C (by decide +kernel) m_STROKE r_STROKE))) (DF.da C (df_lst C da_nil))))
    (dss_cons (ds_lc (own := [("part", 5)]) C 0 (i := 3) rfl (by decide +kernel) rfl rfl (by decide +kernel) (DI.bo (di_seq C (de_var C (i := 2) rfl (vis_by (by decide +kernel))))) (blkOk_by (own := [("part", 5)]) (by decide +kernel)) (blk_use C fun _ _ _ _ _ _ C1 => (dg_name C1 (i := 5) rfl (loc_by (by decide +kernel)) (.inr (by decide +kernel)))) (blk_use C fun _ _ _ _ _ _ C1 => PTsD.le (c := 0) dts_nil (by decide +kernel)) (blk_use C fun _ _ _ _ _ _ C1 => DE.le (c := 0) (de_fn C1 rfl M_read_integer (by decide) (by decide +kernel) a_read_integer kp_read_integer b_read_integer_2 .nil (das_dat C1 (de_var C1 (i := 5) rfl (vis_by (by decide +kernel))) (das_dat C1 (de_var C1 (i := 1) rfl (vis_by (by decide +kernel))) das_nil)) rfl) (by decide +kernel)) (by decide))
    (dss_cons (ds_if C (DW.t (dw_or C (dt_not (dt_chain C dop_le dop_le (DE.bo de_int) (DE.bo (de_callB C dc_len (by decide +kernel) m_len PySem.boot_len (db_cons C (DE.bo (de_var C (i := 2) rfl (vis_by (by decide +kernel)))) db_nil))) (DE.bo de_int))) (dw_or1 (dt_cmp C (dop_in C.units) (DE.bo de_non) (DE.bo (de_var C (i := 3) rfl (vis_by (by decide +kernel)))))))) (dss_one (ds_ret C de_non)) dss_nil)
    (dss_cons (ds_if C (dt_cmp C (dop_eq C.units) (DE.bo (de_callB C dc_len (by decide +kernel) m_len PySem.boot_len (db_cons C (DE.bo (de_var C (i := 2) rfl (vis_by (by decide +kernel)))) db_nil))) (DE.bo de_int)) (dss_one (ds_ret C (de_tup C (da_cons C (de_ix C dix (DE.bo (de_var C (i := 3) rfl (vis_by (by decide +kernel)))) (DE.bo de_int)) (da_cons C de_int da_nil))))) dss_nil)
    (dss_cons (ds_set C (i := 4) rfl (loc_by (by decide +kernel)) (.inl (hfn _)) (de_tup C (da_cons C (de_ix C dix (DE.bo (de_var C (i := 3) rfl (vis_by (by decide +kernel)))) (DE.bo de_int)) (da_cons C (de_ix C dix (DE.bo (de_var C (i := 3) rfl (vis_by (by decide +kernel)))) (DE.bo de_int)) da_nil))))
    (dss_one (ds_ret C (de_if C (DW.t (dw_and C (dt_cmp C dop_gt (DE.bo (de_ix C dix (DE.bo (de_var C (i := 3) rfl (vis_by (by decide +kernel)))) (DE.bo de_int))) (DE.bo de_int)) (dw_and1 (dt_val (DE.bo (de_fn C hE M_is_fraction (by decide) (by decide +kernel) a_is_fraction kp_is_fraction b_is_fraction_1 .nil (das_dat C (de_var C (i := 4) rfl (vis_by (by decide +kernel))) das_nil) rfl)))))) (de_var C (i := 4) rfl (vis_by (by decide +kernel))) de_non))))))))
  exact ⟨_, by decide +kernel, d⟩
abbrev s_read_fraction : Stmt := topS 16
theorem sc_read_fraction : FnScope N_read_fraction ["text"] (defScope s_read_fraction) := ⟨rfl, rfl, rfl, by decide +kernel, rfl, by decide +kernel, by decide +kernel⟩
theorem ok_read_fraction {P : Program} {w : World} {K : PySem.W.Frag} {mg : Str → Option Value} {base : Heap} {f : Addr} {od an : Option Addr} {osl : Array (Option Value)} {oc dV kV doc pm cdv ct : Value}
    (lk : K.lookup f = some ⟨oc, od, .func (PySem.W.fnOf "read_fraction" "read_fraction" (defArgs s_read_fraction) (defBody s_read_fraction) (defScope s_read_fraction) dV kV doc pm an cdv ct), osl⟩) (cd : PySem.W.codeIn K cdv "read_fraction" = true)
    {f_read_of_figures : Addr} {fd_read_of_figures : FuncData} (M_read_of_figures : FnD P w K mg base 3 f_read_of_figures fd_read_of_figures ["text", "most"] F_read_of_figures 0) (a_read_of_figures : mg "read_of_figures" = some (.ref f_read_of_figures)) (kp_read_of_figures : PySem.W.keepIn K (.ref f_read_of_figures) = true)
    (b_read_of_figures_2 : BindG K fd_read_of_figures ["text", "most"] 2 [] [])
    {u_MOST_FIGURES : Value} (m_MOST_FIGURES : mg "MOST_FIGURES" = some u_MOST_FIGURES) (r_MOST_FIGURES : KRep K u_MOST_FIGURES d_MOST_FIGURES) :
    FnD P w K mg base 4 f (PySem.W.fnOf "read_fraction" "read_fraction" (defArgs s_read_fraction) (defBody s_read_fraction) (defScope s_read_fraction) dV kV doc pm an cdv ct) ["text"] F_read_fraction 0 := by
  unfold F_read_fraction
  refine fnd_by lk cd sc_read_fraction (g := G_read_fraction) (by decide) (fun X W E hE h1 h2 h3 h4 h5 hfn C => ?_)
  subst h1 h2 h3 h4 h5
  have d : DSs X W (defBody s_read_fraction) (G_read_fraction E) _ := (dss_one (ds_ret C (de_fn C hE M_read_of_figures (by decide) (by decide +kernel) a_read_of_figures kp_read_of_figures b_read_of_figures_2 .nil (das_dat C (de_var C (i := 0) rfl (vis_by (by decide +kernel))) (das_dat C (de_glob C (by decide +kernel) m_MOST_FIGURES r_MOST_FIGURES) das_nil)) rfl)))
  exact ⟨_, by decide +kernel, d⟩
abbrev s_fraction_text : Stmt := topS 15
theorem sc_fraction_text : FnScope N_fraction_text ["one"] (defScope s_fraction_text) := ⟨rfl, rfl, rfl, by decide +kernel, rfl, by decide +kernel, by decide +kernel⟩
theorem ok_fraction_text {P : Program} {w : World} {K : PySem.W.Frag} {mg : Str → Option Value} {base : Heap} {f : Addr} {od an : Option Addr} {osl : Array (Option Value)} {oc dV kV doc pm cdv ct : Value}
    (lk : K.lookup f = some ⟨oc, od, .func (PySem.W.fnOf "fraction_text" "fraction_text" (defArgs s_fraction_text) (defBody s_fraction_text) (defScope s_fraction_text) dV kV doc pm an cdv ct), osl⟩) (cd : PySem.W.codeIn K cdv "fraction_text" = true)
    {u_STROKE : Value} (m_STROKE : mg "STROKE" = some u_STROKE) (r_STROKE : KRep K u_STROKE d_STROKE)
    (m_str : mg "str" = none) :
    FnD P w K mg base 1 f (PySem.W.fnOf "fraction_text" "fraction_text" (defArgs s_fraction_text) (defBody s_fraction_text) (defScope s_fraction_text) dV kV doc pm an cdv ct) ["one"] F_fraction_text 0 := by
  unfold F_fraction_text
  refine fnd_by lk cd sc_fraction_text (g := G_fraction_text) (by decide) (fun X W E hE h1 h2 h3 h4 h5 hfn C => ?_)
  subst h1 h2 h3 h4 h5
  have d : DSs X W (defBody s_fraction_text) (G_fraction_text E) _ := (dss_one (ds_ret C (de_if C (dt_cmp C (dop_eq C.units) (DE.bo (de_ix C dix (DE.bo (de_var C (i := 0) rfl (vis_by (by decide +kernel)))) (DE.bo de_int))) (DE.bo de_int)) (de_callT C dc_str (by decide +kernel) m_str boot_str (db_cons C (DE.bo (de_ix C dix (DE.bo (de_var C (i := 0) rfl (vis_by (by decide +kernel)))) (DE.bo de_int))) db_nil)) (de_bin C dop_add (DE.bo (de_bin C dop_add (DE.bo (de_callT C dc_str (by decide +kernel) m_str boot_str (db_cons C (DE.bo (de_ix C dix (DE.bo (de_var C (i := 0) rfl (vis_by (by decide +kernel)))) (DE.bo de_int))) db_nil))) (DE.bo (de_glob C (by decide +kernel) m_STROKE r_STROKE)))) (DE.bo (de_callT C dc_str (by decide +kernel) m_str boot_str (db_cons C (DE.bo (de_ix C dix (DE.bo (de_var C (i := 0) rfl (vis_by (by decide +kernel)))) (DE.bo de_int))) db_nil)))))))
  exact ⟨_, by decide +kernel, d⟩
abbrev s__law_right : Stmt := topS 29
theorem sc__law_right : FnScope N__law_right ["pot"] (defScope s__law_right) := ⟨rfl, rfl, rfl, by decide +kernel, rfl, by decide +kernel, by decide +kernel⟩
theorem ok__law_right {P : Program} {w : World} {K : PySem.W.Frag} {mg : Str → Option Value} {base : Heap} {f : Addr} {od an : Option Addr} {osl : Array (Option Value)} {oc dV kV doc pm cdv ct : Value}
    (lk : K.lookup f = some ⟨oc, od, .func (PySem.W.fnOf "_law_right" "_law_right" (defArgs s__law_right) (defBody s__law_right) (defScope s__law_right) dV kV doc pm an cdv ct), osl⟩) (cd : PySem.W.codeIn K cdv "_law_right" = true)
    {f__law_take : Addr} {fd__law_take : FuncData} (M__law_take : FnD P w K mg base 1 f__law_take fd__law_take ["pot", "upto"] F__law_take 1) (a__law_take : mg "_law_take" = some (.ref f__law_take)) (kp__law_take : PySem.W.keepIn K (.ref f__law_take) = true)
    {f__law_of : Addr} {fd__law_of : FuncData} (M__law_of : FnD P w K mg base 2 f__law_of fd__law_of ["pot", "some"] F__law_of 1) (a__law_of : mg "_law_of" = some (.ref f__law_of)) (kp__law_of : PySem.W.keepIn K (.ref f__law_of) = true)
    {f__law_odd : Addr} {fd__law_odd : FuncData} (M__law_odd : FnD P w K mg base 3 f__law_odd fd__law_odd ["pot"] F__law_odd 4) (a__law_odd : mg "_law_odd" = some (.ref f__law_odd)) (kp__law_odd : PySem.W.keepIn K (.ref f__law_odd) = true)
    {f_is_word : Addr} {fd_is_word : FuncData} (M_is_word : FnD P w K mg base 1 f_is_word fd_is_word ["value"] F_is_word 0) (a_is_word : mg "is_word" = some (.ref f_is_word)) (kp_is_word : PySem.W.keepIn K (.ref f_is_word) = true)
    {f__law_own_word : Addr} {fd__law_own_word : FuncData} (M__law_own_word : FnD P w K mg base 1 f__law_own_word fd__law_own_word ["value"] F__law_own_word 0) (a__law_own_word : mg "_law_own_word" = some (.ref f__law_own_word)) (kp__law_own_word : PySem.W.keepIn K (.ref f__law_own_word) = true)
    {f_is_name : Addr} {fd_is_name : FuncData} (M_is_name : FnD P w K mg base 2 f_is_name fd_is_name ["value"] F_is_name 0) (a_is_name : mg "is_name" = some (.ref f_is_name)) (kp_is_name : PySem.W.keepIn K (.ref f_is_name) = true)
    {f__law_own_name : Addr} {fd__law_own_name : FuncData} (M__law_own_name : FnD P w K mg base 2 f__law_own_name fd__law_own_name ["value"] F__law_own_name 0) (a__law_own_name : mg "_law_own_name" = some (.ref f__law_own_name)) (kp__law_own_name : PySem.W.keepIn K (.ref f__law_own_name) = true)
    {f__law_number : Addr} {fd__law_number : FuncData} (M__law_number : FnD P w K mg base 3 f__law_number fd__law_number ["pot"] F__law_number 301) (a__law_number : mg "_law_number" = some (.ref f__law_number)) (kp__law_number : PySem.W.keepIn K (.ref f__law_number) = true)
    {f__law_common : Addr} {fd__law_common : FuncData} (M__law_common : FnD P w K mg base 1 f__law_common fd__law_common ["one", "other"] F__law_common 0) (a__law_common : mg "_law_common" = some (.ref f__law_common)) (kp__law_common : PySem.W.keepIn K (.ref f__law_common) = true)
    {f_is_fraction : Addr} {fd_is_fraction : FuncData} (M_is_fraction : FnD P w K mg base 2 f_is_fraction fd_is_fraction ["value"] F_is_fraction 0) (a_is_fraction : mg "is_fraction" = some (.ref f_is_fraction)) (kp_is_fraction : PySem.W.keepIn K (.ref f_is_fraction) = true)
    {f_read_fraction : Addr} {fd_read_fraction : FuncData} (M_read_fraction : FnD P w K mg base 4 f_read_fraction fd_read_fraction ["text"] F_read_fraction 0) (a_read_fraction : mg "read_fraction" = some (.ref f_read_fraction)) (kp_read_fraction : PySem.W.keepIn K (.ref f_read_fraction) = true)
    {f_fraction_text : Addr} {fd_fraction_text : FuncData} (M_fraction_text : FnD P w K mg base 1 f_fraction_text fd_fraction_text ["one"] F_fraction_text 0) (a_fraction_text : mg "fraction_text" = some (.ref f_fraction_text)) (kp_fraction_text : PySem.W.keepIn K (.ref f_fraction_text) = true)
    {f__law_own_read : Addr} {fd__law_own_read : FuncData} (M__law_own_read : FnD P w K mg base 2 f__law_own_read fd__law_own_read ["text"] F__law_own_read 0) (a__law_own_read : mg "_law_own_read" = some (.ref f__law_own_read)) (kp__law_own_read : PySem.W.keepIn K (.ref f__law_own_read) = true)
    (b__law_take_2 : BindG K fd__law_take ["pot", "upto"] 2 [] [])
    (b__law_of_2 : BindG K fd__law_of ["pot", "some"] 2 [] [])
    (b__law_odd_1 : BindG K fd__law_odd ["pot"] 1 [] [])
    (b_is_word_0_value : BindG K fd_is_word ["value"] 0 ["value"] [])
    (b__law_own_word_1 : BindG K fd__law_own_word ["value"] 1 [] [])
    (b_is_name_0_value : BindG K fd_is_name ["value"] 0 ["value"] [])
    (b__law_own_name_1 : BindG K fd__law_own_name ["value"] 1 [] [])
    (b__law_number_1 : BindG K fd__law_number ["pot"] 1 [] [])
    (b__law_common_2 : BindG K fd__law_common ["one", "other"] 2 [] [])
    (b_is_fraction_0_value : BindG K fd_is_fraction ["value"] 0 ["value"] [])
    (b_read_fraction_0_text : BindG K fd_read_fraction ["text"] 0 ["text"] [])
    (b_fraction_text_0_one : BindG K fd_fraction_text ["one"] 0 ["one"] [])
    (b__law_own_read_1 : BindG K fd__law_own_read ["text"] 1 [] [])
    (b_read_fraction_1 : BindG K fd_read_fraction ["text"] 1 [] [])
    (m_range : mg "range" = none)
    (m_isinstance : mg "isinstance" = none)
    (m_bool : mg "bool" = none)
    (m_len : mg "len" = none)
    (m_tuple : mg "tuple" = none)
    (m_str : mg "str" = none)
    (m_repr : mg "repr" = none) :
    FnD P w K mg base 5 f (PySem.W.fnOf "_law_right" "_law_right" (defArgs s__law_right) (defBody s__law_right) (defScope s__law_right) dV kV doc pm an cdv ct) ["pot"] F__law_right 622 := by
  unfold F__law_right
  refine fnd_by lk cd sc__law_right (g := G__law_right) (by decide) (fun X W E hE h1 h2 h3 h4 h5 hfn C => ?_)
  subst h1 h2 h3 h4 h5
  have d : DSs X W (defBody s__law_right) (G__law_right E) _ := (dss_cons (ds_set C (i := 1) rfl (loc_by (by decide +kernel)) (.inl (hfn _)) (DF.da C (df_lst C (da_cons C de_str (da_cons C de_str (da_cons C de_str (da_cons C de_str (da_cons C de_str (da_cons C de_str (da_cons C de_str (da_cons C de_str (da_cons C de_str (da_cons C de_str (da_cons C de_str (da_cons C de_str (da_cons C de_str da_nil))))))))))))))))
    (dss_cons (ds_lc (own := [("lap", 10)]) C 9 (i := 2) rfl (by decide +kernel) rfl rfl (by decide +kernel) (DI.bo (di_range1 C (by decide +kernel) m_range (DE.bo (de_bin C dop_add (DE.bo de_int) (DE.bo (de_fn C hE M__law_take (by decide) (by decide +kernel) a__law_take kp__law_take b__law_take_2 .nil (das_pot C (i := 0) rfl (vis_by (by decide +kernel)) (das_dat C de_int das_nil)) rfl)))))) (blkOk_by (own := [("lap", 10)]) (by decide +kernel)) (blk_use C fun _ _ _ _ _ _ C1 => (dg_name C1 (i := 10) rfl (loc_by (by decide +kernel)) (.inr (by decide +kernel)))) (blk_use C fun _ _ _ _ _ _ C1 => PTsD.le (c := 0) dts_nil (by decide +kernel)) (blk_use C fun _ _ _ _ _ _ C1 => DE.le (c := 1) (de_fn C1 rfl M__law_of (by decide) (by decide +kernel) a__law_of kp__law_of b__law_of_2 .nil (das_pot C1 (i := 0) rfl (vis_by (by decide +kernel)) (das_dat C1 (DF.da C1 (df_lst C1 (da_cons C1 de_str (da_cons C1 de_str (da_cons C1 de_str (da_cons C1 de_str (da_cons C1 de_str (da_cons C1 de_str da_nil)))))))) das_nil)) rfl) (by decide +kernel)) (by decide))
    (dss_cons (ds_for C 0 (di_seq C (de_bin C dop_add (DE.bo (de_var C (i := 1) rfl (vis_by (by decide +kernel)))) (DE.bo (DF.da C (df_lst C (da_cons C (de_m1 C PySem.F.slot_str_join PySem.F.type_str_join dm_join (DE.bo de_str) (DE.bo (de_var C (i := 2) rfl (vis_by (by decide +kernel))))) (da_cons C (de_fn C hE M__law_odd (by decide) (by decide +kernel) a__law_odd kp__law_odd b__law_odd_1 .nil (das_pot C (i := 0) rfl (vis_by (by decide +kernel)) das_nil) rfl) da_nil))))))) (dg_name C (i := 3) rfl (loc_by (by decide +kernel)) (.inl (hfn _))) (DSs.le (c := 0) (dss_cons (ds_if C (dt_cmp C (dop_ne C.units) (DE.bo (de_fnk0 C hE M_is_word (by decide) (by decide +kernel) a_is_word kp_is_word b_is_word_0_value .nil (dkw_dat C (de_var C (i := 3) rfl (vis_by (by decide +kernel))) dkw_nil) rfl)) (DE.bo (de_fn C hE M__law_own_word (by decide) (by decide +kernel) a__law_own_word kp__law_own_word b__law_own_word_1 .nil (das_dat C (de_var C (i := 3) rfl (vis_by (by decide +kernel))) das_nil) rfl))) (dss_one (ds_ret C de_bl)) dss_nil)
    (dss_one (ds_if C (dt_cmp C (dop_ne C.units) (DE.bo (de_fnk0 C hE M_is_name (by decide) (by decide +kernel) a_is_name kp_is_name b_is_name_0_value .nil (dkw_dat C (de_var C (i := 3) rfl (vis_by (by decide +kernel))) dkw_nil) rfl)) (DE.bo (de_fn C hE M__law_own_name (by decide) (by decide +kernel) a__law_own_name kp__law_own_name b__law_own_name_1 .nil (das_dat C (de_var C (i := 3) rfl (vis_by (by decide +kernel))) das_nil) rfl))) (dss_one (ds_ret C de_bl)) dss_nil))) (by decide +kernel)))
    (dss_cons (ds_par C (i := 4) (j := 5) rfl rfl (by decide) (by decide +kernel) (by decide +kernel) (da_cons C (de_bin C dop_mul (DE.bo (de_fn C hE M__law_number (by decide) (by decide +kernel) a__law_number kp__law_number b__law_number_1 .nil (das_pot C (i := 0) rfl (vis_by (by decide +kernel)) das_nil) rfl)) (DE.bo (de_fn C hE M__law_of (by decide) (by decide +kernel) a__law_of kp__law_of b__law_of_2 .nil (das_pot C (i := 0) rfl (vis_by (by decide +kernel)) (das_dat C (DF.da C (df_lst C (da_cons C de_int (da_cons C (de_neg (DE.bo de_int)) da_nil)))) das_nil)) rfl))) (da_cons C (de_fn C hE M__law_number (by decide) (by decide +kernel) a__law_number kp__law_number b__law_number_1 .nil (das_pot C (i := 0) rfl (vis_by (by decide +kernel)) das_nil) rfl) da_nil)) (swp2 C rfl (by decide +kernel) (by decide +kernel) (by decide +kernel) rfl (fun _ _ z => nomatch z) (fun _ _ z => nomatch z) rfl rfl))
    (dss_cons (ds_set C (i := 6) rfl (loc_by (by decide +kernel)) (.inl (hfn _)) (de_fn C hE M__law_common (by decide) (by decide +kernel) a__law_common kp__law_common b__law_common_2 .nil (das_dat C (de_var C (i := 4) rfl (vis_by (by decide +kernel))) (das_dat C (de_var C (i := 5) rfl (vis_by (by decide +kernel))) das_nil)) rfl))
    (dss_cons (ds_for C 0 (di_seq C (de_tup C (da_cons C (de_tup C (da_cons C (de_bin C dop_fdiv (DE.bo (de_var C (i := 4) rfl (vis_by (by decide +kernel)))) (DE.bo (de_var C (i := 6) rfl (vis_by (by decide +kernel))))) (da_cons C (de_bin C dop_fdiv (DE.bo (de_var C (i := 5) rfl (vis_by (by decide +kernel)))) (DE.bo (de_var C (i := 6) rfl (vis_by (by decide +kernel))))) da_nil))) (da_cons C (de_tup C (da_cons C (de_var C (i := 4) rfl (vis_by (by decide +kernel))) (da_cons C (de_var C (i := 5) rfl (vis_by (by decide +kernel))) da_nil))) (da_cons C (de_tup C (da_cons C de_int (da_cons C de_int da_nil))) (da_cons C (de_tup C (da_cons C de_int (da_cons C de_int da_nil))) (da_cons C (de_tup C (da_cons C (de_var C (i := 4) rfl (vis_by (by decide +kernel))) (da_cons C de_int da_nil))) (da_cons C (de_tup C (da_cons C (de_var C (i := 4) rfl (vis_by (by decide +kernel))) (da_cons C (de_neg (DE.bo (de_var C (i := 5) rfl (vis_by (by decide +kernel))))) da_nil))) (da_cons C (de_tup C (da_cons C (de_var C (i := 4) rfl (vis_by (by decide +kernel))) da_nil)) (da_cons C (DF.da C (df_lst C (da_cons C de_int (da_cons C de_int da_nil)))) (da_cons C (de_tup C (da_cons C de_bl (da_cons C de_int da_nil))) da_nil))))))))))) (dg_name C (i := 7) rfl (loc_by (by decide +kernel)) (.inl (hfn _))) (DSs.le (c := 0) (dss_cons (ds_set C (i := 8) rfl (loc_by (by decide +kernel)) (.inl (hfn _)) (de_and C (de_isi C isi_tuple (by decide +kernel) m_isinstance (by decide +kernel) m_tuple boot_tuple (DE.bo (de_var C (i := 7) rfl (vis_by (by decide +kernel))))) (de_and C (de_cmp C (dop_eq C.units) (DE.bo (de_callB C dc_len (by decide +kernel) m_len PySem.boot_len (db_cons C (DE.bo (de_var C (i := 7) rfl (vis_by (by decide +kernel)))) db_nil))) (DE.bo de_int)) (de_and C (de_not (de_isi C isi_bool (by decide +kernel) m_isinstance (by decide +kernel) m_bool boot_bool (DE.bo (de_ix C dix (DE.bo (de_var C (i := 7) rfl (vis_by (by decide +kernel)))) (DE.bo de_int))))) (de_one (de_cmp C dop_gt (DE.bo (de_ix C dix (DE.bo (de_var C (i := 7) rfl (vis_by (by decide +kernel)))) (DE.bo de_int))) (DE.bo de_int)))))))
    (dss_cons (ds_set C (i := 8) rfl (loc_by (by decide +kernel)) (.inl (hfn _)) (de_and C (de_var C (i := 8) rfl (vis_by (by decide +kernel))) (de_one (de_cmp C (dop_eq C.units) (DE.bo (de_fn C hE M__law_common (by decide) (by decide +kernel) a__law_common kp__law_common b__law_common_2 .nil (das_dat C (de_ix C dix (DE.bo (de_var C (i := 7) rfl (vis_by (by decide +kernel)))) (DE.bo de_int)) (das_dat C (de_ix C dix (DE.bo (de_var C (i := 7) rfl (vis_by (by decide +kernel)))) (DE.bo de_int)) das_nil)) rfl)) (DE.bo de_int)))))
    (dss_cons (ds_if C (dt_cmp C (dop_ne C.units) (DE.bo (de_fnk0 C hE M_is_fraction (by decide) (by decide +kernel) a_is_fraction kp_is_fraction b_is_fraction_0_value .nil (dkw_dat C (de_var C (i := 7) rfl (vis_by (by decide +kernel))) dkw_nil) rfl)) (DE.bo (de_var C (i := 8) rfl (vis_by (by decide +kernel))))) (dss_one (ds_ret C de_bl)) dss_nil)
    (dss_one (ds_if C (dt_val (DE.bo (de_var C (i := 8) rfl (vis_by (by decide +kernel))))) (dss_cons (ds_set C (i := 9) rfl (loc_by (by decide +kernel)) (.inl (hfn _)) (de_if C (dt_cmp C (dop_eq C.units) (DE.bo (de_ix C dix (DE.bo (de_var C (i := 7) rfl (vis_by (by decide +kernel)))) (DE.bo de_int))) (DE.bo de_int)) (de_callT C dc_str (by decide +kernel) m_str boot_str (db_cons C (DE.bo (de_ix C dix (DE.bo (de_var C (i := 7) rfl (vis_by (by decide +kernel)))) (DE.bo de_int))) db_nil)) (de_bin C dop_add (DE.bo (de_bin C dop_add (DE.bo (de_callT C dc_str (by decide +kernel) m_str boot_str (db_cons C (DE.bo (de_ix C dix (DE.bo (de_var C (i := 7) rfl (vis_by (by decide +kernel)))) (DE.bo de_int))) db_nil))) (DE.bo de_str))) (DE.bo (de_callT C dc_str (by decide +kernel) m_str boot_str (db_cons C (DE.bo (de_ix C dix (DE.bo (de_var C (i := 7) rfl (vis_by (by decide +kernel)))) (DE.bo de_int))) db_nil))))))
    (dss_one (ds_if C (DW.t (dw_or C (dt_cmp C (dop_ne C.units) (DE.bo (de_fnk0 C hE M_fraction_text (by decide) (by decide +kernel) a_fraction_text kp_fraction_text b_fraction_text_0_one .nil (dkw_dat C (de_var C (i := 7) rfl (vis_by (by decide +kernel))) dkw_nil) rfl)) (DE.bo (de_var C (i := 9) rfl (vis_by (by decide +kernel))))) (dw_or1 (dt_cmp C (dop_ne C.units) (DE.bo (de_callB C (dc_repr C.gd C.units) (by decide +kernel) m_repr boot_repr (db_cons C (DE.bo (de_fnk0 C hE M_read_fraction (by decide) (by decide +kernel) a_read_fraction kp_read_fraction b_read_fraction_0_text .nil (dkw_dat C (de_var C (i := 9) rfl (vis_by (by decide +kernel))) dkw_nil) rfl)) db_nil))) (DE.bo (de_callB C (dc_repr C.gd C.units) (by decide +kernel) m_repr boot_repr (db_cons C (DE.bo (de_var C (i := 7) rfl (vis_by (by decide +kernel)))) db_nil))))))) (dss_one (ds_ret C de_bl)) dss_nil))) dss_nil))))) (by decide +kernel)))
    (dss_cons (ds_set C (i := 9) rfl (loc_by (by decide +kernel)) (.inl (hfn _)) (de_bin C dop_add (DE.bo (de_callT C dc_str (by decide +kernel) m_str boot_str (db_cons C (DE.bo (de_var C (i := 4) rfl (vis_by (by decide +kernel)))) db_nil))) (DE.bo (de_fn C hE M__law_of (by decide) (by decide +kernel) a__law_of kp__law_of b__law_of_2 .nil (das_pot C (i := 0) rfl (vis_by (by decide +kernel)) (das_dat C (DF.da C (df_lst C (da_cons C de_str (da_cons C de_str (da_cons C de_str (da_cons C de_str (da_cons C de_str (da_cons C de_str (da_cons C de_str (da_cons C de_str (da_cons C (de_bin C dop_add (DE.bo de_str) (DE.bo (de_callT C dc_str (by decide +kernel) m_str boot_str (db_cons C (DE.bo (de_var C (i := 5) rfl (vis_by (by decide +kernel)))) db_nil)))) (da_cons C (de_bin C dop_mul (DE.bo de_str) (DE.bo de_int)) da_nil)))))))))))) das_nil)) rfl))))
    (dss_cons (ds_for C 0 (di_seq C (de_tup C (da_cons C (de_var C (i := 9) rfl (vis_by (by decide +kernel))) (da_cons C de_str (da_cons C de_str (da_cons C de_str (da_cons C de_str (da_cons C (de_fn C hE M__law_odd (by decide) (by decide +kernel) a__law_odd kp__law_odd b__law_odd_1 .nil (das_pot C (i := 0) rfl (vis_by (by decide +kernel)) das_nil) rfl) da_nil)))))))) (dg_name C (i := 3) rfl (loc_by (by decide +kernel)) (.inl (hfn _))) (DSs.le (c := 0) (dss_cons (ds_set C (i := 8) rfl (loc_by (by decide +kernel)) (.inl (hfn _)) (de_if C (dt_val (DE.bo (de_isi C isi_str (by decide +kernel) m_isinstance (by decide +kernel) m_str boot_str (DE.bo (de_var C (i := 3) rfl (vis_by (by decide +kernel))))))) (de_fn C hE M__law_own_read (by decide) (by decide +kernel) a__law_own_read kp__law_own_read b__law_own_read_1 .nil (das_dat C (de_var C (i := 3) rfl (vis_by (by decide +kernel))) das_nil) rfl) de_non))
    (dss_one (ds_if C (dt_cmp C (dop_ne C.units) (DE.bo (de_callB C (dc_repr C.gd C.units) (by decide +kernel) m_repr boot_repr (db_cons C (DE.bo (de_fn C hE M_read_fraction (by decide) (by decide +kernel) a_read_fraction kp_read_fraction b_read_fraction_1 .nil (das_dat C (de_var C (i := 3) rfl (vis_by (by decide +kernel))) das_nil) rfl)) db_nil))) (DE.bo (de_callB C (dc_repr C.gd C.units) (by decide +kernel) m_repr boot_repr (db_cons C (DE.bo (de_var C (i := 8) rfl (vis_by (by decide +kernel)))) db_nil)))) (dss_one (ds_ret C de_bl)) dss_nil))) (by decide +kernel)))
    (dss_one (ds_ret C de_bl))))))))))
  exact ⟨_, by decide +kernel, d⟩
abbrev s_law : Stmt := topS 30
theorem sc_law : FnScope N_law ["script"] (defScope s_law) := ⟨rfl, rfl, rfl, by decide +kernel, rfl, by decide +kernel, by decide +kernel⟩
theorem ok_law {P : Program} {w : World} {K : PySem.W.Frag} {mg : Str → Option Value} {base : Heap} {f : Addr} {od an : Option Addr} {osl : Array (Option Value)} {oc dV kV doc pm cdv ct : Value}
    (lk : K.lookup f = some ⟨oc, od, .func (PySem.W.fnOf "law" "law" (defArgs s_law) (defBody s_law) (defScope s_law) dV kV doc pm an cdv ct), osl⟩) (cd : PySem.W.codeIn K cdv "law" = true)
    {f__law_cells : Addr} {fd__law_cells : FuncData} (M__law_cells : FnD P w K mg base 1 f__law_cells fd__law_cells ["script", "most"] F__law_cells 0) (a__law_cells : mg "_law_cells" = some (.ref f__law_cells)) (kp__law_cells : PySem.W.keepIn K (.ref f__law_cells) = true)
    {f__law_pot : Addr} {fd__law_pot : FuncData} (M__law_pot : FnD P w K mg base 1 f__law_pot fd__law_pot ["script", "place"] F__law_pot 0) (a__law_pot : mg "_law_pot" = some (.ref f__law_pot)) (kp__law_pot : PySem.W.keepIn K (.ref f__law_pot) = true)
    {f__law_right : Addr} {fd__law_right : FuncData} (M__law_right : FnD P w K mg base 5 f__law_right fd__law_right ["pot"] F__law_right 622) (a__law_right : mg "_law_right" = some (.ref f__law_right)) (kp__law_right : PySem.W.keepIn K (.ref f__law_right) = true)
    (b__law_cells_2 : BindG K fd__law_cells ["script", "most"] 2 [] [])
    (b__law_pot_2 : BindG K fd__law_pot ["script", "place"] 2 [] [])
    (b__law_right_1 : BindG K fd__law_right ["pot"] 1 [] [])
    (m_all : mg "all" = none)
    (m_range : mg "range" = none) :
    FnD P w K mg base 6 f (PySem.W.fnOf "law" "law" (defArgs s_law) (defBody s_law) (defScope s_law) dV kV doc pm an cdv ct) ["script"] F_law 0 := by
  unfold F_law
  refine fnd_by lk cd sc_law (g := G_law) (by decide) (fun X W E hE h1 h2 h3 h4 h5 hfn C => ?_)
  subst h1 h2 h3 h4 h5
  have d : DSs X W (defBody s_law) (G_law E) _ := (dss_cons (ds_for C 0 (di_seq C (de_fn C hE M__law_cells (by decide) (by decide +kernel) a__law_cells kp__law_cells b__law_cells_2 .nil (das_scr C (i := 0) rfl (vis_by (by decide +kernel)) (das_dat C de_int das_nil)) rfl)) (dg_name C (i := 1) rfl (loc_by (by decide +kernel)) (.inl (hfn _))) (DSs.le (c := 0) (dss_pot C hE M__law_pot (by decide) (by decide +kernel) a__law_pot kp__law_pot b__law_pot_2 rfl (i := 2) (l := 0) (m := 1) rfl (loc_by (by decide +kernel)) (.inl (hfn _)) rfl (vis_by (by decide +kernel)) rfl (vis_by (by decide +kernel)) (by decide) (fun _ hp Cp => (dss_one (ds_if Cp (dt_not (dt_val (DE.bo (de_callB Cp (dc_all Cp.calm) (by decide +kernel) m_all boot_all (db_cons Cp (DE.bo (DF.da Cp (df_lc (own := [("lap", 3)]) Cp 2488 (DI.bo (di_range1 Cp (by decide +kernel) m_range (DE.bo de_int))) (blkOk_by (own := [("lap", 3)]) (by decide +kernel)) (blk_use Cp fun _ _ _ _ _ _ C1 => (dg_name C1 (i := 3) rfl (loc_by (by decide +kernel)) (.inr (by decide +kernel)))) (blk_use Cp fun _ _ _ _ _ _ C1 => PTsD.le (c := 0) dts_nil (by decide +kernel)) (blk_use Cp fun _ _ _ _ _ _ C1 => DE.le (c := 622) (de_fn C1 rfl M__law_right (by decide) (by decide +kernel) a__law_right kp__law_right b__law_right_1 .nil (das_pot C1 (i := 2) rfl (vis_by (by decide +kernel)) das_nil) rfl) (by decide +kernel)) (by decide)))) db_nil))))) (dss_one (ds_ret Cp de_bl)) dss_nil)))) (by decide +kernel)))
    (dss_one (ds_ret C de_bl)))
  exact ⟨_, by decide +kernel, d⟩
end K00
/-! K00: what the top has written; the end (printed by gen.py). -/
namespace K00
open PySem PySem.Spec PyProof.Rows L2 DL
theorem all_mk {l : PySem.W.OpenLaw} {w : World} {K : PySem.W.Frag} {h : Heap} {mg : Str → Option Value} {fa : Addr} (X : K.In h) (G : h.Ns mainGlobals mg) (hfa : mg "law" = some (.ref fa))
    {f__law_cells : Addr} {od__law_cells an__law_cells : Option Addr} {sl__law_cells : Array (Option Value)} {oc__law_cells kV__law_cells dc__law_cells pm__law_cells cd__law_cells ct__law_cells : Value}
    (a__law_cells : PySem.W.nsIn K mainGlobals "_law_cells" = some (some (.ref f__law_cells))) (l__law_cells : K.lookup f__law_cells = some ⟨oc__law_cells, od__law_cells, .func (PySem.W.fnOf "_law_cells" "_law_cells" (defArgs s__law_cells) (defBody s__law_cells) (defScope s__law_cells) .none kV__law_cells dc__law_cells pm__law_cells an__law_cells cd__law_cells ct__law_cells), sl__law_cells⟩) (c__law_cells : PySem.W.codeIn K cd__law_cells "_law_cells" = true) (k__law_cells : PySem.W.keepIn K (.ref f__law_cells) = true)
    {f__law_pot : Addr} {od__law_pot an__law_pot : Option Addr} {sl__law_pot : Array (Option Value)} {oc__law_pot kV__law_pot dc__law_pot pm__law_pot cd__law_pot ct__law_pot : Value}
    (a__law_pot : PySem.W.nsIn K mainGlobals "_law_pot" = some (some (.ref f__law_pot))) (l__law_pot : K.lookup f__law_pot = some ⟨oc__law_pot, od__law_pot, .func (PySem.W.fnOf "_law_pot" "_law_pot" (defArgs s__law_pot) (defBody s__law_pot) (defScope s__law_pot) .none kV__law_pot dc__law_pot pm__law_pot an__law_pot cd__law_pot ct__law_pot), sl__law_pot⟩) (c__law_pot : PySem.W.codeIn K cd__law_pot "_law_pot" = true) (k__law_pot : PySem.W.keepIn K (.ref f__law_pot) = true)
    {f__law_common : Addr} {od__law_common an__law_common : Option Addr} {sl__law_common : Array (Option Value)} {oc__law_common kV__law_common dc__law_common pm__law_common cd__law_common ct__law_common : Value}
    (a__law_common : PySem.W.nsIn K mainGlobals "_law_common" = some (some (.ref f__law_common))) (l__law_common : K.lookup f__law_common = some ⟨oc__law_common, od__law_common, .func (PySem.W.fnOf "_law_common" "_law_common" (defArgs s__law_common) (defBody s__law_common) (defScope s__law_common) .none kV__law_common dc__law_common pm__law_common an__law_common cd__law_common ct__law_common), sl__law_common⟩) (c__law_common : PySem.W.codeIn K cd__law_common "_law_common" = true) (k__law_common : PySem.W.keepIn K (.ref f__law_common) = true)
    {f__law_take : Addr} {od__law_take an__law_take : Option Addr} {sl__law_take : Array (Option Value)} {oc__law_take kV__law_take dc__law_take pm__law_take cd__law_take ct__law_take : Value}
    (a__law_take : PySem.W.nsIn K mainGlobals "_law_take" = some (some (.ref f__law_take))) (l__law_take : K.lookup f__law_take = some ⟨oc__law_take, od__law_take, .func (PySem.W.fnOf "_law_take" "_law_take" (defArgs s__law_take) (defBody s__law_take) (defScope s__law_take) .none kV__law_take dc__law_take pm__law_take an__law_take cd__law_take ct__law_take), sl__law_take⟩) (c__law_take : PySem.W.codeIn K cd__law_take "_law_take" = true) (k__law_take : PySem.W.keepIn K (.ref f__law_take) = true)
    {f__law_of : Addr} {od__law_of an__law_of : Option Addr} {sl__law_of : Array (Option Value)} {oc__law_of kV__law_of dc__law_of pm__law_of cd__law_of ct__law_of : Value}
    (a__law_of : PySem.W.nsIn K mainGlobals "_law_of" = some (some (.ref f__law_of))) (l__law_of : K.lookup f__law_of = some ⟨oc__law_of, od__law_of, .func (PySem.W.fnOf "_law_of" "_law_of" (defArgs s__law_of) (defBody s__law_of) (defScope s__law_of) .none kV__law_of dc__law_of pm__law_of an__law_of cd__law_of ct__law_of), sl__law_of⟩) (c__law_of : PySem.W.codeIn K cd__law_of "_law_of" = true) (k__law_of : PySem.W.keepIn K (.ref f__law_of) = true)
    {f__law_number : Addr} {od__law_number an__law_number : Option Addr} {sl__law_number : Array (Option Value)} {oc__law_number kV__law_number dc__law_number pm__law_number cd__law_number ct__law_number : Value}
    (a__law_number : PySem.W.nsIn K mainGlobals "_law_number" = some (some (.ref f__law_number))) (l__law_number : K.lookup f__law_number = some ⟨oc__law_number, od__law_number, .func (PySem.W.fnOf "_law_number" "_law_number" (defArgs s__law_number) (defBody s__law_number) (defScope s__law_number) .none kV__law_number dc__law_number pm__law_number an__law_number cd__law_number ct__law_number), sl__law_number⟩) (c__law_number : PySem.W.codeIn K cd__law_number "_law_number" = true) (k__law_number : PySem.W.keepIn K (.ref f__law_number) = true)
    {f__law_odd : Addr} {od__law_odd an__law_odd : Option Addr} {sl__law_odd : Array (Option Value)} {oc__law_odd kV__law_odd dc__law_odd pm__law_odd cd__law_odd ct__law_odd : Value}
    (a__law_odd : PySem.W.nsIn K mainGlobals "_law_odd" = some (some (.ref f__law_odd))) (l__law_odd : K.lookup f__law_odd = some ⟨oc__law_odd, od__law_odd, .func (PySem.W.fnOf "_law_odd" "_law_odd" (defArgs s__law_odd) (defBody s__law_odd) (defScope s__law_odd) .none kV__law_odd dc__law_odd pm__law_odd an__law_odd cd__law_odd ct__law_odd), sl__law_odd⟩) (c__law_odd : PySem.W.codeIn K cd__law_odd "_law_odd" = true) (k__law_odd : PySem.W.keepIn K (.ref f__law_odd) = true)
    {f_is_word : Addr} {od_is_word an_is_word : Option Addr} {sl_is_word : Array (Option Value)} {oc_is_word kV_is_word dc_is_word pm_is_word cd_is_word ct_is_word : Value}
    (a_is_word : PySem.W.nsIn K mainGlobals "is_word" = some (some (.ref f_is_word))) (l_is_word : K.lookup f_is_word = some ⟨oc_is_word, od_is_word, .func (PySem.W.fnOf "is_word" "is_word" (defArgs s_is_word) (defBody s_is_word) (defScope s_is_word) .none kV_is_word dc_is_word pm_is_word an_is_word cd_is_word ct_is_word), sl_is_word⟩) (c_is_word : PySem.W.codeIn K cd_is_word "is_word" = true) (k_is_word : PySem.W.keepIn K (.ref f_is_word) = true)
    {f__law_own_word : Addr} {od__law_own_word an__law_own_word : Option Addr} {sl__law_own_word : Array (Option Value)} {oc__law_own_word kV__law_own_word dc__law_own_word pm__law_own_word cd__law_own_word ct__law_own_word : Value}
    (a__law_own_word : PySem.W.nsIn K mainGlobals "_law_own_word" = some (some (.ref f__law_own_word))) (l__law_own_word : K.lookup f__law_own_word = some ⟨oc__law_own_word, od__law_own_word, .func (PySem.W.fnOf "_law_own_word" "_law_own_word" (defArgs s__law_own_word) (defBody s__law_own_word) (defScope s__law_own_word) .none kV__law_own_word dc__law_own_word pm__law_own_word an__law_own_word cd__law_own_word ct__law_own_word), sl__law_own_word⟩) (c__law_own_word : PySem.W.codeIn K cd__law_own_word "_law_own_word" = true) (k__law_own_word : PySem.W.keepIn K (.ref f__law_own_word) = true)
    {f_is_name : Addr} {od_is_name an_is_name : Option Addr} {sl_is_name : Array (Option Value)} {oc_is_name kV_is_name dc_is_name pm_is_name cd_is_name ct_is_name : Value}
    (a_is_name : PySem.W.nsIn K mainGlobals "is_name" = some (some (.ref f_is_name))) (l_is_name : K.lookup f_is_name = some ⟨oc_is_name, od_is_name, .func (PySem.W.fnOf "is_name" "is_name" (defArgs s_is_name) (defBody s_is_name) (defScope s_is_name) .none kV_is_name dc_is_name pm_is_name an_is_name cd_is_name ct_is_name), sl_is_name⟩) (c_is_name : PySem.W.codeIn K cd_is_name "is_name" = true) (k_is_name : PySem.W.keepIn K (.ref f_is_name) = true)
    {f__law_own_name : Addr} {od__law_own_name an__law_own_name : Option Addr} {sl__law_own_name : Array (Option Value)} {oc__law_own_name kV__law_own_name dc__law_own_name pm__law_own_name cd__law_own_name ct__law_own_name : Value}
    (a__law_own_name : PySem.W.nsIn K mainGlobals "_law_own_name" = some (some (.ref f__law_own_name))) (l__law_own_name : K.lookup f__law_own_name = some ⟨oc__law_own_name, od__law_own_name, .func (PySem.W.fnOf "_law_own_name" "_law_own_name" (defArgs s__law_own_name) (defBody s__law_own_name) (defScope s__law_own_name) .none kV__law_own_name dc__law_own_name pm__law_own_name an__law_own_name cd__law_own_name ct__law_own_name), sl__law_own_name⟩) (c__law_own_name : PySem.W.codeIn K cd__law_own_name "_law_own_name" = true) (k__law_own_name : PySem.W.keepIn K (.ref f__law_own_name) = true)
    {f_common : Addr} {od_common an_common : Option Addr} {sl_common : Array (Option Value)} {oc_common kV_common dc_common pm_common cd_common ct_common : Value}
    (a_common : PySem.W.nsIn K mainGlobals "common" = some (some (.ref f_common))) (l_common : K.lookup f_common = some ⟨oc_common, od_common, .func (PySem.W.fnOf "common" "common" (defArgs s_common) (defBody s_common) (defScope s_common) .none kV_common dc_common pm_common an_common cd_common ct_common), sl_common⟩) (c_common : PySem.W.codeIn K cd_common "common" = true) (k_common : PySem.W.keepIn K (.ref f_common) = true)
    {f_is_integer : Addr} {od_is_integer an_is_integer : Option Addr} {sl_is_integer : Array (Option Value)} {oc_is_integer kV_is_integer dc_is_integer pm_is_integer cd_is_integer ct_is_integer : Value}
    (a_is_integer : PySem.W.nsIn K mainGlobals "is_integer" = some (some (.ref f_is_integer))) (l_is_integer : K.lookup f_is_integer = some ⟨oc_is_integer, od_is_integer, .func (PySem.W.fnOf "is_integer" "is_integer" (defArgs s_is_integer) (defBody s_is_integer) (defScope s_is_integer) .none kV_is_integer dc_is_integer pm_is_integer an_is_integer cd_is_integer ct_is_integer), sl_is_integer⟩) (c_is_integer : PySem.W.codeIn K cd_is_integer "is_integer" = true) (k_is_integer : PySem.W.keepIn K (.ref f_is_integer) = true)
    {f_is_fraction : Addr} {od_is_fraction an_is_fraction : Option Addr} {sl_is_fraction : Array (Option Value)} {oc_is_fraction kV_is_fraction dc_is_fraction pm_is_fraction cd_is_fraction ct_is_fraction : Value}
    (a_is_fraction : PySem.W.nsIn K mainGlobals "is_fraction" = some (some (.ref f_is_fraction))) (l_is_fraction : K.lookup f_is_fraction = some ⟨oc_is_fraction, od_is_fraction, .func (PySem.W.fnOf "is_fraction" "is_fraction" (defArgs s_is_fraction) (defBody s_is_fraction) (defScope s_is_fraction) .none kV_is_fraction dc_is_fraction pm_is_fraction an_is_fraction cd_is_fraction ct_is_fraction), sl_is_fraction⟩) (c_is_fraction : PySem.W.codeIn K cd_is_fraction "is_fraction" = true) (k_is_fraction : PySem.W.keepIn K (.ref f_is_fraction) = true)
    {f__law_own_read : Addr} {od__law_own_read an__law_own_read : Option Addr} {sl__law_own_read : Array (Option Value)} {oc__law_own_read kV__law_own_read dc__law_own_read pm__law_own_read cd__law_own_read ct__law_own_read : Value}
    (a__law_own_read : PySem.W.nsIn K mainGlobals "_law_own_read" = some (some (.ref f__law_own_read))) (l__law_own_read : K.lookup f__law_own_read = some ⟨oc__law_own_read, od__law_own_read, .func (PySem.W.fnOf "_law_own_read" "_law_own_read" (defArgs s__law_own_read) (defBody s__law_own_read) (defScope s__law_own_read) .none kV__law_own_read dc__law_own_read pm__law_own_read an__law_own_read cd__law_own_read ct__law_own_read), sl__law_own_read⟩) (c__law_own_read : PySem.W.codeIn K cd__law_own_read "_law_own_read" = true) (k__law_own_read : PySem.W.keepIn K (.ref f__law_own_read) = true)
    {f_read_integer : Addr} {od_read_integer an_read_integer : Option Addr} {sl_read_integer : Array (Option Value)} {oc_read_integer kV_read_integer dc_read_integer pm_read_integer cd_read_integer ct_read_integer : Value}
    {tt_read_integer_0 : Tok}
    {T_read_integer : Addr} {oT_read_integer : Value} {oD_read_integer : Option Addr} {nT_read_integer : Nat} {sT_read_integer : Array (Option Value)} (lT_read_integer : K.lookup T_read_integer = some ⟨oT_read_integer, oD_read_integer, .seq #[.int 300 tt_read_integer_0] nT_read_integer, sT_read_integer⟩)
    (a_read_integer : PySem.W.nsIn K mainGlobals "read_integer" = some (some (.ref f_read_integer))) (l_read_integer : K.lookup f_read_integer = some ⟨oc_read_integer, od_read_integer, .func (PySem.W.fnOf "read_integer" "read_integer" (defArgs s_read_integer) (defBody s_read_integer) (defScope s_read_integer) (.ref T_read_integer) kV_read_integer dc_read_integer pm_read_integer an_read_integer cd_read_integer ct_read_integer), sl_read_integer⟩) (c_read_integer : PySem.W.codeIn K cd_read_integer "read_integer" = true) (k_read_integer : PySem.W.keepIn K (.ref f_read_integer) = true)
    {f_read_of_figures : Addr} {od_read_of_figures an_read_of_figures : Option Addr} {sl_read_of_figures : Array (Option Value)} {oc_read_of_figures kV_read_of_figures dc_read_of_figures pm_read_of_figures cd_read_of_figures ct_read_of_figures : Value}
    (a_read_of_figures : PySem.W.nsIn K mainGlobals "read_of_figures" = some (some (.ref f_read_of_figures))) (l_read_of_figures : K.lookup f_read_of_figures = some ⟨oc_read_of_figures, od_read_of_figures, .func (PySem.W.fnOf "read_of_figures" "read_of_figures" (defArgs s_read_of_figures) (defBody s_read_of_figures) (defScope s_read_of_figures) .none kV_read_of_figures dc_read_of_figures pm_read_of_figures an_read_of_figures cd_read_of_figures ct_read_of_figures), sl_read_of_figures⟩) (c_read_of_figures : PySem.W.codeIn K cd_read_of_figures "read_of_figures" = true) (k_read_of_figures : PySem.W.keepIn K (.ref f_read_of_figures) = true)
    {f_read_fraction : Addr} {od_read_fraction an_read_fraction : Option Addr} {sl_read_fraction : Array (Option Value)} {oc_read_fraction kV_read_fraction dc_read_fraction pm_read_fraction cd_read_fraction ct_read_fraction : Value}
    (a_read_fraction : PySem.W.nsIn K mainGlobals "read_fraction" = some (some (.ref f_read_fraction))) (l_read_fraction : K.lookup f_read_fraction = some ⟨oc_read_fraction, od_read_fraction, .func (PySem.W.fnOf "read_fraction" "read_fraction" (defArgs s_read_fraction) (defBody s_read_fraction) (defScope s_read_fraction) .none kV_read_fraction dc_read_fraction pm_read_fraction an_read_fraction cd_read_fraction ct_read_fraction), sl_read_fraction⟩) (c_read_fraction : PySem.W.codeIn K cd_read_fraction "read_fraction" = true) (k_read_fraction : PySem.W.keepIn K (.ref f_read_fraction) = true)
    {f_fraction_text : Addr} {od_fraction_text an_fraction_text : Option Addr} {sl_fraction_text : Array (Option Value)} {oc_fraction_text kV_fraction_text dc_fraction_text pm_fraction_text cd_fraction_text ct_fraction_text : Value}
    (a_fraction_text : PySem.W.nsIn K mainGlobals "fraction_text" = some (some (.ref f_fraction_text))) (l_fraction_text : K.lookup f_fraction_text = some ⟨oc_fraction_text, od_fraction_text, .func (PySem.W.fnOf "fraction_text" "fraction_text" (defArgs s_fraction_text) (defBody s_fraction_text) (defScope s_fraction_text) .none kV_fraction_text dc_fraction_text pm_fraction_text an_fraction_text cd_fraction_text ct_fraction_text), sl_fraction_text⟩) (c_fraction_text : PySem.W.codeIn K cd_fraction_text "fraction_text" = true) (k_fraction_text : PySem.W.keepIn K (.ref f_fraction_text) = true)
    {f__law_right : Addr} {od__law_right an__law_right : Option Addr} {sl__law_right : Array (Option Value)} {oc__law_right kV__law_right dc__law_right pm__law_right cd__law_right ct__law_right : Value}
    (a__law_right : PySem.W.nsIn K mainGlobals "_law_right" = some (some (.ref f__law_right))) (l__law_right : K.lookup f__law_right = some ⟨oc__law_right, od__law_right, .func (PySem.W.fnOf "_law_right" "_law_right" (defArgs s__law_right) (defBody s__law_right) (defScope s__law_right) .none kV__law_right dc__law_right pm__law_right an__law_right cd__law_right ct__law_right), sl__law_right⟩) (c__law_right : PySem.W.codeIn K cd__law_right "_law_right" = true) (k__law_right : PySem.W.keepIn K (.ref f__law_right) = true)
    {f_law : Addr} {od_law an_law : Option Addr} {sl_law : Array (Option Value)} {oc_law kV_law dc_law pm_law cd_law ct_law : Value}
    (a_law : PySem.W.nsIn K mainGlobals "law" = some (some (.ref f_law))) (l_law : K.lookup f_law = some ⟨oc_law, od_law, .func (PySem.W.fnOf "law" "law" (defArgs s_law) (defBody s_law) (defScope s_law) .none kV_law dc_law pm_law an_law cd_law ct_law), sl_law⟩) (c_law : PySem.W.codeIn K cd_law "law" = true) (k_law : PySem.W.keepIn K (.ref f_law) = true)
    (z_max : PySem.W.nsIn K mainGlobals "max" = some none)
    (z_min : PySem.W.nsIn K mainGlobals "min" = some none)
    (z_len : PySem.W.nsIn K mainGlobals "len" = some none)
    (z_list : PySem.W.nsIn K mainGlobals "list" = some none)
    (z_range : PySem.W.nsIn K mainGlobals "range" = some none)
    (z_sum : PySem.W.nsIn K mainGlobals "sum" = some none)
    (z_int : PySem.W.nsIn K mainGlobals "int" = some none)
    (z_abs : PySem.W.nsIn K mainGlobals "abs" = some none)
    (z_isinstance : PySem.W.nsIn K mainGlobals "isinstance" = some none)
    (z_str : PySem.W.nsIn K mainGlobals "str" = some none)
    (z_all : PySem.W.nsIn K mainGlobals "all" = some none)
    (z_bool : PySem.W.nsIn K mainGlobals "bool" = some none)
    (z_tuple : PySem.W.nsIn K mainGlobals "tuple" = some none)
    (z_repr : PySem.W.nsIn K mainGlobals "repr" = some none)
    {t_MOST_SIGNS_1 : Tok}
    (z_MOST_SIGNS : PySem.W.nsIn K mainGlobals "MOST_SIGNS" = some (some (.int 8 t_MOST_SIGNS_1)))
    {t_FIGURES_1 : Tok}
    (z_FIGURES : PySem.W.nsIn K mainGlobals "FIGURES" = some (some (.str "0123456789" t_FIGURES_1)))
    {t_SMALL_1 : Tok}
    (z_SMALL : PySem.W.nsIn K mainGlobals "SMALL" = some (some (.str "abcdefghijklmnopqrstuvwxyz" t_SMALL_1)))
    {t_RESERVED_2 : Tok}
    {t_RESERVED_3 : Tok}
    {t_RESERVED_4 : Tok}
    {t_RESERVED_5 : Tok}
    {t_RESERVED_6 : Tok}
    {t_RESERVED_7 : Tok}
    {t_RESERVED_8 : Tok}
    {t_RESERVED_9 : Tok}
    {t_RESERVED_10 : Tok}
    {t_RESERVED_11 : Tok}
    {t_RESERVED_12 : Tok}
    {t_RESERVED_13 : Tok}
    {t_RESERVED_14 : Tok}
    {t_RESERVED_15 : Tok}
    {t_RESERVED_16 : Tok}
    {t_RESERVED_17 : Tok}
    {t_RESERVED_18 : Tok}
    {t_RESERVED_19 : Tok}
    {t_RESERVED_20 : Tok}
    {t_RESERVED_21 : Tok}
    {t_RESERVED_22 : Tok}
    {t_RESERVED_23 : Tok}
    {t_RESERVED_24 : Tok}
    {t_RESERVED_25 : Tok}
    {t_RESERVED_26 : Tok}
    {t_RESERVED_27 : Tok}
    {t_RESERVED_28 : Tok}
    {t_RESERVED_29 : Tok}
    {T_RESERVED_1 : Addr} {oD_RESERVED_1 : Option Addr} {nT_RESERVED_1 : Nat} {sT_RESERVED_1 : Array (Option Value)} (lc_RESERVED_1 : K.lookup T_RESERVED_1 = some ⟨.type "tuple", oD_RESERVED_1, .seq #[(.str "number" t_RESERVED_2), (.str "word" t_RESERVED_3), (.str "keep" t_RESERVED_4), (.str "is" t_RESERVED_5), (.str "not" t_RESERVED_6), (.str "from" t_RESERVED_7), (.str "to" t_RESERVED_8), (.str "above" t_RESERVED_9), (.str "below" t_RESERVED_10), (.str "let" t_RESERVED_11), (.str "group" t_RESERVED_12), (.str "tell" t_RESERVED_13), (.str "count" t_RESERVED_14), (.str "sum" t_RESERVED_15), (.str "mean" t_RESERVED_16), (.str "least" t_RESERVED_17), (.str "most" t_RESERVED_18), (.str "mark" t_RESERVED_19), (.str "bars" t_RESERVED_20), (.str "points" t_RESERVED_21), (.str "lines" t_RESERVED_22), (.str "cells" t_RESERVED_23), (.str "stack" t_RESERVED_24), (.str "across" t_RESERVED_25), (.str "up" t_RESERVED_26), (.str "ink" t_RESERVED_27), (.str "panels" t_RESERVED_28), (.str "title" t_RESERVED_29)] nT_RESERVED_1, sT_RESERVED_1⟩)
    (z_RESERVED : PySem.W.nsIn K mainGlobals "RESERVED" = some (some (.ref T_RESERVED_1)))
    (z_gcd : PySem.W.nsIn K mainGlobals "gcd" = some (some (.builtin "math.gcd")))
    {t_MINUS_1 : Tok}
    (z_MINUS : PySem.W.nsIn K mainGlobals "MINUS" = some (some (.str "-" t_MINUS_1)))
    {t_STROKE_1 : Tok}
    (z_STROKE : PySem.W.nsIn K mainGlobals "STROKE" = some (some (.str "/" t_STROKE_1)))
    {t_MOST_FIGURES_1 : Tok}
    (z_MOST_FIGURES : PySem.W.nsIn K mainGlobals "MOST_FIGURES" = some (some (.int 300 t_MOST_FIGURES_1))) :
    ∃ fd : FuncData, (∀ (s : Shared) (v : Value), BindsTo s fd ⟨[v], []⟩ [("script", v)]) ∧ ∀ base : Heap, K.In base → base.Ns mainGlobals mg → FnD l.prog w K mg base 6 fa fd ["script"] F_law 0 := by
  have b__law_take_2 : BindG K (PySem.W.fnOf "_law_take" "_law_take" (defArgs s__law_take) (defBody s__law_take) (defScope s__law_take) .none kV__law_take dc__law_take pm__law_take an__law_take cd__law_take ct__law_take) ["pot", "upto"] 2 [] [] := BindG.plain fun us ws h1 h2 => match us, ws, h1, h2 with | [_, _], [], _, _ => rfl
  have b__law_of_2 : BindG K (PySem.W.fnOf "_law_of" "_law_of" (defArgs s__law_of) (defBody s__law_of) (defScope s__law_of) .none kV__law_of dc__law_of pm__law_of an__law_of cd__law_of ct__law_of) ["pot", "some"] 2 [] [] := BindG.plain fun us ws h1 h2 => match us, ws, h1, h2 with | [_, _], [], _, _ => rfl
  have b_is_word_1 : BindG K (PySem.W.fnOf "is_word" "is_word" (defArgs s_is_word) (defBody s_is_word) (defScope s_is_word) .none kV_is_word dc_is_word pm_is_word an_is_word cd_is_word ct_is_word) ["value"] 1 [] [] := BindG.plain fun us ws h1 h2 => match us, ws, h1, h2 with | [_], [], _, _ => rfl
  have b__law_own_word_1 : BindG K (PySem.W.fnOf "_law_own_word" "_law_own_word" (defArgs s__law_own_word) (defBody s__law_own_word) (defScope s__law_own_word) .none kV__law_own_word dc__law_own_word pm__law_own_word an__law_own_word cd__law_own_word ct__law_own_word) ["value"] 1 [] [] := BindG.plain fun us ws h1 h2 => match us, ws, h1, h2 with | [_], [], _, _ => rfl
  have b_is_integer_1 : BindG K (PySem.W.fnOf "is_integer" "is_integer" (defArgs s_is_integer) (defBody s_is_integer) (defScope s_is_integer) .none kV_is_integer dc_is_integer pm_is_integer an_is_integer cd_is_integer ct_is_integer) ["value"] 1 [] [] := BindG.plain fun us ws h1 h2 => match us, ws, h1, h2 with | [_], [], _, _ => rfl
  have b_common_2 : BindG K (PySem.W.fnOf "common" "common" (defArgs s_common) (defBody s_common) (defScope s_common) .none kV_common dc_common pm_common an_common cd_common ct_common) ["one", "other"] 2 [] [] := BindG.plain fun us ws h1 h2 => match us, ws, h1, h2 with | [_, _], [], _, _ => rfl
  have b__law_common_2 : BindG K (PySem.W.fnOf "_law_common" "_law_common" (defArgs s__law_common) (defBody s__law_common) (defScope s__law_common) .none kV__law_common dc__law_common pm__law_common an__law_common cd__law_common ct__law_common) ["one", "other"] 2 [] [] := BindG.plain fun us ws h1 h2 => match us, ws, h1, h2 with | [_, _], [], _, _ => rfl
  have b_read_integer_2 : BindG K (PySem.W.fnOf "read_integer" "read_integer" (defArgs s_read_integer) (defBody s_read_integer) (defScope s_read_integer) (.ref T_read_integer) kV_read_integer dc_read_integer pm_read_integer an_read_integer cd_read_integer ct_read_integer) ["text", "most"] 2 [] [] := BindG.dfl lT_read_integer rfl fun us ws h1 h2 => match us, ws, h1, h2 with | [_, _], [], _, _ => ⟨_, rfl, rfl⟩
  have b_is_fraction_1 : BindG K (PySem.W.fnOf "is_fraction" "is_fraction" (defArgs s_is_fraction) (defBody s_is_fraction) (defScope s_is_fraction) .none kV_is_fraction dc_is_fraction pm_is_fraction an_is_fraction cd_is_fraction ct_is_fraction) ["value"] 1 [] [] := BindG.plain fun us ws h1 h2 => match us, ws, h1, h2 with | [_], [], _, _ => rfl
  have b_read_of_figures_2 : BindG K (PySem.W.fnOf "read_of_figures" "read_of_figures" (defArgs s_read_of_figures) (defBody s_read_of_figures) (defScope s_read_of_figures) .none kV_read_of_figures dc_read_of_figures pm_read_of_figures an_read_of_figures cd_read_of_figures ct_read_of_figures) ["text", "most"] 2 [] [] := BindG.plain fun us ws h1 h2 => match us, ws, h1, h2 with | [_, _], [], _, _ => rfl
  have b__law_odd_1 : BindG K (PySem.W.fnOf "_law_odd" "_law_odd" (defArgs s__law_odd) (defBody s__law_odd) (defScope s__law_odd) .none kV__law_odd dc__law_odd pm__law_odd an__law_odd cd__law_odd ct__law_odd) ["pot"] 1 [] [] := BindG.plain fun us ws h1 h2 => match us, ws, h1, h2 with | [_], [], _, _ => rfl
  have b_is_word_0_value : BindG K (PySem.W.fnOf "is_word" "is_word" (defArgs s_is_word) (defBody s_is_word) (defScope s_is_word) .none kV_is_word dc_is_word pm_is_word an_is_word cd_is_word ct_is_word) ["value"] 0 ["value"] [] := BindG.plain fun us ws h1 h2 => match us, ws, h1, h2 with | [], [_], _, _ => rfl
  have b_is_name_0_value : BindG K (PySem.W.fnOf "is_name" "is_name" (defArgs s_is_name) (defBody s_is_name) (defScope s_is_name) .none kV_is_name dc_is_name pm_is_name an_is_name cd_is_name ct_is_name) ["value"] 0 ["value"] [] := BindG.plain fun us ws h1 h2 => match us, ws, h1, h2 with | [], [_], _, _ => rfl
  have b__law_own_name_1 : BindG K (PySem.W.fnOf "_law_own_name" "_law_own_name" (defArgs s__law_own_name) (defBody s__law_own_name) (defScope s__law_own_name) .none kV__law_own_name dc__law_own_name pm__law_own_name an__law_own_name cd__law_own_name ct__law_own_name) ["value"] 1 [] [] := BindG.plain fun us ws h1 h2 => match us, ws, h1, h2 with | [_], [], _, _ => rfl
  have b__law_number_1 : BindG K (PySem.W.fnOf "_law_number" "_law_number" (defArgs s__law_number) (defBody s__law_number) (defScope s__law_number) .none kV__law_number dc__law_number pm__law_number an__law_number cd__law_number ct__law_number) ["pot"] 1 [] [] := BindG.plain fun us ws h1 h2 => match us, ws, h1, h2 with | [_], [], _, _ => rfl
  have b_is_fraction_0_value : BindG K (PySem.W.fnOf "is_fraction" "is_fraction" (defArgs s_is_fraction) (defBody s_is_fraction) (defScope s_is_fraction) .none kV_is_fraction dc_is_fraction pm_is_fraction an_is_fraction cd_is_fraction ct_is_fraction) ["value"] 0 ["value"] [] := BindG.plain fun us ws h1 h2 => match us, ws, h1, h2 with | [], [_], _, _ => rfl
  have b_read_fraction_0_text : BindG K (PySem.W.fnOf "read_fraction" "read_fraction" (defArgs s_read_fraction) (defBody s_read_fraction) (defScope s_read_fraction) .none kV_read_fraction dc_read_fraction pm_read_fraction an_read_fraction cd_read_fraction ct_read_fraction) ["text"] 0 ["text"] [] := BindG.plain fun us ws h1 h2 => match us, ws, h1, h2 with | [], [_], _, _ => rfl
  have b_fraction_text_0_one : BindG K (PySem.W.fnOf "fraction_text" "fraction_text" (defArgs s_fraction_text) (defBody s_fraction_text) (defScope s_fraction_text) .none kV_fraction_text dc_fraction_text pm_fraction_text an_fraction_text cd_fraction_text ct_fraction_text) ["one"] 0 ["one"] [] := BindG.plain fun us ws h1 h2 => match us, ws, h1, h2 with | [], [_], _, _ => rfl
  have b__law_own_read_1 : BindG K (PySem.W.fnOf "_law_own_read" "_law_own_read" (defArgs s__law_own_read) (defBody s__law_own_read) (defScope s__law_own_read) .none kV__law_own_read dc__law_own_read pm__law_own_read an__law_own_read cd__law_own_read ct__law_own_read) ["text"] 1 [] [] := BindG.plain fun us ws h1 h2 => match us, ws, h1, h2 with | [_], [], _, _ => rfl
  have b_read_fraction_1 : BindG K (PySem.W.fnOf "read_fraction" "read_fraction" (defArgs s_read_fraction) (defBody s_read_fraction) (defScope s_read_fraction) .none kV_read_fraction dc_read_fraction pm_read_fraction an_read_fraction cd_read_fraction ct_read_fraction) ["text"] 1 [] [] := BindG.plain fun us ws h1 h2 => match us, ws, h1, h2 with | [_], [], _, _ => rfl
  have b__law_cells_2 : BindG K (PySem.W.fnOf "_law_cells" "_law_cells" (defArgs s__law_cells) (defBody s__law_cells) (defScope s__law_cells) .none kV__law_cells dc__law_cells pm__law_cells an__law_cells cd__law_cells ct__law_cells) ["script", "most"] 2 [] [] := BindG.plain fun us ws h1 h2 => match us, ws, h1, h2 with | [_, _], [], _, _ => rfl
  have b__law_pot_2 : BindG K (PySem.W.fnOf "_law_pot" "_law_pot" (defArgs s__law_pot) (defBody s__law_pot) (defScope s__law_pot) .none kV__law_pot dc__law_pot pm__law_pot an__law_pot cd__law_pot ct__law_pot) ["script", "place"] 2 [] [] := BindG.plain fun us ws h1 h2 => match us, ws, h1, h2 with | [_, _], [], _, _ => rfl
  have b__law_right_1 : BindG K (PySem.W.fnOf "_law_right" "_law_right" (defArgs s__law_right) (defBody s__law_right) (defScope s__law_right) .none kV__law_right dc__law_right pm__law_right an__law_right cd__law_right ct__law_right) ["pot"] 1 [] [] := BindG.plain fun us ws h1 h2 => match us, ws, h1, h2 with | [_], [], _, _ => rfl
  have m_max := PySem.W.mg_none_of X G z_max
  have m_min := PySem.W.mg_none_of X G z_min
  have m_len := PySem.W.mg_none_of X G z_len
  have m_list := PySem.W.mg_none_of X G z_list
  have m_range := PySem.W.mg_none_of X G z_range
  have m_sum := PySem.W.mg_none_of X G z_sum
  have m_int := PySem.W.mg_none_of X G z_int
  have m_abs := PySem.W.mg_none_of X G z_abs
  have m_isinstance := PySem.W.mg_none_of X G z_isinstance
  have m_str := PySem.W.mg_none_of X G z_str
  have m_all := PySem.W.mg_none_of X G z_all
  have m_bool := PySem.W.mg_none_of X G z_bool
  have m_tuple := PySem.W.mg_none_of X G z_tuple
  have m_repr := PySem.W.mg_none_of X G z_repr
  have m_MOST_SIGNS := PySem.W.mg_of X G z_MOST_SIGNS
  have r_MOST_SIGNS : KRep K (.int 8 t_MOST_SIGNS_1) d_MOST_SIGNS := KRep.int
  have m_FIGURES := PySem.W.mg_of X G z_FIGURES
  have r_FIGURES : KRep K (.str "0123456789" t_FIGURES_1) d_FIGURES := (KRep.str (by decide +kernel))
  have m_SMALL := PySem.W.mg_of X G z_SMALL
  have r_SMALL : KRep K (.str "abcdefghijklmnopqrstuvwxyz" t_SMALL_1) d_SMALL := (KRep.str (by decide +kernel))
  have m_RESERVED := PySem.W.mg_of X G z_RESERVED
  have r_RESERVED : KRep K (.ref T_RESERVED_1) d_RESERVED := (KRep.tup lc_RESERVED_1 (by decide +kernel) (.cons (KRep.str (by decide +kernel)) (.cons (KRep.str (by decide +kernel)) (.cons (KRep.str (by decide +kernel)) (.cons (KRep.str (by decide +kernel)) (.cons (KRep.str (by decide +kernel)) (.cons (KRep.str (by decide +kernel)) (.cons (KRep.str (by decide +kernel)) (.cons (KRep.str (by decide +kernel)) (.cons (KRep.str (by decide +kernel)) (.cons (KRep.str (by decide +kernel)) (.cons (KRep.str (by decide +kernel)) (.cons (KRep.str (by decide +kernel)) (.cons (KRep.str (by decide +kernel)) (.cons (KRep.str (by decide +kernel)) (.cons (KRep.str (by decide +kernel)) (.cons (KRep.str (by decide +kernel)) (.cons (KRep.str (by decide +kernel)) (.cons (KRep.str (by decide +kernel)) (.cons (KRep.str (by decide +kernel)) (.cons (KRep.str (by decide +kernel)) (.cons (KRep.str (by decide +kernel)) (.cons (KRep.str (by decide +kernel)) (.cons (KRep.str (by decide +kernel)) (.cons (KRep.str (by decide +kernel)) (.cons (KRep.str (by decide +kernel)) (.cons (KRep.str (by decide +kernel)) (.cons (KRep.str (by decide +kernel)) (.cons (KRep.str (by decide +kernel)) KReps.nil)))))))))))))))))))))))))))))
  have m_gcd := PySem.W.mg_of X G z_gcd
  have m_MINUS := PySem.W.mg_of X G z_MINUS
  have r_MINUS : KRep K (.str "-" t_MINUS_1) d_MINUS := (KRep.str (by decide +kernel))
  have m_STROKE := PySem.W.mg_of X G z_STROKE
  have r_STROKE : KRep K (.str "/" t_STROKE_1) d_STROKE := (KRep.str (by decide +kernel))
  have m_MOST_FIGURES := PySem.W.mg_of X G z_MOST_FIGURES
  have r_MOST_FIGURES : KRep K (.int 300 t_MOST_FIGURES_1) d_MOST_FIGURES := KRep.int
  have g__law_cells := PySem.W.mg_of X G a__law_cells
  have g__law_pot := PySem.W.mg_of X G a__law_pot
  have g__law_common := PySem.W.mg_of X G a__law_common
  have g__law_take := PySem.W.mg_of X G a__law_take
  have g__law_of := PySem.W.mg_of X G a__law_of
  have g__law_number := PySem.W.mg_of X G a__law_number
  have g__law_odd := PySem.W.mg_of X G a__law_odd
  have g_is_word := PySem.W.mg_of X G a_is_word
  have g__law_own_word := PySem.W.mg_of X G a__law_own_word
  have g_is_name := PySem.W.mg_of X G a_is_name
  have g__law_own_name := PySem.W.mg_of X G a__law_own_name
  have g_common := PySem.W.mg_of X G a_common
  have g_is_integer := PySem.W.mg_of X G a_is_integer
  have g_is_fraction := PySem.W.mg_of X G a_is_fraction
  have g__law_own_read := PySem.W.mg_of X G a__law_own_read
  have g_read_integer := PySem.W.mg_of X G a_read_integer
  have g_read_of_figures := PySem.W.mg_of X G a_read_of_figures
  have g_read_fraction := PySem.W.mg_of X G a_read_fraction
  have g_fraction_text := PySem.W.mg_of X G a_fraction_text
  have g__law_right := PySem.W.mg_of X G a__law_right
  have g_law := PySem.W.mg_of X G a_law
  have e := hfa.symm.trans g_law
  cases e
  refine ⟨PySem.W.fnOf "law" "law" (defArgs s_law) (defBody s_law) (defScope s_law) .none kV_law dc_law pm_law an_law cd_law ct_law, fun s v => .of_eq rfl, fun base _ _ => ?_⟩
  have M__law_cells := ok__law_cells (P := l.prog) (w := w) (base := base) (mg := mg) l__law_cells c__law_cells m_max m_min m_len m_list m_range
  have M__law_pot := ok__law_pot (P := l.prog) (w := w) (base := base) (mg := mg) l__law_pot c__law_pot m_len m_sum m_int m_abs
  have M__law_common := ok__law_common (P := l.prog) (w := w) (base := base) (mg := mg) l__law_common c__law_common m_abs
  have M__law_take := ok__law_take (P := l.prog) (w := w) (base := base) (mg := mg) l__law_take c__law_take m_int
  have M__law_of := ok__law_of (P := l.prog) (w := w) (base := base) (mg := mg) l__law_of c__law_of M__law_take g__law_take k__law_take b__law_take_2 m_len
  have M__law_number := ok__law_number (P := l.prog) (w := w) (base := base) (mg := mg) l__law_number c__law_number M__law_of g__law_of k__law_of b__law_of_2 m_int m_range
  have M__law_odd := ok__law_odd (P := l.prog) (w := w) (base := base) (mg := mg) l__law_odd c__law_odd M__law_of g__law_of k__law_of M__law_take g__law_take k__law_take b__law_of_2 b__law_take_2 m_range
  have M_is_word := ok_is_word (P := l.prog) (w := w) (base := base) (mg := mg) l_is_word c_is_word m_MOST_SIGNS r_MOST_SIGNS m_FIGURES r_FIGURES m_SMALL r_SMALL m_len m_isinstance m_str m_all
  have M__law_own_word := ok__law_own_word (P := l.prog) (w := w) (base := base) (mg := mg) l__law_own_word c__law_own_word m_len m_isinstance m_str m_all
  have M_is_name := ok_is_name (P := l.prog) (w := w) (base := base) (mg := mg) l_is_name c_is_name M_is_word g_is_word k_is_word b_is_word_1 m_RESERVED r_RESERVED m_SMALL r_SMALL
  have M__law_own_name := ok__law_own_name (P := l.prog) (w := w) (base := base) (mg := mg) l__law_own_name c__law_own_name M__law_own_word g__law_own_word k__law_own_word b__law_own_word_1
  have M_common := ok_common (P := l.prog) (w := w) (base := base) (mg := mg) l_common c_common m_gcd
  have M_is_integer := ok_is_integer (P := l.prog) (w := w) (base := base) (mg := mg) l_is_integer c_is_integer m_isinstance m_bool m_int
  have M_is_fraction := ok_is_fraction (P := l.prog) (w := w) (base := base) (mg := mg) l_is_fraction c_is_fraction M_is_integer g_is_integer k_is_integer M_common g_common k_common b_is_integer_1 b_common_2 m_all m_len m_isinstance m_tuple
  have M__law_own_read := ok__law_own_read (P := l.prog) (w := w) (base := base) (mg := mg) l__law_own_read c__law_own_read M__law_common g__law_common k__law_common b__law_common_2 m_len m_all m_str m_int
  have M_read_integer := ok_read_integer (P := l.prog) (w := w) (base := base) (mg := mg) l_read_integer c_read_integer m_MINUS r_MINUS m_FIGURES r_FIGURES m_all m_len m_int
  have M_read_of_figures := ok_read_of_figures (P := l.prog) (w := w) (base := base) (mg := mg) l_read_of_figures c_read_of_figures M_read_integer g_read_integer k_read_integer M_is_fraction g_is_fraction k_is_fraction b_read_integer_2 b_is_fraction_1 m_STROKE r_STROKE m_isinstance m_str m_len
  have M_read_fraction := ok_read_fraction (P := l.prog) (w := w) (base := base) (mg := mg) l_read_fraction c_read_fraction M_read_of_figures g_read_of_figures k_read_of_figures b_read_of_figures_2 m_MOST_FIGURES r_MOST_FIGURES
  have M_fraction_text := ok_fraction_text (P := l.prog) (w := w) (base := base) (mg := mg) l_fraction_text c_fraction_text m_STROKE r_STROKE m_str
  have M__law_right := ok__law_right (P := l.prog) (w := w) (base := base) (mg := mg) l__law_right c__law_right M__law_take g__law_take k__law_take M__law_of g__law_of k__law_of M__law_odd g__law_odd k__law_odd M_is_word g_is_word k_is_word M__law_own_word g__law_own_word k__law_own_word M_is_name g_is_name k_is_name M__law_own_name g__law_own_name k__law_own_name M__law_number g__law_number k__law_number M__law_common g__law_common k__law_common M_is_fraction g_is_fraction k_is_fraction M_read_fraction g_read_fraction k_read_fraction M_fraction_text g_fraction_text k_fraction_text M__law_own_read g__law_own_read k__law_own_read b__law_take_2 b__law_of_2 b__law_odd_1 b_is_word_0_value b__law_own_word_1 b_is_name_0_value b__law_own_name_1 b__law_number_1 b__law_common_2 b_is_fraction_0_value b_read_fraction_0_text b_fraction_text_0_one b__law_own_read_1 b_read_fraction_1 m_range m_isinstance m_bool m_len m_tuple m_str m_repr
  have M_law := ok_law (P := l.prog) (w := w) (base := base) (mg := mg) l_law c_law M__law_cells g__law_cells k__law_cells M__law_pot g__law_pot k__law_pot M__law_right g__law_right k__law_right b__law_cells_2 b__law_pot_2 b__law_right_1 m_all m_range
  exact M_law
end K00
open PySem PySem.W PyProof.Rows
set_option maxHeartbeats 0 in
theorem PySem.Challenge.cw_whatthepicturesays_k00_words_and_fractio_holds : PySem.Challenge.rw_whatthepicturesays_k00_words_and_fractio.Holds := by
  w_on; o_law; k_head; (case hw => w_witness2)
  k_fill
  refine DL.walk_ofG (l := PySem.Challenge.rw_whatthepicturesays_k00_words_and_fractio) (n := 63) (k := 6) (c := 0) (x := "script") (F := K00.F_law) rfl (by decide) rfl ⟨rfl, by decide, by decide⟩ DL.guards_caller (by decide) (fun w h Y => PySem.W.kIn_of Y) ?F K00.law_true
  case F =>
    intro w mg fa h KX G hmg
    refine' K00.all_mk KX G hmg ?a__law_cells ?l__law_cells ?c__law_cells ?k__law_cells ?a__law_pot ?l__law_pot ?c__law_pot ?k__law_pot ?a__law_common ?l__law_common ?c__law_common ?k__law_common ?a__law_take ?l__law_take ?c__law_take ?k__law_take ?a__law_of ?l__law_of ?c__law_of ?k__law_of ?a__law_number ?l__law_number ?c__law_number ?k__law_number ?a__law_odd ?l__law_odd ?c__law_odd ?k__law_odd ?a_is_word ?l_is_word ?c_is_word ?k_is_word ?a__law_own_word ?l__law_own_word ?c__law_own_word ?k__law_own_word ?a_is_name ?l_is_name ?c_is_name ?k_is_name ?a__law_own_name ?l__law_own_name ?c__law_own_name ?k__law_own_name ?a_common ?l_common ?c_common ?k_common ?a_is_integer ?l_is_integer ?c_is_integer ?k_is_integer ?a_is_fraction ?l_is_fraction ?c_is_fraction ?k_is_fraction ?a__law_own_read ?l__law_own_read ?c__law_own_read ?k__law_own_read ?lT_read_integer ?a_read_integer ?l_read_integer ?c_read_integer ?k_read_integer ?a_read_of_figures ?l_read_of_figures ?c_read_of_figures ?k_read_of_figures ?a_read_fraction ?l_read_fraction ?c_read_fraction ?k_read_fraction ?a_fraction_text ?l_fraction_text ?c_fraction_text ?k_fraction_text ?a__law_right ?l__law_right ?c__law_right ?k__law_right ?a_law ?l_law ?c_law ?k_law ?z_max ?z_min ?z_len ?z_list ?z_range ?z_sum ?z_int ?z_abs ?z_isinstance ?z_str ?z_all ?z_bool ?z_tuple ?z_repr ?z_MOST_SIGNS ?z_FIGURES ?z_SMALL ?lc_RESERVED_1 ?z_RESERVED ?z_gcd ?z_MINUS ?z_STROKE ?z_MOST_FIGURES
    (case a__law_cells => k_is)
    (case a__law_pot => k_is)
    (case a__law_common => k_is)
    (case a__law_take => k_is)
    (case a__law_of => k_is)
    (case a__law_number => k_is)
    (case a__law_odd => k_is)
    (case a_is_word => k_is)
    (case a__law_own_word => k_is)
    (case a_is_name => k_is)
    (case a__law_own_name => k_is)
    (case a_common => k_is)
    (case a_is_integer => k_is)
    (case a_is_fraction => k_is)
    (case a__law_own_read => k_is)
    (case a_read_integer => k_is)
    (case a_read_of_figures => k_is)
    (case a_read_fraction => k_is)
    (case a_fraction_text => k_is)
    (case a__law_right => k_is)
    (case a_law => k_is)
    (case z_max => k_is)
    (case z_min => k_is)
    (case z_len => k_is)
    (case z_list => k_is)
    (case z_range => k_is)
    (case z_sum => k_is)
    (case z_int => k_is)
    (case z_abs => k_is)
    (case z_isinstance => k_is)
    (case z_str => k_is)
    (case z_all => k_is)
    (case z_bool => k_is)
    (case z_tuple => k_is)
    (case z_repr => k_is)
    (case z_MOST_SIGNS => k_is)
    (case z_FIGURES => k_is)
    (case z_SMALL => k_is)
    (case z_RESERVED => k_is)
    (case z_gcd => k_is)
    (case z_MINUS => k_is)
    (case z_STROKE => k_is)
    (case z_MOST_FIGURES => k_is)
    (case l__law_cells => k_is)
    (case l__law_pot => k_is)
    (case l__law_common => k_is)
    (case l__law_take => k_is)
    (case l__law_of => k_is)
    (case l__law_number => k_is)
    (case l__law_odd => k_is)
    (case l_is_word => k_is)
    (case l__law_own_word => k_is)
    (case l_is_name => k_is)
    (case l__law_own_name => k_is)
    (case l_common => k_is)
    (case l_is_integer => k_is)
    (case l_is_fraction => k_is)
    (case l__law_own_read => k_is)
    (case l_read_integer => k_is)
    (case l_read_of_figures => k_is)
    (case l_read_fraction => k_is)
    (case l_fraction_text => k_is)
    (case l__law_right => k_is)
    (case l_law => k_is)
    (case lT_read_integer => k_is)
    (case lc_RESERVED_1 => k_is)
    (case c__law_cells => k_is)
    (case k__law_cells => k_is)
    (case c__law_pot => k_is)
    (case k__law_pot => k_is)
    (case c__law_common => k_is)
    (case k__law_common => k_is)
    (case c__law_take => k_is)
    (case k__law_take => k_is)
    (case c__law_of => k_is)
    (case k__law_of => k_is)
    (case c__law_number => k_is)
    (case k__law_number => k_is)
    (case c__law_odd => k_is)
    (case k__law_odd => k_is)
    (case c_is_word => k_is)
    (case k_is_word => k_is)
    (case c__law_own_word => k_is)
    (case k__law_own_word => k_is)
    (case c_is_name => k_is)
    (case k_is_name => k_is)
    (case c__law_own_name => k_is)
    (case k__law_own_name => k_is)
    (case c_common => k_is)
    (case k_common => k_is)
    (case c_is_integer => k_is)
    (case k_is_integer => k_is)
    (case c_is_fraction => k_is)
    (case k_is_fraction => k_is)
    (case c__law_own_read => k_is)
    (case k__law_own_read => k_is)
    (case c_read_integer => k_is)
    (case k_read_integer => k_is)
    (case c_read_of_figures => k_is)
    (case k_read_of_figures => k_is)
    (case c_read_fraction => k_is)
    (case k_read_fraction => k_is)
    (case c_fraction_text => k_is)
    (case k_fraction_text => k_is)
    (case c__law_right => k_is)
    (case k__law_right => k_is)
    (case c_law => k_is)
    (case k_law => k_is)
