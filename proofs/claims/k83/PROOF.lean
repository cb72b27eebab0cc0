import PyProof.Rows.All
import HandS.ForMost
import HandS.Exc
import HandS.WordsExc
import HandS.Wide
import HandS.Gcd
import HandS.IsInst
import HandS.Deep
import HandS.TupAny
import PyProof.ReprRoads
import HandS.Zip
import HandS.TupLe
import PyProof.Rows.InDataRows
import HandS.RaiseMore
import HandS.WordsDict
import HandS.Conv
import HandS.EndBits
import HandS.Defaults
import KE.KRevSl
import HandS.Style
import PySem.Challenge.RW_whatthepicturesays_k83_whole_simplest_fr
set_option Elab.async false
set_option linter.all false
set_option maxRecDepth 100000
set_option maxHeartbeats 4000000
/-! DLBase: data in place of addresses. Rep, worlds, slots, the data-level judgements. -/
namespace DL
open PySem PySem.Spec PyProof.Rows L2

abbrev D := PyData
abbrev St := L2.St
def KT (K : PySem.W.Frag) (a : Addr) (xs : List V) : Prop := SqT K (fun _ => none) a xs
def kD : Key → D
  | .inl i => .int i
  | .inr x => .str x

mutual
/-- v is the data d in the heap H; nothing that it leans on is in A (what may change) -/
inductive Rep (K : PySem.W.Frag) (A : Addr → Prop) (H : Hp) : V → D → Prop
  | non : Rep K A H .non .none
  | bl (b : Bool) : Rep K A H (.bl b) (.bool b)
  | int (i : Int) : Rep K A H (.int i) (.int i)
  | str (x : Str) : x.length ≤ sizeLine → Rep K A H (.str x) (.str x)
  | lst {a : Addr} {xs : List V} {ds : List D} : H a = some (.lst xs) → ¬ A a → ds.length ≤ sizeLine → RepAll K A H xs ds → Rep K A H (.ref a) (.list ds)
  | tup {a : Addr} {xs : List V} {ds : List D} : (Rd H a (.tup xs) ∧ ¬ A a) ∨ KT K a xs → ds.length ≤ sizeLine → RepAll K A H xs ds → Rep K A H (.ref a) (.tuple ds)
  | dic {a : Addr} {kvs : List (Key × V)} {ps : List (D × D)} : H a = some (.dK kvs) → ¬ A a → RepKv K A H kvs ps → Rep K A H (.ref a) (.dict ps)
inductive RepAll (K : PySem.W.Frag) (A : Addr → Prop) (H : Hp) : List V → List D → Prop
  | nil : RepAll K A H [] []
  | cons {v : V} {vs : List V} {d : D} {ds : List D} : Rep K A H v d → RepAll K A H vs ds → RepAll K A H (v :: vs) (d :: ds)
inductive RepKv (K : PySem.W.Frag) (A : Addr → Prop) (H : Hp) : List (Key × V) → List (D × D) → Prop
  | nil : RepKv K A H [] []
  | cons {k : Key} {v : V} {vs : List (Key × V)} {d : D} {ds : List (D × D)} : Rep K A H v d → RepKv K A H vs ds → RepKv K A H ((k, v) :: vs) ((kD k, d) :: ds)
end

/-- what Rep leans on stays, and stays out of what may change -/
def Kp (A A' : Addr → Prop) (H H' : Hp) : Prop := ∀ a o, H a = some o → ¬ A a → H' a = some o ∧ ¬ A' a
theorem Kp.rd {A A' : Addr → Prop} {H H' : Hp} (h : Kp A A' H H') {a : Addr} {u : HO} (r : Rd H a u) (n : ¬ A a) : Rd H' a u ∧ ¬ A' a := by
  rcases r with r | ⟨o, r⟩
  · exact ⟨.inl (h a _ r n).1, (h a _ r n).2⟩
  · exact ⟨.inr ⟨o, (h a _ r n).1⟩, (h a _ r n).2⟩
section
variable {K : PySem.W.Frag} {A A' : Addr → Prop} {H H' : Hp}
mutual
theorem Rep.map (h : Kp A A' H H') : ∀ {v : V} {d : D}, Rep K A H v d → Rep K A' H' v d
  | _, _, .non => .non
  | _, _, .bl b => .bl b
  | _, _, .int i => .int i
  | _, _, .str x z => .str x z
  | _, _, .lst e n z r => .lst (h _ _ e n).1 (h _ _ e n).2 z (RepAll.map h r)
  | _, _, .tup s z r => .tup (s.elim (fun q => .inl (h.rd q.1 q.2)) .inr) z (RepAll.map h r)
  | _, _, .dic e n r => .dic (h _ _ e n).1 (h _ _ e n).2 (RepKv.map h r)
theorem RepAll.map (h : Kp A A' H H') : ∀ {vs : List V} {ds : List D}, RepAll K A H vs ds → RepAll K A' H' vs ds
  | _, _, .nil => .nil
  | _, _, .cons r t => .cons (Rep.map h r) (RepAll.map h t)
theorem RepKv.map (h : Kp A A' H H') : ∀ {vs : List (Key × V)} {ds : List (D × D)}, RepKv K A H vs ds → RepKv K A' H' vs ds
  | _, _, .nil => .nil
  | _, _, .cons r t => .cons (Rep.map h r) (RepKv.map h t)
end
theorem RepAll.length : ∀ {vs : List V} {ds : List D}, RepAll K A H vs ds → vs.length = ds.length
  | _, _, .nil => rfl
  | _, _, .cons _ t => congrArg (· + 1) (RepAll.length t)
theorem RepAll.append : ∀ {vs us : List V} {ds es : List D}, RepAll K A H vs ds → RepAll K A H us es → RepAll K A H (vs ++ us) (ds ++ es)
  | _, _, _, _, .nil, s => s
  | _, _, _, _, .cons r t, s => .cons r (RepAll.append t s)
theorem RepAll.get : ∀ {vs : List V} {ds : List D} {i : Nat} {v : V}, RepAll K A H vs ds → vs[i]? = some v → ∃ d, ds[i]? = some d ∧ Rep K A H v d
  | _, _, _, _, .nil, e => by simp at e
  | _, _, 0, _, .cons r _, e => by
    simp only [List.getElem?_cons_zero, Option.some.injEq] at e
    subst e
    exact ⟨_, rfl, r⟩
  | _, _, i + 1, v, .cons _ t, e => by
    obtain ⟨d, e1, r⟩ := RepAll.get (i := i) (v := v) t (by simpa using e)
    exact ⟨d, by simpa using e1, r⟩
theorem RepAll.getD : ∀ {vs : List V} {ds : List D} {i : Nat} {d : D}, RepAll K A H vs ds → ds[i]? = some d → ∃ v, vs[i]? = some v ∧ Rep K A H v d
  | _, _, _, _, .nil, e => by simp at e
  | _, _, 0, _, .cons r _, e => by
    simp only [List.getElem?_cons_zero, Option.some.injEq] at e
    subst e
    exact ⟨_, rfl, r⟩
  | _, _, i + 1, v, .cons _ t, e => by
    obtain ⟨d, e1, r⟩ := RepAll.getD (i := i) (d := v) t (by simpa using e)
    exact ⟨d, by simpa using e1, r⟩
theorem RepAll.take : ∀ {vs : List V} {ds : List D} (n : Nat), RepAll K A H vs ds → RepAll K A H (vs.take n) (ds.take n)
  | _, _, 0, _ => .nil
  | _, _, _ + 1, .nil => .nil
  | _, _, n + 1, .cons r t => .cons r (RepAll.take n t)
theorem RepAll.drop : ∀ {vs : List V} {ds : List D} (n : Nat), RepAll K A H vs ds → RepAll K A H (vs.drop n) (ds.drop n)
  | _, _, 0, r => r
  | _, _, _ + 1, .nil => .nil
  | _, _, n + 1, .cons _ t => RepAll.drop n t
theorem RepAll.set {v : V} {d : D} (r : Rep K A H v d) : ∀ {vs : List V} {ds : List D} (n : Nat), RepAll K A H vs ds → RepAll K A H (vs.set n v) (ds.set n d)
  | _, _, _, .nil => .nil
  | _, _, 0, .cons _ t => .cons r t
  | _, _, n + 1, .cons q t => .cons q (RepAll.set r n t)
theorem RepAll.ints : ∀ {vs : List V} {ns : List Int}, RepAll K A H vs (ns.map PyData.int) → vs = ns.map V.int
  | [], [], _ => rfl
  | _, n :: ns, .cons (.int _) t => by rw [RepAll.ints t]; rfl
theorem RepAll.strs : ∀ {vs : List V} {ns : List Str}, RepAll K A H vs (ns.map PyData.str) → vs = ns.map V.str
  | [], [], _ => rfl
  | _, n :: ns, .cons (.str _ _) t => by rw [RepAll.strs t]; rfl
theorem RepAll.bools : ∀ {vs : List V} {ns : List Bool}, RepAll K A H vs (ns.map PyData.bool) → vs = ns.map V.bl
  | [], [], _ => rfl
  | _, n :: ns, .cons (.bl _) t => by rw [RepAll.bools t]; rfl
theorem RepAll.of_ints : ∀ (ns : List Int), RepAll K A H (ns.map V.int) (ns.map PyData.int)
  | [] => .nil
  | n :: ns => .cons (.int n) (RepAll.of_ints ns)
theorem RepAll.of_strs : ∀ (ns : List Str), (∀ y ∈ ns, y.length ≤ sizeLine) → RepAll K A H (ns.map V.str) (ns.map PyData.str)
  | [], _ => .nil
  | n :: ns, h => .cons (.str n (h n List.mem_cons_self)) (RepAll.of_strs ns fun y hy => h y (List.mem_cons_of_mem _ hy))
theorem KT.sq {a : Addr} {xs : List V} (h : KT K a xs) : SqT K H a xs := by
  rcases h with (h | ⟨_, h⟩) | h
  · cases h
  · cases h
  · exact .inr h
theorem sqT {a : Addr} {xs : List V} (h : (Rd H a (.tup xs) ∧ ¬ A a) ∨ KT K a xs) : SqT K H a xs := h.elim (fun q => .inl q.1) KT.sq
end

/-! ### the pot of a law's draws -/
def LIM : Nat := 2 ^ 22
def PotAt (n : Nat) (H : Hp) (b : Addr) : Prop := ∃ x y z : Int, H b = some (.lst [.int x, .int y, .int z]) ∧ 0 ≤ x ∧ x < 10 ^ 300 ∧ 0 ≤ y ∧ y < 2 ^ 61 ∧ 0 ≤ z ∧ z ≤ n
theorem PotAt.mono {n m : Nat} {H : Hp} {b : Addr} (h : PotAt n H b) (l : n ≤ m) : PotAt m H b := by
  obtain ⟨x, y, z, e, a1, a2, a3, a4, a5, a6⟩ := h
  exact ⟨x, y, z, e, a1, a2, a3, a4, a5, by omega⟩
theorem PotAt.some {n : Nat} {H : Hp} {b : Addr} (h : PotAt n H b) : H b ≠ none := by
  obtain ⟨x, y, z, e, _⟩ := h
  rw [e]
  simp

/-! ### the world of a call: what stood ahead of it, what may change, how many draws it may make -/
structure Wd where
  K : PySem.W.Frag
  A0 : Addr → Prop
  P : Addr → Prop
  H0 : Hp
  n0 : Nat
  c0 : Nat
  E : Value → D → Prop

structure Fin (W : Wd) (k : Nat) (H : Hp) : Prop where
  since : ∀ b o, W.H0 b = some o → ¬ W.P b → H b = some o
  pots : ∀ b, W.P b → PotAt (W.n0 + k) H b
structure Wd.Ok (W : Wd) : Prop where
  pdom : ∀ b, W.P b → W.H0 b ≠ none
  sub : ∀ b, W.P b → W.A0 b
  lim : W.n0 + W.c0 ≤ LIM
theorem Fin.mono {W : Wd} {k j : Nat} {H : Hp} (f : Fin W k H) (l : k ≤ j) : Fin W j H := ⟨f.since, fun b hb => (f.pots b hb).mono (by omega)⟩
theorem Fin.dom {W : Wd} {k : Nat} {H : Hp} (f : Fin W k H) {a : Addr} (h : W.H0 a ≠ none) : H a ≠ none := by
  by_cases p : W.P a
  · exact (f.pots a p).some
  · cases e : W.H0 a with
    | none => exact absurd e h
    | some o =>
      rw [f.since a o e p]
      simp

/-- a slot: unknown; data; the pot; a list of its own that nothing else knows -/
inductive Sv where
  | un
  | dat (d : D)
  | pot
  | own (ds : List D)
  | scr (ns : List Int)
abbrev DEnv := List Sv
def nth : DEnv → Nat → Sv
  | [], _ => .un
  | s :: _, 0 => s
  | _ :: r, i + 1 => nth r i
theorem nth_set_self : ∀ {Δ : DEnv} {i : Nat} {s : Sv}, i < Δ.length → nth (Δ.set i s) i = s
  | [], _, _, h => absurd h (Nat.not_lt_zero _)
  | _ :: _, 0, _, _ => rfl
  | _ :: r, i + 1, _, h => nth_set_self (Δ := r) (i := i) (Nat.lt_of_succ_lt_succ h)
theorem nth_set_ne : ∀ {Δ : DEnv} {i j : Nat} {s : Sv}, j ≠ i → nth (Δ.set i s) j = nth Δ j
  | [], _, _, _, _ => rfl
  | _ :: _, 0, 0, _, h => absurd rfl h
  | _ :: _, 0, _ + 1, _, _ => rfl
  | _ :: _, _ + 1, 0, _, _ => rfl
  | _ :: r, i + 1, j + 1, _, h => nth_set_ne (Δ := r) (i := i) (j := j) fun e => h (by rw [e])
theorem nth_lt : ∀ {Δ : DEnv} {i : Nat}, nth Δ i ≠ .un → i < Δ.length
  | [], _, h => absurd rfl h
  | _ :: _, 0, _ => Nat.succ_pos _
  | _ :: r, i + 1, h => Nat.succ_lt_succ (nth_lt (Δ := r) (i := i) h)

def OwnA (σ : St) (Δ : DEnv) (a : Addr) : Prop := ∃ i ds, nth Δ i = .own ds ∧ σ[i]? = some (some (.ref a))
def AA (W : Wd) (σ : St) (Δ : DEnv) (a : Addr) : Prop := W.A0 a ∨ OwnA σ Δ a
/-- a law's script: a list of ints that stays -/
def ScrAt (K : PySem.W.Frag) (A : Addr → Prop) (H : Hp) (a : Addr) (ns : List Int) : Prop := (∃ o, H a = some (.frz o (.lst (ns.map V.int))) ∧ ¬ A a) ∨ SqL K (fun _ => none) a (ns.map V.int)
theorem ScrAt.map {K : PySem.W.Frag} {A A' : Addr → Prop} {H H' : Hp} {a : Addr} {ns : List Int} (h : Kp A A' H H') (r : ScrAt K A H a ns) : ScrAt K A' H' a ns := r.elim (fun ⟨o, e, n⟩ => .inl ⟨o, (h a _ e n).1, (h a _ e n).2⟩) .inr
theorem ScrAt.sq {K : PySem.W.Frag} {A : Addr → Prop} {H : Hp} {a : Addr} {ns : List Int} (r : ScrAt K A H a ns) : SqL K H a (ns.map V.int) := by
  rcases r with ⟨o, r, _⟩ | (h | ⟨_, h⟩) | h
  · exact .inl (.inr ⟨o, r⟩)
  · cases h
  · cases h
  · exact .inr h
def SlotOk (W : Wd) (σ : St) (A : Addr → Prop) (H : Hp) (i : Nat) : Sv → Prop
  | .un => True
  | .dat d => ∃ v, σ[i]? = some (some v) ∧ Rep W.K A H v d
  | .pot => ∃ a, σ[i]? = some (some (.ref a)) ∧ W.P a
  | .scr ns => ∃ a, σ[i]? = some (some (.ref a)) ∧ ScrAt W.K A H a ns
  | .own ds => ∃ a xs, σ[i]? = some (some (.ref a)) ∧ H a = some (.lst xs) ∧ RepAll W.K A H xs ds ∧ W.H0 a = none ∧ ¬ W.A0 a ∧ ds.length ≤ sizeLine
structure En (W : Wd) (k : Nat) (σ : St) (H : Hp) (Δ : DEnv) : Prop where
  len : Δ.length = σ.length
  sl : ∀ i, SlotOk W σ (AA W σ Δ) H i (nth Δ i)
  uniq : ∀ i j ds es a, nth Δ i = .own ds → nth Δ j = .own es → σ[i]? = some (some (.ref a)) → σ[j]? = some (some (.ref a)) → i = j
  fin : Fin W k H
  dom0 : ∀ a, W.A0 a → H a ≠ none

/-- an expression's work: what stood stays but the pots -/
structure Chg (W : Wd) (k : Nat) (H H' : Hp) : Prop where
  keep : ∀ b o, H b = some o → ¬ W.P b → H' b = some o
  pots : ∀ b, W.P b → PotAt (W.n0 + k) H' b
section
variable {W : Wd} {k j : Nat} {σ : St} {H H' H2 : Hp} {Δ : DEnv}
theorem Chg.trans (a : Chg W k H H') (b : Chg W j H' H2) : Chg W j H H2 := ⟨fun c o e n => b.keep c o (a.keep c o e n) n, b.pots⟩
theorem Chg.mono (a : Chg W k H H') (l : k ≤ j) : Chg W j H H' := ⟨a.keep, fun b p => (a.pots b p).mono (by omega)⟩
theorem En.refl (e : En W k σ H Δ) : Chg W k H H := ⟨fun _ _ q _ => q, e.fin.pots⟩
theorem Chg.kp (ok : W.Ok) (c : Chg W k H H') {A : Addr → Prop} (s : ∀ a, W.A0 a → A a) : Kp A A H H' := fun a o e n => ⟨c.keep a o e fun p => n (s a (ok.sub a p)), n⟩
theorem Chg.kpE (ok : W.Ok) (c : Chg W k H H') : Kp (AA W σ Δ) (AA W σ Δ) H H' := c.kp ok fun _ => .inl
theorem Fin.chg (f : Fin W k H) (c : Chg W j H H') : Fin W j H' := ⟨fun b o e n => c.keep b o (f.since b o e n) n, c.pots⟩
theorem Chg.dom (c : Chg W j H H') {a : Addr} (h : H a ≠ none) : H' a ≠ none := by
  by_cases p : W.P a
  · exact (c.pots a p).some
  · cases e : H a with
    | none => exact absurd e h
    | some o =>
      rw [c.keep a o e p]
      simp
theorem En.chg (ok : W.Ok) (e : En W k σ H Δ) (c : Chg W j H H') : En W j σ H' Δ := by
  refine ⟨e.len, fun i => ?_, e.uniq, e.fin.chg c, fun a h => c.dom (e.dom0 a h)⟩
  have s := e.sl i
  revert s
  cases h : nth Δ i with
  | un => exact fun s => s
  | dat d =>
    rintro ⟨v, h1, h2⟩
    exact ⟨v, h1, h2.map (c.kpE ok)⟩
  | scr ns =>
    rintro ⟨v, h1, h2⟩
    exact ⟨v, h1, h2.map (c.kpE ok)⟩
  | pot => exact fun s => s
  | own ds =>
    rintro ⟨a, xs, h1, h2, h3, h4, h5⟩
    exact ⟨a, xs, h1, c.keep a _ h2 fun p => ok.pdom a p h4, h3.map (c.kpE ok), h4, h5⟩
theorem En.mono (e : En W k σ H Δ) (l : k ≤ j) : En W j σ H Δ := ⟨e.len, e.sl, e.uniq, e.fin.mono l, e.dom0⟩
theorem Chg.free (c : Chg W j H H') {p : Addr} (h : H' p = none) : H p = none := by
  cases e : H p with
  | none => rfl
  | some o =>
    by_cases q : W.P p
    · exact absurd h (c.pots p q).some
    · rw [c.keep p o e q] at h
      cases h
theorem Fin.free (f : Fin W k H) {p : Addr} (h : H p = none) : W.H0 p = none := by
  cases e : W.H0 p with
  | none => rfl
  | some o => exact absurd h (f.dom (by rw [e]; simp))
/-- a new object -/
theorem Fin.laid (f : Fin W k H) {p : Addr} {o : HO} (h : H p = none) : Chg W k H (upd H p o) :=
  ⟨fun b u e _ => by rw [upd_ne (ne_of_none e h)]; exact e, fun b q => by
    obtain ⟨x, y, z, e, r⟩ := f.pots b q
    exact ⟨x, y, z, by rw [upd_ne (ne_of_none e h)]; exact e, r⟩⟩
theorem En.notA (e : En W k σ H Δ) {p : Addr} (h : H p = none) : ¬ AA W σ Δ p := by
  rintro (q | ⟨i, ds, h1, h2⟩)
  · exact e.dom0 p q h
  · have s := e.sl i
    rw [h1] at s
    obtain ⟨a, xs, g1, g2, _⟩ := s
    rw [h2] at g1
    cases g1
    rw [h] at g2
    cases g2
end
end DL
/-! DLExpr: the judgements over data for expressions. -/
namespace DL
open PySem PySem.Spec PyProof.Rows L2

/-- an exception that leaves: its class, its value -/
def EkOf (W : Wd) : XK := fun cls dopt H' => ∃ dd v d, dopt = some dd ∧ W.E cls d ∧ Fin W W.c0 H' ∧ H' dd = some (.xd [("value", v)]) ∧ W.H0 dd = none ∧ Rep W.K W.A0 H' v d
/-- a def's (or a block's) context -/
structure Cxt (X : Cx) (W : Wd) (N : List Str) (sc : Scope) (kk : Nat) : Prop where
  hN : X.N = N
  hsc : X.env.scope = sc
  nd : N.Nodup
  hr : Room kk X.A
  gd : X.A.guards = some []
  calm : X.calm = true
  hK : W.K = X.K
  ok : W.Ok
  tk : Takes X (fun cls d _ H => EkOf W cls d H)
  po : PassesOwn (model X.prog X.w) X.A X.env X.xe
theorem Cxt.px {X : Cx} {W : Wd} {N : List Str} {sc : Scope} {kk : Nat} (C : Cxt X W N sc kk) : Passes (L2.CX X.prog X.w) X (EkOf W) := passes_call C.tk fun _ _ _ _ h => h
theorem Cxt.gl {X : Cx} {W : Wd} {N : List Str} {sc : Scope} {kk : Nat} (C : Cxt X W N sc kk) {x : Str} (h : sc.names.lookup x = some .globalImplicit) : Gl X x := by
  show X.env.scope.names.lookup x = _
  rw [C.hsc]
  exact h
theorem Cxt.units {X : Cx} {W : Wd} {N : List Str} {sc : Scope} {kk : Nat} (C : Cxt X W N sc kk) : X.A.units + 100 < cLine := by
  have := C.hr.un
  omega

theorem pe_imp {X : Cx} {e : Expr} {t t' : TE} (h : PE X e t) (i : ∀ σ H Q, t' σ H Q → t σ H Q) : PE X e t' := ⟨fun pins s σ H Q I q => h.run pins s σ H Q I (i σ H Q q)⟩
theorem pt_imp {X : Cx} {e : Expr} {t t' : TT} (h : PT X e t) (i : ∀ σ H Q, t' σ H Q → t σ H Q) : PT X e t' := ⟨fun pins s σ H Q I q => h.run pins s σ H Q I (i σ H Q q)⟩
theorem pa_imp {X : Cx} {e : List Expr} {t t' : TA} (h : PA X e t) (i : ∀ σ H Q, t' σ H Q → t σ H Q) : PA X e t' := ⟨fun pos pins s σ H Q I q => h.run pos pins s σ H Q I (i σ H Q q)⟩
theorem ps_imp {X : Cx} {e : Stmt} {t t' : TS} (h : PS X e t) (i : ∀ D σ H, t' D σ H → t D σ H) : PS X e t' := ⟨fun pins s σ H Q I q => h.run pins s σ H Q I (i Q σ H q)⟩
theorem pss_imp {X : Cx} {e : List Stmt} {t t' : TS} (h : PSs X e t) (i : ∀ D σ H, t' D σ H → t D σ H) : PSs X e t' := ⟨fun pins s σ H Q I q => h.run pins s σ H Q I (i Q σ H q)⟩

abbrev TDE := DEnv → (D → Prop) → Prop
abbrev TDT := DEnv → (Bool → Prop) → Prop
abbrev TDL := DEnv → (List D → Prop) → Prop
/-- v is d; a list's own object may be one that changes -/
def RepB (K : PySem.W.Frag) (A : Addr → Prop) (H : Hp) (v : V) (d : D) : Prop := Rep K A H v d ∨ ∃ a xs ds, v = .ref a ∧ d = .list ds ∧ H a = some (.lst xs) ∧ RepAll K A H xs ds ∧ ds.length ≤ sizeLine
/-- g says what the expression gives; c: how many draws it makes at most -/
def lift (W : Wd) (g : TDE) (c : Nat) : TE := fun σ H Q => ∃ (k : Nat) (Δ : DEnv) (K : D → Prop), k + c ≤ W.c0 ∧ En W k σ H Δ ∧ g Δ K ∧ ∀ d v H', K d → Chg W (k + c) H H' → Rep W.K (AA W σ Δ) H' v d → Q v H'
/-- the same, of a value that is only looked at -/
def liftB (W : Wd) (g : TDE) (c : Nat) : TE := fun σ H Q => ∃ (k : Nat) (Δ : DEnv) (K : D → Prop), k + c ≤ W.c0 ∧ En W k σ H Δ ∧ g Δ K ∧ ∀ d v H', K d → Chg W (k + c) H H' → (Rep W.K (AA W σ Δ) H' v d ∨ ∃ a xs ds, v = .ref a ∧ d = .list ds ∧ H' a = some (.lst xs) ∧ RepAll W.K (AA W σ Δ) H' xs ds ∧ ds.length ≤ sizeLine ∧ OwnA σ Δ a) → Q v H'
/-- a new list that nothing else knows -/
def liftF (W : Wd) (g : TDL) (c : Nat) : TE := fun σ H Q => ∃ (k : Nat) (Δ : DEnv) (K : List D → Prop), k + c ≤ W.c0 ∧ En W k σ H Δ ∧ g Δ K ∧ ∀ ds a xs H', K ds → Chg W (k + c) H H' → H a = none → H' a = some (.lst xs) → ds.length ≤ sizeLine → RepAll W.K (fun b => AA W σ Δ b ∨ b = a) H' xs ds → Q (.ref a) H'
def liftL (W : Wd) (g : TDL) (c : Nat) : TA := fun σ H Q => ∃ (k : Nat) (Δ : DEnv) (K : List D → Prop), k + c ≤ W.c0 ∧ En W k σ H Δ ∧ g Δ K ∧ ∀ ds vs H', K ds → Chg W (k + c) H H' → RepAll W.K (AA W σ Δ) H' vs ds → Q vs H'
def liftT (W : Wd) (g : TDT) (c : Nat) : TT := fun σ H Q => ∃ (k : Nat) (Δ : DEnv) (K : Bool → Prop), k + c ≤ W.c0 ∧ En W k σ H Δ ∧ g Δ K ∧ ∀ b H', K b → Chg W (k + c) H H' → Q b H'
abbrev DE (X : Cx) (W : Wd) (e : Expr) (g : TDE) (c : Nat) : Prop := PE X e (lift W g c)
abbrev DB (X : Cx) (W : Wd) (e : Expr) (g : TDE) (c : Nat) : Prop := PE X e (liftB W g c)
abbrev DF (X : Cx) (W : Wd) (e : Expr) (g : TDL) (c : Nat) : Prop := PE X e (liftF W g c)
abbrev DA (X : Cx) (W : Wd) (es : List Expr) (g : TDL) (c : Nat) : Prop := PA X es (liftL W g c)
abbrev DT (X : Cx) (W : Wd) (e : Expr) (g : TDT) (c : Nat) : Prop := PT X e (liftT W g c)

/-- both ways of a test -/
def gIte (b : Bool) (P Q : Prop) : Prop := (b = true → P) ∧ (b = false → Q)
theorem gIte.use {b : Bool} {P Q : Prop} (h : gIte b P Q) : if b = true then P else Q := by
  cases b with
  | true => exact h.1 rfl
  | false => exact h.2 rfl

section
variable {X : Cx} {W : Wd} {N : List Str} {sc : Scope} {kk : Nat} {e a b : Expr} {es : List Expr} {c ca cb : Nat} {g ga gb : TDE} {pos p p2 : Pos}
theorem DE.bo (h : DE X W e g c) : DB X W e g c := pe_imp h fun σ H Q ⟨k, Δ, K, h1, h2, h3, h4⟩ => ⟨k, Δ, K, h1, h2, h3, fun d v H' hd hc r => h4 d v H' hd hc (.inl r)⟩
/-- a new list, as data -/
def gL (g : TDL) : TDE := fun Δ K => g Δ fun ds => K (.list ds)
theorem DF.da (C : Cxt X W N sc kk) {g : TDL} (h : DF X W e g c) : DE X W e (gL g) c := pe_imp h fun σ H Q ⟨k, Δ, K, h1, h2, h3, h4⟩ =>
  ⟨k, Δ, fun ds => K (.list ds), h1, h2, h3, fun ds a xs H' hd hc hn ha z r => h4 _ _ H' hd hc (.lst ha (h2.notA hn) z (r.map fun b o e n => ⟨e, fun q => n (.inl q)⟩))⟩

/-! ### names, constants -/
def gVar (i : Nat) : TDE := fun Δ K => match nth Δ i with
  | .dat d => K d
  | _ => False
def gVarB (i : Nat) : TDE := fun Δ K => match nth Δ i with
  | .dat d => K d
  | .own ds => K (.list ds)
  | _ => False
def gC (d : D) : TDE := fun _ K => K d
theorem de_var (C : Cxt X W N sc kk) {i : Nat} {x : Str} (hx : N[i]? = some x) (hv : Vis sc x) (hd : (x == ("__debug__" : Str)) = false := by decide +kernel) (hcd : (x == ("__classdict__" : Str)) = false := by decide +kernel) : DE X W (.Name x pos) (gVar i) 0 := by
  refine pe_imp (pe_var (i := i) (by rw [C.hN]; exact hx) (by rw [C.hsc]; exact hv) hd hcd) fun σ H Q ⟨k, Δ, K, h1, h2, h3, h4⟩ => ?_
  have s := h2.sl i
  unfold gVar at h3
  revert h3 s
  cases nth Δ i with
  | dat d =>
    rintro h3 ⟨v, e, r⟩
    exact ⟨v, e, h4 d v H h3 h2.refl r⟩
  | un => exact fun z => z.elim
  | pot => exact fun z => z.elim
  | scr ns => exact fun z => z.elim
  | own ds => exact fun z => z.elim
theorem db_var (C : Cxt X W N sc kk) {i : Nat} {x : Str} (hx : N[i]? = some x) (hv : Vis sc x) (hd : (x == ("__debug__" : Str)) = false := by decide +kernel) (hcd : (x == ("__classdict__" : Str)) = false := by decide +kernel) : DB X W (.Name x pos) (gVarB i) 0 := by
  refine pe_imp (pe_var (i := i) (by rw [C.hN]; exact hx) (by rw [C.hsc]; exact hv) hd hcd) fun σ H Q ⟨k, Δ, K, h1, h2, h3, h4⟩ => ?_
  have s := h2.sl i
  unfold gVarB at h3
  revert h3 s
  cases hn : nth Δ i with
  | dat d =>
    rintro h3 ⟨v, e, r⟩
    exact ⟨v, e, h4 d v H h3 h2.refl (.inl r)⟩
  | un => exact fun z => z.elim
  | pot => exact fun z => z.elim
  | scr ns => exact fun z => z.elim
  | own ds =>
    rintro h3 ⟨a, xs, e, ha, r, _, _, z⟩
    exact ⟨.ref a, e, h4 _ _ H h3 h2.refl (.inr ⟨a, xs, ds, rfl, rfl, ha, r, z, i, ds, hn, e⟩)⟩
theorem de_c {v : V} {d : D} (h : PE X e (tC v)) (r : ∀ A H, Rep W.K A H v d) : DE X W e (gC d) 0 := pe_imp h fun σ H Q ⟨k, Δ, K, h1, h2, h3, h4⟩ => h4 d v H h3 h2.refl (r _ _)
theorem de_int {i : Int} {j : Nat} : DE X W (.Constant (.int i) j pos) (gC (.int i)) 0 := de_c pe_int fun _ _ => .int i
theorem de_str {i : Str} {j : Nat} (h : i.length ≤ sizeLine := by decide +kernel) : DE X W (.Constant (.str i) j pos) (gC (.str i)) 0 := de_c pe_str fun _ _ => .str i h
theorem de_bl {i : Bool} {j : Nat} : DE X W (.Constant (.bool i) j pos) (gC (.bool i)) 0 := de_c pe_bl fun _ _ => .bl i
theorem de_non {j : Nat} : DE X W (.Constant .none j pos) (gC .none) 0 := de_c pe_non fun _ _ => .non
/-- a constant of the module -/
def KRep (K : PySem.W.Frag) (u : Value) (d : D) : Prop := ∃ v, RelV v u ∧ ∀ A H, Rep K A H v d
theorem de_glob (C : Cxt X W N sc kk) {x : Str} {u : Value} {d : D} (hg : sc.names.lookup x = some .globalImplicit) (hm : X.mg x = some u) (r : KRep X.K u d) (hd : (x == ("__debug__" : Str)) = false := by decide +kernel) : DE X W (.Name x pos) (gC d) 0 := by
  obtain ⟨v, r1, r2⟩ := r
  exact de_c (pe_glob (C.gl hg) hm r1 hd) (by rw [C.hK]; exact r2)
theorem KRep.int {K : PySem.W.Frag} {i : Int} {t : Tok} : KRep K (.int i t) (.int i) := ⟨.int i, ⟨t, rfl⟩, fun _ _ => .int i⟩
theorem KRep.str {K : PySem.W.Frag} {i : Str} {t : Tok} (h : i.length ≤ sizeLine) : KRep K (.str i t) (.str i) := ⟨.str i, ⟨t, rfl⟩, fun _ _ => .str i h⟩

/-! ### operators -/
def rD (Kf : PySem.W.Frag) (f : D → D → (D → Prop) → Prop) : R2 := fun x y H Q => ∃ (A : Addr → Prop) (dx dy : D) (K : D → Prop), (∀ a, A a → H a ≠ none) ∧ RepB Kf A H x dx ∧ RepB Kf A H y dy ∧ f dx dy K ∧
  ∀ d v H', K d → (∀ b o, H b = some o → H' b = some o) → Rep Kf A H' v d → Q v H'
abbrev DOp (X : Cx) (op : Value → Value → Sem Value) (f : D → D → (D → Prop) → Prop) : Prop := OpR X op (rD X.K f)
def gBin (f : D → D → (D → Prop) → Prop) (ga gb : TDE) : TDE := fun Δ K => ga Δ fun x => gb Δ fun y => f x y K
theorem Chg.of_ext {k : Nat} {H H' : Hp} (f : Fin W k H) (x : ∀ b o, H b = some o → H' b = some o) : Chg W k H H' := ⟨fun b o e _ => x b o e, fun b p => by
  obtain ⟨x1, y, z, e, r⟩ := f.pots b p
  exact ⟨x1, y, z, x b _ e, r⟩⟩
theorem En.dom (C : Cxt X W N sc kk) {k : Nat} {σ : St} {H : Hp} {Δ : DEnv} (e : En W k σ H Δ) : ∀ a, AA W σ Δ a → H a ≠ none := fun a h n => e.notA n h
theorem RepB.of {σ : St} {H H' : Hp} {Δ : DEnv} {k j : Nat} {v : V} {d : D} (C : Cxt X W N sc kk) (en : En W k σ H Δ) (r : Rep W.K (AA W σ Δ) H v d ∨ ∃ a xs ds, v = .ref a ∧ d = .list ds ∧ H a = some (.lst xs) ∧ RepAll W.K (AA W σ Δ) H xs ds ∧ ds.length ≤ sizeLine ∧ OwnA σ Δ a) (hc : Chg W j H H') : RepB X.K (AA W σ Δ) H' v d := by
  rw [← C.hK]
  rcases r with r | ⟨a, xs, ds, e1, e2, e3, r, z, i, es, o1, o2⟩
  · exact .inl (r.map (hc.kpE C.ok))
  · refine .inr ⟨a, xs, ds, e1, e2, hc.keep a _ e3 fun q => ?_, r.map (hc.kpE C.ok), z⟩
    have s := en.sl i
    rw [o1] at s
    obtain ⟨a', xs', g1, g2, _, g4, _⟩ := s
    rw [o2] at g1
    cases g1
    exact C.ok.pdom a q g4
/-- two parts, then f of their values -/
theorem bin_use (C : Cxt X W N sc kk) {f : D → D → (D → Prop) → Prop} {r : R2} {ta tb : TE} (ha : ∀ σ H Q, liftB W ga ca σ H Q → ta σ H Q) (hb : ∀ σ H Q, liftB W gb cb σ H Q → tb σ H Q) (hr : ∀ x y H Q, rD X.K f x y H Q → r x y H Q) :
    ∀ σ H Q, lift W (gBin f ga gb) (ca + cb) σ H Q → tOp r ta tb σ H Q := fun σ H Q ⟨k, Δ, K, h1, h2, h3, h4⟩ => by
  refine ha _ _ _ ⟨k, Δ, _, by omega, h2, h3, fun dx x H1 q1 c1 r1 => ?_⟩
  have e1 := h2.chg C.ok c1
  refine hb _ _ _ ⟨k + ca, Δ, _, by omega, e1, q1, fun dy y H2 q2 c2 r2 => hr _ _ _ _ ?_⟩
  have e2 := e1.chg C.ok c2
  have rx : RepB X.K (AA W σ Δ) H2 x dx := RepB.of C e1 r1 c2
  have ry : RepB X.K (AA W σ Δ) H2 y dy := RepB.of C e2 r2 e2.refl
  refine ⟨AA W σ Δ, dx, dy, K, e2.dom C, rx, ry, q2, fun d v H' hd hx hv => ?_⟩
  have e : k + ca + cb = k + (ca + cb) := by omega
  exact h4 d v H' hd (c1.trans (e ▸ c2.trans (Chg.of_ext e2.fin hx))) (by rw [C.hK]; exact hv)
theorem de_bin (C : Cxt X W N sc kk) {op : Operator} {f : D → D → (D → Prop) → Prop} (ho : DOp X (binaryOp op) f) (ha : DB X W a ga ca) (hb : DB X W b gb cb) : DE X W (.BinOp a op b pos) (gBin f ga gb) (ca + cb) :=
  pe_imp (pe_op ho ha hb) (bin_use C (fun _ _ _ h => h) (fun _ _ _ h => h) fun _ _ _ _ h => h)
theorem de_cmp (C : Cxt X W N sc kk) {op : CmpOp} {f : D → D → (D → Prop) → Prop} (ho : DOp X (compareOp op) f) (ha : DB X W a ga ca) (hb : DB X W b gb cb) (hm : behindInMarks op b = false := by rfl) : DE X W (.Compare a [op] [b] pos) (gBin f ga gb) (ca + cb) :=
  pe_imp (pe_cmpR ho ha hb hm) (bin_use C (fun _ _ _ h => h) (fun _ _ _ h => h) fun _ _ _ _ h => h)
end
end DL
/-! DLExpr2: argument lists, displays, subscripts, slices, tests, calls of built-ins and methods. -/
namespace DL
open PySem PySem.Spec PyProof.Rows L2

/-- v is d, or a list of the def's own with the items of d -/
def RepO (W : Wd) (σ : St) (Δ : DEnv) (H : Hp) (v : V) (d : D) : Prop := Rep W.K (AA W σ Δ) H v d ∨ ∃ a xs ds, v = .ref a ∧ d = .list ds ∧ H a = some (.lst xs) ∧ RepAll W.K (AA W σ Δ) H xs ds ∧ ds.length ≤ sizeLine ∧ OwnA σ Δ a
inductive RepOs (W : Wd) (σ : St) (Δ : DEnv) (H : Hp) : List V → List D → Prop
  | nil : RepOs W σ Δ H [] []
  | cons {v : V} {vs : List V} {d : D} {ds : List D} : RepO W σ Δ H v d → RepOs W σ Δ H vs ds → RepOs W σ Δ H (v :: vs) (d :: ds)
inductive RepBs (K : PySem.W.Frag) (A : Addr → Prop) (H : Hp) : List V → List D → Prop
  | nil : RepBs K A H [] []
  | cons {v : V} {vs : List V} {d : D} {ds : List D} : RepB K A H v d → RepBs K A H vs ds → RepBs K A H (v :: vs) (d :: ds)
def liftLB (W : Wd) (g : TDL) (c : Nat) : TA := fun σ H Q => ∃ (k : Nat) (Δ : DEnv) (K : List D → Prop), k + c ≤ W.c0 ∧ En W k σ H Δ ∧ g Δ K ∧ ∀ ds vs H', K ds → Chg W (k + c) H H' → RepOs W σ Δ H' vs ds → Q vs H'
abbrev DAb (X : Cx) (W : Wd) (es : List Expr) (g : TDL) (c : Nat) : Prop := PA X es (liftLB W g c)
abbrev TDO := DEnv → (Option Int → Prop) → Prop
def liftP (W : Wd) (g : TDO) (c : Nat) : TO := fun σ H Q => ∃ (k : Nat) (Δ : DEnv) (K : Option Int → Prop), k + c ≤ W.c0 ∧ En W k σ H Δ ∧ g Δ K ∧ ∀ o H', K o → Chg W (k + c) H H' → Q o H'
abbrev DP (X : Cx) (W : Wd) (e : Option Expr) (g : TDO) (c : Nat) : Prop := PO X e (liftP W g c)
theorem po_imp {X : Cx} {e : Option Expr} {t t' : TO} (h : PO X e t) (i : ∀ σ H Q, t' σ H Q → t σ H Q) : PO X e t' := ⟨fun pins s σ H Q I q => h.run pins s σ H Q I (i σ H Q q)⟩

section
variable {X : Cx} {W : Wd} {N : List Str} {sc : Scope} {kk : Nat} {e a b : Expr} {es : List Expr} {c ca cb cc : Nat} {g ga gb gc : TDE} {pos p p2 : Pos} {k j : Nat} {σ : St} {Δ : DEnv} {H H' : Hp} {v : V} {d : D}
theorem RepO.chg (C : Cxt X W N sc kk) (en : En W k σ H Δ) (r : RepO W σ Δ H v d) (hc : Chg W j H H') : RepO W σ Δ H' v d := by
  rcases r with r | ⟨a, xs, ds, e1, e2, e3, r, z, i, es, o1, o2⟩
  · exact .inl (r.map (hc.kpE C.ok))
  · refine .inr ⟨a, xs, ds, e1, e2, hc.keep a _ e3 fun q => ?_, r.map (hc.kpE C.ok), z, i, es, o1, o2⟩
    have s := en.sl i
    rw [o1] at s
    obtain ⟨a', xs', g1, g2, _, g4, _⟩ := s
    rw [o2] at g1
    cases g1
    exact C.ok.pdom a q g4
theorem RepO.bo (C : Cxt X W N sc kk) (r : RepO W σ Δ H v d) : RepB X.K (AA W σ Δ) H v d := by
  rw [← C.hK]
  rcases r with r | ⟨a, xs, ds, e1, e2, e3, r, z, _⟩
  · exact .inl r
  · exact .inr ⟨a, xs, ds, e1, e2, e3, r, z⟩
theorem RepOs.bo (C : Cxt X W N sc kk) : ∀ {vs : List V} {ds : List D}, RepOs W σ Δ H vs ds → RepBs X.K (AA W σ Δ) H vs ds
  | _, _, .nil => .nil
  | _, _, .cons r t => .cons (r.bo C) (RepOs.bo C t)
theorem chg3 {H2 : Hp} (c1 : Chg W (k + ca) H H') (c2 : Chg W (k + ca + cb) H' H2) : Chg W (k + (ca + cb)) H H2 := by
  have e : k + ca + cb = k + (ca + cb) := by omega
  exact c1.trans (e ▸ c2)

/-! ### argument lists -/
def gN : TDL := fun _ K => K []
def gCo (ga : TDE) (gr : TDL) : TDL := fun Δ K => ga Δ fun x => gr Δ fun xs => K (x :: xs)
theorem da_nil : DA X W [] gN 0 := pa_imp pa_nil fun σ H Q ⟨k, Δ, K, h1, h2, h3, h4⟩ => h4 [] [] H h3 h2.refl .nil
theorem da_cons (C : Cxt X W N sc kk) {gr : TDL} (ha : DE X W e ga ca) (hr : DA X W es gr cb) (hs : starEach (e :: es) X.env = (false, eval e X.env) :: starEach es X.env := by rfl) : DA X W (e :: es) (gCo ga gr) (ca + cb) :=
  pa_imp (pa_cons ha hr hs) fun σ H Q ⟨k, Δ, K, h1, h2, h3, h4⟩ => ⟨k, Δ, _, by omega, h2, h3, fun dx x H1 q1 c1 r1 =>
    ⟨k + ca, Δ, _, by omega, h2.chg C.ok c1, q1, fun ds vs H2 q2 c2 r2 => h4 _ _ H2 q2 (chg3 c1 c2) (.cons (r1.map (c2.kpE C.ok)) r2)⟩⟩
theorem db_nil : DAb X W [] gN 0 := pa_imp pa_nil fun σ H Q ⟨k, Δ, K, h1, h2, h3, h4⟩ => h4 [] [] H h3 h2.refl .nil
theorem db_cons (C : Cxt X W N sc kk) {gr : TDL} (ha : DB X W e ga ca) (hr : DAb X W es gr cb) (hs : starEach (e :: es) X.env = (false, eval e X.env) :: starEach es X.env := by rfl) : DAb X W (e :: es) (gCo ga gr) (ca + cb) :=
  pa_imp (pa_cons ha hr hs) fun σ H Q ⟨k, Δ, K, h1, h2, h3, h4⟩ => ⟨k, Δ, _, by omega, h2, h3, fun dx x H1 q1 c1 r1 =>
    ⟨k + ca, Δ, _, by omega, h2.chg C.ok c1, q1, fun ds vs H2 q2 c2 r2 => h4 _ _ H2 q2 (chg3 c1 c2) (.cons (RepO.chg C (h2.chg C.ok c1) r1 c2) r2)⟩⟩

/-! ### displays -/
theorem Chg.laid (C : Cxt X W N sc kk) (en : En W k σ H Δ) {H1 : Hp} (c : Chg W j H H1) {q : Addr} {o : HO} (hq : H1 q = none) : Chg W j H (upd H1 q o) := c.trans (Fin.laid (en.fin.chg c) hq)
theorem kp_laid {A : Addr → Prop} {q : Addr} {o : HO} (hq : H q = none) : Kp A A H (upd H q o) := fun b u e n => ⟨by rw [upd_ne (ne_of_none e hq)]; exact e, n⟩
theorem kp_laidA {A : Addr → Prop} {q : Addr} {o : HO} (hq : H q = none) : Kp A (fun b => A b ∨ b = q) H (upd H q o) := fun b u e n => ⟨by rw [upd_ne (ne_of_none e hq)]; exact e, fun z => z.elim n (ne_of_none e hq)⟩
def gTup (ga : TDL) : TDE := fun Δ K => ga Δ fun xs => xs.length ≤ sizeLine ∧ K (.tuple xs)
def gLst (ga : TDL) : TDL := fun Δ K => ga Δ fun xs => xs.length ≤ sizeLine ∧ K xs
theorem de_tup (C : Cxt X W N sc kk) {x1} {gl : TDL} (h : DA X W es gl c) : DE X W (.Tuple es x1 pos) (gTup gl) c :=
  pe_imp (pe_tup h) fun σ H Q ⟨k, Δ, K, h1, h2, h3, h4⟩ => ⟨k, Δ, _, h1, h2, h3, fun ds vs H1 ⟨z, q1⟩ c1 r1 => ⟨by rw [r1.length]; exact z, fun q hq =>
    h4 _ _ _ q1 (c1.laid C h2 hq) (.tup (.inl ⟨.inl upd_same, (h2.chg C.ok c1).notA hq⟩) z (r1.map (kp_laid hq)))⟩⟩
theorem df_lst (C : Cxt X W N sc kk) {gl : TDL} (h : DA X W es gl c) : DF X W (.List es pos) (gLst gl) c :=
  pe_imp (pe_lst h) fun σ H Q ⟨k, Δ, K, h1, h2, h3, h4⟩ => ⟨k, Δ, _, h1, h2, h3, fun ds vs H1 ⟨z, q1⟩ c1 r1 => ⟨by rw [r1.length]; exact z, fun q hq =>
    h4 _ _ _ _ q1 (c1.laid C h2 hq) (c1.free hq) upd_same z (r1.map (kp_laidA hq))⟩⟩

/-! ### subscripts, slices -/
abbrev DIx (X : Cx) (f : D → D → (D → Prop) → Prop) : Prop := IxR X (rD X.K f)
theorem de_ix (C : Cxt X W N sc kk) {f : D → D → (D → Prop) → Prop} (hr : DIx X f) (ha : DB X W a ga ca) (hb : DB X W b gb cb) (hs : PlainIx b := by exact fun _ _ => rfl) : DE X W (.Subscript a b pos) (gBin f ga gb) (ca + cb) :=
  pe_imp (pe_ix hr ha hb hs) (bin_use C (fun _ _ _ h => h) (fun _ _ _ h => h) fun _ _ _ _ h => h)
def gNo : TDO := fun _ K => K none
def gPart (g : TDE) : TDO := fun Δ K => g Δ fun d => match d with
  | .int i => K (some i)
  | _ => False
theorem dp_none : DP X W none gNo 0 := po_imp po_none fun σ H Q ⟨k, Δ, K, h1, h2, h3, h4⟩ => h4 none H h3 h2.refl
theorem RepO.int (r : RepO W σ Δ H v (.int i)) : v = .int i := by
  rcases r with r | ⟨a, xs, ds, e1, e2, _⟩
  · cases r
    rfl
  · cases e2
theorem dp_some (h : DB X W e g c) : DP X W (some e) (gPart g) c := po_imp (po_some h) fun σ H Q ⟨k, Δ, K, h1, h2, h3, h4⟩ => ⟨k, Δ, _, h1, h2, h3, fun d v H' q c r => by
    cases d with
    | int i => exact ⟨i, RepO.int r, h4 (some i) H' q c⟩
    | _ => exact (show False from q).elim⟩
def rDS (Kf : PySem.W.Frag) (f : D → Option Int → Option Int → (D → Prop) → Prop) : V → Option Int → Option Int → Hp → VK → Prop := fun x lo hi H Q => ∃ (A : Addr → Prop) (dx : D) (K : D → Prop), (∀ a, A a → H a ≠ none) ∧ RepB Kf A H x dx ∧ f dx lo hi K ∧
  ∀ d v H', K d → (∀ b o, H b = some o → H' b = some o) → Rep Kf A H' v d → Q v H'
def rDSF (Kf : PySem.W.Frag) (f : D → Option Int → Option Int → (List D → Prop) → Prop) : V → Option Int → Option Int → Hp → VK → Prop := fun x lo hi H Q => ∃ (A : Addr → Prop) (dx : D) (K : List D → Prop), (∀ a, A a → H a ≠ none) ∧ RepB Kf A H x dx ∧ f dx lo hi K ∧
  ∀ ds a xs H', K ds → (∀ b o, H b = some o → H' b = some o) → H a = none → H' a = some (.lst xs) → ds.length ≤ sizeLine → RepAll Kf (fun b => A b ∨ b = a) H' xs ds → Q (.ref a) H'
def gSl (f : D → Option Int → Option Int → (D → Prop) → Prop) (ga : TDE) (gl gh : TDO) : TDE := fun Δ K => ga Δ fun x => gl Δ fun l => gh Δ fun h => f x l h K
def gSlF (f : D → Option Int → Option Int → (List D → Prop) → Prop) (ga : TDE) (gl gh : TDO) : TDL := fun Δ K => ga Δ fun x => gl Δ fun l => gh Δ fun h => f x l h K
theorem de_sl (C : Cxt X W N sc kk) {f : D → Option Int → Option Int → (D → Prop) → Prop} {lo hi : Option Expr} {gl gh : TDO} (hr : SlR X (rDS X.K f)) (ha : DB X W a ga ca) (hl : DP X W lo gl cb) (hh : DP X W hi gh cc) :
    DE X W (.Subscript a (.Slice lo hi none p2) pos) (gSl f ga gl gh) (ca + cb + cc) :=
  pe_imp (pe_slice hr ha hl hh) fun σ H Q ⟨k, Δ, K, h1, h2, h3, h4⟩ => ⟨k, Δ, _, by omega, h2, h3, fun dx x H1 q1 c1 r1 => by
    have e1 := h2.chg C.ok c1
    refine ⟨k + ca, Δ, _, by omega, e1, q1, fun l H2 q2 c2 => ?_⟩
    have e2 := e1.chg C.ok c2
    refine ⟨k + ca + cb, Δ, _, by omega, e2, q2, fun u H3 q3 c3 => ?_⟩
    have e3 := e2.chg C.ok c3
    refine ⟨AA W σ Δ, dx, K, e3.dom C, RepO.bo C (RepO.chg C e2 (RepO.chg C e1 r1 c2) c3), q3, fun d v H' hd hx hv => ?_⟩
    have e : k + ca + cb + cc = k + (ca + cb + cc) := by omega
    exact h4 d v H' hd ((c1.trans (c2.trans (e ▸ c3))).trans (e ▸ Chg.of_ext e3.fin hx)) (by rw [C.hK]; exact hv)⟩
theorem df_sl (C : Cxt X W N sc kk) {f : D → Option Int → Option Int → (List D → Prop) → Prop} {lo hi : Option Expr} {gl gh : TDO} (hr : SlR X (rDSF X.K f)) (ha : DB X W a ga ca) (hl : DP X W lo gl cb) (hh : DP X W hi gh cc) :
    DF X W (.Subscript a (.Slice lo hi none p2) pos) (gSlF f ga gl gh) (ca + cb + cc) :=
  pe_imp (pe_slice hr ha hl hh) fun σ H Q ⟨k, Δ, K, h1, h2, h3, h4⟩ => ⟨k, Δ, _, by omega, h2, h3, fun dx x H1 q1 c1 r1 => by
    have e1 := h2.chg C.ok c1
    refine ⟨k + ca, Δ, _, by omega, e1, q1, fun l H2 q2 c2 => ?_⟩
    have e2 := e1.chg C.ok c2
    refine ⟨k + ca + cb, Δ, _, by omega, e2, q2, fun u H3 q3 c3 => ?_⟩
    have e3 := e2.chg C.ok c3
    refine ⟨AA W σ Δ, dx, K, e3.dom C, RepO.bo C (RepO.chg C e2 (RepO.chg C e1 r1 c2) c3), q3, fun ds a xs H' hd hx hn ha hz hv => ?_⟩
    have e : k + ca + cb + cc = k + (ca + cb + cc) := by omega
    have c' : Chg W (k + (ca + cb + cc)) H H3 := c1.trans (c2.trans (e ▸ c3))
    exact h4 ds a xs H' hd (c'.trans (e ▸ Chg.of_ext e3.fin hx)) (c'.free hn) ha hz (by rw [C.hK]; exact hv)⟩

/-! ### tests, and, or, not, if -/
def gTB (g : TDE) : TDT := fun Δ K => g Δ fun d => match d with
  | .bool b => K b
  | _ => False
theorem RepO.bool {x : Bool} (r : RepO W σ Δ H v (.bool x)) : v = .bl x := by
  rcases r with r | ⟨a, xs, ds, e1, e2, _⟩
  · cases r
    rfl
  · cases e2
/-- a test whose value is a bool -/
theorem dt_val (h : DB X W e g c) (he : ∀ whole, isTrue e X.env whole = (do let v ← whole; standAt e.pos; holding [v] (truthy v)) := by intro _; rfl) : DT X W e (gTB g) c :=
  pt_imp (pt_val h he) fun σ H Q ⟨k, Δ, K, h1, h2, h3, h4⟩ => ⟨k, Δ, _, h1, h2, h3, fun d v H' q c r => by
    cases d with
    | bool x => exact ⟨x, RepO.bool r, h4 x H' q c⟩
    | _ => exact (show False from q).elim⟩
theorem dt_cmp (C : Cxt X W N sc kk) {op : CmpOp} {f : D → D → (D → Prop) → Prop} (ho : DOp X (compareOp op) f) (ha : DB X W a ga ca) (hb : DB X W b gb cb) (hm : behindInMarks op b = false := by rfl) : DT X W (.Compare a [op] [b] pos) (gTB (gBin f ga gb)) (ca + cb) :=
  pt_imp (pt_cmpR ho ha hb hm) fun σ H Q ⟨k, Δ, K, h1, h2, h3, h4⟩ => bin_use C (fun _ _ _ h => h) (fun _ _ _ h => h) (fun _ _ _ _ h => h) σ H _ ⟨k, Δ, _, h1, h2, h3, fun d v H' q c r => by
    cases d with
    | bool x => exact ⟨x, RepO.bool (.inl r), h4 x H' q c⟩
    | _ => exact (show False from q).elim⟩
def gNotT (g : TDT) : TDT := fun Δ K => g Δ fun b => K (!b)
theorem dt_not {g : TDT} (h : DT X W e g c) : DT X W (.UnaryOp .Not e pos) (gNotT g) c := pt_imp (pt_not h) fun σ H Q ⟨k, Δ, K, h1, h2, h3, h4⟩ => ⟨k, Δ, _, h1, h2, h3, fun b H' q c => h4 _ H' q c⟩
def gAndT (g u : TDT) : TDT := fun Δ K => g Δ fun b => gIte b (u Δ K) (K false)
def gOrT (g u : TDT) : TDT := fun Δ K => g Δ fun b => gIte b (K true) (u Δ K)
abbrev DW (X : Cx) (W : Wd) (e : Expr) (g : TDT) (c : Nat) : Prop := PW X e (liftT W g c)
theorem pw_imp {X : Cx} {e : Expr} {t t' : TT} (h : PW X e t) (i : ∀ σ H Q, t' σ H Q → t σ H Q) : PW X e t' := ⟨fun w pins s σ H Q I q => h.run w pins s σ H Q I (i σ H Q q)⟩
theorem chgL {k : Nat} (c1 : Chg W (k + ca) H H') : Chg W (k + (ca + cb)) H H' := c1.mono (by omega)
variable {rest : List Expr}
theorem dw_and1 {g : TDT} (h : DT X W e g c) : DW X W (.BoolOp .And [e] pos) g c := pw_and1 h
theorem dw_or1 {g : TDT} (h : DT X W e g c) : DW X W (.BoolOp .Or [e] pos) g c := pw_or1 h
theorem dw_and (C : Cxt X W N sc kk) {g u : TDT} (h : DT X W a g ca) (hr : DW X W (.BoolOp .And (b :: rest) pos) u cb) : DW X W (.BoolOp .And (a :: b :: rest) pos) (gAndT g u) (ca + cb) :=
  pw_imp (pw_and h hr) fun σ H Q ⟨k, Δ, K, h1, h2, h3, h4⟩ => ⟨k, Δ, _, by omega, h2, h3, fun x H1 q1 c1 => by
    cases x with
    | true => exact ⟨k + ca, Δ, K, by omega, h2.chg C.ok c1, q1.1 rfl, fun y H2 q2 c2 => h4 y H2 q2 (chg3 c1 c2)⟩
    | false => exact h4 false H1 (q1.2 rfl) (chgL c1)⟩
theorem dw_or (C : Cxt X W N sc kk) {g u : TDT} (h : DT X W a g ca) (hr : DW X W (.BoolOp .Or (b :: rest) pos) u cb) : DW X W (.BoolOp .Or (a :: b :: rest) pos) (gOrT g u) (ca + cb) :=
  pw_imp (pw_or h hr) fun σ H Q ⟨k, Δ, K, h1, h2, h3, h4⟩ => ⟨k, Δ, _, by omega, h2, h3, fun x H1 q1 c1 => by
    cases x with
    | false => exact ⟨k + ca, Δ, K, by omega, h2.chg C.ok c1, q1.2 rfl, fun y H2 q2 c2 => h4 y H2 q2 (chg3 c1 c2)⟩
    | true => exact h4 true H1 (q1.1 rfl) (chgL c1)⟩
theorem DW.t {g : TDT} (h : DW X W e g c) : DT X W e g c := PW.pt h
/-- .. as values -/
def gAndV (ga gb : TDE) : TDE := fun Δ K => ga Δ fun d => match d with
  | .bool x => gIte x (gb Δ K) (K (.bool false))
  | _ => False
def gOrV (ga gb : TDE) : TDE := fun Δ K => ga Δ fun d => match d with
  | .bool x => gIte x (K (.bool true)) (gb Δ K)
  | _ => False
def gNotV (ga : TDE) : TDE := fun Δ K => ga Δ fun d => match d with
  | .bool x => K (.bool (!x))
  | _ => False
theorem de_one {op} (h : DE X W e g c) : DE X W (.BoolOp op [e] pos) g c := pe_one h
theorem de_and (C : Cxt X W N sc kk) (ha : DE X W a ga ca) (hb : DE X W (.BoolOp .And (b :: rest) pos) gb cb) : DE X W (.BoolOp .And (a :: b :: rest) pos) (gAndV ga gb) (ca + cb) :=
  pe_imp (pe_and ha hb) fun σ H Q ⟨k, Δ, K, h1, h2, h3, h4⟩ => ⟨k, Δ, _, by omega, h2, h3, fun d x H1 q1 c1 r1 => by
    cases d with
    | bool y =>
      refine ⟨y, RepO.bool (.inl r1), ?_⟩
      cases y with
      | true => exact ⟨k + ca, Δ, K, by omega, h2.chg C.ok c1, q1.1 rfl, fun d' v H2 q2 c2 r2 => h4 d' v H2 q2 (chg3 c1 c2) r2⟩
      | false => exact h4 _ _ H1 (q1.2 rfl) (chgL c1) (.bl false)
    | _ => exact (show False from q1).elim⟩
theorem de_or (C : Cxt X W N sc kk) (ha : DE X W a ga ca) (hb : DE X W (.BoolOp .Or (b :: rest) pos) gb cb) : DE X W (.BoolOp .Or (a :: b :: rest) pos) (gOrV ga gb) (ca + cb) :=
  pe_imp (pe_or ha hb) fun σ H Q ⟨k, Δ, K, h1, h2, h3, h4⟩ => ⟨k, Δ, _, by omega, h2, h3, fun d x H1 q1 c1 r1 => by
    cases d with
    | bool y =>
      refine ⟨y, RepO.bool (.inl r1), ?_⟩
      cases y with
      | false => exact ⟨k + ca, Δ, K, by omega, h2.chg C.ok c1, q1.2 rfl, fun d' v H2 q2 c2 r2 => h4 d' v H2 q2 (chg3 c1 c2) r2⟩
      | true => exact h4 _ _ H1 (q1.1 rfl) (chgL c1) (.bl true)
    | _ => exact (show False from q1).elim⟩
theorem de_not (ha : DE X W a ga ca) : DE X W (.UnaryOp .Not a pos) (gNotV ga) ca :=
  pe_imp (pe_not ha) fun σ H Q ⟨k, Δ, K, h1, h2, h3, h4⟩ => ⟨k, Δ, _, h1, h2, h3, fun d x H1 q1 c1 r1 => by
    cases d with
    | bool y => exact ⟨y, RepO.bool (.inl r1), h4 _ _ H1 q1 c1 (.bl _)⟩
    | _ => exact (show False from q1).elim⟩
/-- a comparison's `not x`, x any test -/
def gIf (gt : TDT) (ga gb : TDE) : TDE := fun Δ K => gt Δ fun x => gIte x (ga Δ K) (gb Δ K)
theorem de_if (C : Cxt X W N sc kk) {t : Expr} {gt : TDT} {ct : Nat} (ht : DT X W t gt ct) (ha : DE X W a ga ca) (hb : DE X W b gb cb) : DE X W (.IfExp t a b pos) (gIf gt ga gb) (ct + (ca + cb)) :=
  pe_imp (pe_ifExp ht ha hb) fun σ H Q ⟨k, Δ, K, h1, h2, h3, h4⟩ => ⟨k, Δ, _, by omega, h2, h3, fun x H1 q1 c1 => by
    have e1 := h2.chg C.ok c1
    cases x with
    | true => exact ⟨k + ct, Δ, K, by omega, e1, q1.1 rfl, fun d v H2 q2 c2 r2 => h4 d v H2 q2 (c1.trans (c2.mono (by omega))) r2⟩
    | false => exact ⟨k + ct, Δ, K, by omega, e1, q1.2 rfl, fun d v H2 q2 c2 r2 => h4 d v H2 q2 (c1.trans (c2.mono (by omega))) r2⟩⟩
/-- unary minus -/
def gNeg (ga : TDE) : TDE := fun Δ K => ga Δ fun d => match d with
  | .int i => K (.int (-i))
  | _ => False
theorem de_neg (ha : DB X W a ga ca) : DE X W (.UnaryOp .USub a pos) (gNeg ga) ca :=
  pe_imp (pe_un un_neg ha) fun σ H Q ⟨k, Δ, K, h1, h2, h3, h4⟩ => ⟨k, Δ, _, h1, h2, h3, fun d x H1 q1 c1 r1 => by
    cases d with
    | int y => exact ⟨y, RepO.int r1, h4 _ _ H1 q1 c1 (.int _)⟩
    | _ => exact (show False from q1).elim⟩
/-- a op b op' c -/
def gChain (f f' : D → D → (D → Prop) → Prop) (ga gb gc : TDE) : TDE := fun Δ K => ga Δ fun x => gb Δ fun y => f x y fun z => match z with
  | .bool t => gIte t (gc Δ fun w => f' y w K) (K (.bool false))
  | _ => False
theorem chain_use (C : Cxt X W N sc kk) {f f' : D → D → (D → Prop) → Prop} : ∀ σ H Q, lift W (gChain f f' ga gb gc) (ca + (cb + cc)) σ H Q → tChain (rD X.K f) (rD X.K f') (liftB W ga ca) (liftB W gb cb) (liftB W gc cc) σ H Q := fun σ H Q ⟨k, Δ, K, h1, h2, h3, h4⟩ =>
  ⟨k, Δ, _, by omega, h2, h3, fun dx x H1 q1 c1 r1 => by
    have e1 := h2.chg C.ok c1
    refine ⟨k + ca, Δ, _, by omega, e1, q1, fun dy y H2 q2 c2 r2 => ?_⟩
    have e2 := e1.chg C.ok c2
    refine ⟨AA W σ Δ, dx, dy, _, e2.dom C, RepB.of C e1 r1 c2, RepB.of C e2 r2 e2.refl, q2, fun z v H3 q3 x3 r3 => ?_⟩
    have c3 := Chg.of_ext e2.fin x3
    cases z with
    | bool t =>
      refine ⟨t, ?_, ?_⟩
      · cases r3
        rfl
      cases t with
      | true =>
        have e3 := e2.chg C.ok c3
        refine ⟨k + ca + cb, Δ, _, by omega, e3, q3.1 rfl, fun dw w' H4 q4 c4 r4 => ?_⟩
        have e4 := e3.chg C.ok c4
        refine ⟨AA W σ Δ, dy, dw, K, e4.dom C, RepO.bo C (RepO.chg C e3 (RepO.chg C e2 r2 c3) c4), RepO.bo C r4, q4, fun d v H5 hd hx hv => ?_⟩
        have c5 := Chg.of_ext e4.fin hx
        have e : k + ca + cb + cc = k + (ca + (cb + cc)) := by omega
        exact h4 d v H5 hd (c1.trans (c2.trans (c3.trans (e ▸ (c4.trans c5))))) (by rw [C.hK]; exact hv)
      | false =>
        refine h4 _ _ H3 (q3.2 rfl) (c1.trans (c2.trans (c3.mono (by omega)))) (.bl false)
    | _ => exact (show False from q3).elim⟩
theorem de_chain (C : Cxt X W N sc kk) {op op' : CmpOp} {f f' : D → D → (D → Prop) → Prop} {c0 : Expr} (ho : DOp X (compareOp op) f) (ho' : DOp X (compareOp op') f') (ha : DB X W a ga ca) (hb : DB X W b gb cb) (hc : DB X W c0 gc cc) (hm : lastMarks [op, op'] [b, c0] = false := by with_unfolding_all rfl) :
    DE X W (.Compare a [op, op'] [b, c0] pos) (gChain f f' ga gb gc) (ca + (cb + cc)) := pe_imp (pe_chain ho ho' ha hb hc hm) (chain_use C)
theorem dt_chain (C : Cxt X W N sc kk) {op op' : CmpOp} {f f' : D → D → (D → Prop) → Prop} {c0 : Expr} (ho : DOp X (compareOp op) f) (ho' : DOp X (compareOp op') f') (ha : DB X W a ga ca) (hb : DB X W b gb cb) (hc : DB X W c0 gc cc) (hm : lastMarks [op, op'] [b, c0] = false := by with_unfolding_all rfl) :
    DT X W (.Compare a [op, op'] [b, c0] pos) (gTB (gChain f f' ga gb gc)) (ca + (cb + cc)) := pt_imp (pt_chain ho ho' ha hb hc hm) fun σ H Q ⟨k, Δ, K, h1, h2, h3, h4⟩ => chain_use C σ H _ ⟨k, Δ, _, h1, h2, h3, fun d v H' q c r => by
    cases d with
    | bool x => exact ⟨x, RepO.bool (.inl r), h4 x H' q c⟩
    | _ => exact (show False from q).elim⟩

/-! ### calls of built-ins, of methods of built-in types -/
def rDC (Kf : PySem.W.Frag) (f : List D → (D → Prop) → Prop) : List V → Hp → VK → Prop := fun xs H Q => ∃ (A : Addr → Prop) (ds : List D) (K : D → Prop), (∀ a, A a → H a ≠ none) ∧ RepBs Kf A H xs ds ∧ f ds K ∧
  ∀ d v H', K d → (∀ b o, H b = some o → H' b = some o) → Rep Kf A H' v d → Q v H'
def rDCF (Kf : PySem.W.Frag) (f : List D → (List D → Prop) → Prop) : List V → Hp → VK → Prop := fun xs H Q => ∃ (A : Addr → Prop) (ds : List D) (K : List D → Prop), (∀ a, A a → H a ≠ none) ∧ RepBs Kf A H xs ds ∧ f ds K ∧
  ∀ ds a xs H', K ds → (∀ b o, H b = some o → H' b = some o) → H a = none → H' a = some (.lst xs) → ds.length ≤ sizeLine → RepAll Kf (fun b => A b ∨ b = a) H' xs ds → Q (.ref a) H'
abbrev DCall (X : Cx) (f : Value) (r : List D → (D → Prop) → Prop) : Prop := CallR X f (rDC X.K r)
abbrev DCallF (X : Cx) (f : Value) (r : List D → (List D → Prop) → Prop) : Prop := CallR X f (rDCF X.K r)
def gCall (f : List D → (D → Prop) → Prop) (ga : TDL) : TDE := fun Δ K => ga Δ fun ds => f ds K
def gCallF (f : List D → (List D → Prop) → Prop) (ga : TDL) : TDL := fun Δ K => ga Δ fun ds => f ds K
theorem call_use (C : Cxt X W N sc kk) {f : List D → (D → Prop) → Prop} {gl : TDL} : ∀ σ H Q, lift W (gCall f gl) c σ H Q → tCB (rDC X.K f) (liftLB W gl c) σ H Q := fun σ H Q ⟨k, Δ, K, h1, h2, h3, h4⟩ =>
  ⟨k, Δ, _, h1, h2, h3, fun ds vs H1 q1 c1 r1 => by
    have e1 := h2.chg C.ok c1
    exact ⟨AA W σ Δ, ds, K, e1.dom C, r1.bo C, q1, fun d v H' hd hx hv => h4 d v H' hd (c1.trans (Chg.of_ext e1.fin hx)) (by rw [C.hK]; exact hv)⟩⟩
theorem callF_use (C : Cxt X W N sc kk) {f : List D → (List D → Prop) → Prop} {gl : TDL} : ∀ σ H Q, liftF W (gCallF f gl) c σ H Q → tCB (rDCF X.K f) (liftLB W gl c) σ H Q := fun σ H Q ⟨k, Δ, K, h1, h2, h3, h4⟩ =>
  ⟨k, Δ, _, h1, h2, h3, fun ds vs H1 q1 c1 r1 => by
    have e1 := h2.chg C.ok c1
    exact ⟨AA W σ Δ, ds, K, e1.dom C, r1.bo C, q1, fun ds' a xs H' hd hx hn ha hz hv => h4 ds' a xs H' hd (c1.trans (Chg.of_ext e1.fin hx)) (c1.free hn) ha hz (by rw [C.hK]; exact hv)⟩⟩
variable {x : Str} {id T : String} {gl : TDL}
theorem de_callB (C : Cxt X W N sc kk) {f : List D → (D → Prop) → Prop} (hc : DCall X (.builtin id) f) (hg : sc.names.lookup x = some .globalImplicit) (hm : X.mg x = none) (hv : bootBuiltins x = some (.builtin id)) (ha : DAb X W (e :: es) gl c)
    (hn : x ≠ "__name__" := by decide +kernel) (hdb : (x == ("__debug__" : Str)) = false := by decide +kernel) (he : starEach (e :: es) X.env = (false, eval e X.env) :: starEach es X.env := by rfl) (hpl : (backTo pos (starEach es X.env)).any (·.1) = false := by rfl) :
    DE X W (.Call (.Name x p) (e :: es) [] pos) (gCall f gl) c := pe_imp (pe_callB hc (C.gl hg) hm hv ha hn hdb he hpl) (call_use C)
theorem de_callT (C : Cxt X W N sc kk) {f : List D → (D → Prop) → Prop} (hc : DCall X (.type T) f) (hg : sc.names.lookup x = some .globalImplicit) (hm : X.mg x = none) (hv : bootBuiltins x = some (.type T)) (ha : DAb X W (e :: es) gl c)
    (hn : x ≠ "__name__" := by decide +kernel) (hdb : (x == ("__debug__" : Str)) = false := by decide +kernel) (he : starEach (e :: es) X.env = (false, eval e X.env) :: starEach es X.env := by rfl) (hpl : (backTo pos (starEach es X.env)).any (·.1) = false := by rfl) :
    DE X W (.Call (.Name x p) (e :: es) [] pos) (gCall f gl) c := pe_imp (pe_callTy hc (C.gl hg) hm hv ha hn hdb he hpl) (call_use C)
theorem df_callB (C : Cxt X W N sc kk) {f : List D → (List D → Prop) → Prop} (hc : DCallF X (.builtin id) f) (hg : sc.names.lookup x = some .globalImplicit) (hm : X.mg x = none) (hv : bootBuiltins x = some (.builtin id)) (ha : DAb X W (e :: es) gl c)
    (hn : x ≠ "__name__" := by decide +kernel) (hdb : (x == ("__debug__" : Str)) = false := by decide +kernel) (he : starEach (e :: es) X.env = (false, eval e X.env) :: starEach es X.env := by rfl) (hpl : (backTo pos (starEach es X.env)).any (·.1) = false := by rfl) :
    DF X W (.Call (.Name x p) (e :: es) [] pos) (gCallF f gl) c := pe_imp (pe_callB hc (C.gl hg) hm hv ha hn hdb he hpl) (callF_use C)
theorem df_callT (C : Cxt X W N sc kk) {f : List D → (List D → Prop) → Prop} (hc : DCallF X (.type T) f) (hg : sc.names.lookup x = some .globalImplicit) (hm : X.mg x = none) (hv : bootBuiltins x = some (.type T)) (ha : DAb X W (e :: es) gl c)
    (hn : x ≠ "__name__" := by decide +kernel) (hdb : (x == ("__debug__" : Str)) = false := by decide +kernel) (he : starEach (e :: es) X.env = (false, eval e X.env) :: starEach es X.env := by rfl) (hpl : (backTo pos (starEach es X.env)).any (·.1) = false := by rfl) :
    DF X W (.Call (.Name x p) (e :: es) [] pos) (gCallF f gl) c := pe_imp (pe_callTy hc (C.gl hg) hm hv ha hn hdb he hpl) (callF_use C)
/-- a name of the module for a built-in function (from math import gcd) -/
theorem de_callG (C : Cxt X W N sc kk) {f : List D → (D → Prop) → Prop} (hc : DCall X (.builtin id) f) (hg : sc.names.lookup x = some .globalImplicit) (hm : X.mg x = some (.builtin id)) (ha : DAb X W (e :: es) gl c)
    (hdb : (x == ("__debug__" : Str)) = false := by decide +kernel) (he : starEach (e :: es) X.env = (false, eval e X.env) :: starEach es X.env := by rfl) (hpl : (backTo pos (starEach es X.env)).any (·.1) = false := by rfl) :
    DE X W (.Call (.Name x p) (e :: es) [] pos) (gCall f gl) c := pe_imp (pe_callBfun hc (C.gl hg) hm ha hdb he hpl) (call_use C)
end
end DL
/-! DLStmt: targets, statements, loops over data. -/
namespace DL
open PySem PySem.Spec PyProof.Rows L2

structure DEnds where
  nx : DEnv → Prop
  rt : D → Prop
  bk : DEnv → Prop := fun _ => False
  ct : DEnv → Prop := fun _ => False
abbrev TDS := DEnds → DEnv → Prop
structure EndsOk (W : Wd) (k : Nat) (A : Addr → Prop) (H : Hp) (D2 : DEnds) (E : Ends) : Prop where
  nx : ∀ Δ' σ' H', D2.nx Δ' → En W k σ' H' Δ' → Kp A (AA W σ' Δ') H H' → E.nx σ' H'
  rt : ∀ d v H', D2.rt d → Fin W k H' → Rep W.K W.A0 H' v d → E.rt v H'
  bk : ∀ Δ' σ' H', D2.bk Δ' → En W k σ' H' Δ' → Kp A (AA W σ' Δ') H H' → E.bk σ' H'
  ct : ∀ Δ' σ' H', D2.ct Δ' → En W k σ' H' Δ' → Kp A (AA W σ' Δ') H H' → E.ct σ' H'
def liftS (W : Wd) (g : TDS) (c : Nat) : TS := fun E σ H => ∃ (k : Nat) (Δ : DEnv) (D2 : DEnds), k + c ≤ W.c0 ∧ En W k σ H Δ ∧ g D2 Δ ∧ EndsOk W (k + c) (AA W σ Δ) H D2 E
abbrev DS (X : Cx) (W : Wd) (s : Stmt) (g : TDS) (c : Nat) : Prop := PS X s (liftS W g c)
abbrev DSs (X : Cx) (W : Wd) (s : List Stmt) (g : TDS) (c : Nat) : Prop := PSs X s (liftS W g c)
theorem Kp.trans {A A' A'' : Addr → Prop} {H H' H'' : Hp} (a : Kp A A' H H') (b : Kp A' A'' H' H'') : Kp A A'' H H'' := fun c o e n => b c o (a c o e n).1 (a c o e n).2
theorem Kp.refl {A : Addr → Prop} {H : Hp} : Kp A A H H := fun _ _ e n => ⟨e, n⟩
section
variable {X : Cx} {W : Wd} {N : List Str} {sc : Scope} {kk : Nat} {e a b : Expr} {es : List Expr} {c ca cb cc : Nat} {g ga gb gc : TDE} {pos p p2 : Pos} {k j : Nat} {σ : St} {Δ : DEnv} {H H' : Hp} {v : V} {d : D}
theorem EndsOk.step {A A' : Addr → Prop} {D2 : DEnds} {E : Ends} (h : EndsOk W k A H D2 E) (q : Kp A A' H H') : EndsOk W k A' H' D2 E :=
  ⟨fun Δ' σ' H2 a b c => h.nx Δ' σ' H2 a b (q.trans c), h.rt, fun Δ' σ' H2 a b c => h.bk Δ' σ' H2 a b (q.trans c), fun Δ' σ' H2 a b c => h.ct Δ' σ' H2 a b (q.trans c)⟩
theorem EndsOk.le {A : Addr → Prop} {D2 : DEnds} {E : Ends} (h : EndsOk W j A H D2 E) (l : k ≤ j) : EndsOk W k A H D2 E :=
  ⟨fun Δ' σ' H2 a b c => h.nx Δ' σ' H2 a (b.mono l) c, fun d v H2 a b c => h.rt d v H2 a (b.mono l) c, fun Δ' σ' H2 a b c => h.bk Δ' σ' H2 a (b.mono l) c, fun Δ' σ' H2 a b c => h.ct Δ' σ' H2 a (b.mono l) c⟩

/-! ### blocks -/
def gNext : TDS := fun D Δ => D.nx Δ
def gSeq (g1 g2 : TDS) : TDS := fun D Δ => g1 { D with nx := g2 D } Δ
theorem dss_nil : DSs X W [] gNext 0 := pss_imp pss_nil fun E σ H ⟨k, Δ, D2, h1, h2, h3, h4⟩ => h4.nx Δ σ H h3 h2 Kp.refl
theorem dss_cons {s : Stmt} {r : List Stmt} {g1 g2 : TDS} (h : DS X W s g1 ca) (hr : DSs X W r g2 cb) : DSs X W (s :: r) (gSeq g1 g2) (ca + cb) :=
  pss_imp (pss_cons h hr) fun E σ H ⟨k, Δ, D2, h1, h2, h3, h4⟩ => ⟨k, Δ, { D2 with nx := g2 D2 }, by omega, h2, h3,
    ⟨fun Δ' σ' H' q e kp => ⟨k + ca, Δ', D2, by omega, e, q, (h4.le (by omega)).step kp⟩, (h4.le (by omega)).rt, (h4.le (by omega)).bk, (h4.le (by omega)).ct⟩⟩
theorem dss_one {s : Stmt} {g1 : TDS} (h : DS X W s g1 ca) : DSs X W [s] g1 ca := pss_one h
theorem ds_pass : DS X W (.Pass pos) gNext 0 := ps_imp ps_pass fun E σ H ⟨k, Δ, D2, h1, h2, h3, h4⟩ => h4.nx Δ σ H h3 h2 Kp.refl
def gBreak : TDS := fun D Δ => D.bk Δ
def gCont : TDS := fun D Δ => D.ct Δ
theorem ds_break : DS X W (.Break pos) gBreak 0 := ps_imp ps_break fun E σ H ⟨k, Δ, D2, h1, h2, h3, h4⟩ => h4.bk Δ σ H h3 h2 Kp.refl
theorem ds_cont : DS X W (.Continue pos) gCont 0 := ps_imp ps_continue fun E σ H ⟨k, Δ, D2, h1, h2, h3, h4⟩ => h4.ct Δ σ H h3 h2 Kp.refl
def gDrop (g : TDE) : TDS := fun D Δ => g Δ fun _ => D.nx Δ
theorem ds_expr (C : Cxt X W N sc kk) (h : DB X W e g c) (hs : swapsWith e none pos.line X.env = pure false := by rfl) : DS X W (.Expr e pos) (gDrop g) c :=
  ps_imp (ps_expr h hs) fun E σ H ⟨k, Δ, D2, h1, h2, h3, h4⟩ => ⟨k, Δ, _, h1, h2, h3, fun d v H' q c r => h4.nx Δ σ H' q (h2.chg C.ok c) (c.kpE C.ok)⟩
def gRet (g : TDE) : TDS := fun D Δ => g Δ D.rt
theorem Kp.toA0 {A : Addr → Prop} (s : ∀ a, W.A0 a → A a) : Kp A W.A0 H H := fun _ _ e n => ⟨e, fun q => n (s _ q)⟩
theorem ds_ret (C : Cxt X W N sc kk) (h : DE X W e g c) : DS X W (.Return (some e) pos) (gRet g) c :=
  ps_imp (ps_ret h) fun E σ H ⟨k, Δ, D2, h1, h2, h3, h4⟩ => ⟨k, Δ, _, h1, h2, h3, fun d v H' q c r => h4.rt d v H' q (h2.fin.chg c) (r.map (Kp.toA0 fun _ => .inl))⟩
/-- a list of the def's own is given back -/
theorem ds_retO (C : Cxt X W N sc kk) (h : DB X W e g c) : DS X W (.Return (some e) pos) (gRet g) c :=
  ps_imp (ps_ret h) fun E σ H ⟨k, Δ, D2, h1, h2, h3, h4⟩ => ⟨k, Δ, _, h1, h2, h3, fun d v H' q c r => h4.rt d v H' q (h2.fin.chg c) (by
    rcases r with r | ⟨a, xs, ds, e1, e2, e3, r, z, i, es, o1, o2⟩
    · exact r.map (Kp.toA0 fun _ => .inl)
    · subst e1 e2
      have s := h2.sl i
      rw [o1] at s
      obtain ⟨a', xs', g1, _, _, _, g5, _⟩ := s
      rw [o2] at g1
      cases g1
      exact .lst e3 g5 z (r.map (Kp.toA0 fun _ => .inl)))⟩
def gRetN : TDS := fun D _ => D.rt .none
theorem ds_retN : DS X W (.Return none pos) gRetN 0 := ps_imp ps_retN fun E σ H ⟨k, Δ, D2, h1, h2, h3, h4⟩ => h4.rt .none .non H h3 h2.fin .non
def gIfS (gt : TDT) (g1 g2 : TDS) : TDS := fun D Δ => gt Δ fun b => gIte b (g1 D Δ) (g2 D Δ)
theorem ds_if (C : Cxt X W N sc kk) {t : Expr} {s1 s2 : List Stmt} {gt : TDT} {g1 g2 : TDS} {ct : Nat} (ht : DT X W t gt ct) (ha : DSs X W s1 g1 ca) (hb : DSs X W s2 g2 cb) : DS X W (.If t s1 s2 pos) (gIfS gt g1 g2) (ct + (ca + cb)) :=
  ps_imp (ps_if ht ha hb) fun E σ H ⟨k, Δ, D2, h1, h2, h3, h4⟩ => ⟨k, Δ, _, by omega, h2, h3, fun x H1 q1 c1 => by
    have e1 := h2.chg C.ok c1
    cases x with
    | true => exact ⟨k + ct, Δ, D2, by omega, e1, q1.1 rfl, (h4.le (by omega)).step (c1.kpE C.ok)⟩
    | false => exact ⟨k + ct, Δ, D2, by omega, e1, q1.2 rfl, (h4.le (by omega)).step (c1.kpE C.ok)⟩⟩

/-! ### stores -/
theorem ownA_set {i : Nat} {s : Sv} {x : Option V} {a : Addr} (hs : ∀ ds, s ≠ .own ds) (h : OwnA (σ.set i x) (Δ.set i s) a) : OwnA σ Δ a := by
  obtain ⟨j, ds, h1, h2⟩ := h
  by_cases e : j = i
  · subst e
    by_cases l : j < Δ.length
    · rw [nth_set_self l] at h1
      exact absurd h1 (hs ds)
    · have z : (Δ.set j s) = Δ := List.set_eq_of_length_le (by omega)
      rw [z] at h1
      exact absurd (nth_lt (by rw [h1]; simp)) l
  · rw [nth_set_ne e] at h1
    rw [List.getElem?_set_ne (fun z => e z.symm)] at h2
    exact ⟨j, ds, h1, h2⟩
theorem aa_set {i : Nat} {s : Sv} {x : Option V} {a : Addr} (hs : ∀ ds, s ≠ .own ds) (h : AA W (σ.set i x) (Δ.set i s) a) : AA W σ Δ a := h.elim .inl fun q => .inr (ownA_set hs q)
theorem Kp.less {A A' : Addr → Prop} (h : ∀ a, A' a → A a) : Kp A A' H H := fun _ _ e n => ⟨e, fun q => n (h _ q)⟩
theorem SlotOk.mono {A A' : Addr → Prop} {s : Sv} (h : ∀ a, A' a → A a) {i : Nat} (q : SlotOk W σ A H i s) : SlotOk W σ A' H i s := by
  cases s with
  | un => trivial
  | dat d =>
    obtain ⟨v, e, r⟩ := q
    exact ⟨v, e, r.map (Kp.less h)⟩
  | scr ns =>
    obtain ⟨v, e, r⟩ := q
    exact ⟨v, e, r.map (Kp.less h)⟩
  | pot => exact q
  | own ds =>
    obtain ⟨a, xs, e1, e2, r, e3⟩ := q
    exact ⟨a, xs, e1, e2, r.map (Kp.less h), e3⟩
theorem slot_set {A : Addr → Prop} {s : Sv} {i j : Nat} {x : Option V} (e : j ≠ i) (h : SlotOk W σ A H j s) : SlotOk W (σ.set i x) A H j s := by
  have z : (σ.set i x)[j]? = σ[j]? := List.getElem?_set_ne fun z => e z.symm
  cases s with
  | un => trivial
  | dat d =>
    obtain ⟨v, e, r⟩ := h
    exact ⟨v, z.trans e, r⟩
  | scr ns =>
    obtain ⟨v, e, r⟩ := h
    exact ⟨v, z.trans e, r⟩
  | pot =>
    obtain ⟨a, e, r⟩ := h
    exact ⟨a, z.trans e, r⟩
  | own ds =>
    obtain ⟨a, xs, e1, r⟩ := h
    exact ⟨a, xs, z.trans e1, r⟩
/-- a slot gets new data, or is forgotten -/
theorem En.store (en : En W k σ H Δ) {i : Nat} {s : Sv} {x : Option V} (hs : ∀ ds, s ≠ .own ds) (hi : i < σ.length → SlotOk W (σ.set i x) (AA W σ Δ) H i s) : En W k (σ.set i x) H (Δ.set i s) := by
  refine ⟨by rw [List.length_set, List.length_set]; exact en.len, fun j => ?_, fun j l ds es a h1 h2 h3 h4 => ?_, en.fin, en.dom0⟩
  · refine SlotOk.mono (fun a q => aa_set hs q) ?_
    by_cases e : j = i
    · subst e
      by_cases l : j < Δ.length
      · rw [nth_set_self l]
        exact hi (by rw [← en.len]; exact l)
      · have z : (Δ.set j s) = Δ := List.set_eq_of_length_le (by omega)
        have z2 : (σ.set j x) = σ := List.set_eq_of_length_le (by rw [← en.len]; omega)
        rw [z, z2]
        exact en.sl j
    · rw [nth_set_ne e]
      exact slot_set e (en.sl j)
  · have f : ∀ {j : Nat} {ds : List D}, nth (Δ.set i s) j = .own ds → (σ.set i x)[j]? = some (some (.ref a)) → nth Δ j = .own ds ∧ σ[j]? = some (some (.ref a)) := fun {j ds} h1 h3 => by
      by_cases e : j = i
      · subst e
        by_cases l : j < Δ.length
        · rw [nth_set_self l] at h1
          exact absurd h1 (hs ds)
        · have z : (Δ.set j s) = Δ := List.set_eq_of_length_le (by omega)
          have z2 : (σ.set j x) = σ := List.set_eq_of_length_le (by rw [← en.len]; omega)
          rw [z] at h1
          rw [z2] at h3
          exact ⟨h1, h3⟩
      · rw [nth_set_ne e] at h1
        rw [List.getElem?_set_ne (fun z => e z.symm)] at h3
        exact ⟨h1, h3⟩
    exact en.uniq j l ds es a (f h1 h3).1 (f h2 h4).1 (f h1 h3).2 (f h2 h4).2
theorem En.dat (en : En W k σ H Δ) {i : Nat} (r : Rep W.K (AA W σ Δ) H v d) : En W k (σ.set i (some v)) H (Δ.set i (.dat d)) :=
  en.store (fun _ z => by cases z) fun l => ⟨v, List.getElem?_set_self l, r⟩
theorem kp_set {i : Nat} {s : Sv} {x : Option V} (hs : ∀ ds, s ≠ .own ds) : Kp (AA W σ Δ) (AA W (σ.set i x) (Δ.set i s)) H H := Kp.less fun _ q => aa_set hs q
/-- a slot gets a new list of its own: it lay at no address of H -/
theorem En.own (en : En W k σ H Δ) {i : Nat} {a : Addr} {xs : List V} {ds : List D} (hi : i < σ.length) (c : Chg W j H H') (hn : H a = none) (hl : H' a = some (.lst xs)) (hz : ds.length ≤ sizeLine) (r : RepAll W.K (fun b => AA W σ Δ b ∨ b = a) H' xs ds) (ok : W.Ok) :
    En W j (σ.set i (some (.ref a))) H' (Δ.set i (.own ds)) ∧ Kp (AA W σ Δ) (AA W (σ.set i (some (.ref a))) (Δ.set i (.own ds))) H H' := by
  have li : i < Δ.length := by rw [en.len]; exact hi
  have sub : ∀ b, AA W (σ.set i (some (.ref a))) (Δ.set i (.own ds)) b → AA W σ Δ b ∨ b = a := fun b q => by
    rcases q with q | ⟨j, es, h1, h2⟩
    · exact .inl (.inl q)
    · by_cases e : j = i
      · subst e
        rw [List.getElem?_set_self hi] at h2
        cases h2
        exact .inr rfl
      · rw [nth_set_ne e] at h1
        rw [List.getElem?_set_ne (fun z => e z.symm)] at h2
        exact .inl (.inr ⟨j, es, h1, h2⟩)
  have kp : Kp (AA W σ Δ) (AA W (σ.set i (some (.ref a))) (Δ.set i (.own ds))) H H' := fun b o e n => ⟨c.keep b o e fun q => n (.inl (ok.sub b q)), fun q => (sub b q).elim n fun z => by
    rw [z, hn] at e
    cases e⟩
  have hA0 : ¬ W.A0 a := fun q => en.dom0 a q hn
  refine ⟨⟨by rw [List.length_set, List.length_set]; exact en.len, fun l => ?_, fun j1 j2 d1 d2 b h1 h2 h3 h4 => ?_, en.fin.chg c, fun b q => c.dom (en.dom0 b q)⟩, kp⟩
  · by_cases e : l = i
    · subst e
      rw [nth_set_self li]
      exact ⟨a, xs, List.getElem?_set_self hi, hl, r.map (Kp.less sub), en.fin.free hn, hA0, hz⟩
    · rw [nth_set_ne e]
      have s := (en.chg ok c).sl l
      refine slot_set e ?_
      have s0 := en.sl l
      revert s s0
      cases h : nth Δ l with
      | un => exact fun _ _ => trivial
      | dat d =>
        rintro _ ⟨v, e1, r1⟩
        exact ⟨v, e1, r1.map kp⟩
      | scr ns =>
        rintro _ ⟨v, e1, r1⟩
        exact ⟨v, e1, r1.map kp⟩
      | pot => exact fun s _ => s
      | own es =>
        rintro ⟨b, ys, e1, e2, r1, e3⟩ ⟨b', ys', f1, f2, r2, f3⟩
        rw [e1] at f1
        cases f1
        have f2' := c.keep b _ f2 fun q => ok.pdom b q f3.1
        rw [e2] at f2'
        cases f2'
        exact ⟨b, ys, e1, e2, r2.map kp, e3⟩
  · have f : ∀ {j : Nat} {es : List D}, j ≠ i → nth (Δ.set i (.own ds)) j = .own es → (σ.set i (some (.ref a)))[j]? = some (some (.ref b)) → nth Δ j = .own es ∧ σ[j]? = some (some (.ref b)) := fun {j es} e h1 h3 => by
      rw [nth_set_ne e] at h1
      rw [List.getElem?_set_ne (fun z => e z.symm)] at h3
      exact ⟨h1, h3⟩
    have ne : ∀ {j : Nat} {es : List D}, j ≠ i → nth (Δ.set i (.own ds)) j = .own es → (σ.set i (some (.ref a)))[j]? = some (some (.ref b)) → b ≠ a := fun {j es} e h1 h3 z => by
      obtain ⟨g1, g2⟩ := f e h1 h3
      have s := en.sl j
      rw [g1] at s
      obtain ⟨b', ys, q1, q2, _⟩ := s
      rw [g2] at q1
      cases q1
      rw [z, hn] at q2
      cases q2
    by_cases e1 : j1 = i
    · by_cases e2 : j2 = i
      · rw [e1, e2]
      · subst e1
        rw [List.getElem?_set_self hi] at h3
        cases h3
        exact absurd rfl (ne e2 h2 h4)
    · by_cases e2 : j2 = i
      · subst e2
        rw [List.getElem?_set_self hi] at h4
        cases h4
        exact absurd rfl (ne e1 h1 h3)
      · exact en.uniq j1 j2 d1 d2 b (f e1 h1 h3).1 (f e2 h2 h4).1 (f e1 h1 h3).2 (f e2 h2 h4).2
end
end DL
/-! DLFun: defs, their calls, their bodies; the guards of repr are told. -/
namespace DL
open PySem PySem.Spec PyProof.Rows L2

/-- a def's promise where no repr is under way -/
structure FnG (P : Program) (w : World) (K : PySem.W.Frag) (mg : Str → Option Value) (base : Heap) (k : Nat) (f : Addr) (fd : FuncData) (ps : List Str) (sp : Sp) : Prop where
  len : ∀ vs H Q E, sp vs H Q E → vs.length = ps.length
  run : ∀ (A : Around) (outer : List Env) (s : Shared) (H : Hp) (args : Args) (us : List Value) (vs : List V) (Q : VK) (E : XK), A.guards = some [] → Room k A → Env0 P w K mg base A outer s H → BindsTo s fd args (ps.zip us) → Vals vs us →
    sp vs H Q E → codeAny (model P w) A (.call (.ref f) args) (CR (L2.CX P w) outer P w H s Q E) s
/-- how arguments come to parameters: n by place, ks by name, ds from the defaults -/
def BindG (K : PySem.W.Frag) (fd : FuncData) (ps : List Str) (n : Nat) (ks : List Str) (ds : List Value) : Prop :=
  ∀ (s : Shared) (us ws : List Value), K.In s.heap → us.length = n → ws.length = ks.length → BindsTo s fd ⟨us, ks.zip ws⟩ (ps.zip (us ++ (ws ++ ds)))
theorem BindG.plain {K : PySem.W.Frag} {fd : FuncData} {ps ks : List Str} {n : Nat} (h : ∀ us ws : List Value, us.length = n → ws.length = ks.length → bindArgs fd ⟨us, ks.zip ws⟩ = pure (ps.zip (us ++ ws))) : BindG K fd ps n ks [] := fun s us ws _ h1 h2 => by
  rw [List.append_nil]
  exact .of_eq (h us ws h1 h2)
section
variable {P : Program} {w : World} {K : PySem.W.Frag} {mg : Str → Option Value} {base : Heap} {k : Nat} {f : Addr} {fd : FuncData} {ps ks : List Str} {sp : Sp} {X : Cx} {E : XK} {x : Str} {p pos : Pos} {n : Nat} {ds : List Value} {dvs : List V}
theorem FnG.mono {j : Nat} (F : FnG P w K mg base k f fd ps sp) (h : k ≤ j) : FnG P w K mg base j f fd ps sp :=
  ⟨F.len, fun A outer s H args us vs Q E hg hr => F.run A outer s H args us vs Q E hg (hr.mono h)⟩
theorem FnG.of_ok (F : FnOk P w K mg base (L2.CX P w) k f fd ps sp) : FnG P w K mg base k f fd ps sp := ⟨F.len, fun A outer s H args us vs Q E _ => F.run A outer s H args us vs Q E⟩
/-- the callee's run, seen from the caller's body -/
theorem run_g {pins : List (Addr × Obj)} {σ : St} {H : Hp} {s : Shared} {Q : VK} {us ws : List Value} {vs zs : List V} (F : FnG X.prog X.w X.K X.mg X.base k f fd ps sp) (hr : Room k X.A) (hg : X.A.guards = some []) (hb : BindG X.K fd ps n ks ds) (hd : Vals dvs ds) (hx : Passes (L2.CX X.prog X.w) X E)
    (I : Inv X pins σ H s) (r : Vals vs us) (rz : Vals zs ws) (h1 : us.length = n) (h2 : ws.length = ks.length) (h : sp (vs ++ (zs ++ dvs)) H Q E) : wpAny (model X.prog X.w) X.A (call (.ref f) us (ks.zip ws)) (EP X pins σ Q) X.xe s := by
  have code := F.run X.A X.stack s H ⟨us, ks.zip ws⟩ (us ++ (ws ++ ds)) (vs ++ (zs ++ dvs)) Q E hg hr I.env0 (hb s us ws I.kIn h1 h2) (r.append (rz.append hd)) h
  refine wpAny_call (codeAny_mono code fun res s' q => ?_)
  match res, q with
  | .error e, q => exact hx pins σ H s e s' I q
  | .ok (.ret u), q => exact I.after q
theorem zip_nil_nil {us : List Value} (h : us.length = ([] : List Str).length) : us = [] := List.eq_nil_of_length_eq_zero h
/-- f(e, ..) -/
theorem pe_g {e : Expr} {es : List Expr} {t : TA} (F : FnG X.prog X.w X.K X.mg X.base k f fd ps sp) (hr : Room k X.A) (hg : X.A.guards = some []) (hgl : Gl X x) (hm : X.mg x = some (.ref f)) (hk : PySem.W.keepIn X.K (.ref f) = true) (hb : BindG X.K fd ps n [] ds) (hd : Vals dvs ds)
    (hx : Passes (L2.CX X.prog X.w) X E) (ha : PA X (e :: es) t) (hdb : (x == ("__debug__" : Str)) = false) (he : starEach (e :: es) X.env = (false, eval e X.env) :: starEach es X.env) (hpl : (backTo pos (starEach es X.env)).any (·.1) = false) :
    PE X (.Call (.Name x p) (e :: es) [] pos) (fun σ H Q => t σ H fun vs H1 => vs.length = n ∧ sp (vs ++ dvs) H1 Q E) := by
  refine ⟨fun pins s σ H Q I h => wpAny_Call_Name_kw (ld_glob I hgl hm ?_ hdb)⟩
  refine PySem.W.callWith_K (h₀ := X.base) I.ok.mod.kin hk ?_ he hpl
  refine thn (ha.run pos pins s σ H _ I h) ?_
  rintro us s1 ⟨vs, H1, I1, r, hn, q⟩
  exact ⟨I1.kIn, run_g (ws := []) (zs := []) F hr hg hb hd hx I1 r .nil (r.length.symm.trans hn) rfl q⟩
/-- f() -/
theorem pe_g0 (F : FnG X.prog X.w X.K X.mg X.base k f fd ps sp) (hr : Room k X.A) (hg : X.A.guards = some []) (hgl : Gl X x) (hm : X.mg x = some (.ref f)) (hk : PySem.W.keepIn X.K (.ref f) = true) (hb : BindG X.K fd ps 0 [] ds) (hd : Vals dvs ds)
    (hx : Passes (L2.CX X.prog X.w) X E) (hdb : (x == ("__debug__" : Str)) = false) : PE X (.Call (.Name x p) [] [] pos) (fun σ H Q => sp dvs H Q E) := by
  refine ⟨fun pins s σ H Q I h => wpAny_Call_Name_kw (ld_glob I hgl hm ?_ hdb)⟩
  exact PySem.W.callWith_K0 I.kIn hk (run_g (us := []) (ws := []) (vs := []) (zs := []) F hr hg hb hd hx I .nil .nil rfl rfl h)
/-- f(e, .., k = v, ..) -/
theorem pe_gk {e : Expr} {es : List Expr} {kws : List Keyword} {t tk : TA} (F : FnG X.prog X.w X.K X.mg X.base k f fd ps sp) (hr : Room k X.A) (hg : X.A.guards = some []) (hgl : Gl X x) (hm : X.mg x = some (.ref f)) (hk : PySem.W.keepIn X.K (.ref f) = true) (hb : BindG X.K fd ps n ks ds) (hd : Vals dvs ds)
    (hx : Passes (L2.CX X.prog X.w) X E) (ha : PA X (e :: es) t) (hkw : PK X kws tk) (hdb : (x == ("__debug__" : Str)) = false) (he : starEach (e :: es) X.env = (false, eval e X.env) :: starEach es X.env)
    (hall : (backToKw pos (keywordEach kws X.env)).all (·.1.isSome) = true) (hks : (backToKw pos (keywordEach kws X.env)).filterMap (·.1) = ks) (hpl : ((backTo pos (starEach (e :: es) X.env)).any (·.1) || (backToKw pos (keywordEach kws X.env)).any (·.1.isNone)) = false) :
    PE X (.Call (.Name x p) (e :: es) kws pos) (fun σ H Q => t σ H fun vs H1 => tk σ H1 fun zs H2 => vs.length = n ∧ zs.length = ks.length ∧ sp (vs ++ (zs ++ dvs)) H2 Q E) := by
  refine ⟨fun pins s σ H Q I h => wpAny_Call_Name_kw (ld_glob I hgl hm ?_ hdb)⟩
  refine PySem.W.callWith_KW (h₀ := X.base) I.ok.mod.kin hk hall ?_ hpl he
  refine thn (ha.run pos pins s σ H _ I h) ?_
  rintro us s1 ⟨vs, H1, I1, r, q⟩
  refine thn (hkw.run pos pins s1 σ H1 _ I1 q) ?_
  rintro ws s2 ⟨zs, H2, I2, rz, h1, h2, q2⟩
  refine ⟨I2.kIn, ?_⟩
  rw [hks]
  exact run_g F hr hg hb hd hx I2 r rz (r.length.symm.trans h1) (rz.length.symm.trans h2) q2
/-- f(k = v, ..) -/
theorem pe_gk0 {kws : List Keyword} {tk : TA} (F : FnG X.prog X.w X.K X.mg X.base k f fd ps sp) (hr : Room k X.A) (hg : X.A.guards = some []) (hgl : Gl X x) (hm : X.mg x = some (.ref f)) (hk : PySem.W.keepIn X.K (.ref f) = true) (hb : BindG X.K fd ps 0 ks ds) (hd : Vals dvs ds)
    (hx : Passes (L2.CX X.prog X.w) X E) (hkw : PK X kws tk) (hdb : (x == ("__debug__" : Str)) = false)
    (hall : (backToKw pos (keywordEach kws X.env)).all (·.1.isSome) = true) (hks : (backToKw pos (keywordEach kws X.env)).filterMap (·.1) = ks) (hpl : ((backTo pos (starEach [] X.env)).any (·.1) || (backToKw pos (keywordEach kws X.env)).any (·.1.isNone)) = false) :
    PE X (.Call (.Name x p) [] kws pos) (fun σ H Q => tk σ H fun zs H2 => zs.length = ks.length ∧ sp (zs ++ dvs) H2 Q E) := by
  refine ⟨fun pins s σ H Q I h => wpAny_Call_Name_kw (ld_glob I hgl hm ?_ hdb)⟩
  refine PySem.W.callWith_KW0 (h₀ := X.base) I.ok.mod.kin hk hall ?_ hpl
  refine thn (hkw.run pos pins s σ H _ I h) ?_
  rintro ws s2 ⟨zs, H2, I2, rz, h2, q2⟩
  refine ⟨I2.kIn, ?_⟩
  rw [hks]
  exact run_g (us := []) (vs := []) F hr hg hb hd hx I2 .nil rz rfl (rz.length.symm.trans h2) q2
end

/-! ### a def by its body -/
section
variable {P : Program} {w : World} {K : PySem.W.Frag} {mg : Str → Option Value} {base : Heap} {k : Nat} {f : Addr} {ps N : List Str} {sp : Sp} {scope : Scope} {body : List Stmt} {qual name : Str} {params : Arguments} {dV kV doc pm cdv ct oc : Value} {an od : Option Addr} {osl : Array (Option Value)}
theorem fn_g (lk : K.lookup f = some ⟨oc, od, .func (PySem.W.fnOf name qual params body scope dV kV doc pm an cdv ct), osl⟩) (hcd : PySem.W.codeIn K cdv qual = true) (S : FnScope N ps scope) (len : ∀ vs H Q E, sp vs H Q E → vs.length = ps.length)
    (hbody : ∀ (A : Around) (outer : List Env) (s : Shared) (H : Hp) (vs : List V) (Q : VK) (E : XK), (A.deeper (envOfC qual scope s.heap.objs.size f cdv)).guards = some [] → Room k (A.deeper (envOfC qual scope s.heap.objs.size f cdv)) → sp vs H Q E →
      ∃ t, PSs (cxOf (L2.CX P w) P w K mg base N qual scope f cdv A outer s H E) body t ∧ t { nx := fun _ H' => Q .non H', rt := Q } (start N vs) H) :
    FnG P w K mg base (k + 1) f (PySem.W.fnOf name qual params body scope dV kV doc pm an cdv ct) ps sp := by
  refine ⟨len, ?_⟩
  intro A outer s H args us vs Q E hg hr e0 hb r hsp
  have back : ∀ b o, base.get? b = some o → s.heap.get? b = some o := fun b o e => (e0.bs b o e).1
  have KX := e0.mod.kin.keeps back
  have cellish : ∀ y ∈ ps.zip us, scope.names.lookup y.1 = some .local ∨ (scope.names.lookup y.1 = some .cell ∧ ((cellsFrom (s.heap.objs.size + 1) scope.names []).lookup y.1).isSome = true) := by
    intro y hy
    refine (S.par y.1 (List.of_mem_zip (show (y.1, y.2) ∈ ps.zip us from hy)).1).imp id fun q => ⟨q, ?_⟩
    exact PySem.W.cellsFrom_some _ _ _ (.inl q)
  refine codeAny_call_function hr.depth (KX _ _ lk) rfl S.co S.gen rfl (PySem.W.codeRec_of KX hcd) (hb _ _ _ _ (wpAny_newFunctionEnv_cells S.kind cellish fun env he s1 x => ?_))
  subst he
  obtain ⟨t, ht, hq⟩ := hbody A outer s H vs Q E hg (hr.deeper _) hsp
  have I := inv_start (CX := L2.CX P w) (mg := mg) (E := E) (cd := cdv) (qual := qual) S hr.hd e0 (len _ _ _ _ hsp) r x
  refine ⟨(e0.mod.nolimit.keeps back).keeps x.toInCall.keep, codeAny_func (wpAny_mono (ht.run [] s1 (start N vs) H _ I hq) ?_ fun e s' hs => hs)⟩
  intro fl s' hs
  match fl, hs with
  | .ret u, ⟨v, σ', H', J, rv, q⟩ => exact ⟨v, H', J.os, J.bare, J.base, J.hok, rv, q⟩
  | .next, ⟨σ', H', J, q⟩ => exact ⟨.non, H', J.os, J.bare, J.base, J.hok, rfl, q⟩
  | .brk, ⟨_, _, _, q⟩ => exact q.elim
  | .cont, ⟨_, _, _, q⟩ => exact q.elim
end

/-! ### promises over data -/
inductive AV where
  | dat (d : D)
  | pot
  | scr (ns : List Int)
abbrev FSp := List AV → (D → Prop) → (Value → D → Prop) → Prop
inductive ArgsOk (K : PySem.W.Frag) (A P : Addr → Prop) (H : Hp) : List V → List AV → Prop
  | nil : ArgsOk K A P H [] []
  | dat {v : V} {d : D} {vs : List V} {as : List AV} : Rep K A H v d → ArgsOk K A P H vs as → ArgsOk K A P H (v :: vs) (.dat d :: as)
  | pot {a : Addr} {vs : List V} {as : List AV} : P a → ArgsOk K A P H vs as → ArgsOk K A P H (.ref a :: vs) (.pot :: as)
  | scr {a : Addr} {ns : List Int} {vs : List V} {as : List AV} : ScrAt K A H a ns → ArgsOk K A P H vs as → ArgsOk K A P H (.ref a :: vs) (.scr ns :: as)
theorem ArgsOk.length {K : PySem.W.Frag} {A P : Addr → Prop} {H : Hp} : ∀ {vs : List V} {as : List AV}, ArgsOk K A P H vs as → vs.length = as.length
  | _, _, .nil => rfl
  | _, _, .dat _ t => congrArg (· + 1) t.length
  | _, _, .pot _ t => congrArg (· + 1) t.length
  | _, _, .scr _ t => congrArg (· + 1) t.length
theorem ArgsOk.map {K : PySem.W.Frag} {A A' P : Addr → Prop} {H H' : Hp} (h : Kp A A' H H') : ∀ {vs : List V} {as : List AV}, ArgsOk K A P H vs as → ArgsOk K A' P H' vs as
  | _, _, .nil => .nil
  | _, _, .dat r t => .dat (r.map h) (t.map h)
  | _, _, .pot q t => .pot q (t.map h)
  | _, _, .scr q t => .scr (q.map h) (t.map h)
theorem ArgsOk.append {K : PySem.W.Frag} {A P : Addr → Prop} {H : Hp} : ∀ {vs us : List V} {as bs : List AV}, ArgsOk K A P H vs as → ArgsOk K A P H us bs → ArgsOk K A P H (vs ++ us) (as ++ bs)
  | _, _, _, _, .nil, s => s
  | _, _, _, _, .dat r t, s => .dat r (t.append s)
  | _, _, _, _, .pot q t, s => .pot q (t.append s)
  | _, _, _, _, .scr q t, s => .scr q (t.append s)
structure Entry (W : Wd) (K : PySem.W.Frag) (c : Nat) (H : Hp) : Prop where
  hK : W.K = K
  hH : W.H0 = H
  hc : W.c0 = c
  ok : W.Ok
  dom : ∀ a, W.A0 a → H a ≠ none
  pots : ∀ b, W.P b → PotAt W.n0 H b
def spD (K : PySem.W.Frag) (F : FSp) (c m : Nat) : Sp := fun vs H Q E => ∃ (W : Wd) (as : List AV) (Kd : D → Prop), Entry W K c H ∧ ArgsOk K W.A0 W.P H vs as ∧ as.length = m ∧ F as Kd W.E ∧ (∀ d v H', Kd d → Fin W c H' → Rep K W.A0 H' v d → Q v H') ∧
  ∀ cls dd v d H', W.E cls d → Fin W c H' → H' dd = some (.xd [("value", v)]) → H dd = none → Rep K W.A0 H' v d → E cls (some dd) H'
abbrev FnD (P : Program) (w : World) (K : PySem.W.Frag) (mg : Str → Option Value) (base : Heap) (k : Nat) (f : Addr) (fd : FuncData) (ps : List Str) (F : FSp) (c : Nat) : Prop := FnG P w K mg base k f fd ps (spD K F c ps.length)

abbrev TDA := DEnv → (List AV → Prop) → Prop
def liftA (W : Wd) (g : TDA) (c n : Nat) : TA := fun σ H Q => ∃ (k : Nat) (Δ : DEnv) (K : List AV → Prop), k + c ≤ W.c0 ∧ En W k σ H Δ ∧ g Δ K ∧ ∀ as vs H', K as → as.length = n → Chg W (k + c) H H' → ArgsOk W.K (AA W σ Δ) W.P H' vs as → Q vs H'
abbrev DAs (X : Cx) (W : Wd) (es : List Expr) (g : TDA) (c n : Nat) : Prop := PA X es (liftA W g c n)
abbrev DKw (X : Cx) (W : Wd) (es : List Keyword) (g : TDA) (c n : Nat) : Prop := PK X es (liftA W g c n)
theorem pk_imp {X : Cx} {e : List Keyword} {t t' : TA} (h : PK X e t) (i : ∀ σ H Q, t' σ H Q → t σ H Q) : PK X e t' := ⟨fun pos pins s σ H Q I q => h.run pos pins s σ H Q I (i σ H Q q)⟩
section
variable {X : Cx} {W : Wd} {N : List Str} {sc : Scope} {kk : Nat} {e a b : Expr} {es : List Expr} {kws : List Keyword} {c ca cb cc : Nat} {g ga gb gc : TDE} {pos p p2 : Pos} {k j : Nat} {σ : St} {Δ : DEnv} {H H' : Hp} {v : V} {d : D}
def gAn : TDA := fun _ K => K []
def gAd (ga : TDE) (gr : TDA) : TDA := fun Δ K => ga Δ fun x => gr Δ fun xs => K (.dat x :: xs)
def gAp (i : Nat) (gr : TDA) : TDA := fun Δ K => match nth Δ i with
  | .pot => gr Δ fun xs => K (.pot :: xs)
  | _ => False
theorem das_nil : DAs X W [] gAn 0 0 := pa_imp pa_nil fun σ H Q ⟨k, Δ, K, h1, h2, h3, h4⟩ => h4 [] [] H h3 rfl h2.refl .nil
theorem das_dat (C : Cxt X W N sc kk) {gr : TDA} (ha : DE X W e ga ca) (hr : DAs X W es gr cb j) (hs : starEach (e :: es) X.env = (false, eval e X.env) :: starEach es X.env := by rfl) : DAs X W (e :: es) (gAd ga gr) (ca + cb) (j + 1) :=
  pa_imp (pa_cons ha hr hs) fun σ H Q ⟨k, Δ, K, h1, h2, h3, h4⟩ => ⟨k, Δ, _, by omega, h2, h3, fun dx x H1 q1 c1 r1 =>
    ⟨k + ca, Δ, _, by omega, h2.chg C.ok c1, q1, fun ds vs H2 q2 l2 c2 r2 => h4 _ _ H2 q2 (congrArg (· + 1) l2) (chg3 c1 c2) (.dat (r1.map (c2.kpE C.ok)) r2)⟩⟩
theorem das_pot (C : Cxt X W N sc kk) {i : Nat} {x : Str} {gr : TDA} (hx : N[i]? = some x) (hv : Vis sc x) (hr : DAs X W es gr cb j) (hd : (x == ("__debug__" : Str)) = false := by decide +kernel) (hcd : (x == ("__classdict__" : Str)) = false := by decide +kernel)
    (hs : starEach ((.Name x pos) :: es) X.env = (false, eval (.Name x pos) X.env) :: starEach es X.env := by rfl) : DAs X W ((.Name x pos) :: es) (gAp i gr) cb (j + 1) :=
  pa_imp (pa_cons (pe_var (i := i) (by rw [C.hN]; exact hx) (by rw [C.hsc]; exact hv) hd hcd) hr hs) fun σ H Q ⟨k, Δ, K, h1, h2, h3, h4⟩ => by
    have s := h2.sl i
    unfold gAp at h3
    revert h3 s
    cases nth Δ i with
    | pot =>
      rintro h3 ⟨a, e, r⟩
      exact ⟨.ref a, e, k, Δ, _, h1, h2, h3, fun as vs H' q l c r' => h4 _ _ H' q (congrArg (· + 1) l) c (.pot r r')⟩
    | un => exact fun z => z.elim
    | dat d => exact fun z => z.elim
    | own ds => exact fun z => z.elim
    | scr ns => exact fun z => z.elim
def gAs (i : Nat) (gr : TDA) : TDA := fun Δ K => match nth Δ i with
  | .scr ns => gr Δ fun xs => K (.scr ns :: xs)
  | _ => False
theorem das_scr (C : Cxt X W N sc kk) {i : Nat} {x : Str} {gr : TDA} (hx : N[i]? = some x) (hv : Vis sc x) (hr : DAs X W es gr cb j) (hd : (x == ("__debug__" : Str)) = false := by decide +kernel) (hcd : (x == ("__classdict__" : Str)) = false := by decide +kernel)
    (hs : starEach ((.Name x pos) :: es) X.env = (false, eval (.Name x pos) X.env) :: starEach es X.env := by rfl) : DAs X W ((.Name x pos) :: es) (gAs i gr) cb (j + 1) :=
  pa_imp (pa_cons (pe_var (i := i) (by rw [C.hN]; exact hx) (by rw [C.hsc]; exact hv) hd hcd) hr hs) fun σ H Q ⟨k, Δ, K, h1, h2, h3, h4⟩ => by
    have s := h2.sl i
    unfold gAs at h3
    revert h3 s
    cases nth Δ i with
    | scr ns =>
      rintro h3 ⟨a, e, r⟩
      exact ⟨.ref a, e, k, Δ, _, h1, h2, h3, fun as vs H' q l c r' => h4 _ _ H' q (congrArg (· + 1) l) c (.scr (r.map (c.kpE C.ok)) r')⟩
    | un => exact fun z => z.elim
    | dat d => exact fun z => z.elim
    | own ds => exact fun z => z.elim
    | pot => exact fun z => z.elim
theorem dkw_nil : DKw X W [] gAn 0 0 := pk_imp pk_nil fun σ H Q ⟨k, Δ, K, h1, h2, h3, h4⟩ => h4 [] [] H h3 rfl h2.refl .nil
theorem dkw_dat (C : Cxt X W N sc kk) {gr : TDA} {nm : Option Str} (ha : DE X W e ga ca) (hr : DKw X W kws gr cb j) : DKw X W (⟨nm, e, p⟩ :: kws) (gAd ga gr) (ca + cb) (j + 1) :=
  pk_imp (pk_cons ha hr) fun σ H Q ⟨k, Δ, K, h1, h2, h3, h4⟩ => ⟨k, Δ, _, by omega, h2, h3, fun dx x H1 q1 c1 r1 =>
    ⟨k + ca, Δ, _, by omega, h2.chg C.ok c1, q1, fun ds vs H2 q2 l2 c2 r2 => h4 _ _ H2 q2 (congrArg (· + 1) l2) (chg3 c1 c2) (.dat (r1.map (c2.kpE C.ok)) r2)⟩⟩

/-- the callee's world, from the caller's -/
abbrev Wd.in (W : Wd) (k c : Nat) (σ : St) (Δ : DEnv) (H : Hp) : Wd := { K := W.K, A0 := AA W σ Δ, P := W.P, H0 := H, n0 := W.n0 + k, c0 := c, E := W.E }
theorem Fin.of_in (C : Cxt X W N sc kk) (en : En W k σ H Δ) (f : Fin (W.in k c σ Δ H) c H') : Chg W (k + c) H H' := ⟨fun b o e n => f.since b o e n, fun b p => by
  have := f.pots b p
  have e : W.n0 + k + c = W.n0 + (k + c) := by omega
  exact e ▸ this⟩
theorem sp_in (C : Cxt X W N sc kk) {F : FSp} {m : Nat} {as : List AV} {vs : List V} {K : D → Prop} {Q : VK} (h1 : k + c ≤ W.c0) (en : En W k σ H Δ) (r : ArgsOk W.K (AA W σ Δ) W.P H vs as) (hm : as.length = m) (hF : F as K W.E)
    (hQ : ∀ d v H', K d → Chg W (k + c) H H' → Rep W.K (AA W σ Δ) H' v d → Q v H') : spD X.K F c m vs H Q (EkOf W) := by
  refine ⟨W.in k c σ Δ H, as, K, ⟨C.hK, rfl, rfl, ⟨fun b p => (en.fin.pots b p).some, fun b p => .inl (C.ok.sub b p), by have := C.ok.lim; show W.n0 + k + c ≤ LIM; omega⟩, fun a q => fun z => en.notA z q, en.fin.pots⟩, ?_, hm, hF, fun d v H' hd hf hr => ?_, fun cls dd v d H' hE hf hx hn hr => ?_⟩
  · rw [← C.hK]
    exact r
  · exact hQ d v H' hd (Fin.of_in C en hf) (by rw [C.hK]; exact hr)
  · exact ⟨dd, v, d, rfl, hE, (en.fin.chg (Fin.of_in C en hf)).mono h1, hx, en.fin.free hn, by rw [C.hK]; exact hr.map (Kp.toA0 fun _ => .inl)⟩
def gFn (F : FSp) (E : Value → D → Prop) (dds : List AV) (ga : TDA) : TDE := fun Δ K => ga Δ fun as => F (as ++ dds) K E
def gFn2 (F : FSp) (E : Value → D → Prop) (dds : List AV) (ga gk : TDA) : TDE := fun Δ K => ga Δ fun as => gk Δ fun bs => F (as ++ (bs ++ dds)) K E
/-- what the defaults hold -/
structure Dfl (K : PySem.W.Frag) (dvs : List V) (ds : List Value) (dds : List AV) : Prop where
  vals : Vals dvs ds
  args : ∀ A P H, ArgsOk K A P H dvs dds
theorem Dfl.nil {K : PySem.W.Frag} : Dfl K [] [] [] := ⟨.nil, fun _ _ _ => .nil⟩
variable {f : Addr} {fd : FuncData} {ps ks : List Str} {F : FSp} {cF n kF : Nat} {ds : List Value} {dvs : List V} {dds : List AV} {x : Str} {gl gk : TDA}
theorem de_fn (C : Cxt X W N sc kk) {E : Value → D → Prop} (hE : W.E = E) (hF : FnD X.prog X.w X.K X.mg X.base kF f fd ps F cF) (hk : kF ≤ kk) (hg : sc.names.lookup x = some .globalImplicit) (hm : X.mg x = some (.ref f)) (hkp : PySem.W.keepIn X.K (.ref f) = true) (hb : BindG X.K fd ps n [] ds) (hd : Dfl X.K dvs ds dds) (ha : DAs X W (e :: es) gl c n) (hn : n + dds.length = ps.length)
    (hdb : (x == ("__debug__" : Str)) = false := by decide +kernel) (he : starEach (e :: es) X.env = (false, eval e X.env) :: starEach es X.env := by rfl) (hpl : (backTo pos (starEach es X.env)).any (·.1) = false := by rfl) :
    DE X W (.Call (.Name x p) (e :: es) [] pos) (gFn F E dds gl) (c + cF) := by
  subst hE
  exact pe_imp (pe_g (E := EkOf W) hF (C.hr.mono hk) C.gd (C.gl hg) hm hkp hb hd.vals C.px ha hdb he hpl) fun σ H Q ⟨k, Δ, K, h1, h2, h3, h4⟩ => ⟨k, Δ, _, by omega, h2, h3, fun as vs H1 q1 l1 c1 r1 => by
    have e1 := h2.chg C.ok c1
    refine ⟨r1.length.trans l1, sp_in C (k := k + c) (K := K) (by omega) e1 (r1.append (by rw [C.hK]; exact hd.args _ _ _)) (by rw [List.length_append, l1]; exact hn) q1 fun d v H' hd' hc' hr' => h4 d v H' hd' (chg3 c1 hc') hr'⟩⟩
theorem de_fn0 (C : Cxt X W N sc kk) {E : Value → D → Prop} (hE : W.E = E) (hF : FnD X.prog X.w X.K X.mg X.base kF f fd ps F cF) (hk : kF ≤ kk) (hg : sc.names.lookup x = some .globalImplicit) (hm : X.mg x = some (.ref f)) (hkp : PySem.W.keepIn X.K (.ref f) = true) (hb : BindG X.K fd ps 0 [] ds) (hd : Dfl X.K dvs ds dds) (hn : dds.length = ps.length)
    (hdb : (x == ("__debug__" : Str)) = false := by decide +kernel) : DE X W (.Call (.Name x p) [] [] pos) (gFn F E dds gAn) cF := by
  subst hE
  exact pe_imp (pe_g0 (E := EkOf W) hF (C.hr.mono hk) C.gd (C.gl hg) hm hkp hb hd.vals C.px hdb) fun σ H Q ⟨k, Δ, K, h1, h2, h3, h4⟩ => sp_in C (k := k) (K := K) h1 h2 (by rw [C.hK]; exact hd.args _ _ _) hn h3 h4
theorem de_fnk0 (C : Cxt X W N sc kk) {E : Value → D → Prop} (hE : W.E = E) (hF : FnD X.prog X.w X.K X.mg X.base kF f fd ps F cF) (hk : kF ≤ kk) (hg : sc.names.lookup x = some .globalImplicit) (hm : X.mg x = some (.ref f)) (hkp : PySem.W.keepIn X.K (.ref f) = true) (hb : BindG X.K fd ps 0 ks ds) (hd : Dfl X.K dvs ds dds) (ha : DKw X W kws gk c ks.length) (hn : ks.length + dds.length = ps.length)
    (hdb : (x == ("__debug__" : Str)) = false := by decide +kernel)
    (hall : (backToKw pos (keywordEach kws X.env)).all (·.1.isSome) = true := by rfl) (hks : (backToKw pos (keywordEach kws X.env)).filterMap (·.1) = ks := by rfl) (hpl : ((backTo pos (starEach [] X.env)).any (·.1) || (backToKw pos (keywordEach kws X.env)).any (·.1.isNone)) = false := by rfl) :
    DE X W (.Call (.Name x p) [] kws pos) (gFn F E dds gk) (c + cF) := by
  subst hE
  exact pe_imp (pe_gk0 (E := EkOf W) hF (C.hr.mono hk) C.gd (C.gl hg) hm hkp hb hd.vals C.px ha hdb hall hks hpl) fun σ H Q ⟨k, Δ, K, h1, h2, h3, h4⟩ => ⟨k, Δ, _, by omega, h2, h3, fun as vs H1 q1 l1 c1 r1 => by
    have e1 := h2.chg C.ok c1
    refine ⟨r1.length.trans l1, sp_in C (k := k + c) (K := K) (by omega) e1 (r1.append (by rw [C.hK]; exact hd.args _ _ _)) (by rw [List.length_append, l1]; exact hn) q1 fun d v H' hd' hc' hr' => h4 d v H' hd' (chg3 c1 hc') hr'⟩⟩
theorem de_fnk (C : Cxt X W N sc kk) {E : Value → D → Prop} (hE : W.E = E) (hF : FnD X.prog X.w X.K X.mg X.base kF f fd ps F cF) (hk : kF ≤ kk) (hg : sc.names.lookup x = some .globalImplicit) (hm : X.mg x = some (.ref f)) (hkp : PySem.W.keepIn X.K (.ref f) = true) (hb : BindG X.K fd ps n ks ds) (hd : Dfl X.K dvs ds dds) (ha : DAs X W (e :: es) gl ca n) (hkw : DKw X W kws gk cb ks.length) (hn : n + (ks.length + dds.length) = ps.length)
    (hdb : (x == ("__debug__" : Str)) = false := by decide +kernel) (he : starEach (e :: es) X.env = (false, eval e X.env) :: starEach es X.env := by rfl)
    (hall : (backToKw pos (keywordEach kws X.env)).all (·.1.isSome) = true := by rfl) (hks : (backToKw pos (keywordEach kws X.env)).filterMap (·.1) = ks := by rfl) (hpl : ((backTo pos (starEach (e :: es) X.env)).any (·.1) || (backToKw pos (keywordEach kws X.env)).any (·.1.isNone)) = false := by rfl) :
    DE X W (.Call (.Name x p) (e :: es) kws pos) (gFn2 F E dds gl gk) (ca + cb + cF) := by
  subst hE
  exact pe_imp (pe_gk (E := EkOf W) hF (C.hr.mono hk) C.gd (C.gl hg) hm hkp hb hd.vals C.px ha hkw hdb he hall hks hpl) fun σ H Q ⟨k, Δ, K, h1, h2, h3, h4⟩ => ⟨k, Δ, _, by omega, h2, h3, fun as vs H1 q1 l1 c1 r1 => by
    have e1 := h2.chg C.ok c1
    refine ⟨k + ca, Δ, _, by omega, e1, q1, fun bs ws H2 q2 l2 c2 r2 => ?_⟩
    have e2 := e1.chg C.ok c2
    refine ⟨r1.length.trans l1, r2.length.trans l2, sp_in C (k := k + ca + cb) (K := K) (by omega) e2 ((r1.map (c2.kpE C.ok)).append (r2.append (by rw [C.hK]; exact hd.args _ _ _))) (by rw [List.length_append, List.length_append, l1, l2]; exact hn) q2 fun d v H' hd' hc' hr' => ?_⟩
    have e : k + ca + cb + cF = k + (ca + cb + cF) := by omega
    exact h4 d v H' hd' (c1.trans (c2.trans (e ▸ hc'))) hr'⟩
end

/-! ### THE RULE: a def over data by its body -/
/-- the slots at the entry -/
def startD : List Str → List AV → DEnv
  | [], _ => []
  | _ :: N, [] => .un :: startD N []
  | _ :: N, .dat d :: as => .dat d :: startD N as
  | _ :: N, .pot :: as => .pot :: startD N as
  | _ :: N, .scr ns :: as => .scr ns :: startD N as
theorem startD_len : ∀ (N : List Str) (as : List AV), (startD N as).length = N.length
  | [], _ => rfl
  | _ :: N, [] => congrArg (· + 1) (startD_len N [])
  | _ :: N, .dat _ :: as => congrArg (· + 1) (startD_len N as)
  | _ :: N, .pot :: as => congrArg (· + 1) (startD_len N as)
  | _ :: N, .scr _ :: as => congrArg (· + 1) (startD_len N as)
theorem startD_own : ∀ (N : List Str) (as : List AV) (i : Nat) (ds : List D), nth (startD N as) i ≠ .own ds
  | [], _, _, _ => fun h => by cases h
  | _ :: N, [], 0, _ => fun h => by cases h
  | _ :: N, [], i + 1, ds => startD_own N [] i ds
  | _ :: N, .dat _ :: as, 0, _ => fun h => by cases h
  | _ :: N, .pot :: as, 0, _ => fun h => by cases h
  | _ :: N, .scr _ :: as, 0, _ => fun h => by cases h
  | _ :: N, .dat _ :: as, i + 1, ds => startD_own N as i ds
  | _ :: N, .pot :: as, i + 1, ds => startD_own N as i ds
  | _ :: N, .scr _ :: as, i + 1, ds => startD_own N as i ds
theorem start_cons {x : Str} {N : List Str} {v : V} {vs : List V} : L2.start (x :: N) (v :: vs) = some v :: L2.start N vs := by
  unfold L2.start
  simp
theorem start_nil {x : Str} {N : List Str} : L2.start (x :: N) [] = none :: L2.start N [] := by
  unfold L2.start
  simp [List.replicate_succ]
theorem startD_ok {W : Wd} {A : Addr → Prop} {H : Hp} : ∀ (N : List Str) {vs : List V} {as : List AV} (i : Nat), ArgsOk W.K A W.P H vs as → SlotOk W (L2.start N vs) A H i (nth (startD N as) i)
  | [], _, _, _, _ => trivial
  | _ :: N, _, _, 0, .nil => trivial
  | _ :: N, _, _, i + 1, .nil => by
    rw [start_nil]
    have h := startD_ok (W := W) (A := A) (H := H) N (vs := []) (as := []) i .nil
    show SlotOk W _ A H (i + 1) (nth (startD N []) i)
    revert h
    cases nth (startD N []) i <;> exact fun h => h
  | x :: N, _, _, 0, .dat (v := v) (vs := vs) r _ => by
    rw [start_cons]
    exact ⟨v, rfl, r⟩
  | x :: N, _, _, 0, .pot (a := a) q _ => by
    rw [start_cons]
    exact ⟨a, rfl, q⟩
  | x :: N, _, _, 0, .scr (a := a) q _ => by
    rw [start_cons]
    exact ⟨a, rfl, q⟩
  | x :: N, _, _, i + 1, .dat (vs := vs) (as := as) _ t => by
    rw [start_cons]
    have h := startD_ok N i t
    show SlotOk W _ A H (i + 1) (nth (startD N as) i)
    revert h
    cases nth (startD N as) i <;> exact fun h => h
  | x :: N, _, _, i + 1, .scr (vs := vs) (as := as) _ t => by
    rw [start_cons]
    have h := startD_ok N i t
    show SlotOk W _ A H (i + 1) (nth (startD N as) i)
    revert h
    cases nth (startD N as) i <;> exact fun h => h
  | x :: N, _, _, i + 1, .pot (vs := vs) (as := as) _ t => by
    rw [start_cons]
    have h := startD_ok N i t
    show SlotOk W _ A H (i + 1) (nth (startD N as) i)
    revert h
    cases nth (startD N as) i <;> exact fun h => h
section
variable {P : Program} {w : World} {K : PySem.W.Frag} {mg : Str → Option Value} {base : Heap} {k c cb : Nat} {f : Addr} {ps N : List Str} {F : FSp} {scope : Scope} {body : List Stmt} {qual name : Str} {params : Arguments} {dV kV doc pm cdv ct oc : Value} {an od : Option Addr} {osl : Array (Option Value)}
theorem fnd_of (lk : K.lookup f = some ⟨oc, od, .func (PySem.W.fnOf name qual params body scope dV kV doc pm an cdv ct), osl⟩) (hcd : PySem.W.codeIn K cdv qual = true) (S : FnScope N ps scope) {g : (Value → D → Prop) → TDS} (hcb : cb ≤ c) (hpn : ps.length ≤ N.length)
    (hbody : ∀ (X : Cx) (W : Wd) (E : Value → D → Prop), W.E = E → X.prog = P → X.w = w → X.K = K → X.mg = mg → X.base = base → (∀ x, X.fn x = true) → Cxt X W N scope k → DSs X W body (g E) cb)
    (vc : ∀ as Kd E, as.length = ps.length → F as Kd E → g E { nx := fun _ => Kd .none, rt := Kd } (startD N as)) :
    FnD P w K mg base (k + 1) f (PySem.W.fnOf name qual params body scope dV kV doc pm an cdv ct) ps F c := by
  refine fn_g lk hcd S (fun vs H Q E ⟨W, as, Kd, _, r, hl, _⟩ => r.length.trans hl) fun A outer s H vs Q E hg hr ⟨W, as, Kd, en, r, hl, hF, hQ, hE⟩ => ?_
  obtain ⟨hK, hH, hc, ok, dom, pots⟩ := en
  subst hK
  refine ⟨_, hbody (cxOf (L2.CX P w) P w W.K mg base N qual scope f cdv A outer s H E) W W.E rfl rfl rfl rfl rfl rfl (fun _ => rfl) ⟨rfl, rfl, S.nd, hr, hg, rfl, rfl, ok, ?_, ?_⟩, ?_⟩
  · refine (takes_of (E := E) rfl rfl rfl rfl).imp fun cls d σ H' h => ?_
    obtain ⟨dd, v, d', rfl, h1, h2, h3, h4, h5⟩ := h
    exact hE cls dd v d' H' h1 (hc ▸ h2) h3 (hH ▸ h4) h5
  · exact passes_of rfl
  · refine ⟨0, startD N as, _, by omega, ?_, vc as Kd W.E hl hF, ⟨fun Δ' σ' H' q e kp => ?_, fun d v H' q fin rr => ?_, fun _ _ _ q => q.elim, fun _ _ _ q => q.elim⟩⟩
    · refine ⟨?_, fun i => SlotOk.mono (A := W.A0) (fun a q => ?_) (startD_ok N i r), fun i j ds es a h1 => absurd h1 (startD_own N as i ds), ⟨fun b o e _ => hH ▸ e, fun b p => (pots b p).mono (by omega)⟩, dom⟩
      · rw [startD_len]
        unfold L2.start
        rw [List.length_append, List.length_map, List.length_replicate]
        have h := r.length
        omega
      · exact q.elim id fun ⟨i, ds, h1, _⟩ => absurd h1 (startD_own N as i ds)
    · exact hQ .none .non H' q (e.fin.mono (by omega)) .non
    · exact hQ d v H' q (fin.mono (by omega)) rr
end
end DL
/-! DLLoop: assignments, lists of the def's own, for, while, comprehensions. -/
namespace DL
open PySem PySem.Spec PyProof.Rows L2
section
variable {X : Cx} {W : Wd} {N : List Str} {sc : Scope} {kk : Nat} {e a b : Expr} {es : List Expr} {c ca cb cc ct ci : Nat} {g ga gb gc : TDE} {pos p p2 : Pos} {k j : Nat} {σ : St} {Δ : DEnv} {H H' : Hp} {v : V} {d : D}
theorem kp_chg_set (C : Cxt X W N sc kk) {i : Nat} {s : Sv} {x : Option V} (c : Chg W j H H') (hs : ∀ ds, s ≠ .own ds) : Kp (AA W σ Δ) (AA W (σ.set i x) (Δ.set i s)) H H' := (c.kpE C.ok).trans (kp_set hs)

/-! ### targets -/
abbrev TDG := D → DEnv → (DEnv → Prop) → Prop
/-- but for the slots ts all is as it was -/
structure But (ts : List Nat) (σ σ' : St) (Δ Δ' : DEnv) : Prop where
  len : σ'.length = σ.length
  st : ∀ j, j ∉ ts → σ'[j]? = σ[j]?
  sv : ∀ j, j ∉ ts → nth Δ' j = nth Δ j
def liftG (W : Wd) (g : TDG) (ts : List Nat) : TG := fun v σ H Q => ∃ (k : Nat) (Δ : DEnv) (d : D) (K : DEnv → Prop), En W k σ H Δ ∧ Rep W.K (AA W σ Δ) H v d ∧ g d Δ K ∧ ∀ Δ' σ', K Δ' → En W k σ' H Δ' → Kp (AA W σ Δ) (AA W σ' Δ') H H → But ts σ σ' Δ Δ' → Q σ' H
def liftGs (W : Wd) (g : List D → DEnv → (DEnv → Prop) → Prop) (ts : List Nat) : TGs := fun vs σ H Q => ∃ (k : Nat) (Δ : DEnv) (ds : List D) (K : DEnv → Prop), En W k σ H Δ ∧ RepAll W.K (AA W σ Δ) H vs ds ∧ g ds Δ K ∧ ∀ Δ' σ', K Δ' → En W k σ' H Δ' → Kp (AA W σ Δ) (AA W σ' Δ') H H → But ts σ σ' Δ Δ' → Q σ' H
abbrev DG (X : Cx) (W : Wd) (e : Expr) (g : TDG) (ts : List Nat) : Prop := PG X e (liftG W g ts)
abbrev DGs (X : Cx) (W : Wd) (es : List Expr) (g : List D → DEnv → (DEnv → Prop) → Prop) (ts : List Nat) : Prop := PGs X es (liftGs W g ts)
theorem But.refl {ts : List Nat} : But ts σ σ Δ Δ := ⟨rfl, fun _ _ => rfl, fun _ _ => rfl⟩
theorem But.trans {ts us : List Nat} {σ' σ'' : St} {Δ' Δ'' : DEnv} (a : But ts σ σ' Δ Δ') (b : But us σ' σ'' Δ' Δ'') : But (ts ++ us) σ σ'' Δ Δ'' :=
  ⟨b.len.trans a.len, fun j h => (b.st j fun q => h (List.mem_append_right _ q)).trans (a.st j fun q => h (List.mem_append_left _ q)), fun j h => (b.sv j fun q => h (List.mem_append_right _ q)).trans (a.sv j fun q => h (List.mem_append_left _ q))⟩
theorem pg_imp {e : Expr} {t t' : TG} (h : PG X e t) (i : ∀ v σ H Q, t' v σ H Q → t v σ H Q) : PG X e t' := ⟨fun pins s σ H v u Q I r q => h.run pins s σ H v u Q I r (i v σ H Q q)⟩
theorem pgs_imp {e : List Expr} {t t' : TGs} (h : PGs X e t) (i : ∀ v σ H Q, t' v σ H Q → t v σ H Q) : PGs X e t' := ⟨fun pins s σ H v u Q I r q => h.run pins s σ H v u Q I r (i v σ H Q q)⟩
def gTo (i : Nat) : TDG := fun d Δ K => K (Δ.set i (.dat d))
theorem dg_name (C : Cxt X W N sc kk) {i : Nat} {x : Str} (hx : N[i]? = some x) (hl : Loc sc x) (hf : X.fn x = true ∨ sc.names.lookup x = some .local) : DG X W (.Name x pos) (gTo i) [i] :=
  pg_imp (pg_name (i := i) (by rw [C.hN]; exact C.nd) (by rw [C.hN]; exact hx) (by rw [C.hsc]; exact hl) (by rw [C.hsc]; exact hf)) fun v σ H Q ⟨k, Δ, d, K, h1, h2, h3, h4⟩ => h4 _ _ h3 (h1.dat h2) (kp_set fun _ z => by cases z) ⟨by rw [List.length_set], fun j h => List.getElem?_set_ne fun z => h (by rw [z]; exact List.mem_singleton_self _), fun j h => nth_set_ne fun z => h (by rw [z]; exact List.mem_singleton_self _)⟩
def gTo0 : List D → DEnv → (DEnv → Prop) → Prop := fun ds Δ K => match ds with
  | [] => K Δ
  | _ => False
def gToC (g : TDG) (r : List D → DEnv → (DEnv → Prop) → Prop) : List D → DEnv → (DEnv → Prop) → Prop := fun ds Δ K => match ds with
  | d :: ds => g d Δ fun Δ' => r ds Δ' K
  | [] => False
theorem dgs_nil : DGs X W [] gTo0 [] := pgs_imp pgs_nil fun vs σ H Q ⟨k, Δ, ds, K, h1, h2, h3, h4⟩ => by
  cases h2 with
  | nil => exact ⟨rfl, h4 _ _ h3 h1 Kp.refl But.refl⟩
  | cons _ _ => exact (show False from h3).elim
theorem dgs_cons {g : TDG} {r : List D → DEnv → (DEnv → Prop) → Prop} {ts us : List Nat} (h1 : DG X W e g ts) (h2 : DGs X W es r us) (hs : (assignEach (e :: es) X.env).map (·.2) = assign e X.env :: (assignEach es X.env).map (·.2) := by rfl) : DGs X W (e :: es) (gToC g r) (ts ++ us) :=
  pgs_imp (pgs_cons h1 h2 hs) fun vs σ H Q ⟨k, Δ, ds, K, q1, q2, q3, q4⟩ => by
    cases q2 with
    | nil => exact (show False from q3).elim
    | cons r1 rr => exact ⟨_, _, rfl, k, Δ, _, _, q1, r1, q3, fun Δ' σ' z e kp bt => ⟨k, Δ', _, K, e, rr.map kp, z, fun Δ2 σ2 z2 e2 kp2 bt2 => q4 Δ2 σ2 z2 e2 (kp.trans kp2) (bt.trans bt2)⟩⟩
/-- a, b = a tuple of so many -/
def gToT (n : Nat) (r : List D → DEnv → (DEnv → Prop) → Prop) : TDG := fun d Δ K => match d with
  | .tuple ds => ds.length = n ∧ r ds Δ K
  | _ => False
theorem dg_tup (C : Cxt X W N sc kk) {j n : Nat} {r : List D → DEnv → (DEnv → Prop) → Prop} {ts : List Nat} (h : DGs X W es r ts) (hn : (assignEach es X.env).length = n := by rfl) (hst : (assignEach es X.env).findIdx? (·.1) = none := by rfl) : DG X W (.Tuple es j pos) (gToT n r) ts :=
  pg_imp (pg_tup C.calm h hn hst) fun v σ H Q ⟨k, Δ, d, K, h1, h2, h3, h4⟩ => by
    cases h2 with
    | tup s z rr => exact ⟨_, _, rfl, by rw [← C.hK]; exact sqT s, rr.length.trans h3.1, k, Δ, _, K, h1, rr, h3.2, h4⟩
    | _ => exact (show False from h3).elim

/-! ### assignments -/
def gAsg (g : TDE) (t : TDG) : TDS := fun D Δ => g Δ fun d => t d Δ D.nx
theorem asg_use (C : Cxt X W N sc kk) {t : TDG} {ts : List Nat} : ∀ E σ H, liftS W (gAsg g t) c E σ H → tAsg (lift W g c) (liftG W t ts) E σ H := fun E σ H ⟨k, Δ, D2, h1, h2, h3, h4⟩ =>
  ⟨k, Δ, _, h1, h2, h3, fun d v H' q c r => ⟨_, Δ, d, D2.nx, h2.chg C.ok c, r, q, fun Δ' σ' q2 e kp _ => h4.nx Δ' σ' H' q2 e ((c.kpE C.ok).trans kp)⟩⟩
theorem ds_asg (C : Cxt X W N sc kk) {tg : Expr} {t : TDG} {ts : List Nat} (he : DE X W e g c) (hg : DG X W tg t ts) (hs : swapsWithSole [tg] e pos.line X.env = pure false := by rfl) (hw : swappedStores [tg] e X.env = pure none := by rfl) (h1 : (assignEach [tg] X.env).map (·.2) = [assign tg X.env] := by rfl) :
    DS X W (.Assign [tg] e pos) (gAsg g t) c := ps_imp (ps_asg he hg hs hw h1) (asg_use C)
def gSet (i : Nat) (g : TDE) : TDS := fun D Δ => g Δ fun d => D.nx (Δ.set i (.dat d))
theorem ds_set (C : Cxt X W N sc kk) {i : Nat} {x : Str} (hx : N[i]? = some x) (hl : Loc sc x) (hf : X.fn x = true ∨ sc.names.lookup x = some .local) (he : DE X W e g c) (hs : swapsWith e (some (.Name x p)) pos.line X.env = pure false := by rfl) : DS X W (.Assign [.Name x p] e pos) (gSet i g) c :=
  ps_imp (ps_set (i := i) (by rw [C.hN]; exact C.nd) (by rw [C.hN]; exact hx) (by rw [C.hsc]; exact hl) he hs (by rw [C.hsc]; exact hf)) fun E σ H ⟨k, Δ, D2, h1, h2, h3, h4⟩ =>
    ⟨k, Δ, _, h1, h2, h3, fun d v H' q c r => h4.nx _ _ _ q ((h2.chg C.ok c).dat r) (kp_chg_set C c fun _ z => by cases z)⟩
/-- x = a new list that the def changes later -/
def gSetF (i : Nat) (g : TDL) : TDS := fun D Δ => g Δ fun ds => i < Δ.length ∧ D.nx (Δ.set i (.own ds))
theorem ds_setF (C : Cxt X W N sc kk) {g : TDL} {i : Nat} {x : Str} (hx : N[i]? = some x) (hl : Loc sc x) (hf : X.fn x = true ∨ sc.names.lookup x = some .local) (he : DF X W e g c) (hs : swapsWith e (some (.Name x p)) pos.line X.env = pure false := by rfl) : DS X W (.Assign [.Name x p] e pos) (gSetF i g) c :=
  ps_imp (ps_set (i := i) (by rw [C.hN]; exact C.nd) (by rw [C.hN]; exact hx) (by rw [C.hsc]; exact hl) he hs (by rw [C.hsc]; exact hf)) fun E σ H ⟨k, Δ, D2, h1, h2, h3, h4⟩ =>
    ⟨k, Δ, _, h1, h2, h3, fun ds a xs H' ⟨li, q⟩ c hn ha hz r => by
      obtain ⟨e2, kp⟩ := h2.own (i := i) (by rw [← h2.len]; exact li) c hn ha hz r C.ok
      exact h4.nx _ _ _ q e2 kp⟩
/-- a, b = x, y: stored from the right, both after both are reckoned -/
def gPar (i j : Nat) (g : TDL) : TDS := fun D Δ => g Δ fun ds => match ds with
  | [d, e] => D.nx ((Δ.set i (.dat d)).set j (.dat e))
  | _ => False
theorem ds_par (C : Cxt X W N sc kk) {g : TDL} {i j : Nat} {x y : Str} {px py pt : Pos} {kt k2 pt2} (hx : N[i]? = some x) (hy : N[j]? = some y) (hij : i ≠ j) (lx : sc.names.lookup x = some .local) (ly : sc.names.lookup y = some .local) (ha : DA X W [a, b] g c)
    (hw : swappedStores [.Tuple [.Name x px, .Name y py] kt pt] (.Tuple [a, b] k2 pt2) X.env = pure (some [x, y]))
    (hs : swapsWithSole [.Tuple [.Name x px, .Name y py] kt pt] (.Tuple [a, b] k2 pt2) pos.line X.env = pure false := by rfl) : DS X W (.Assign [.Tuple [.Name x px, .Name y py] kt pt] (.Tuple [a, b] k2 pt2) pos) (gPar i j g) c :=
  ps_imp (ps_par C.calm (by rw [C.hN]; exact C.nd) (by rw [C.hN]; exact hx) (by rw [C.hN]; exact hy) hij (by rw [C.hsc]; exact lx) (by rw [C.hsc]; exact ly) ha hw hs) fun E σ H ⟨k, Δ, D2, h1, h2, h3, h4⟩ =>
    ⟨k, Δ, _, h1, h2, h3, fun ds vs H' q c r => by
      match ds, vs, r, q with
      | [d1, d2], [v1, v2], .cons r1 (.cons r2 .nil), q =>
        have s1 := (h2.chg C.ok c).dat (i := i) r1
        have s2 := s1.dat (i := j) (r2.map (kp_set (σ := σ) (Δ := Δ) (i := i) (x := some v1) (s := .dat d1) fun _ z => by cases z))
        exact ⟨v1, v2, rfl, h4.nx _ _ _ q s2 ((kp_chg_set C c fun _ z => by cases z).trans (kp_set fun _ z => by cases z))⟩⟩

/-! ### lists of the def's own -/
/-- from here on the list is data -/
def frz (i : Nat) (Δ : DEnv) : DEnv := match nth Δ i with
  | .own ds => Δ.set i (.dat (.list ds))
  | _ => Δ
theorem En.frz (en : En W k σ H Δ) (i : Nat) : En W k σ H (frz i Δ) ∧ Kp (AA W σ Δ) (AA W σ (DL.frz i Δ)) H H := by
  unfold DL.frz
  cases hn : nth Δ i with
  | own ds =>
    have s := en.sl i
    rw [hn] at s
    obtain ⟨a, xs, e1, e2, r, e3, e4, z⟩ := s
    have li : i < Δ.length := nth_lt (by rw [hn]; simp)
    have self : σ.set i (some (.ref a)) = σ := by
      obtain ⟨hl, hg⟩ := List.getElem?_eq_some_iff.mp e1
      rw [← hg]
      exact List.set_getElem_self hl
    have kp : Kp (AA W σ Δ) (AA W σ (Δ.set i (.dat (.list ds)))) H H := by
      have h := kp_set (W := W) (σ := σ) (Δ := Δ) (H := H) (i := i) (s := .dat (.list ds)) (x := some (.ref a)) fun _ z => by cases z
      rw [self] at h
      exact h
    have na : ¬ AA W σ (Δ.set i (.dat (.list ds))) a := by
      rintro (q | ⟨l, es, h1, h2⟩)
      · exact e4 q
      · by_cases e : l = i
        · rw [e, nth_set_self li] at h1
          cases h1
        · rw [nth_set_ne e] at h1
          exact e (en.uniq l i es ds a h1 hn h2 e1)
    refine ⟨?_, kp⟩
    refine ⟨by rw [List.length_set]; exact en.len, fun l => ?_, fun j1 j2 d1 d2 b h1 h2 h3 h4 => ?_, en.fin, en.dom0⟩
    · by_cases e : l = i
      · rw [e, nth_set_self li]
        exact ⟨.ref a, e1, .lst e2 na z (r.map kp)⟩
      · rw [nth_set_ne e]
        exact SlotOk.mono (fun b q => by
          have := aa_set (W := W) (σ := σ) (Δ := Δ) (i := i) (s := .dat (.list ds)) (x := some (.ref a)) (a := b) (fun _ z => by cases z)
          rw [self] at this
          exact this q) (en.sl l)
    · have f : ∀ {j : Nat} {es : List D}, nth (Δ.set i (.dat (.list ds))) j = .own es → nth Δ j = .own es := fun {j es} h => by
        by_cases e : j = i
        · rw [e, nth_set_self li] at h
          cases h
        · rw [nth_set_ne e] at h
          exact h
      exact en.uniq j1 j2 d1 d2 b (f h1) (f h2) h3 h4
  | un => exact ⟨en, Kp.refl⟩
  | dat d => exact ⟨en, Kp.refl⟩
  | scr ns => exact ⟨en, Kp.refl⟩
  | pot => exact ⟨en, Kp.refl⟩
def gFrz (i : Nat) (g : TDS) : TDS := fun D Δ => g D (frz i Δ)
theorem dss_frz {r : List Stmt} {g : TDS} (i : Nat) (h : DSs X W r g c) : DSs X W r (gFrz i g) c := pss_imp h fun E σ H ⟨k, Δ, D2, h1, h2, h3, h4⟩ => ⟨k, frz i Δ, D2, h1, (h2.frz i).1, h3, h4.step (h2.frz i).2⟩
theorem ds_frz {r : Stmt} {g : TDS} (i : Nat) (h : DS X W r g c) : DS X W r (gFrz i g) c := ps_imp h fun E σ H ⟨k, Δ, D2, h1, h2, h3, h4⟩ => ⟨k, frz i Δ, D2, h1, (h2.frz i).1, h3, h4.step (h2.frz i).2⟩

/-- the list of the def's own at slot i becomes ds -/
theorem En.change (ok : W.Ok) (en : En W k σ H Δ) {i : Nat} {a : Addr} {es ds : List D} {ys : List V} (hi : nth Δ i = .own es) (ha : σ[i]? = some (some (.ref a))) (r : RepAll W.K (AA W σ Δ) H ys ds) (hz : ds.length ≤ sizeLine) :
    En W k σ (upd H a (.lst ys)) (Δ.set i (.own ds)) ∧ Kp (AA W σ Δ) (AA W σ (Δ.set i (.own ds))) H (upd H a (.lst ys)) := by
  have li : i < Δ.length := nth_lt (by rw [hi]; simp)
  have sx := en.sl i
  rw [hi] at sx
  obtain ⟨a0, xs, e1, e2, r0, e3, e4, z0⟩ := sx
  rw [ha] at e1
  cases e1
  have same : ∀ b, AA W σ (Δ.set i (.own ds)) b → AA W σ Δ b := fun b q => q.elim .inl fun ⟨l, fs, h1, h2⟩ => by
    by_cases e : l = i
    · rw [e] at h2
      exact .inr ⟨i, es, hi, h2⟩
    · rw [nth_set_ne e] at h1
      exact .inr ⟨l, fs, h1, h2⟩
  have inA : AA W σ Δ a := .inr ⟨i, es, hi, ha⟩
  have kp : Kp (AA W σ Δ) (AA W σ (Δ.set i (.own ds))) H (upd H a (.lst ys)) := fun b o e n => ⟨by rw [upd_ne (show b ≠ a from fun z => n (by rw [z]; exact inA))]; exact e, fun q => n (same b q)⟩
  have nP : ¬ W.P a := fun q => ok.pdom a q e3
  refine ⟨⟨by rw [List.length_set]; exact en.len, fun l => ?_, fun j1 j2 d1 d2 b h1 h2 h3 h4 => ?_, ⟨fun b o e n => ?_, fun b q => ?_⟩, fun b q => ?_⟩, kp⟩
  · by_cases e : l = i
    · rw [e, nth_set_self li]
      exact ⟨a, ys, ha, upd_same, r.map kp, e3, e4, hz⟩
    · rw [nth_set_ne e]
      have s := en.sl l
      revert s
      cases h : nth Δ l with
      | un => exact fun _ => trivial
      | dat d =>
        rintro ⟨v, g1, g2⟩
        exact ⟨v, g1, g2.map kp⟩
      | scr ns =>
        rintro ⟨v, g1, g2⟩
        exact ⟨v, g1, g2.map kp⟩
      | pot => exact fun s => s
      | own fs =>
        rintro ⟨b, zs, g1, g2, g3, g4⟩
        have nb : b ≠ a := fun z => e (en.uniq l i fs es a h hi (z ▸ g1) ha)
        exact ⟨b, zs, g1, by rw [upd_ne nb]; exact g2, g3.map kp, g4⟩
  · have f : ∀ {j : Nat} {fs : List D}, nth (Δ.set i (.own ds)) j = .own fs → ∃ gs, nth Δ j = .own gs := fun {j fs} h => by
      by_cases e : j = i
      · rw [e]
        exact ⟨es, hi⟩
      · rw [nth_set_ne e] at h
        exact ⟨fs, h⟩
    obtain ⟨g1, q1⟩ := f h1
    obtain ⟨g2, q2⟩ := f h2
    exact en.uniq j1 j2 g1 g2 b q1 q2 h3 h4
  · rw [upd_ne fun z => by rw [z, e3] at e; cases e]
    exact en.fin.since b o e n
  · obtain ⟨x, y, z, e, rest⟩ := en.fin.pots b q
    exact ⟨x, y, z, by rw [upd_ne (show b ≠ a from fun z => nP (by rw [← z]; exact q))]; exact e, rest⟩
  · have := en.dom0 b q
    by_cases e : b = a
    · rw [e, upd_same]
      simp
    · rw [upd_ne e]
      exact this
/-- xs.append(e) -/
def gApp (i : Nat) (g : TDE) : TDS := fun D Δ => match nth Δ i with
  | .own ds => g Δ fun d => ds.length < sizeLine ∧ D.nx (Δ.set i (.own (ds ++ [d])))
  | _ => False
theorem ds_app (C : Cxt X W N sc kk) {i : Nat} {x : Str} {apos cpos : Pos} (hx : N[i]? = some x) (hv : Vis sc x) (he : DE X W e g c) (hd : (x == ("__debug__" : Str)) = false := by decide +kernel) (hcd : (x == ("__classdict__" : Str)) = false := by decide +kernel)
    (hb : attributeBase (.Name x p) "append" X.env (eval (.Name x p) X.env) = eval (.Name x p) X.env := by rfl)
    (hfew : ((backTo cpos (starEach [e] X.env)).all (fun x => !x.1) && (backToKw cpos (keywordEach [] X.env)).all (fun x => x.1.isSome) && decide (([e] : List Expr).length + ([] : List Keyword).length + (if ([] : List Keyword).isEmpty then 0 else 1) < 30)) = true := by rfl)
    (hline : (apos.endLine == cpos.line) = true := by rfl) (hs : starEach [e] X.env = (false, eval e X.env) :: starEach [] X.env := by rfl) (hsw : swapsWith (.Call (.Attribute (.Name x p) "append" apos) [e] [] cpos) none pos.line X.env = pure false := by rfl) :
    DS X W (.Expr (.Call (.Attribute (.Name x p) "append" apos) [e] [] cpos) pos) (gApp i g) c := by
  refine ps_imp (ps_expr (pe_bm PySem.F.plainAttrs_list PySem.F.slot_list_append PySem.F.type_list_append mt_append (pe_var (i := i) (by rw [C.hN]; exact hx) (by rw [C.hsc]; exact hv) hd hcd) (pa_cons he pa_nil hs) hb hfew hline hs rfl) hsw) fun E σ H ⟨k, Δ, D2, h1, h2, h3, h4⟩ => ?_
  have s := h2.sl i
  unfold gApp at h3
  revert h3 s
  cases hn : nth Δ i with
  | own ds =>
    rintro h3 ⟨a, xs, e1, e2, r, e3, e4, z⟩
    refine ⟨.ref a, e1, .inl ⟨rfl, xs, .inl (.inl e2)⟩, k, Δ, _, h1, h2, h3, fun d v H' ⟨q1, q2⟩ c1 r1 => ?_⟩
    have e2' : H' a = some (.lst xs) := c1.keep a _ e2 fun q => C.ok.pdom a q e3
    have lz := r.length
    refine ⟨a, xs, v, rfl, rfl, e2', by omega, ?_⟩
    obtain ⟨en, kp⟩ := (h2.chg C.ok c1).change C.ok hn e1 ((r.map (c1.kpE C.ok)).append (.cons r1 .nil)) (by rw [List.length_append]; show ds.length + 1 ≤ _; omega)
    exact h4.nx _ _ _ q2 en ((c1.kpE C.ok).trans kp)
  | un => exact fun z => z.elim
  | dat d => exact fun z => z.elim
  | pot => exact fun z => z.elim
  | scr ns => exact fun z => z.elim
/-- xs.extend(e), e a list -/
def gExt (i : Nat) (g : TDE) : TDS := fun D Δ => match nth Δ i with
  | .own ds => g Δ fun d => match d with
    | .list es => ds.length + es.length ≤ sizeLine ∧ D.nx (Δ.set i (.own (ds ++ es)))
    | _ => False
  | _ => False
theorem ds_ext (C : Cxt X W N sc kk) {i : Nat} {x : Str} {apos cpos : Pos} (hx : N[i]? = some x) (hv : Vis sc x) (he : DB X W e g c) (hd : (x == ("__debug__" : Str)) = false := by decide +kernel) (hcd : (x == ("__classdict__" : Str)) = false := by decide +kernel)
    (hb : attributeBase (.Name x p) "extend" X.env (eval (.Name x p) X.env) = eval (.Name x p) X.env := by rfl)
    (hfew : ((backTo cpos (starEach [e] X.env)).all (fun x => !x.1) && (backToKw cpos (keywordEach [] X.env)).all (fun x => x.1.isSome) && decide (([e] : List Expr).length + ([] : List Keyword).length + (if ([] : List Keyword).isEmpty then 0 else 1) < 30)) = true := by rfl)
    (hline : (apos.endLine == cpos.line) = true := by rfl) (hs : starEach [e] X.env = (false, eval e X.env) :: starEach [] X.env := by rfl) (hsw : swapsWith (.Call (.Attribute (.Name x p) "extend" apos) [e] [] cpos) none pos.line X.env = pure false := by rfl) :
    DS X W (.Expr (.Call (.Attribute (.Name x p) "extend" apos) [e] [] cpos) pos) (gExt i g) c := by
  refine ps_imp (ps_expr (pe_bm PySem.F.plainAttrs_list PySem.F.slot_list_extend PySem.F.type_list_extend mt_extend (pe_var (i := i) (by rw [C.hN]; exact hx) (by rw [C.hsc]; exact hv) hd hcd) (pa_cons he pa_nil hs) hb hfew hline hs rfl) hsw) fun E σ H ⟨k, Δ, D2, h1, h2, h3, h4⟩ => ?_
  have s := h2.sl i
  unfold gExt at h3
  revert h3 s
  cases hn : nth Δ i with
  | own ds =>
    rintro h3 ⟨a, xs, e1, e2, r, e3, e4, z⟩
    refine ⟨.ref a, e1, .inl ⟨rfl, xs, .inl (.inl e2)⟩, k, Δ, _, h1, h2, h3, fun d v H' q c1 r1 => ?_⟩
    have e2' : H' a = some (.lst xs) := c1.keep a _ e2 fun q => C.ok.pdom a q e3
    have lz := r.length
    cases d with
    | list fs =>
      have q : ds.length + fs.length ≤ sizeLine ∧ D2.nx (Δ.set i (.own (ds ++ fs))) := q
      obtain ⟨b, ys, rfl, hb2, rb⟩ : ∃ b ys, v = .ref b ∧ H' b = some (.lst ys) ∧ RepAll W.K (AA W σ Δ) H' ys fs := by
        rcases r1 with r1 | ⟨b, ys, fs', g1, g2, g3, g4, _⟩
        · cases r1 with
          | lst g1 g2 g3 g4 => exact ⟨_, _, rfl, g1, g4⟩
        · cases g2
          exact ⟨b, ys, g1, g3, g4⟩
      have lf := rb.length
      refine ⟨a, b, xs, ys, rfl, rfl, e2', hb2, by omega, ?_⟩
      obtain ⟨en, kp⟩ := (h2.chg C.ok c1).change C.ok hn e1 ((r.map (c1.kpE C.ok)).append rb) (by rw [List.length_append]; exact q.1)
      exact h4.nx _ _ _ q.2 en ((c1.kpE C.ok).trans kp)
    | _ => exact (show False from q).elim
  | un => exact fun z => z.elim
  | dat d => exact fun z => z.elim
  | pot => exact fun z => z.elim
  | scr ns => exact fun z => z.elim
end
end DL
/-! DLLoop2: what is walked, for, while, comprehensions. -/
namespace DL
open PySem PySem.Spec PyProof.Rows L2

/-- J walks the items xs, whatever is laid meanwhile (and B stays) -/
structure Seqs (K : PySem.W.Frag) (A B : Addr → Prop) (J : It) (xs : List D) (H0 : Hp) : Prop where
  len : xs.length ≤ sizeLine
  item : ∀ (i : Nat) d H A', xs[i]? = some d → Kp A A' H0 H → (∀ b o, B b → H0 b = some o → H b = some o) → (∀ a, A' a → H a ≠ none) → J.go i H ∧ ∀ v H', J.yld i H v H' → (∀ b o, H b = some o → H' b = some o) ∧ Rep K A' H' v d
  stop : ∀ H A', Kp A A' H0 H → (∀ b o, B b → H0 b = some o → H b = some o) → J.stop xs.length H
def liftI (W : Wd) (g : TDL) (c : Nat) : TI := fun σ H R => ∃ (k : Nat) (Δ : DEnv) (K : List D → Prop), k + c ≤ W.c0 ∧ En W k σ H Δ ∧ g Δ K ∧ ∀ xs J H1, K xs → Chg W (k + c) H H1 → Seqs W.K (AA W σ Δ) (fun _ => False) J xs H1 → R J H1
def liftIb (W : Wd) (g : TDL) (c : Nat) : TI := fun σ H R => ∃ (k : Nat) (Δ : DEnv) (K : List D → Prop), k + c ≤ W.c0 ∧ En W k σ H Δ ∧ g Δ K ∧ ∀ xs J H1, K xs → Chg W (k + c) H H1 → Seqs W.K (AA W σ Δ) (OwnA σ Δ) J xs H1 → R J H1
abbrev DI (X : Cx) (W : Wd) (tg e : Expr) (g : TDL) (c : Nat) : Prop := PI X tg e (liftI W g c)
abbrev DIb (X : Cx) (W : Wd) (tg e : Expr) (g : TDL) (c : Nat) : Prop := PI X tg e (liftIb W g c)
theorem pi_imp {X : Cx} {tg e : Expr} {t t' : TI} (h : PI X tg e t) (i : ∀ σ H Q, t' σ H Q → t σ H Q) : PI X tg e t' := ⟨fun pins s σ H Q I q => h.run pins s σ H Q I (i σ H Q q)⟩
/-- a list, a tuple, a text -/
def iSeqV (K : PySem.W.Frag) (tl : TE) : TI := fun σ H R => tl σ H fun x H1 => (∃ a, x = .ref a ∧ (((∃ xs, SqL K H1 a xs) ∧ R (Itl K a) H1) ∨ ((∃ xs, SqT K H1 a xs) ∧ R (Itt K a) H1))) ∨ ∃ y, x = .str y ∧ R (Its y) H1
theorem pi_seqV {X : Cx} {tg l : Expr} {tl : TE} (hl : PE X l tl) : PI X tg l (iSeqV X.K tl) := by
  refine ⟨fun pins s σ H R I h => thn (hl.run pins s σ H _ I h) ?_⟩
  rintro v s1 ⟨x, H1, I1, r1, ⟨a, rfl, ⟨⟨xs, hq⟩, q⟩ | ⟨⟨xs, hq⟩, q⟩⟩ | ⟨y, rfl, q⟩⟩
  · cases r1
    obtain ⟨its, rv, pl, hz⟩ := I1.list hq
    exact wpAny_pyIter_list pl.isList (pi_one (tk := s1.toks) I1 _ (turn_list a _) ⟨_, Heap.get?_push_size _ rfl, rfl, rfl⟩ q)
  · cases r1
    obtain ⟨its, rv, tp, hz⟩ := I1.tuple hq
    exact wpAny_pyIter_tuple (show s1.heap.IsTuple a its.toArray from tp) (pi_one (tk := s1.toks) I1 _ (turn_tuple a _) ⟨_, Heap.get?_push_size _ rfl, rfl, rfl⟩ q)
  · obtain ⟨t, rfl⟩ := r1
    by_cases ha : y.cps.all (· < 128) = true
    · exact wpAny_pyIter_ascii ha (pi_one (tk := s1.toks) I1 _ (turn_str _ y t _ (.inl rfl)) ⟨_, Heap.get?_push_size _ rfl, rfl, rfl⟩ q)
    · exact wpAny_pyIter_wide (Bool.eq_false_iff.mpr ha) (pi_one (tk := s1.toks) I1 _ (turn_str _ y t _ (.inr rfl)) ⟨_, Heap.get?_push_size _ rfl, rfl, rfl⟩ q)
def signs (s : Str) : List D := s.cps.toList.map fun c => .str ⟨#[c]⟩
def gSeqI (g : TDE) : TDL := fun Δ K => g Δ fun d => match d with
  | .list xs => K xs
  | .tuple xs => K xs
  | .str s => K (signs s)
  | _ => False
theorem seqs_list {K : PySem.W.Frag} {A B : Addr → Prop} {H : Hp} {a : Addr} {xs : List V} {ds : List D} (e : H a = some (.lst xs)) (hb : ¬ A a ∨ B a) (z : ds.length ≤ sizeLine) (r : RepAll K A H xs ds) : Seqs K A B (Itl K a) ds H := by
  have st : ∀ H2 A', Kp A A' H H2 → (∀ b o, B b → H b = some o → H2 b = some o) → H2 a = some (.lst xs) := fun H2 A' kp kb => hb.elim (fun n => (kp a _ e n).1) fun q => kb a _ q e
  have one : ∀ {H2 : Hp} {ys : List V}, H2 a = some (.lst xs) → SqL K H2 a ys → True := fun _ _ => trivial
  refine ⟨z, fun i d H2 A' hd kp kb dm => ?_, fun H2 A' kp kb => ⟨xs, .inl (.inl (st H2 A' kp kb)), Nat.le_of_eq r.length⟩⟩
  obtain ⟨v, hv, rv⟩ := r.getD hd
  refine ⟨⟨xs, v, .inl (.inl (st H2 A' kp kb)), hv⟩, fun v' H' hy => ?_⟩
  obtain ⟨rfl, hy⟩ := hy
  have ev := hy xs (.inl (.inl (st _ A' kp kb)))
  rw [hv] at ev
  cases ev
  exact ⟨fun _ _ q => q, rv.map kp⟩
theorem seqs_tup {K : PySem.W.Frag} {A B : Addr → Prop} {H : Hp} {a : Addr} {xs : List V} {ds : List D} (s : (Rd H a (.tup xs) ∧ ¬ A a) ∨ KT K a xs) (z : ds.length ≤ sizeLine) (r : RepAll K A H xs ds) : Seqs K A B (Itt K a) ds H := by
  have st : ∀ H2 A', Kp A A' H H2 → SqT K H2 a xs := fun H2 A' kp => s.elim (fun q => .inl (kp.rd q.1 q.2).1) KT.sq
  refine ⟨z, fun i d H2 A' hd kp kb dm => ?_, fun H2 A' kp kb => ⟨xs, st H2 A' kp, Nat.le_of_eq r.length⟩⟩
  obtain ⟨v, hv, rv⟩ := r.getD hd
  refine ⟨⟨xs, v, st H2 A' kp, hv⟩, fun v' H' hy => ?_⟩
  obtain ⟨rfl, hy⟩ := hy
  have ev := hy xs (st _ A' kp)
  rw [hv] at ev
  cases ev
  exact ⟨fun _ _ q => q, rv.map kp⟩
theorem one_sign (c : Nat) : (⟨#[c]⟩ : Str).length ≤ sizeLine := by
  rw [sizeLine_eq]
  show 1 ≤ _
  omega
theorem seqs_str {K : PySem.W.Frag} {A B : Addr → Prop} {H : Hp} {y : Str} (z : y.length ≤ sizeLine) : Seqs K A B (Its y) (signs y) H := by
  have hl : (signs y).length = y.cps.size := by unfold signs; simp
  refine ⟨by rw [hl]; exact z, fun i d H2 A' hd kp kb dm => ?_, fun H2 A' kp kb => Nat.le_of_eq hl.symm⟩
  unfold signs at hd
  rw [List.getElem?_map, Array.getElem?_toList] at hd
  cases hc : y.cps[i]? with
  | none =>
    rw [hc] at hd
    cases hd
  | some c =>
    rw [hc] at hd
    cases hd
    refine ⟨(Array.getElem?_eq_some_iff.mp hc).1, fun v' H' hy => ?_⟩
    obtain ⟨rfl, c', hc', rfl⟩ := hy
    rw [hc] at hc'
    cases hc'
    exact ⟨fun _ _ q => q, .str _ (one_sign c)⟩
theorem seqs_range {K : PySem.W.Frag} {A B : Addr → Prop} {H : Hp} {lo : Int} {n : Nat} (z : n ≤ sizeLine) : Seqs K A B (Itr lo n) ((List.range n).map fun i => .int (lo + ((i : Nat) : Int))) H := by
  have hl : ((List.range n).map fun i => PyData.int (lo + ((i : Nat) : Int))).length = n := by simp
  refine ⟨by rw [hl]; exact z, fun i d H2 A' hd kp kb dm => ?_, fun H2 A' kp kb => Nat.le_of_eq hl.symm⟩
  have hi : i < n := by
    have := (List.getElem?_eq_some_iff.mp hd).1
    rw [hl] at this
    exact this
  rw [List.getElem?_map, List.getElem?_range hi] at hd
  cases hd
  refine ⟨hi, fun v' H' hy => ?_⟩
  obtain ⟨rfl, rfl⟩ := hy
  exact ⟨fun _ _ q => q, .int _⟩
section
variable {X : Cx} {W : Wd} {N : List Str} {sc : Scope} {kk : Nat} {e a b tg : Expr} {es : List Expr} {c ca cb cc ct ci ce : Nat} {g ga gb gc : TDE} {pos p p2 : Pos} {k j : Nat} {σ : St} {Δ : DEnv} {H H' : Hp} {v : V} {d : D}
theorem di_seq (C : Cxt X W N sc kk) (h : DE X W e g c) : DI X W tg e (gSeqI g) c :=
  pi_imp (pi_seqV h) fun σ H R ⟨k, Δ, K, h1, h2, h3, h4⟩ => ⟨k, Δ, _, h1, h2, h3, fun d v H' q c r => by
    cases r with
    | lst e n z r => exact .inl ⟨_, rfl, .inl ⟨⟨_, .inl (.inl e)⟩, h4 _ _ _ q c (by rw [← C.hK]; exact seqs_list e (.inl n) z r)⟩⟩
    | tup s z r => exact .inl ⟨_, rfl, .inr ⟨⟨_, by rw [← C.hK]; exact sqT s⟩, h4 _ _ _ q c (by rw [← C.hK]; exact seqs_tup s z r)⟩⟩
    | str y z => exact .inr ⟨y, rfl, h4 _ _ _ q c (seqs_str z)⟩
    | _ => exact (show False from q).elim⟩
theorem di_seqb (C : Cxt X W N sc kk) (h : DB X W e g c) : DIb X W tg e (gSeqI g) c :=
  pi_imp (pi_seqV h) fun σ H R ⟨k, Δ, K, h1, h2, h3, h4⟩ => ⟨k, Δ, _, h1, h2, h3, fun d v H' q c r => by
    rcases r with r | ⟨a, xs, ds, rfl, rfl, e, r, z, o⟩
    · cases r with
      | lst e n z r => exact .inl ⟨_, rfl, .inl ⟨⟨_, .inl (.inl e)⟩, h4 _ _ _ q c (by rw [← C.hK]; exact seqs_list e (.inl n) z r)⟩⟩
      | tup s z r => exact .inl ⟨_, rfl, .inr ⟨⟨_, by rw [← C.hK]; exact sqT s⟩, h4 _ _ _ q c (by rw [← C.hK]; exact seqs_tup s z r)⟩⟩
      | str y z => exact .inr ⟨y, rfl, h4 _ _ _ q c (seqs_str z)⟩
      | _ => exact (show False from q).elim
    · exact .inl ⟨_, rfl, .inl ⟨⟨_, .inl (.inl e)⟩, h4 _ _ _ q c (by rw [← C.hK]; exact seqs_list e (.inr o) z r)⟩⟩⟩
theorem Seqs.bo {K : PySem.W.Frag} {A B : Addr → Prop} {J : It} {xs : List D} (s : Seqs K A (fun _ => False) J xs H) : Seqs K A B J xs H := ⟨s.len, fun i d H2 A' hd kp _ => s.item i d H2 A' hd kp (fun _ _ z => z.elim), fun H2 A' kp _ => s.stop H2 A' kp fun _ _ z => z.elim⟩
theorem DI.bo {g : TDL} (h : DI X W tg e g c) : DIb X W tg e g c := pi_imp h fun σ H R ⟨k, Δ, K, h1, h2, h3, h4⟩ => ⟨k, Δ, K, h1, h2, h3, fun xs J H1 q c s => h4 xs J H1 q c s.bo⟩
def rangeD (lo hi : Int) : List D := (List.range (hi - lo).toNat).map fun i => .int (lo + ((i : Nat) : Int))
def gRg1 (g : TDE) : TDL := fun Δ K => g Δ fun d => match d with
  | .int n => -(2 ^ 62) ≤ n ∧ n ≤ sizeLine ∧ K (rangeD 0 n)
  | _ => False
def gRg2 (ga gb : TDE) : TDL := fun Δ K => ga Δ fun d => gb Δ fun e => match d, e with
  | .int m, .int n => -(2 ^ 62) ≤ m ∧ m < 2 ^ 62 ∧ -(2 ^ 62) ≤ n ∧ n < 2 ^ 62 ∧ n - m ≤ sizeLine ∧ K (rangeD m n)
  | _, _ => False
theorem di_range1 (C : Cxt X W N sc kk) (hg : sc.names.lookup ("range" : Str) = some .globalImplicit) (hm : X.mg ("range" : Str) = none) (ha : DB X W a g c) (hs : starEach [a] X.env = [(false, eval a X.env)] := by rfl) : DI X W tg (.Call (.Name "range" p) [a] [] pos) (gRg1 g) c :=
  pi_imp (pi_range1 (C.gl hg) hm (pa_cons ha pa_nil hs) hs) fun σ H R ⟨k, Δ, K, h1, h2, h3, h4⟩ => ⟨k, Δ, _, h1, h2, h3, fun d v H' q c r => by
    cases d with
    | int n =>
      have q : -(2 ^ 62) ≤ n ∧ n ≤ sizeLine ∧ K (rangeD 0 n) := q
      have hn : n < 2 ^ 62 := Int.lt_of_le_of_lt q.2.1 (by rw [sizeLine_eq]; decide)
      have hl : n.toNat ≤ sizeLine := by
        have := q.2.1
        omega
      refine ⟨n, by rw [RepO.int r], q.1, hn, h4 _ _ _ q.2.2 c ?_⟩
      have e : (n - 0).toNat = n.toNat := by rw [Int.sub_zero]
      unfold rangeD
      rw [e]
      exact seqs_range hl
    | _ => exact (show False from q).elim⟩
theorem di_range2 (C : Cxt X W N sc kk) (hg : sc.names.lookup ("range" : Str) = some .globalImplicit) (hm : X.mg ("range" : Str) = none) (ha : DB X W a ga ca) (hb : DB X W b gb cb) (hs : starEach [a, b] X.env = [(false, eval a X.env), (false, eval b X.env)] := by rfl) (hs2 : starEach [b] X.env = [(false, eval b X.env)] := by rfl)
    (hs3 : starEach [a, b] X.env = (false, eval a X.env) :: starEach [b] X.env := by rfl) : DI X W tg (.Call (.Name "range" p) [a, b] [] pos) (gRg2 ga gb) (ca + cb) :=
  pi_imp (pi_range2 (C.gl hg) hm (pa_cons ha (pa_cons hb pa_nil hs2) hs3) hs hs2) fun σ H R ⟨k, Δ, K, h1, h2, h3, h4⟩ => ⟨k, Δ, _, by omega, h2, h3, fun d v H1 q1 c1 r1 => by
    have e1 := h2.chg C.ok c1
    refine ⟨k + ca, Δ, _, by omega, e1, q1, fun d2 v2 H2 q2 c2 r2 => ?_⟩
    match d, d2, q2 with
    | .int m, .int n, q2 =>
      obtain ⟨m1, m2, n1, n2, z, q⟩ : -(2 ^ 62) ≤ m ∧ m < 2 ^ 62 ∧ -(2 ^ 62) ≤ n ∧ n < 2 ^ 62 ∧ n - m ≤ sizeLine ∧ K (rangeD m n) := q2
      refine ⟨m, n, by rw [RepO.int r1, RepO.int r2], ⟨m1, m2, n1, n2⟩, h4 _ _ _ q (chg3 c1 c2) ?_⟩
      exact seqs_range (by omega)⟩

/-! ### for -/
def gForC (cb m : Nat) (gi : TDL) (gt : TDG) (gb : TDS) : TDS := fun D Δ => gi Δ fun xs => xs.length * cb ≤ m ∧ ∃ I : Nat → DEnv → Prop, I 0 Δ ∧ (∀ i d Δ', xs[i]? = some d → I i Δ' → gt d Δ' fun Δ2 => gb { D with nx := I (i + 1), ct := I (i + 1), bk := D.nx } Δ2) ∧ ∀ Δ', I xs.length Δ' → D.nx Δ'
theorem for_use (C : Cxt X W N sc kk) {gi : TDL} {gt : TDG} {gb : TDS} {m : Nat} {ts : List Nat} : ∀ E σ H, liftS W (gForC cb m gi gt gb) (ci + m) E σ H → tFor (liftI W gi ci) (liftG W gt ts) (liftS W gb cb) E σ H := fun E σ H ⟨k, Δ, D2, h1, h2, h3, h4⟩ => by
  refine ⟨k, Δ, _, by omega, h2, h3, fun xs J H1 ⟨hm, I, i0, step, fin⟩ c1 S => ?_⟩
  have e1 := h2.chg C.ok c1
  refine ⟨fun i n σ' H' => n = xs.length - i ∧ i ≤ xs.length ∧ ∃ Δ', I i Δ' ∧ En W (k + ci + i * cb) σ' H' Δ' ∧ Kp (AA W σ Δ) (AA W σ' Δ') H1 H', ⟨xs.length, by simp, Nat.zero_le _, Δ, i0, by rw [Nat.zero_mul]; exact e1, Kp.refl⟩, ?_⟩
  rintro i n σ' H' ⟨rfl, hi, Δ', hI, en, kp⟩
  have hB : ∀ b o, (fun _ => False : Addr → Prop) b → H1 b = some o → H' b = some o := fun _ _ z => z.elim
  rcases Nat.lt_or_eq_of_le hi with hlt | heq
  · right
    obtain ⟨d, hd⟩ : ∃ d, xs[i]? = some d := ⟨xs[i], List.getElem?_eq_getElem hlt⟩
    obtain ⟨go, item⟩ := S.item i d H' (AA W σ' Δ') hd kp hB fun a q z => en.notA z q
    have bud : k + ci + i * cb + cb ≤ k + (ci + m) := by
      have h := Nat.mul_le_mul_right cb (show i + 1 ≤ xs.length from hlt)
      rw [Nat.add_mul, Nat.one_mul] at h
      omega
    refine ⟨go, fun σ4 H4 => ∃ Δ4, I (i + 1) Δ4 ∧ En W (k + ci + (i + 1) * cb) σ4 H4 Δ4 ∧ Kp (AA W σ Δ) (AA W σ4 Δ4) H1 H4, fun σ4 H4 ⟨Δ4, q1, q2, q3⟩ => ⟨xs.length - (i + 1), by omega, rfl, hlt, Δ4, q1, q2, q3⟩, fun v H2 hy => ?_⟩
    obtain ⟨hx, rv⟩ := item v H2 hy
    have c2 := Chg.of_ext en.fin hx
    refine ⟨k + ci + i * cb, Δ', d, _, en.chg C.ok c2, rv, step i d Δ' hd hI, fun Δ2 σ2 q e kp2 bt => ?_⟩
    have kpa := kp.trans ((c2.kpE C.ok).trans kp2)
    refine ⟨k + ci + i * cb, Δ2, _, by omega, e, q, ⟨fun Δ4 σ4 H4 q4 e4 kp4 => ⟨Δ4, q4, ?_, kpa.trans kp4⟩, fun d' v' H4 q4 f4 r4 => h4.rt d' v' H4 q4 (f4.mono bud) r4, fun Δ4 σ4 H4 q4 e4 kp4 => ?_, fun Δ4 σ4 H4 q4 e4 kp4 => ⟨Δ4, q4, ?_, kpa.trans kp4⟩⟩⟩
    · have : k + ci + i * cb + cb = k + ci + (i + 1) * cb := by rw [Nat.add_mul, Nat.one_mul, Nat.add_assoc (k + ci)]
      exact this ▸ e4
    · exact h4.nx Δ4 σ4 H4 q4 (e4.mono bud) ((c1.kpE C.ok).trans (kpa.trans kp4))
    · have : k + ci + i * cb + cb = k + ci + (i + 1) * cb := by rw [Nat.add_mul, Nat.one_mul, Nat.add_assoc (k + ci)]
      exact this ▸ e4
  · left
    subst heq
    exact ⟨S.stop H' (AA W σ' Δ') kp hB, h4.nx Δ' σ' H' (fin Δ' hI) (en.mono (by omega)) ((c1.kpE C.ok).trans kp)⟩
theorem ds_for (C : Cxt X W N sc kk) {tg iter : Expr} {body : List Stmt} {gi : TDL} {gt : TDG} {gb : TDS} {ts : List Nat} (m : Nat) (hi : DI X W tg iter gi ci) (hg : DG X W tg gt ts) (hb : DSs X W body gb cb) (hs : ∀ x, foldedSetIterable iter X.env x = pure x := by intro _; rfl) :
    DS X W (.For tg iter body [] pos) (gForC cb m gi gt gb) (ci + m) := ps_imp (ps_for C.po C.calm hi hg hb hs) (for_use C)
/-! ### while -/
def gWhC (cb M : Nat) (gt : TDT) (gb : TDS) : TDS := fun D Δ => ∃ I : Nat → DEnv → Prop, (∃ n, n * cb ≤ M ∧ I n Δ) ∧ ∀ n Δ', I n Δ' → gt Δ' fun b => gIte b (∃ n', n = n' + 1 ∧ gb { D with nx := I n', ct := I n', bk := D.nx } Δ') (D.nx Δ')
theorem while_use (C : Cxt X W N sc kk) {gt : TDT} {gb : TDS} {M : Nat} : ∀ E σ H, liftS W (gWhC (ct + cb) M gt gb) (ct + M) E σ H → tWhile (liftT W gt ct) (liftS W gb cb) E σ H := fun E σ H ⟨k, Δ, D2, h1, h2, ⟨I, ⟨n0, hn0, i0⟩, step⟩, h4⟩ => by
  refine ⟨fun n σ' H' => n ≤ n0 ∧ ∃ Δ', I n Δ' ∧ En W (k + (n0 - n) * (ct + cb)) σ' H' Δ' ∧ Kp (AA W σ Δ) (AA W σ' Δ') H H', ⟨n0, Nat.le_refl _, Δ, i0, by rw [Nat.sub_self, Nat.zero_mul]; exact h2, Kp.refl⟩, ?_⟩
  rintro n σ' H' ⟨hn, Δ', hI, en, kp⟩
  have b0 : (n0 - n) * (ct + cb) ≤ n0 * (ct + cb) := Nat.mul_le_mul_right _ (Nat.sub_le _ _)
  refine ⟨k + (n0 - n) * (ct + cb), Δ', _, by omega, en, step n Δ' hI, fun b H1 q c1 => ?_⟩
  have e1 := en.chg C.ok c1
  cases b with
  | false => exact h4.nx Δ' σ' H1 (q.2 rfl) (e1.mono (by omega)) (kp.trans (c1.kpE C.ok))
  | true =>
    obtain ⟨n', en', qb⟩ := q.1 rfl
    subst en'
    have e0 : (n0 - n') * (ct + cb) = (n0 - (n' + 1)) * (ct + cb) + (ct + cb) := by
      have : n0 - n' = n0 - (n' + 1) + 1 := by omega
      rw [this, Nat.add_mul, Nat.one_mul]
    have b1 : (n0 - n') * (ct + cb) ≤ n0 * (ct + cb) := Nat.mul_le_mul_right _ (Nat.sub_le _ _)
    have kpa := kp.trans (c1.kpE C.ok)
    refine ⟨fun σ4 H4 => ∃ Δ4, I n' Δ4 ∧ En W (k + (n0 - n') * (ct + cb)) σ4 H4 Δ4 ∧ Kp (AA W σ Δ) (AA W σ4 Δ4) H H4, fun σ4 H4 ⟨Δ4, q1, q2, q3⟩ => ⟨n', Nat.lt_succ_self _, by omega, Δ4, q1, q2, q3⟩, ?_⟩
    have eb : k + (n0 - (n' + 1)) * (ct + cb) + ct + cb = k + (n0 - n') * (ct + cb) := by omega
    refine ⟨k + (n0 - (n' + 1)) * (ct + cb) + ct, Δ', _, by omega, e1, qb, ⟨fun Δ4 σ4 H4 q4 e4 kp4 => ⟨Δ4, q4, eb ▸ e4, kpa.trans kp4⟩, fun d' v' H4 q4 f4 r4 => h4.rt d' v' H4 q4 (f4.mono (by omega)) r4, fun Δ4 σ4 H4 q4 e4 kp4 => ?_, fun Δ4 σ4 H4 q4 e4 kp4 => ⟨Δ4, q4, eb ▸ e4, kpa.trans kp4⟩⟩⟩
    exact h4.nx Δ4 σ4 H4 q4 (e4.mono (by omega)) (kpa.trans kp4)
theorem ds_while (C : Cxt X W N sc kk) {t : Expr} {body : List Stmt} {gt : TDT} {gb : TDS} (M : Nat) (ht : DT X W t gt ct) (hb : DSs X W body gb cb) : DS X W (.While t body [] pos) (gWhC (ct + cb) M gt gb) (ct + M) := ps_imp (ps_while C.po ht hb) (while_use C)
end
end DL
/-! DLComp: list comprehensions over data. -/
namespace DL
open PySem PySem.Spec PyProof.Rows L2

/-- the slots vs are forgotten -/
def clr : List Nat → DEnv → DEnv
  | [], Δ => Δ
  | v :: vs, Δ => (clr vs Δ).set v .un
def noOwn : Sv → Bool
  | .own _ => false
  | _ => true
theorem clr_len : ∀ (vs : List Nat) (Δ : DEnv), (clr vs Δ).length = Δ.length
  | [], _ => rfl
  | v :: vs, Δ => by
    unfold clr
    rw [List.length_set, clr_len vs Δ]
theorem nth_len {Δ : DEnv} {i : Nat} (h : Δ.length ≤ i) : nth Δ i = .un := by
  cases hn : nth Δ i with
  | un => rfl
  | _ => exact absurd (nth_lt (by rw [hn]; simp)) (Nat.not_lt.mpr h)
theorem clr_in : ∀ {vs : List Nat} {Δ : DEnv} {i : Nat}, i ∈ vs → nth (clr vs Δ) i = .un
  | v :: vs, Δ, i, h => by
    unfold clr
    by_cases e : i = v
    · subst e
      by_cases l : i < (clr vs Δ).length
      · exact nth_set_self l
      · exact nth_len (by rw [List.length_set]; omega)
    · rw [nth_set_ne e]
      exact clr_in ((List.mem_cons.mp h).resolve_left e)
theorem clr_out : ∀ {vs : List Nat} {Δ : DEnv} {i : Nat}, i ∉ vs → nth (clr vs Δ) i = nth Δ i
  | [], _, _, _ => rfl
  | v :: vs, Δ, i, h => by
    unfold clr
    rw [nth_set_ne fun e => h (by rw [e]; exact List.mem_cons_self)]
    exact clr_out fun q => h (List.mem_cons_of_mem _ q)
theorem wipe_in : ∀ {vs : List Nat} {σ : St} {i : Nat}, i ∈ vs → i < σ.length → (wipe σ vs)[i]? = some none
  | v :: vs, σ, i, h, l => by
    unfold wipe
    by_cases e : i = v
    · subst e
      exact List.getElem?_set_self (by rw [wipe_length]; exact l)
    · rw [List.getElem?_set_ne fun z => e z.symm]
      exact wipe_in ((List.mem_cons.mp h).resolve_left e) l
theorem wipe_not : ∀ {vs : List Nat} {σ : St} {i : Nat}, i ∉ vs → (wipe σ vs)[i]? = σ[i]?
  | [], _, _, _ => rfl
  | v :: vs, σ, i, h => by
    unfold wipe
    rw [List.getElem?_set_ne fun e => h (by rw [← e]; exact List.mem_cons_self)]
    exact wipe_not fun q => h (List.mem_cons_of_mem _ q)
theorem wipe_but {vs ts : List Nat} {σ σ2 : St} {Δ Δ2 : DEnv} (h : But ts (wipe σ vs) σ2 Δ Δ2) (hs : ∀ j ∈ ts, j ∈ vs) : wipe σ2 vs = wipe σ vs := by
  refine List.ext_getElem? fun i => ?_
  have hl : σ2.length = σ.length := h.len.trans (wipe_length σ vs)
  by_cases hi : i ∈ vs
  · by_cases l : i < σ.length
    · rw [wipe_in hi l, wipe_in hi (by rw [hl]; exact l)]
    · rw [List.getElem?_eq_none (by rw [wipe_length]; omega), List.getElem?_eq_none (by rw [wipe_length]; omega)]
  · rw [wipe_not hi, h.st i fun q => hi (hs i q)]
/-- a block's world: the list that is made, at D, changes too; nothing is raised out of it -/
abbrev Wd.blk (W : Wd) (D : Addr) : Wd := { W with A0 := fun a => W.A0 a ∨ a = D, E := fun _ _ => False }
section
variable {X : Cx} {W : Wd} {N : List Str} {sc : Scope} {kk : Nat} {e a b tg elt iter : Expr} {es ifs : List Expr} {c ca cb cc ct ci ce m : Nat} {g ga gb gc : TDE} {pos p p2 : Pos} {k j : Nat} {σ : St} {Δ : DEnv} {H H' H1 : Hp} {v : V} {d : D} {vs : List Nat}
theorem Cxt.blk (C : Cxt X W N sc kk) (L : Addr) (s : Shared) (H : Hp) (scope : Scope) (cl : List (Str × Addr)) (C' : Addr) (fp : List Addr) : Cxt (X.blk s H scope (compEnvC scope cl C' X.env) fp) (W.blk L) N (relS scope sc) kk := by
  refine ⟨C.hN, ?_, C.nd, C.hr, C.gd, C.calm, C.hK, ⟨C.ok.pdom, fun b p => .inl (C.ok.sub b p), C.ok.lim⟩, takes0.imp fun cls d _ H h => ?_, PassesOwn.never⟩
  · show relabel scope X.env = _
    rw [← C.hsc]
    rfl
  · obtain ⟨_, _, _, _, z, _⟩ := h
    exact z
theorem blk_sub {L : Addr} (hv : ∀ i ∈ vs, noOwn (nth Δ i) = true) {x : Addr} (h : AA (W.blk L) (wipe σ vs) (clr vs Δ) x) : AA W σ Δ x ∨ x = L := by
  rcases h with (h | h) | ⟨i, ds, h1, h2⟩
  · exact .inl (.inl h)
  · exact .inr h
  · by_cases hi : i ∈ vs
    · rw [clr_in hi] at h1
      cases h1
    · rw [clr_out hi] at h1
      rw [wipe_not hi] at h2
      exact .inl (.inr ⟨i, ds, h1, h2⟩)
theorem blk_sup {L : Addr} {ts : List Nat} {σ2 : St} {Δ2 : DEnv} (hv : ∀ i ∈ vs, noOwn (nth Δ i) = true) (bt : But ts (wipe σ vs) σ2 (clr vs Δ) Δ2) (hs : ∀ j ∈ ts, j ∈ vs) {x : Addr} (h : AA W σ Δ x ∨ x = L) : AA (W.blk L) σ2 Δ2 x := by
  rcases h with (h | ⟨i, ds, h1, h2⟩) | h
  · exact .inl (.inl h)
  · have hi : i ∉ vs := fun q => by
      have := hv i q
      rw [h1] at this
      cases this
    refine .inr ⟨i, ds, ?_, ?_⟩
    · rw [bt.sv i fun q => hi (hs i q), clr_out hi]
      exact h1
    · rw [bt.st i fun q => hi (hs i q), wipe_not hi]
      exact h2
  · exact .inl (.inr h)
theorem Chg.ofBlk {L : Addr} (c : Chg (W.blk L) k H H') : Chg W k H H' := ⟨c.keep, c.pots⟩
theorem Chg.toBlk {L : Addr} (c : Chg W k H H') : Chg (W.blk L) k H H' := ⟨c.keep, c.pots⟩
/-- into the block -/
theorem En.blk (ok : W.Ok) (en : En W k σ H1 Δ) {L : Addr} (hn : H1 L = none) (c : Chg W j H1 H) (hD : H L ≠ none) (hv : ∀ i ∈ vs, noOwn (nth Δ i) = true) :
    En (W.blk L) j (wipe σ vs) H (clr vs Δ) ∧ Kp (AA W σ Δ) (AA (W.blk L) (wipe σ vs) (clr vs Δ)) H1 H := by
  have kp : Kp (AA W σ Δ) (AA (W.blk L) (wipe σ vs) (clr vs Δ)) H1 H := fun b o e n => ⟨c.keep b o e fun q => n (.inl (ok.sub b q)), fun q => (blk_sub hv q).elim n fun z => by
    rw [z, hn] at e
    cases e⟩
  have fin := en.fin.chg c
  refine ⟨⟨by rw [clr_len, wipe_length]; exact en.len, fun i => ?_, fun i l ds es a h1 h2 h3 h4 => ?_, ⟨fin.since, fin.pots⟩, fun a q => q.elim (fun q => c.dom (en.dom0 a q)) fun q => by rw [q]; exact hD⟩, kp⟩
  · by_cases hi : i ∈ vs
    · rw [clr_in hi]
      trivial
    · rw [clr_out hi]
      have s := en.sl i
      revert s
      cases nth Δ i with
      | un => exact fun _ => trivial
      | dat d =>
        rintro ⟨v, e1, r⟩
        exact ⟨v, (wipe_not hi).trans e1, r.map kp⟩
      | scr ns =>
        rintro ⟨v, e1, r⟩
        exact ⟨v, (wipe_not hi).trans e1, r.map kp⟩
      | pot =>
        rintro ⟨a, e1, q⟩
        exact ⟨a, (wipe_not hi).trans e1, q⟩
      | own ds =>
        rintro ⟨a, xs, e1, e2, r, e3, e4, z⟩
        refine ⟨a, xs, (wipe_not hi).trans e1, c.keep a _ e2 fun q => ok.pdom a q e3, r.map kp, e3, fun q => q.elim e4 fun z => ?_, z⟩
        rw [z, hn] at e2
        cases e2
  · have f : ∀ {i : Nat} {ds : List D}, nth (clr vs Δ) i = .own ds → (wipe σ vs)[i]? = some (some (.ref a)) → nth Δ i = .own ds ∧ σ[i]? = some (some (.ref a)) := fun {i ds} h1 h3 => by
      by_cases hi : i ∈ vs
      · rw [clr_in hi] at h1
        cases h1
      · rw [clr_out hi] at h1
        rw [wipe_not hi] at h3
        exact ⟨h1, h3⟩
    exact en.uniq i l ds es a (f h1 h3).1 (f h2 h4).1 (f h1 h3).2 (f h2 h4).2

/-! ### the rule -/
def exG (W : Wd) (g : TDG) (ts : List Nat) : TG := fun v σ H Q => ∃ D, liftG (W.blk D) g ts v σ H Q
def exT (W : Wd) (g : TDT) (c : Nat) : TT := fun σ H Q => ∃ D, liftT (W.blk D) g c σ H Q
def exE (W : Wd) (g : TDE) (c : Nat) : TE := fun σ H Q => ∃ D, lift (W.blk D) g c σ H Q
def gLcC (cb m : Nat) (vs : List Nat) (gi : TDL) (gg : TDG) (gt : TDT) (ge : TDE) : TDL := fun Δ K => gi Δ fun xs => (vs.all fun i => noOwn (nth Δ i)) = true ∧ xs.length * cb ≤ m ∧ ∃ S : Nat → List D → Prop, S 0 [] ∧
  (∀ i d ds, xs[i]? = some d → S i ds → gg d (clr vs Δ) fun Δ2 => gt Δ2 fun b => gIte b (ge Δ2 fun y => S (i + 1) (ds ++ [y])) (S (i + 1) ds)) ∧ ∀ ds, S xs.length ds → K ds
theorem lc_use (C : Cxt X W N sc kk) {gi : TDL} {gg : TDG} {gt : TDT} {ge : TDE} {ts : List Nat} (hts : ∀ j ∈ ts, j ∈ vs) : ∀ σ H Q, liftF W (gLcC (ct + ce) m vs gi gg gt ge) (ci + m) σ H Q → tLc (liftIb W gi ci) (exG W gg ts) (exT W gt ct) (exE W ge ce) vs σ H Q := fun σ H Q ⟨k, Δ, K, h1, h2, h3, h4⟩ => by
  refine ⟨k, Δ, _, by omega, h2, h3, fun xs J H1 ⟨hv, hm, S, s0, step, fin⟩ c1 Sq L hD => ?_⟩
  have hv : ∀ i ∈ vs, noOwn (nth Δ i) = true := List.all_eq_true.mp hv
  have e1 := h2.chg C.ok c1
  have nP : ¬ W.P L := fun q => C.ok.pdom L q (e1.fin.free hD)
  refine ⟨fun i n H' => n = xs.length - i ∧ i ≤ xs.length ∧ ∃ acc ds, H' L = some (.lst acc) ∧ RepAll W.K (fun b => AA W σ Δ b ∨ b = L) H' acc ds ∧ S i ds ∧ ds.length ≤ i ∧ Chg W (k + ci + i * (ct + ce)) H1 H',
    ⟨xs.length, by simp, Nat.zero_le _, [], [], upd_same, .nil, s0, Nat.le_refl _, by rw [Nat.zero_mul]; exact Fin.laid e1.fin hD⟩, ?_⟩
  rintro i n H' ⟨rfl, hi, acc, ds, hacc, racc, hS, hlen, ch⟩
  obtain ⟨en, kp⟩ := e1.blk (vs := vs) C.ok hD ch (by rw [hacc]; simp) hv
  have kb : ∀ b o, OwnA σ Δ b → H1 b = some o → H' b = some o := fun b o ⟨l, es, q1, q2⟩ e => ch.keep b o e fun q => by
    have s := e1.sl l
    rw [q1] at s
    obtain ⟨a', _, g1, _, _, g3, _⟩ := s
    rw [q2] at g1
    cases g1
    exact C.ok.pdom _ q g3
  rcases Nat.lt_or_eq_of_le hi with hlt | heq
  · right
    obtain ⟨d, hd⟩ : ∃ d, xs[i]? = some d := ⟨xs[i], List.getElem?_eq_getElem hlt⟩
    obtain ⟨go, item⟩ := Sq.item i d H' _ hd kp kb fun a q z => en.notA z q
    have bud : k + ci + i * (ct + ce) + (ct + ce) ≤ k + (ci + m) := by
      have h := Nat.mul_le_mul_right (ct + ce) (show i + 1 ≤ xs.length from hlt)
      rw [Nat.add_mul, Nat.one_mul] at h
      omega
    have nxt : k + ci + i * (ct + ce) + (ct + ce) = k + ci + (i + 1) * (ct + ce) := by rw [Nat.add_mul, Nat.one_mul, Nat.add_assoc (k + ci)]
    refine ⟨go, fun H6 => ∃ acc ds, H6 L = some (.lst acc) ∧ RepAll W.K (fun b => AA W σ Δ b ∨ b = L) H6 acc ds ∧ S (i + 1) ds ∧ ds.length ≤ i + 1 ∧ Chg W (k + ci + (i + 1) * (ct + ce)) H1 H6, fun H6 ⟨acc', ds', q1, q2, q3, q4, q5⟩ => ⟨xs.length - (i + 1), by omega, rfl, hlt, acc', ds', q1, q2, q3, q4, q5⟩, fun v H2 hy => ?_⟩
    obtain ⟨hx, rv⟩ := item v H2 hy
    have c2 : Chg (W.blk L) (k + ci + i * (ct + ce)) H' H2 := Chg.of_ext en.fin hx
    have okb : (W.blk L).Ok := ⟨C.ok.pdom, fun b p => .inl (C.ok.sub b p), C.ok.lim⟩
    have ex : Kp (fun b => AA W σ Δ b ∨ b = L) (fun b => AA W σ Δ b ∨ b = L) H' H2 := fun b o e n => ⟨hx b o e, n⟩
    refine ⟨L, k + ci + i * (ct + ce), _, d, _, en.chg okb c2, rv, step i d ds hd hS, fun Δ2 σ2 q e2 kp2 bt => ⟨wipe_but bt hts, ?_⟩⟩
    refine ⟨L, k + ci + i * (ct + ce), Δ2, _, (by have := C.ok; show k + ci + i * (ct + ce) + ct ≤ W.c0; omega), e2, q, fun b H3 q3 c3 => ?_⟩
    have e3 := e2.chg okb c3
    have keepD : ∀ {HA HB : Hp} {l : Nat}, Chg (W.blk L) l HA HB → HA L = some (.lst acc) → HB L = some (.lst acc) := fun c e => c.keep L _ e nP
    have kpA : ∀ {HA HB : Hp} {l : Nat}, Chg (W.blk L) l HA HB → Kp (fun b => AA W σ Δ b ∨ b = L) (fun b => AA W σ Δ b ∨ b = L) HA HB := fun c b o e n => ⟨c.keep b o e fun q => n (.inl (.inl (C.ok.sub b q))), n⟩
    have d2 : H2 L = some (.lst acc) := hx L _ hacc
    have r2 := racc.map ex
    cases b with
    | false =>
      refine ⟨acc, ds, keepD c3 d2, r2.map (kpA c3), q3.2 rfl, by omega, (ch.trans ?_)⟩
      exact nxt ▸ ((c2.trans c3).mono (by omega)).ofBlk
    | true =>
      refine ⟨L, k + ci + i * (ct + ce) + ct, Δ2, _, (by show k + ci + i * (ct + ce) + ct + ce ≤ W.c0; omega), e3, q3.1 rfl, fun y w H4 q4 c4 r4 => ?_⟩
      have d4 := keepD c4 (keepD c3 d2)
      have z1 := racc.length
      have z2 := Sq.len
      refine ⟨acc, d4, by omega, acc ++ [w], ds ++ [y], upd_same, ?_, q4, by rw [List.length_append]; show ds.length + 1 ≤ _; omega, ?_⟩
      · have kpD : Kp (fun b => AA W σ Δ b ∨ b = L) (fun b => AA W σ Δ b ∨ b = L) H4 (upd H4 L (.lst (acc ++ [w]))) := fun b o e n => ⟨by rw [upd_ne fun z => n (.inr z)]; exact e, n⟩
        exact (((r2.map (kpA c3)).map (kpA c4)).append (.cons (r4.map (Kp.less fun b q => blk_sup hv bt hts q)) .nil)).map kpD
      · have cc := ((c2.trans c3).trans c4).ofBlk
        have e : k + ci + i * (ct + ce) + ct + ce = k + ci + (i + 1) * (ct + ce) := by omega
        have c5 : Chg W (k + ci + (i + 1) * (ct + ce)) H1 H4 := e ▸ ch.trans cc
        refine ⟨fun b o q n => ?_, fun b q => ?_⟩
        · rw [upd_ne fun z => by rw [z, hD] at q; cases q]
          exact c5.keep b o q n
        · obtain ⟨x1, x2, x3, q1, rest⟩ := c5.pots b q
          exact ⟨x1, x2, x3, by rw [upd_ne (show b ≠ L from fun z => nP (by rw [← z]; exact q))]; exact q1, rest⟩
  · left
    subst heq
    refine ⟨Sq.stop H' _ kp kb, h4 ds L acc H' (fin ds hS) ?_ (c1.free hD) hacc (Nat.le_trans hlen Sq.len) racc⟩
    exact c1.trans (ch.mono (by omega))
theorem pg_ex {e : Expr} {t : Addr → TG} (h : ∀ D, PG X e (t D)) : PG X e (fun v σ H Q => ∃ D, t D v σ H Q) := ⟨fun pins s σ H v u Q I r ⟨D, q⟩ => (h D).run pins s σ H v u Q I r q⟩
theorem pe_ex {e : Expr} {t : Addr → TE} (h : ∀ D, PE X e (t D)) : PE X e (fun σ H Q => ∃ D, t D σ H Q) := ⟨fun pins s σ H Q I ⟨D, q⟩ => (h D).run pins s σ H Q I q⟩
structure PTsD (X : Cx) (W : Wd) (ifs : List Expr) (g : TDT) (c : Nat) : Prop where
  run : PTs X ifs (liftT W g c)
theorem pts_ex {t : Addr → TT} (h : ∀ D, PTs X ifs (t D)) : PTs X ifs (fun σ H Q => ∃ D, t D σ H Q) := ⟨fun pins s σ H Q I ⟨D, q⟩ => (h D).run pins s σ H Q I q⟩
def gYes : TDT := fun _ K => K true
theorem dts_nil : PTsD X W [] gYes 0 := ⟨⟨fun pins s σ H Q I ⟨k, Δ, K, h1, h2, h3, h4⟩ => pts_nil.run pins s σ H Q I (h4 true H h3 h2.refl)⟩⟩
theorem dts_one {t : Expr} {gt : TDT} (h : DT X W t gt c) : PTsD X W [t] gt c := ⟨pts_one h⟩
variable {scope : Scope} {own : List (Str × Nat)} {gi : TDL} {gg : TDG} {gt : TDT} {ge : TDE} {ts : List Nat}
abbrev Blk (X : Cx) (W : Wd) (scope : Scope) (Φ : Cx → Wd → Prop) : Prop := ∀ (D : Addr) (s : Shared) (H : Hp) (C : Addr) (cl : List (Str × Addr)) (fp : List Addr), Φ (X.blk s H scope (compEnvC scope cl C X.env) fp) (W.blk D)
theorem df_lc (C : Cxt X W N sc kk) (m : Nat) (hi : DIb X W tg iter gi ci) (ok : BlkOk N sc scope own) (hg : Blk X W scope fun X W => DG X W tg gg ts) (ht : Blk X W scope fun X W => PTsD X W ifs gt ct) (he : Blk X W scope fun X W => DE X W elt ge ce)
    (hts : ∀ j ∈ ts, j ∈ own.map (·.2)) (hs : ∀ x, foldedSetIterable iter X.env x = pure x := by intro _; rfl) : DF X W (.ListComp elt [⟨tg, iter, ifs, 0⟩] scope pos) (gLcC (ct + ce) m (own.map (·.2)) gi gg gt ge) (ci + m) :=
  pe_imp (pe_lc C.calm (by rw [C.hN]; exact C.nd) hi (by rw [C.hN, C.hsc]; exact ok) (fun s H C' cl fp => pg_ex fun D => hg D s H C' cl fp) (fun s H C' cl fp => pts_ex fun D => (ht D s H C' cl fp).run) (fun s H C' cl fp => pe_ex fun D => he D s H C' cl fp) hs) (lc_use C hts)
end
end DL
namespace DL
open PySem PySem.Spec PyProof.Rows L2
section
variable {X : Cx} {W : Wd} {N : List Str} {sc : Scope} {kk : Nat} {tg elt iter : Expr} {ifs : List Expr} {ct ci ce : Nat} {pos py spos : Pos} {scope : Scope} {own : List (Str × Nat)} {gi : TDL} {gg : TDG} {gt : TDT} {ge : TDE} {ts : List Nat} {y : Str} {i : Nat}
theorem sw_yes (C : Cxt X W N sc kk) {gs : List Comprehension} {l : Nat} (hk : sc.kind = .function) (hy : sc.names.lookup y = some .local) (hl : (py.line == pos.line) = true) (ha : (scope.names.any fun (n, k) => n == y && (k == .local || k == .cell)) = false) :
    swapsWith (.ListComp elt gs scope pos) (some (.Name y py)) l X.env = pure true := sw_true (by rw [C.hsc]; exact hk) (by rw [C.hsc]; exact hy) hl ha
theorem sw_no (C : Cxt X W N sc kk) {gs : List Comprehension} {l : Nat} (hy : sc.names.lookup y = some .cell) : swapsWith (.ListComp elt gs scope pos) (some (.Name y py)) l X.env = pure false := by
  have ky : X.env.kindOf y = some .cell := by
    show X.env.scope.names.lookup y = _
    rw [C.hsc]
    exact hy
  unfold swapsWith
  simp only [ky]
  rw [show ((some NameKind.cell : Option NameKind) == some NameKind.local) = false from rfl, Bool.and_false, Bool.false_and, Bool.false_and]
/-- x = [..], changed later -/
theorem ds_lcF (C : Cxt X W N sc kk) (m : Nat) (hx : N[i]? = some y) (hy : sc.names.lookup y = some .local) (hk : sc.kind = .function) (hl : (py.line == pos.line) = true) (ha : (scope.names.any fun (n, k) => n == y && (k == .local || k == .cell)) = false)
    (hi : DIb X W tg iter gi ci) (ok : BlkOk N sc scope own) (hg : Blk X W scope fun X W => DG X W tg gg ts) (ht : Blk X W scope fun X W => PTsD X W ifs gt ct) (he : Blk X W scope fun X W => DE X W elt ge ce) (hts : ∀ j ∈ ts, j ∈ own.map (·.2)) (hs : ∀ x, foldedSetIterable iter X.env x = pure x := by intro _; rfl) :
    DS X W (.Assign [.Name y py] (.ListComp elt [⟨tg, iter, ifs, 0⟩] scope pos) spos) (gSetF i (gLcC (ct + ce) m (own.map (·.2)) gi gg gt ge)) (ci + m) := by
  refine ps_imp (ps_setLc C.calm (by rw [C.hN]; exact C.nd) (i := i) (by rw [C.hN]; exact hx) (by rw [C.hsc]; exact hy) (sw_yes C hk hy hl ha) hi (by rw [C.hN, C.hsc]; exact ok) (fun s H C' cl fp => pg_ex fun D => hg D s H C' cl fp) (fun s H C' cl fp => pts_ex fun D => (ht D s H C' cl fp).run) (fun s H C' cl fp => pe_ex fun D => he D s H C' cl fp) hs) ?_
  rintro E σ H ⟨k, Δ, D2, h1, h2, h3, h4⟩
  refine lc_use C hts σ H _ ⟨k, Δ, _, h1, h2, h3, ?_⟩
  rintro ds a xs H' ⟨li, q⟩ c hn ha hz r
  obtain ⟨e2, kp⟩ := h2.own (i := i) (by rw [← h2.len]; exact li) c hn ha hz r C.ok
  exact h4.nx _ _ _ q e2 kp
/-- x = [..] -/
theorem ds_lc (C : Cxt X W N sc kk) (m : Nat) (hx : N[i]? = some y) (hy : sc.names.lookup y = some .local) (hk : sc.kind = .function) (hl : (py.line == pos.line) = true) (ha : (scope.names.any fun (n, k) => n == y && (k == .local || k == .cell)) = false)
    (hi : DIb X W tg iter gi ci) (ok : BlkOk N sc scope own) (hg : Blk X W scope fun X W => DG X W tg gg ts) (ht : Blk X W scope fun X W => PTsD X W ifs gt ct) (he : Blk X W scope fun X W => DE X W elt ge ce) (hts : ∀ j ∈ ts, j ∈ own.map (·.2)) (hs : ∀ x, foldedSetIterable iter X.env x = pure x := by intro _; rfl) :
    DS X W (.Assign [.Name y py] (.ListComp elt [⟨tg, iter, ifs, 0⟩] scope pos) spos) (gSet i (gL (gLcC (ct + ce) m (own.map (·.2)) gi gg gt ge))) (ci + m) := by
  refine ps_imp (ps_setLc C.calm (by rw [C.hN]; exact C.nd) (i := i) (by rw [C.hN]; exact hx) (by rw [C.hsc]; exact hy) (sw_yes C hk hy hl ha) hi (by rw [C.hN, C.hsc]; exact ok) (fun s H C' cl fp => pg_ex fun D => hg D s H C' cl fp) (fun s H C' cl fp => pts_ex fun D => (ht D s H C' cl fp).run) (fun s H C' cl fp => pe_ex fun D => he D s H C' cl fp) hs) ?_
  rintro E σ H ⟨k, Δ, D2, h1, h2, h3, h4⟩
  refine lc_use C hts σ H _ ⟨k, Δ, _, h1, h2, h3, ?_⟩
  rintro ds a xs H' q c hn ha hz r
  exact h4.nx _ _ _ q ((h2.chg C.ok c).dat (.lst ha (h2.notA hn) hz (r.map fun b o e n => ⟨e, fun q => n (.inl q)⟩))) (kp_chg_set C c fun _ z => by cases z)
end
end DL
/-! DLOps: operators and built-ins over data. -/
namespace DL
open PySem PySem.Spec PyProof.Rows L2
section
variable {K : PySem.W.Frag} {A : Addr → Prop} {H H' : Hp} {v : V}
theorem RepB.int {i : Int} (r : RepB K A H v (.int i)) : v = .int i := by
  rcases r with r | ⟨a, xs, ds, e1, e2, _⟩
  · cases r
    rfl
  · cases e2
theorem RepB.bool {i : Bool} (r : RepB K A H v (.bool i)) : v = .bl i := by
  rcases r with r | ⟨a, xs, ds, e1, e2, _⟩
  · cases r
    rfl
  · cases e2
theorem RepB.none (r : RepB K A H v .none) : v = .non := by
  rcases r with r | ⟨a, xs, ds, e1, e2, _⟩
  · cases r
    rfl
  · cases e2
theorem RepB.str {x : Str} (r : RepB K A H v (.str x)) : v = .str x ∧ x.length ≤ sizeLine := by
  rcases r with r | ⟨a, xs, ds, e1, e2, _⟩
  · cases r
    exact ⟨rfl, by assumption⟩
  · cases e2
theorem RepB.list {ds : List D} (r : RepB K A H v (.list ds)) : ∃ a xs, v = .ref a ∧ H a = some (.lst xs) ∧ RepAll K A H xs ds ∧ ds.length ≤ sizeLine := by
  rcases r with r | ⟨a, xs, ds, e1, e2, e3, r, z⟩
  · cases r with
    | lst e n z r => exact ⟨_, _, rfl, e, r, z⟩
  · cases e2
    exact ⟨a, xs, e1, e3, r, z⟩
theorem RepB.tup {ds : List D} (r : RepB K A H v (.tuple ds)) : ∃ a xs, v = .ref a ∧ SqT K H a xs ∧ RepAll K A H xs ds ∧ ds.length ≤ sizeLine ∧ Rep K A H (.ref a) (.tuple ds) := by
  rcases r with r | ⟨a, xs, ds, e1, e2, _⟩
  · cases r with
    | tup s z r => exact ⟨_, _, rfl, sqT s, r, z, .tup s z r⟩
  · cases e2
theorem RepB.dict {ps : List (D × D)} (r : RepB K A H v (.dict ps)) : ∃ a kvs, v = .ref a ∧ H a = some (.dK kvs) ∧ RepKv K A H kvs ps ∧ Rep K A H (.ref a) (.dict ps) := by
  rcases r with r | ⟨a, xs, ds, e1, e2, _⟩
  · cases r with
    | dic e n r => exact ⟨_, _, rfl, e, r, .dic e n r⟩
  · cases e2
mutual
theorem Rep.dp : ∀ {v : V} {d : D}, Rep K A H v d → d.canLay0 = true → Dp K H v d
  | _, _, .non, _ => .non
  | _, _, .bl b, _ => .bl b
  | _, _, .int i, _ => .int i
  | _, _, .str x _, _ => .str x
  | _, _, .lst e _ _ r, h => .lst (.inl (.inl e)) (RepAll.dp r (by simpa [PyData.canLay0] using h))
  | _, _, .tup s _ r, h => .tup (sqT s) (RepAll.dp r (by simpa [PyData.canLay0] using h))
  | _, _, .dic _ _ _, h => by simp [PyData.canLay0] at h
theorem RepAll.dp : ∀ {vs : List V} {ds : List D}, RepAll K A H vs ds → PyData.canLayAll0 ds = true → DpAll K H vs ds
  | _, _, .nil, _ => .nil
  | _, _, .cons r t, h => by
    have h' := h
    simp only [PyData.canLayAll0, Bool.and_eq_true] at h'
    exact .cons (Rep.dp r h'.1) (RepAll.dp t h'.2)
end
theorem RepB.dp {d : D} (r : RepB K A H v d) (h : d.canLay0 = true) : Dp K H v d := by
  rcases r with r | ⟨a, xs, ds, rfl, rfl, e, r, z⟩
  · exact r.dp h
  · exact .lst (.inl (.inl e)) (r.dp (by simpa [PyData.canLay0] using h))
theorem ext_laid {q : Addr} {o : HO} (hq : H q = .none) : ∀ b u, H b = some u → upd H q o b = some u := fun b u e => by
  rw [upd_ne (ne_of_none e hq)]
  exact e
theorem dom_not {q : Addr} (dm : ∀ a, A a → H a ≠ .none) (hq : H q = .none) : ¬ A q := fun z => dm q z hq
end

/-! ### arithmetic -/
def MulOk (i j : Int) : Prop := CMulW i j
def addD : D → D → (D → Prop) → Prop
  | .int i, .int j, K => K (.int (i + j))
  | .str x, .str y, K => x.length + y.length ≤ sizeLine ∧ K (.str (x ++ y))
  | .list xs, .list ys, K => xs.length + ys.length ≤ sizeLine ∧ K (.list (xs ++ ys))
  | .tuple xs, .tuple ys, K => xs.length + ys.length ≤ sizeLine ∧ K (.tuple (xs ++ ys))
  | _, _, _ => False
def subD : D → D → (D → Prop) → Prop
  | .int i, .int j, K => K (.int (i - j))
  | _, _, _ => False
def mulD : D → D → (D → Prop) → Prop
  | .int i, .int j, K => MulOk i j ∧ K (.int (i * j))
  | .str x, .int j, K => PySem.MulOk x j ∧ (Txt.mul x j).length ≤ sizeLine ∧ K (.str (Txt.mul x j))
  | .list xs, .int j, K => -(2 ^ 63) ≤ j ∧ j < 2 ^ 63 ∧ xs.length * j.toNat ≤ sizeLine ∧ K (.list (List.replicate j.toNat xs).flatten)
  | _, _, _ => False
def fdivD : D → D → (D → Prop) → Prop
  | .int i, .int j, K => CDivW i j ∧ K (.int (i / j))
  | _, _, _ => False
def modD : D → D → (D → Prop) → Prop
  | .int i, .int j, K => 0 < j ∧ K (.int (i % j))
  | _, _, _ => False
def powD : D → D → (D → Prop) → Prop
  | .int i, .int j, K => 0 ≤ j ∧ (Builtin.Int.intBits i : Int) * j ≤ 2 ^ 27 ∧ K (.int (i ^ j.toNat))
  | _, _, _ => False
theorem strLen_app (x y : Str) : (x ++ y).length = x.length + y.length := strLen_append x y
section
variable {X : Cx}
/-- an int operator of the hand layer, over data -/
theorem dop_ii {f : Value → Value → Sem Value} {Cd : Int → Int → Prop} {g : Int → Int → V} {gd : Int → Int → D} (h : OpR X f (rI Cd g)) (hg : ∀ i j A H, Rep X.K A H (g i j) (gd i j)) :
    DOp X f fun x y K => match x, y with
      | .int i, .int j => Cd i j ∧ K (gd i j)
      | _, _ => False := by
  intro pins s σ H x y v u Q I rx ry ⟨A, dx, dy, K, dm, r1, r2, q, hQ⟩
  match dx, dy, q with
  | .int i, .int j, q => exact h pins s σ H x y v u Q I rx ry ⟨i, j, r1.int, r2.int, q.1, hQ _ _ H q.2 (fun _ _ e => e) (hg i j A H)⟩
theorem dop_mono {f : Value → Value → Sem Value} {g g' : D → D → (D → Prop) → Prop} (h : DOp X f g) (m : ∀ x y K, g' x y K → g x y K) : DOp X f g' := fun pins s σ H x y v u Q I rx ry ⟨A, dx, dy, K, dm, r1, r2, q, hQ⟩ =>
  h pins s σ H x y v u Q I rx ry ⟨A, dx, dy, K, dm, r1, r2, m _ _ _ q, hQ⟩
theorem dop_add : DOp X (binaryOp .Add) addD := by
  intro pins s σ H x y v u Q I rx ry ⟨A, dx, dy, K, dm, r1, r2, q, hQ⟩
  match dx, dy, q with
  | .int i, .int j, q => exact op_add pins s σ H x y v u Q I rx ry ⟨i, j, r1.int, r2.int, hQ _ _ H q (fun _ _ e => e) (.int _)⟩
  | .str i, .str j, q => exact op_add_str pins s σ H x y v u Q I rx ry ⟨i, j, r1.str.1, r2.str.1, q.1, hQ _ _ H q.2 (fun _ _ e => e) (.str _ (by rw [strLen_app]; exact q.1))⟩
  | .list xs, .list ys, q =>
    obtain ⟨a, vs, rfl, ha, ra, _⟩ := r1.list
    obtain ⟨b, us, rfl, hb, rb, _⟩ := r2.list
    have l1 := ra.length
    have l2 := rb.length
    exact op_cat pins s σ H _ _ v u Q I rx ry ⟨a, b, vs, us, rfl, rfl, ha, hb, by have := q.1; omega, fun p hp => hQ _ _ _ q.2 (ext_laid hp) (.lst upd_same (dom_not dm hp) (by rw [List.length_append]; exact q.1) ((ra.append rb).map (kp_laid hp)))⟩
  | .tuple xs, .tuple ys, q =>
    obtain ⟨a, vs, rfl, ha, ra, _, wa⟩ := r1.tup
    obtain ⟨b, us, rfl, hb, rb, _, wb⟩ := r2.tup
    have l1 := ra.length
    have l2 := rb.length
    refine op_catA pins s σ H _ _ v u Q I rx ry ⟨a, b, vs, us, rfl, rfl, ha, hb, by have := q.1; omega, fun z => ?_, fun _ z => ?_, fun _ _ p hp => hQ _ _ _ q.2 (ext_laid hp) (.tup (.inl ⟨.inl upd_same, dom_not dm hp⟩) (by rw [List.length_append]; exact q.1) ((ra.append rb).map (kp_laid hp)))⟩
    · subst z
      have z : xs = [] := List.eq_nil_of_length_eq_zero l1.symm
      subst z
      exact hQ _ _ H q.2 (fun _ _ e => e) wb
    · subst z
      have z : ys = [] := List.eq_nil_of_length_eq_zero l2.symm
      subst z
      refine hQ _ _ H q.2 (fun _ _ e => e) ?_
      rw [List.append_nil]
      exact wa
theorem dop_sub : DOp X (binaryOp .Sub) subD := by
  intro pins s σ H x y v u Q I rx ry ⟨A, dx, dy, K, dm, r1, r2, q, hQ⟩
  match dx, dy, q with
  | .int i, .int j, q => exact op_sub pins s σ H x y v u Q I rx ry ⟨i, j, r1.int, r2.int, hQ _ _ H q (fun _ _ e => e) (.int _)⟩
theorem RepAll.rep {K : PySem.W.Frag} {A : Addr → Prop} {H : Hp} {vs : List V} {ds : List D} (r : RepAll K A H vs ds) : ∀ n : Nat, RepAll K A H (List.replicate n vs).flatten (List.replicate n ds).flatten
  | 0 => .nil
  | n + 1 => by
    rw [List.replicate_succ, List.replicate_succ, List.flatten_cons, List.flatten_cons]
    exact r.append (RepAll.rep r n)
theorem flat_len {α : Type} (l : List α) : ∀ n : Nat, (List.replicate n l).flatten.length = l.length * n
  | 0 => by simp
  | n + 1 => by rw [List.replicate_succ, List.flatten_cons, List.length_append, flat_len l n, Nat.mul_succ, Nat.add_comm]
theorem dop_mul : DOp X (binaryOp .Mult) mulD := by
  intro pins s σ H x y v u Q I rx ry ⟨A, dx, dy, K, dm, r1, r2, q, hQ⟩
  match dx, dy, q with
  | .int i, .int j, q => exact op_mulW pins s σ H x y v u Q I rx ry ⟨i, j, r1.int, r2.int, q.1, hQ _ _ H q.2 (fun _ _ e => e) (.int _)⟩
  | .str z, .int j, q =>
    obtain ⟨rfl, _⟩ := r1.str
    obtain rfl := r2.int
    obtain ⟨t, rfl⟩ := rx
    obtain ⟨t2, rfl⟩ := ry
    exact PySem.SB.mul q.1 fun t' k => ⟨.str _, H, I.tok _, ⟨t', rfl⟩, hQ _ _ H q.2.2 (fun _ _ e => e) (.str _ q.2.1)⟩
  | .list xs, .int j, q =>
    obtain ⟨a, vs, rfl, ha, ra, _⟩ := r1.list
    have l1 := ra.length
    exact op_rep pins s σ H _ _ v u Q I rx ry ⟨a, j, vs, rfl, r2.int, ha, q.1, q.2.1, by rw [l1]; exact q.2.2.1, fun p hp => hQ _ _ _ q.2.2.2 (ext_laid hp) (.lst upd_same (dom_not dm hp) (by rw [flat_len]; exact q.2.2.1) ((ra.rep _).map (kp_laid hp)))⟩
theorem dop_fdiv : DOp X (binaryOp .FloorDiv) fdivD := by
  intro pins s σ H x y v u Q I rx ry ⟨A, dx, dy, K, dm, r1, r2, q, hQ⟩
  match dx, dy, q with
  | .int i, .int j, q => exact op_fdivW pins s σ H x y v u Q I rx ry ⟨i, j, r1.int, r2.int, q.1, hQ _ _ H q.2 (fun _ _ e => e) (.int _)⟩
theorem dop_mod : DOp X (binaryOp .Mod) modD := by
  intro pins s σ H x y v u Q I rx ry ⟨A, dx, dy, K, dm, r1, r2, q, hQ⟩
  match dx, dy, q with
  | .int i, .int j, q => exact op_mod pins s σ H x y v u Q I rx ry ⟨i, j, r1.int, r2.int, q.1, hQ _ _ H q.2 (fun _ _ e => e) (.int _)⟩
theorem op_powW : OpR X (binaryOp .Pow) (rI (fun i j => 0 ≤ j ∧ (Builtin.Int.intBits i : Int) * j ≤ 2 ^ 27) fun i j => .int (i ^ j.toNat)) := opI fun _ _ _ _ _ _ _ hc q => pow_int hc.1 hc.2 q
theorem dop_pow : DOp X (binaryOp .Pow) powD := by
  intro pins s σ H x y v u Q I rx ry ⟨A, dx, dy, K, dm, r1, r2, q, hQ⟩
  match dx, dy, q with
  | .int i, .int j, q => exact op_powW pins s σ H x y v u Q I rx ry ⟨i, j, r1.int, r2.int, ⟨q.1, q.2.1⟩, hQ _ _ H q.2.2 (fun _ _ e => e) (.int _)⟩

/-! ### comparisons -/
def eqD : D → D → (D → Prop) → Prop
  | .int i, .int j, K => K (.bool (decide (i = j)))
  | .str i, .str j, K => K (.bool (decide (i = j)))
  | .bool i, .bool j, K => K (.bool (decide (i = j)))
  | x, y, K => SeqAt.shaped x = true ∧ SeqAt.shaped y = true ∧ K (.bool (PyData.eqv x y))
def neD : D → D → (D → Prop) → Prop
  | .int i, .int j, K => K (.bool (!decide (i = j)))
  | .str i, .str j, K => K (.bool (!decide (i = j)))
  | .bool i, .bool j, K => K (.bool (!decide (i = j)))
  | x, y, K => SeqAt.shaped x = true ∧ SeqAt.shaped y = true ∧ K (.bool (!PyData.eqv x y))
theorem scalInt (i j : Int) : decide ((.int i : V) = .int j) = decide (i = j) := by
  by_cases h : i = j
  · rw [decide_eq_true h, decide_eq_true (congrArg V.int h)]
  · rw [decide_eq_false h, decide_eq_false fun q => h (V.int.inj q)]
theorem scalStr (i j : Str) : decide ((.str i : V) = .str j) = decide (i = j) := by
  by_cases h : i = j
  · rw [decide_eq_true h, decide_eq_true (congrArg V.str h)]
  · rw [decide_eq_false h, decide_eq_false fun q => h (V.str.inj q)]
theorem scalBl (i j : Bool) : decide ((.bl i : V) = .bl j) = decide (i = j) := by
  by_cases h : i = j
  · rw [decide_eq_true h, decide_eq_true (congrArg V.bl h)]
  · rw [decide_eq_false h, decide_eq_false fun q => h (V.bl.inj q)]
theorem dop_eq (hu : X.A.units + 100 < cLine) : DOp X (compareOp .Eq) eqD := by
  intro pins s σ H x y v u Q I rx ry ⟨A, dx, dy, K, dm, r1, r2, q, hQ⟩
  have deep : SeqAt.shaped dx = true ∧ SeqAt.shaped dy = true ∧ K (.bool (PyData.eqv dx dy)) → wpAny (model X.prog X.w) X.A (compareOp .Eq v u) (EP X pins σ Q) X.xe s := fun q =>
    op_eqD (by omega) pins s σ H x y v u Q I rx ry ⟨dx, dy, r1.dp (SeqAt.canLay_of_shaped q.1), r2.dp (SeqAt.canLay_of_shaped q.2.1), q.1, q.2.1, hQ _ _ H q.2.2 (fun _ _ e => e) (.bl _)⟩
  unfold eqD at q
  split at q
  · exact op_eq pins s σ H x y v u Q I rx ry (by rw [r1.int, r2.int]; exact ⟨rfl, by rw [scalInt]; exact hQ _ _ H q (fun _ _ e => e) (.bl _)⟩)
  · exact op_eq pins s σ H x y v u Q I rx ry (by rw [r1.str.1, r2.str.1]; exact ⟨rfl, by rw [scalStr]; exact hQ _ _ H q (fun _ _ e => e) (.bl _)⟩)
  · exact op_eq pins s σ H x y v u Q I rx ry (by rw [r1.bool, r2.bool]; exact ⟨rfl, by rw [scalBl]; exact hQ _ _ H q (fun _ _ e => e) (.bl _)⟩)
  · exact deep q
theorem dop_ne (hu : X.A.units + 100 < cLine) : DOp X (compareOp .NotEq) neD := by
  intro pins s σ H x y v u Q I rx ry ⟨A, dx, dy, K, dm, r1, r2, q, hQ⟩
  have deep : SeqAt.shaped dx = true ∧ SeqAt.shaped dy = true ∧ K (.bool (!PyData.eqv dx dy)) → wpAny (model X.prog X.w) X.A (compareOp .NotEq v u) (EP X pins σ Q) X.xe s := fun q =>
    op_neD (by omega) pins s σ H x y v u Q I rx ry ⟨dx, dy, r1.dp (SeqAt.canLay_of_shaped q.1), r2.dp (SeqAt.canLay_of_shaped q.2.1), q.1, q.2.1, hQ _ _ H q.2.2 (fun _ _ e => e) (.bl _)⟩
  unfold neD at q
  split at q
  · exact op_ne pins s σ H x y v u Q I rx ry (by rw [r1.int, r2.int]; exact ⟨rfl, by rw [scalInt]; exact hQ _ _ H q (fun _ _ e => e) (.bl _)⟩)
  · exact op_ne pins s σ H x y v u Q I rx ry (by rw [r1.str.1, r2.str.1]; exact ⟨rfl, by rw [scalStr]; exact hQ _ _ H q (fun _ _ e => e) (.bl _)⟩)
  · exact op_ne pins s σ H x y v u Q I rx ry (by rw [r1.bool, r2.bool]; exact ⟨rfl, by rw [scalBl]; exact hQ _ _ H q (fun _ _ e => e) (.bl _)⟩)
  · exact deep q
def ltD : D → D → (D → Prop) → Prop
  | .int i, .int j, K => K (.bool (decide (i < j)))
  | .str i, .str j, K => K (.bool (decide (i.cps.toList < j.cps.toList)))
  | _, _, _ => False
def leD : D → D → (D → Prop) → Prop
  | .int i, .int j, K => K (.bool (decide (i ≤ j)))
  | _, _, _ => False
def gtD : D → D → (D → Prop) → Prop
  | .int i, .int j, K => K (.bool (decide (j < i)))
  | _, _, _ => False
def geD : D → D → (D → Prop) → Prop
  | .int i, .int j, K => K (.bool (decide (j ≤ i)))
  | _, _, _ => False
theorem dop_lt : DOp X (compareOp .Lt) ltD := by
  intro pins s σ H x y v u Q I rx ry ⟨A, dx, dy, K, dm, r1, r2, q, hQ⟩
  match dx, dy, q with
  | .int i, .int j, q => exact op_lt pins s σ H x y v u Q I rx ry ⟨i, j, r1.int, r2.int, hQ _ _ H q (fun _ _ e => e) (.bl _)⟩
  | .str i, .str j, q => exact op_lt_str pins s σ H x y v u Q I rx ry ⟨i, j, r1.str.1, r2.str.1, hQ _ _ H q (fun _ _ e => e) (.bl _)⟩
theorem dop_le : DOp X (compareOp .LtE) leD := by
  intro pins s σ H x y v u Q I rx ry ⟨A, dx, dy, K, dm, r1, r2, q, hQ⟩
  match dx, dy, q with
  | .int i, .int j, q => exact op_le pins s σ H x y v u Q I rx ry ⟨i, j, r1.int, r2.int, hQ _ _ H q (fun _ _ e => e) (.bl _)⟩
theorem dop_gt : DOp X (compareOp .Gt) gtD := by
  intro pins s σ H x y v u Q I rx ry ⟨A, dx, dy, K, dm, r1, r2, q, hQ⟩
  match dx, dy, q with
  | .int i, .int j, q => exact op_gt pins s σ H x y v u Q I rx ry ⟨i, j, r1.int, r2.int, hQ _ _ H q (fun _ _ e => e) (.bl _)⟩
theorem dop_ge : DOp X (compareOp .GtE) geD := by
  intro pins s σ H x y v u Q I rx ry ⟨A, dx, dy, K, dm, r1, r2, q, hQ⟩
  match dx, dy, q with
  | .int i, .int j, q => exact op_ge pins s σ H x y v u Q I rx ry ⟨i, j, r1.int, r2.int, hQ _ _ H q (fun _ _ e => e) (.bl _)⟩
/-- is None, is not None; is True .. -/
def isNo : D → Bool
  | .none => true
  | _ => false
def isD : D → D → (D → Prop) → Prop
  | x, .none, K => K (.bool (isNo x))
  | .bool a, .bool b, K => K (.bool (decide (a = b)))
  | _, _, _ => False
def isnotD : D → D → (D → Prop) → Prop
  | x, .none, K => K (.bool (!isNo x))
  | .bool a, .bool b, K => K (.bool (!decide (a = b)))
  | _, _, _ => False
theorem isNone_of {K : PySem.W.Frag} {A : Addr → Prop} {H : Hp} {v : V} {d : D} (r : RepB K A H v d) : decide (v = .non) = isNo d := by
  rcases r with r | ⟨a, xs, ds, rfl, rfl, _⟩
  · cases r <;> rfl
  · rfl
theorem dop_is : DOp X (compareOp .Is) isD := by
  intro pins s σ H x y v u Q I rx ry ⟨A, dx, dy, K, dm, r1, r2, q, hQ⟩
  unfold isD at q
  split at q
  · exact op_isN pins s σ H x y v u Q I rx ry ⟨r2.none, hQ _ _ H (by rw [isNone_of r1]; exact q) (fun _ _ e => e) (.bl _)⟩
  · exact op_is_bl pins s σ H x y v u Q I rx ry ⟨_, _, r1.bool, r2.bool, hQ _ _ H q (fun _ _ e => e) (.bl _)⟩
  · exact q.elim
theorem dop_isnot : DOp X (compareOp .IsNot) isnotD := by
  intro pins s σ H x y v u Q I rx ry ⟨A, dx, dy, K, dm, r1, r2, q, hQ⟩
  unfold isnotD at q
  split at q
  · refine op_notN pins s σ H x y v u Q I rx ry ⟨r2.none, hQ _ _ H ?_ (fun _ _ e => e) (.bl _)⟩
    rw [isNone_of r1]
    exact q
  · exact op_isnot_bl pins s σ H x y v u Q I rx ry ⟨_, _, r1.bool, r2.bool, hQ _ _ H q (fun _ _ e => e) (.bl _)⟩
  · exact q.elim
/-- x in y: a sign in a text, an item of a list or tuple -/
def inD : D → D → (D → Prop) → Prop
  | .str x, .str y, K => ∃ c : Nat, x = ⟨#[c]⟩ ∧ K (.bool (decide (c ∈ y.cps.toList)))
  | x, .list ys, K => SeqAt.shaped x = true ∧ SeqAt.shaped (.list ys) = true ∧ K (.bool (ys.any fun z => PyData.eqv z x))
  | x, .tuple ys, K => SeqAt.shaped x = true ∧ SeqAt.shaped (.tuple ys) = true ∧ K (.bool (ys.any fun z => PyData.eqv z x))
  | _, _, _ => False
def notinD : D → D → (D → Prop) → Prop
  | .str x, .str y, K => ∃ c : Nat, x = ⟨#[c]⟩ ∧ K (.bool (!decide (c ∈ y.cps.toList)))
  | x, .list ys, K => SeqAt.shaped x = true ∧ SeqAt.shaped (.list ys) = true ∧ K (.bool (!ys.any fun z => PyData.eqv z x))
  | x, .tuple ys, K => SeqAt.shaped x = true ∧ SeqAt.shaped (.tuple ys) = true ∧ K (.bool (!ys.any fun z => PyData.eqv z x))
  | _, _, _ => False
theorem dop_in (hu : X.A.units + 100 < cLine) : DOp X (compareOp .In) inD := by
  intro pins s σ H x y v u Q I rx ry ⟨A, dx, dy, K, dm, r1, r2, q, hQ⟩
  unfold inD at q
  split at q
  · obtain ⟨c, rfl, q⟩ := q
    exact op_in_sign pins s σ H x y v u Q I rx ry ⟨c, _, r1.str.1, r2.str.1, hQ _ _ H q (fun _ _ e => e) (.bl _)⟩
  · obtain ⟨h1, h2, q⟩ := q
    exact op_inD (by omega) pins s σ H x y v u Q I rx ry ⟨_, _, r1.dp (SeqAt.canLay_of_shaped h1), r2.dp (SeqAt.canLay_of_shaped h2), h1, h2, hQ _ _ H q (fun _ _ e => e) (.bl _)⟩
  · obtain ⟨h1, h2, q⟩ := q
    obtain ⟨as, t1⟩ := Dp.reads I _ x v (r1.dp (SeqAt.canLay_of_shaped h1)) rx
    obtain ⟨bs, t2⟩ := Dp.reads I _ y u (r2.dp (SeqAt.canLay_of_shaped h2)) ry
    exact SeqAt.in_tuple_reads t2 t1 (SeqAt.canLay_of_shaped h2) (SeqAt.canLay_of_shaped h1) (room_in_shaped h1 (by omega)) ⟨.bl _, H, I, rfl, hQ _ _ H q (fun _ _ e => e) (.bl _)⟩
  · exact q.elim
theorem dop_notin (hu : X.A.units + 100 < cLine) : DOp X (compareOp .NotIn) notinD := by
  intro pins s σ H x y v u Q I rx ry ⟨A, dx, dy, K, dm, r1, r2, q, hQ⟩
  unfold notinD at q
  split at q
  · obtain ⟨c, rfl, q⟩ := q
    exact op_notIn_sign pins s σ H x y v u Q I rx ry ⟨c, _, r1.str.1, r2.str.1, hQ _ _ H q (fun _ _ e => e) (.bl _)⟩
  · obtain ⟨h1, h2, q⟩ := q
    exact op_notInD (by omega) pins s σ H x y v u Q I rx ry ⟨_, _, r1.dp (SeqAt.canLay_of_shaped h1), r2.dp (SeqAt.canLay_of_shaped h2), h1, h2, hQ _ _ H q (fun _ _ e => e) (.bl _)⟩
  · obtain ⟨h1, h2, q⟩ := q
    obtain ⟨as, t1⟩ := Dp.reads I _ x v (r1.dp (SeqAt.canLay_of_shaped h1)) rx
    obtain ⟨bs, t2⟩ := Dp.reads I _ y u (r2.dp (SeqAt.canLay_of_shaped h2)) ry
    exact SeqAt.notIn_tuple_reads t2 t1 (SeqAt.canLay_of_shaped h2) (SeqAt.canLay_of_shaped h1) (room_in_shaped h1 (by omega)) ⟨.bl _, H, I, rfl, hQ _ _ H q (fun _ _ e => e) (.bl _)⟩
  · exact q.elim

/-! ### subscripts, slices -/
def ixD : D → D → (D → Prop) → Prop
  | .list xs, .int i, K => ∃ d, atI xs i = some d ∧ K d
  | .tuple xs, .int i, K => ∃ d, atI xs i = some d ∧ K d
  | .str x, .int i, K => ∃ c, atI x.cps.toList i = some c ∧ K (.str ⟨#[c]⟩)
  | _, _, _ => False
theorem RepAll.at {K : PySem.W.Frag} {A : Addr → Prop} {H : Hp} {vs : List V} {ds : List D} {i : Int} {d : D} (r : RepAll K A H vs ds) (h : atI ds i = some d) : ∃ v, atI vs i = some v ∧ Rep K A H v d := by
  unfold atI at h ⊢
  rw [r.length]
  cases hn : ixN ds.length i with
  | none =>
    rw [hn] at h
    cases h
  | some j =>
    rw [hn] at h
    exact r.getD h
theorem dix : DIx X ixD := by
  intro value slice pins s σ H x y v u Q I rx ry ⟨A, dx, dy, K, dm, r1, r2, q, hQ⟩ hs
  match dx, dy, q with
  | .list xs, .int i, q =>
    obtain ⟨d, hd, q⟩ := q
    obtain ⟨a, vs, rfl, ha, ra, _⟩ := r1.list
    obtain ⟨w, hw, rw'⟩ := ra.at hd
    exact ix_list value slice pins s σ H _ y v u Q I rx ry ⟨a, vs, i, w, rfl, r2.int, .inl (.inl ha), hw, hQ _ _ H q (fun _ _ e => e) rw'⟩ hs
  | .tuple xs, .int i, q =>
    obtain ⟨d, hd, q⟩ := q
    obtain ⟨a, vs, rfl, ha, ra, _⟩ := r1.tup
    obtain ⟨w, hw, rw'⟩ := ra.at hd
    exact ix_tup value slice pins s σ H _ y v u Q I rx ry ⟨a, vs, i, w, rfl, r2.int, ha, hw, hQ _ _ H q (fun _ _ e => e) rw'⟩ hs
  | .str z, .int i, q =>
    obtain ⟨c, hc, q⟩ := q
    exact ix_str value slice pins s σ H _ y v u Q I rx ry ⟨z, i, c, r1.str.1, r2.int, r1.str.2, hc, hQ _ _ H q (fun _ _ e => e) (.str _ (one_sign c))⟩ hs
def cutL {α : Type} (xs : List α) (lo hi : Option Int) : List α := (xs.drop (HT.sIx xs.length 0 lo)).take (HT.sIx xs.length xs.length hi - HT.sIx xs.length 0 lo)
theorem cutL_len {α : Type} (xs : List α) (lo hi : Option Int) : (cutL xs lo hi).length ≤ xs.length := by
  unfold cutL
  rw [List.length_take, List.length_drop]
  omega
theorem RepAll.cut {K : PySem.W.Frag} {A : Addr → Prop} {H : Hp} {vs : List V} {ds : List D} (r : RepAll K A H vs ds) (lo hi : Option Int) : RepAll K A H (cutV vs lo hi) (cutL ds lo hi) := by
  unfold cutV cutL
  rw [r.length]
  exact (r.drop _).take _
def slD : D → Option Int → Option Int → (D → Prop) → Prop
  | .tuple xs, lo, hi, K => K (.tuple (cutL xs lo hi))
  | .str x, lo, hi, K => K (.str (cutS x lo hi))
  | .list xs, lo, hi, K => K (.list (cutL xs lo hi))
  | _, _, _, _ => False
def slFD : D → Option Int → Option Int → (List D → Prop) → Prop
  | .list xs, lo, hi, K => K (cutL xs lo hi)
  | _, _, _, _ => False
theorem dsl : SlR X (rDS X.K slD) := by
  intro pins s σ H x v vl vu lo hi sl Q I rx hs pl pu ⟨A, dx, K, dm, r1, q, hQ⟩
  match dx, q with
  | .tuple xs, q =>
    obtain ⟨a, vs, rfl, ha, ra, z, wa⟩ := r1.tup
    refine sl_tupA pins s σ H _ v vl vu lo hi sl Q I rx hs pl pu ⟨a, vs, rfl, ha, fun h => ?_, fun _ p hp => hQ _ _ _ q (ext_laid hp) (.tup (.inl ⟨.inl upd_same, dom_not dm hp⟩) (Nat.le_trans (cutL_len _ _ _) z) ((ra.cut lo hi).map (kp_laid hp)))⟩
    refine hQ _ _ H q (fun _ _ e => e) ?_
    have e : cutL xs lo hi = xs := by
      unfold cutL
      rw [← ra.length, h.1, h.2, List.drop_zero, Nat.sub_zero, ra.length]
      exact List.take_length
    rw [e]
    exact wa
  | .str z, q =>
    exact sl_str pins s σ H _ v vl vu lo hi sl Q I rx hs pl pu ⟨z, r1.str.1, r1.str.2, hQ _ _ H q (fun _ _ e => e) (.str _ (Nat.le_trans (cutS_length _ _ _) r1.str.2))⟩
  | .list xs, q =>
    obtain ⟨a, vs, rfl, ha, ra, z⟩ := r1.list
    exact sl_list pins s σ H _ v vl vu lo hi sl Q I rx hs pl pu ⟨a, vs, rfl, .inl (.inl ha), fun p hp => hQ _ _ _ q (ext_laid hp) (.lst upd_same (dom_not dm hp) (Nat.le_trans (cutL_len _ _ _) z) ((ra.cut lo hi).map (kp_laid hp)))⟩
theorem dslF : SlR X (rDSF X.K slFD) := by
  intro pins s σ H x v vl vu lo hi sl Q I rx hs pl pu ⟨A, dx, K, dm, r1, q, hQ⟩
  match dx, q with
  | .list xs, q =>
    obtain ⟨a, vs, rfl, ha, ra, z⟩ := r1.list
    exact sl_list pins s σ H _ v vl vu lo hi sl Q I rx hs pl pu ⟨a, vs, rfl, .inl (.inl ha), fun p hp => hQ _ _ _ _ q (ext_laid hp) hp upd_same (Nat.le_trans (cutL_len _ _ _) z) ((ra.cut lo hi).map (kp_laidA hp))⟩
end
end DL
/-! DLBlt: built-in functions, types and methods over data. -/
namespace DL
open PySem PySem.Spec PyProof.Rows L2
theorem RepBs.one {K : PySem.W.Frag} {A : Addr → Prop} {H : Hp} {vs : List V} {d : D} (r : RepBs K A H vs [d]) : ∃ v, vs = [v] ∧ RepB K A H v d := by
  cases r with
  | cons r t =>
    cases t
    exact ⟨_, rfl, r⟩
theorem RepBs.two {K : PySem.W.Frag} {A : Addr → Prop} {H : Hp} {vs : List V} {d e : D} (r : RepBs K A H vs [d, e]) : ∃ v u, vs = [v, u] ∧ RepB K A H v d ∧ RepB K A H u e := by
  cases r with
  | cons r t =>
    cases t with
    | cons r2 t =>
      cases t
      exact ⟨_, _, rfl, r, r2⟩
theorem RepB.tupA {K : PySem.W.Frag} {A : Addr → Prop} {H : Hp} {v : V} {ds : List D} (r : RepB K A H v (.tuple ds)) : Rep K A H v (.tuple ds) := by
  obtain ⟨a, xs, rfl, _, _, _, w⟩ := r.tup
  exact w
/-! ### isinstance -/
def tagD : D → String
  | .none => "NoneType"
  | .bool _ => "bool"
  | .int _ => "int"
  | .str _ => "str"
  | .list _ => "list"
  | .tuple _ => "tuple"
  | .dict _ => "dict"
theorem RepB.ty {K : PySem.W.Frag} {A : Addr → Prop} {H : Hp} {v : V} {d : D} (r : RepB K A H v d) : TyX K H v (.type (tagD d)) := by
  rcases r with r | ⟨a, xs, ds, rfl, rfl, e, _⟩
  · cases r with
    | non => exact .base .non
    | bl b => exact .base (.bl b)
    | int i => exact .base (.int i)
    | str x _ => exact .base (.str x)
    | lst e _ _ _ => exact .base (.lst e)
    | tup s _ _ =>
      rcases s with ⟨r | ⟨o, r⟩, _⟩ | h
      · exact .base (.tup r)
      · exact .fTuple r
      · rcases h with (h | ⟨_, h⟩) | ⟨o, its, n, h, c, _⟩
        · cases h
        · cases h
        · exact .kTuple h c
    | dic e _ _ => exact .base (.dK e)
  · exact .base (.lst e)
def isIntD : D → Bool
  | .int _ => true
  | .bool _ => true
  | _ => false
def isBoolD : D → Bool
  | .bool _ => true
  | _ => false
def isStrD : D → Bool
  | .str _ => true
  | _ => false
def isTupD : D → Bool
  | .tuple _ => true
  | _ => false
def isListD : D → Bool
  | .list _ => true
  | _ => false
def isDictD : D → Bool
  | .dict _ => true
  | _ => false
def IsiOk (T : String) (b : D → Bool) : Prop := ∀ d, kitB (tagD d) T = some (b d)
theorem isi_mk {T : String} {b : D → Bool} {n bo i s l t d : Bool} (h : [kitB "NoneType" T, kitB "bool" T, kitB "int" T, kitB "str" T, kitB "list" T, kitB "tuple" T, kitB "dict" T] = [some n, some bo, some i, some s, some l, some t, some d])
    (e1 : b .none = n) (e2 : ∀ x, b (.bool x) = bo) (e3 : ∀ x, b (.int x) = i) (e4 : ∀ x, b (.str x) = s) (e5 : ∀ x, b (.list x) = l) (e6 : ∀ x, b (.tuple x) = t) (e7 : ∀ x, b (.dict x) = d) : IsiOk T b := by
  simp only [List.cons.injEq, and_true] at h
  obtain ⟨h1, h2, h3, h4, h5, h6, h7⟩ := h
  intro x
  cases x with
  | none => rw [e1]; exact h1
  | bool x => rw [e2]; exact h2
  | int x => rw [e3]; exact h3
  | str x => rw [e4]; exact h4
  | list x => rw [e5]; exact h5
  | tuple x => rw [e6]; exact h6
  | dict x => rw [e7]; exact h7
theorem isi_int : IsiOk "int" isIntD := isi_mk (n := false) (bo := true) (i := true) (s := false) (l := false) (t := false) (d := false) (by decide +kernel) rfl (fun _ => rfl) (fun _ => rfl) (fun _ => rfl) (fun _ => rfl) (fun _ => rfl) (fun _ => rfl)
theorem isi_bool : IsiOk "bool" isBoolD := isi_mk (n := false) (bo := true) (i := false) (s := false) (l := false) (t := false) (d := false) (by decide +kernel) rfl (fun _ => rfl) (fun _ => rfl) (fun _ => rfl) (fun _ => rfl) (fun _ => rfl) (fun _ => rfl)
theorem isi_str : IsiOk "str" isStrD := isi_mk (n := false) (bo := false) (i := false) (s := true) (l := false) (t := false) (d := false) (by decide +kernel) rfl (fun _ => rfl) (fun _ => rfl) (fun _ => rfl) (fun _ => rfl) (fun _ => rfl) (fun _ => rfl)
theorem isi_tuple : IsiOk "tuple" isTupD := isi_mk (n := false) (bo := false) (i := false) (s := false) (l := false) (t := true) (d := false) (by decide +kernel) rfl (fun _ => rfl) (fun _ => rfl) (fun _ => rfl) (fun _ => rfl) (fun _ => rfl) (fun _ => rfl)
theorem isi_list : IsiOk "list" isListD := isi_mk (n := false) (bo := false) (i := false) (s := false) (l := true) (t := false) (d := false) (by decide +kernel) rfl (fun _ => rfl) (fun _ => rfl) (fun _ => rfl) (fun _ => rfl) (fun _ => rfl) (fun _ => rfl)
theorem isi_dict : IsiOk "dict" isDictD := isi_mk (n := false) (bo := false) (i := false) (s := false) (l := false) (t := false) (d := true) (by decide +kernel) rfl (fun _ => rfl) (fun _ => rfl) (fun _ => rfl) (fun _ => rfl) (fun _ => rfl) (fun _ => rfl)
section
variable {X : Cx} {W : Wd} {N : List Str} {sc : Scope} {kk : Nat} {e : Expr} {c : Nat} {g : TDE} {pos p p2 : Pos}
def gIsi (b : D → Bool) (g : TDE) : TDE := fun Δ K => g Δ fun d => K (.bool (b d))
theorem de_isi (C : Cxt X W N sc kk) {T : String} {x : Str} {b : D → Bool} (hb : IsiOk T b) (hg : sc.names.lookup ("isinstance" : Str) = some .globalImplicit) (hm : X.mg ("isinstance" : Str) = none) (hgT : sc.names.lookup x = some .globalImplicit) (hmT : X.mg x = none) (hvT : bootBuiltins x = some (.type T)) (ha : DB X W e g c)
    (hn : x ≠ "__name__" := by decide +kernel) (hdb : (x == ("__debug__" : Str)) = false := by decide +kernel) (hs1 : starEach [e, .Name x p2] X.env = (false, eval e X.env) :: starEach [.Name x p2] X.env := by rfl) (hs2 : starEach [.Name x p2] X.env = (false, eval (.Name x p2) X.env) :: starEach [] X.env := by rfl)
    (hpl : (backTo pos (starEach [.Name x p2] X.env)).any (·.1) = false := by rfl) :
    DE X W (.Call (.Name "isinstance" p) [e, .Name x p2] [] pos) (gIsi b g) c :=
  pe_imp (pe_callB call_isi (C.gl hg) hm PyProof.Rows.boot_isinstance (pa_cons ha (pa_cons (pe_bltn (v := .ty T) (C.gl hgT) hmT hvT rfl hn hdb) pa_nil hs2) hs1) (by decide +kernel) (by decide +kernel) hs1 hpl) fun σ H Q ⟨k, Δ, K, h1, h2, h3, h4⟩ => ⟨k, Δ, _, h1, h2, h3, fun d v H1 q1 c1 r1 => by
    refine ⟨v, .ty T, .type (tagD d), .type T, b d, rfl, .ty T, (RepO.bo C r1).ty, kit_ty (hb d), h4 _ _ H1 q1 c1 (.bl _)⟩⟩
end

/-! ### calls -/
section
variable {X : Cx}
def lenD : List D → (D → Prop) → Prop
  | [.str x], K => K (.int x.length)
  | [.list xs], K => K (.int xs.length)
  | [.tuple xs], K => K (.int xs.length)
  | [.dict xs], K => K (.int xs.length)
  | _, _ => False
theorem RepKv.length {K : PySem.W.Frag} {A : Addr → Prop} {H : Hp} : ∀ {vs : List (Key × V)} {ds : List (D × D)}, RepKv K A H vs ds → vs.length = ds.length
  | _, _, .nil => rfl
  | _, _, .cons _ t => congrArg (· + 1) t.length
theorem dc_len : DCall X (.builtin "len") lenD := by
  intro pins s σ H xs us Q I rv ⟨A, ds, K, dm, rs, q, hQ⟩
  unfold lenD at q
  split at q
  · obtain ⟨v, rfl, r⟩ := rs.one
    obtain ⟨rfl, z⟩ := r.str
    exact call_len pins s σ H _ us Q I rv ⟨_, _, rfl, ⟨z, rfl⟩, hQ _ _ H q (fun _ _ e => e) (.int _)⟩
  · obtain ⟨v, rfl, r⟩ := rs.one
    obtain ⟨a, ys, rfl, ha, ra, _⟩ := r.list
    exact call_len pins s σ H _ us Q I rv ⟨_, _, rfl, .inl ⟨ys, .inl (.inl ha), rfl⟩, hQ _ _ H q (fun _ _ e => e) (by rw [ra.length]; exact .int _)⟩
  · obtain ⟨v, rfl, r⟩ := rs.one
    obtain ⟨a, ys, rfl, ha, ra, _⟩ := r.tup
    exact call_len pins s σ H _ us Q I rv ⟨_, _, rfl, .inr ⟨ys, ha, rfl⟩, hQ _ _ H q (fun _ _ e => e) (by rw [ra.length]; exact .int _)⟩
  · obtain ⟨v, rfl, r⟩ := rs.one
    obtain ⟨a, kvs, rfl, ha, rk, _⟩ := r.dict
    exact call_lenD pins s σ H _ us Q I rv ⟨a, kvs, rfl, ha, hQ _ _ H q (fun _ _ e => e) (by rw [rk.length]; exact .int _)⟩
  · exact q.elim
def tupD : List D → (D → Prop) → Prop
  | [.list xs], K => K (.tuple xs)
  | [.tuple xs], K => K (.tuple xs)
  | _, _ => False
theorem dc_tuple : DCall X (.type "tuple") tupD := by
  intro pins s σ H xs us Q I rv ⟨A, ds, K, dm, rs, q, hQ⟩
  unfold tupD at q
  split at q
  · obtain ⟨v, rfl, r⟩ := rs.one
    obtain ⟨a, ys, rfl, ha, ra, z⟩ := r.list
    exact call_tuple_of pins s σ H _ us Q I rv ⟨a, ys, rfl, .inl ⟨.inl (.inl ha), fun p hp => hQ _ _ _ q (ext_laid hp) (.tup (.inl ⟨.inl upd_same, dom_not dm hp⟩) z (ra.map (kp_laid hp)))⟩⟩
  · obtain ⟨v, rfl, r⟩ := rs.one
    obtain ⟨a, ys, rfl, ha, ra, z, w⟩ := r.tup
    exact call_tuple_of pins s σ H _ us Q I rv ⟨a, ys, rfl, .inr ⟨ha, hQ _ _ H q (fun _ _ e => e) w⟩⟩
  · exact q.elim
def listD : List D → (List D → Prop) → Prop
  | [.list xs], K => K xs
  | [.tuple xs], K => K xs
  | _, _ => False
theorem dcf_list : DCallF X (.type "list") listD := by
  intro pins s σ H xs us Q I rv ⟨A, ds, K, dm, rs, q, hQ⟩
  unfold listD at q
  split at q
  · obtain ⟨v, rfl, r⟩ := rs.one
    obtain ⟨a, ys, rfl, ha, ra, z⟩ := r.list
    exact call_list_of pins s σ H _ us Q I rv ⟨a, ys, rfl, .inl (.inl (.inl ha)), fun p hp => hQ _ _ _ _ q (ext_laid hp) hp upd_same z (ra.map (kp_laidA hp))⟩
  · obtain ⟨v, rfl, r⟩ := rs.one
    obtain ⟨a, ys, rfl, ha, ra, z, w⟩ := r.tup
    exact call_list_of pins s σ H _ us Q I rv ⟨a, ys, rfl, .inr ha, fun p hp => hQ _ _ _ _ q (ext_laid hp) hp upd_same z (ra.map (kp_laidA hp))⟩
  · exact q.elim
def allD : List D → (D → Prop) → Prop
  | [.list xs], K => ∃ bs : List Bool, xs = bs.map PyData.bool ∧ K (.bool (bs.all id))
  | _, _ => False
def anyD : List D → (D → Prop) → Prop
  | [.list xs], K => ∃ bs : List Bool, xs = bs.map PyData.bool ∧ K (.bool (bs.any id))
  | _, _ => False
theorem dc_all (hc : X.calm = true) : DCall X (.builtin "all") allD := by
  intro pins s σ H xs us Q I rv ⟨A, ds, K, dm, rs, q, hQ⟩
  unfold allD at q
  split at q
  · obtain ⟨bs, rfl, q⟩ := q
    obtain ⟨v, rfl, r⟩ := rs.one
    obtain ⟨a, ys, rfl, ha, ra, z⟩ := r.list
    have e := ra.bools
    subst e
    exact cr_all hc pins s σ H _ us Q I rv ⟨a, bs, rfl, .inl (.inl ha), hQ _ _ H q (fun _ _ e => e) (.bl _)⟩
  · exact q.elim
theorem dc_any (hc : X.calm = true) : DCall X (.builtin "any") anyD := by
  intro pins s σ H xs us Q I rv ⟨A, ds, K, dm, rs, q, hQ⟩
  unfold anyD at q
  split at q
  · obtain ⟨bs, rfl, q⟩ := q
    obtain ⟨v, rfl, r⟩ := rs.one
    obtain ⟨a, ys, rfl, ha, ra, z⟩ := r.list
    have e := ra.bools
    subst e
    exact cr_any hc pins s σ H _ us Q I rv ⟨a, bs, rfl, .inl (.inl ha), hQ _ _ H q (fun _ _ e => e) (.bl _)⟩
  · exact q.elim
def sumD : List D → (D → Prop) → Prop
  | [.list xs], K => ∃ ns : List Int, xs = ns.map PyData.int ∧ K (.int ns.sum)
  | _, _ => False
theorem dc_sum (hc : X.calm = true) : DCall X (.builtin "sum") sumD := by
  intro pins s σ H xs us Q I rv ⟨A, ds, K, dm, rs, q, hQ⟩
  unfold sumD at q
  split at q
  · obtain ⟨bs, rfl, q⟩ := q
    obtain ⟨v, rfl, r⟩ := rs.one
    obtain ⟨a, ys, rfl, ha, ra, z⟩ := r.list
    have e := ra.ints
    subst e
    exact cr_sum hc pins s σ H _ us Q I rv ⟨a, bs, rfl, .inl (.inl ha), hQ _ _ H q (fun _ _ e => e) (.int _)⟩
  · exact q.elim
def maxD : List D → (D → Prop) → Prop
  | [.int i, .int j], K => K (.int (if j > i then j else i))
  | [.list xs], K => ∃ ns : List Int, xs = ns.map PyData.int ∧ 0 < ns.length ∧ ∀ m, m ∈ ns → (∀ y, y ∈ ns → y ≤ m) → K (.int m)
  | _, _ => False
def minD : List D → (D → Prop) → Prop
  | [.int i, .int j], K => K (.int (if j < i then j else i))
  | [.list xs], K => ∃ ns : List Int, xs = ns.map PyData.int ∧ 0 < ns.length ∧ ∀ m, m ∈ ns → (∀ y, y ∈ ns → m ≤ y) → K (.int m)
  | _, _ => False
theorem dc_max (hc : X.calm = true) : DCall X (.builtin "max") maxD := by
  intro pins s σ H xs us Q I rv ⟨A, ds, K, dm, rs, q, hQ⟩
  unfold maxD at q
  split at q
  · obtain ⟨v, u, rfl, r1, r2⟩ := rs.two
    exact call_max2 hc pins s σ H _ us Q I rv ⟨_, _, by rw [r1.int, r2.int], hQ _ _ H q (fun _ _ e => e) (.int _)⟩
  · obtain ⟨bs, rfl, hne, q⟩ := q
    obtain ⟨v, rfl, r⟩ := rs.one
    obtain ⟨a, ys, rfl, ha, ra, z⟩ := r.list
    have e := ra.ints
    subst e
    exact cr_max hc pins s σ H _ us Q I rv ⟨a, bs, rfl, .inl (.inl ha), hne, fun m h1 h2 => hQ _ _ H (q m h1 h2) (fun _ _ e => e) (.int _)⟩
  · exact q.elim
theorem dc_min (hc : X.calm = true) : DCall X (.builtin "min") minD := by
  intro pins s σ H xs us Q I rv ⟨A, ds, K, dm, rs, q, hQ⟩
  unfold minD at q
  split at q
  · obtain ⟨v, u, rfl, r1, r2⟩ := rs.two
    exact call_min2 hc pins s σ H _ us Q I rv ⟨_, _, by rw [r1.int, r2.int], hQ _ _ H q (fun _ _ e => e) (.int _)⟩
  · obtain ⟨bs, rfl, hne, q⟩ := q
    obtain ⟨v, rfl, r⟩ := rs.one
    obtain ⟨a, ys, rfl, ha, ra, z⟩ := r.list
    have e := ra.ints
    subst e
    exact cr_min hc pins s σ H _ us Q I rv ⟨a, bs, rfl, .inl (.inl ha), hne, fun m h1 h2 => hQ _ _ H (q m h1 h2) (fun _ _ e => e) (.int _)⟩
  · exact q.elim
def absD : List D → (D → Prop) → Prop
  | [.int i], K => K (.int (if i < 0 then -i else i))
  | _, _ => False
theorem dc_abs : DCall X (.builtin "abs") absD := by
  intro pins s σ H xs us Q I rv ⟨A, ds, K, dm, rs, q, hQ⟩
  unfold absD at q
  split at q
  · obtain ⟨v, rfl, r⟩ := rs.one
    exact call_abs pins s σ H _ us Q I rv ⟨_, by rw [r.int], hQ _ _ H q (fun _ _ e => e) (.int _)⟩
  · exact q.elim
def gcdD : List D → (D → Prop) → Prop
  | [.int i, .int j], K => K (.int ((Nat.gcd i.natAbs j.natAbs : Nat) : Int))
  | _, _ => False
theorem dc_gcd : DCall X (.builtin "math.gcd") gcdD := by
  intro pins s σ H xs us Q I rv ⟨A, ds, K, dm, rs, q, hQ⟩
  unfold gcdD at q
  split at q
  · obtain ⟨v, u, rfl, r1, r2⟩ := rs.two
    exact cr_gcd pins s σ H _ us Q I rv ⟨_, _, by rw [r1.int, r2.int], hQ _ _ H q (fun _ _ e => e) (.int _)⟩
  · exact q.elim
def intD : List D → (D → Prop) → Prop
  | [.int i], K => K (.int i)
  | [.bool b], K => K (.int (if b then 1 else 0))
  | [.str x], K => ∃ n, PySem.intText? x = some n ∧ x.length ≤ 640 ∧ K (.int n)
  | _, _ => False
theorem dc_int : DCall X (.type "int") intD := by
  intro pins s σ H xs us Q I rv ⟨A, ds, K, dm, rs, q, hQ⟩
  unfold intD at q
  split at q
  · obtain ⟨v, rfl, r⟩ := rs.one
    exact call_int1 pins s σ H _ us Q I rv (.inl ⟨_, by rw [r.int], hQ _ _ H q (fun _ _ e => e) (.int _)⟩)
  · obtain ⟨v, rfl, r⟩ := rs.one
    exact call_int1 pins s σ H _ us Q I rv (.inr ⟨_, by rw [r.bool], hQ _ _ H q (fun _ _ e => e) (.int _)⟩)
  · obtain ⟨v, rfl, r⟩ := rs.one
    obtain ⟨n, h1, h2, q⟩ := q
    exact call_int_str pins s σ H _ us Q I rv ⟨_, n, by rw [r.str.1], h1, h2, hQ _ _ H q (fun _ _ e => e) (.int _)⟩
  · exact q.elim
theorem intText_len {i : Int} (h : i.natAbs.log2 < 1920) : (toString i : Str).length ≤ sizeLine := by
  have := PySem.int_text_length_le (a := i) (k := 1920) (by decide) h
  rw [sizeLine_eq, PySem.ofString_length]
  omega
def strD : List D → (D → Prop) → Prop
  | [.int i], K => i.natAbs.log2 < 1920 ∧ K (.str (toString i))
  | [.str x], K => K (.str x)
  | _, _ => False
theorem dc_str : DCall X (.type "str") strD := by
  intro pins s σ H xs us Q I rv ⟨A, ds, K, dm, rs, q, hQ⟩
  unfold strD at q
  split at q
  · obtain ⟨v, rfl, r⟩ := rs.one
    exact call_str_int pins s σ H _ us Q I rv ⟨_, by rw [r.int], q.1, hQ _ _ H q.2 (fun _ _ e => e) (.str _ (intText_len q.1))⟩
  · obtain ⟨v, rfl, r⟩ := rs.one
    exact SkE.call_str_str pins s σ H _ us Q I rv ⟨_, by rw [r.str.1], hQ _ _ H q (fun _ _ e => e) (.str _ r.str.2)⟩
  · exact q.elim
def reprD : List D → (D → Prop) → Prop
  | [d], K => d.canLay0 = true ∧ d.showable = true ∧ d.depth ≤ 90 ∧ d.shown.length ≤ sizeLine ∧ K (.str d.shown)
  | _, _ => False
theorem RepB.ref_of {K : PySem.W.Frag} {A : Addr → Prop} {H : Hp} {v : V} {d : D} (r : RepB K A H v d) : (∃ a, v = .ref a) ∨ d = .none ∨ (∃ b, d = .bool b) ∨ (∃ i, d = .int i) ∨ ∃ x, d = .str x := by
  rcases r with r | ⟨a, xs, ds, rfl, rfl, e, _⟩
  · cases r with
    | non => exact .inr (.inl rfl)
    | bl b => exact .inr (.inr (.inl ⟨b, rfl⟩))
    | int i => exact .inr (.inr (.inr (.inl ⟨i, rfl⟩)))
    | str x _ => exact .inr (.inr (.inr (.inr ⟨x, rfl⟩)))
    | lst e _ _ _ => exact .inl ⟨_, rfl⟩
    | tup s _ _ => exact .inl ⟨_, rfl⟩
    | dic e _ _ => exact .inl ⟨_, rfl⟩
  · exact .inl ⟨_, rfl⟩
theorem dc_repr (hg : X.A.guards = some []) (hu : X.A.units + 100 < cLine) : DCall X (.builtin "repr") reprD := by
  intro pins s σ H xs us Q I rv ⟨A, ds, K, dm, rs, q, hQ⟩
  unfold reprD at q
  split at q
  · obtain ⟨v, rfl, r⟩ := rs.one
    obtain ⟨hl, hs, hd, hz, q⟩ := q
    rcases r.ref_of with ⟨a, rfl⟩ | rfl | ⟨b, rfl⟩ | ⟨i, rfl⟩ | ⟨x, rfl⟩
    · obtain ⟨u, rfl, t, rfl⟩ := vals1 rv
      obtain ⟨as, R⟩ := Dp.reads I _ _ _ (r.dp hl) (show RelV (.ref a) (.ref a) from rfl)
      refine PySem.repr_of_reads' R hs (PyData.noDict_hsm (PyData.hasDict_of_canLay _ hl)) hg (by omega) (fun _ _ e => e) (fun h' u tk hk => ⟨.str _, H, I.kept hk, ⟨u, rfl⟩, hQ _ _ H q (fun _ _ e => e) (.str _ hz)⟩) hz
    · obtain rfl := r.none
      obtain ⟨u, rfl, t⟩ := vals1 rv
      cases t
      exact PySem.P.repr_of_none ⟨.str _, H, I.tok _, ⟨_, rfl⟩, hQ _ _ H q (fun _ _ e => e) (.str _ hz)⟩
    · obtain rfl := r.bool
      obtain ⟨u, rfl, t⟩ := vals1 rv
      cases t
      exact PySem.P.repr_of_bool ⟨.str _, H, I.tok _, ⟨_, rfl⟩, hQ _ _ H q (fun _ _ e => e) (.str _ hz)⟩
    · obtain rfl := r.int
      obtain ⟨u, rfl, t, rfl⟩ := vals1 rv
      exact PySem.P.repr_of_int (by simpa [PyData.showable] using hs) ⟨.str _, H, I.tok _, ⟨_, rfl⟩, hQ _ _ H q (fun _ _ e => e) (.str _ hz)⟩
    · obtain ⟨rfl, z⟩ := r.str
      obtain ⟨u, rfl, t, rfl⟩ := vals1 rv
      exact PySem.P.repr_of_str ⟨.str _, H, I.tok _, ⟨_, rfl⟩, hQ _ _ H q (fun _ _ e => e) (.str _ hz)⟩ hz
  · exact q.elim
end

/-! ### methods of texts -/
section
variable {X : Cx} {W : Wd} {N : List Str} {sc : Scope} {kk : Nat} {o e : Expr} {c ca cb : Nat} {ga gb : TDE} {pos apos : Pos} {id : String} {name : Str}
def rDM (Kf : PySem.W.Frag) (f : List D → (D → Prop) → Prop) : V → List V → Hp → VK → Prop := fun x xs H Q => rDC Kf f (x :: xs) H Q
abbrev DMeth (X : Cx) (id : String) (f : List D → (D → Prop) → Prop) : Prop := MtR X id (rDM X.K f)
def gM0 (f : List D → (D → Prop) → Prop) (ga : TDE) : TDE := fun Δ K => ga Δ fun x => isStrD x = true ∧ f [x] K
def gM1 (f : List D → (D → Prop) → Prop) (ga gb : TDE) : TDE := fun Δ K => ga Δ fun x => isStrD x = true ∧ gb Δ fun y => f [x, y] K
theorem RepB.isStr {K : PySem.W.Frag} {A : Addr → Prop} {H : Hp} {v : V} {d : D} (r : RepB K A H v d) (h : isStrD d = true) : ∃ x, v = .str x := by
  cases d with
  | str x => exact ⟨x, r.str.1⟩
  | _ => cases h
theorem de_m0 (C : Cxt X W N sc kk) {f : List D → (D → Prop) → Prop} (slot : Slot "str" name id) (ty : typeOf (.builtin id) = pure (.type "method_descriptor")) (rule : DMeth X id f) (ho : DB X W o ga ca)
    (hbase : attributeBase o name X.env (eval o X.env) = eval o X.env := by rfl) (hline : (apos.endLine == pos.line) = true := by rfl) : DE X W (.Call (.Attribute o name apos) [] [] pos) (gM0 f ga) ca :=
  pe_imp (pe_m0 slot ty rule ho hbase hline) fun σ H Q ⟨k, Δ, K, h1, h2, h3, h4⟩ => ⟨k, Δ, _, h1, h2, h3, fun dx x H1 ⟨s1, q1⟩ c1 r1 => by
    have e1 := h2.chg C.ok c1
    exact ⟨(RepO.bo C r1).isStr s1, AA W σ Δ, [dx], K, e1.dom C, .cons (RepO.bo C r1) .nil, q1, fun d v H' hd hx hv => h4 d v H' hd (c1.trans (Chg.of_ext e1.fin hx)) (by rw [C.hK]; exact hv)⟩⟩
theorem de_m1 (C : Cxt X W N sc kk) {f : List D → (D → Prop) → Prop} (slot : Slot "str" name id) (ty : typeOf (.builtin id) = pure (.type "method_descriptor")) (rule : DMeth X id f) (ho : DB X W o ga ca) (he : DB X W e gb cb)
    (hs : starEach [e] X.env = [(false, eval e X.env)] := by rfl) (hbase : attributeBase o name X.env (eval o X.env) = eval o X.env := by rfl) (hline : (apos.endLine == pos.line) = true := by rfl) :
    DE X W (.Call (.Attribute o name apos) [e] [] pos) (gM1 f ga gb) (ca + cb) :=
  pe_imp (pe_m1 slot ty rule ho he hs hbase hline) fun σ H Q ⟨k, Δ, K, h1, h2, h3, h4⟩ => ⟨k, Δ, _, by omega, h2, h3, fun dx x H1 ⟨s1, q1⟩ c1 r1 => by
    have e1 := h2.chg C.ok c1
    refine ⟨(RepO.bo C r1).isStr s1, k + ca, Δ, _, by omega, e1, q1, fun dy y H2 q2 c2 r2 => ?_⟩
    have e2 := e1.chg C.ok c2
    refine ⟨AA W σ Δ, [dx, dy], K, e2.dom C, .cons (RepO.bo C (RepO.chg C e1 r1 c2)) (.cons (RepO.bo C r2) .nil), q2, fun d v H' hd hx hv => h4 d v H' hd ((chg3 c1 c2).trans ?_) (by rw [C.hK]; exact hv)⟩
    have e : k + ca + cb = k + (ca + cb) := by omega
    exact e ▸ Chg.of_ext e2.fin hx⟩
/-- sep.join(xs) -/
def joinD : List D → (D → Prop) → Prop
  | [.str a, .list ds], K => ∃ ys : List Str, ds = ys.map PyData.str ∧ (ys.map (·.length)).sum + ys.length * a.length ≤ 16777216 ∧ (Txt.join a ys).length ≤ sizeLine ∧ K (.str (Txt.join a ys))
  | [.str a, .tuple ds], K => ∃ ys : List Str, ds = ys.map PyData.str ∧ (ys.map (·.length)).sum + ys.length * a.length ≤ 16777216 ∧ (Txt.join a ys).length ≤ sizeLine ∧ K (.str (Txt.join a ys))
  | _, _ => False
theorem vs1 {vs : List V} {x : V} {xs ys : List V} (h : x :: xs = ys) : ∃ y z, ys = y :: z ∧ x = y ∧ xs = z := ⟨x, xs, h.symm, rfl, rfl⟩
theorem dm_join : DMeth X "str.join" joinD := by
  intro pins s σ H x xs v us Q I rx rs ⟨A, ds, K, dm, rd, q, hQ⟩
  unfold joinD at q
  split at q
  · obtain ⟨ys, rfl, h1, h2, q⟩ := q
    obtain ⟨v1, v2, e, r1, r2⟩ := rd.two
    cases e
    obtain ⟨a, zs, rfl, ha, ra, _⟩ := r2.list
    have e := ra.strs
    subst e
    exact mt_join pins s σ H _ _ v us Q I rx rs ⟨_, a, ys, r1.str.1, rfl, .inl (.inl (.inl ha)), h1, hQ _ _ H q (fun _ _ e => e) (.str _ h2)⟩
  · obtain ⟨ys, rfl, h1, h2, q⟩ := q
    obtain ⟨v1, v2, e, r1, r2⟩ := rd.two
    cases e
    obtain ⟨a, zs, rfl, ha, ra, _⟩ := r2.tup
    have e := ra.strs
    subst e
    exact mt_join pins s σ H _ _ v us Q I rx rs ⟨_, a, ys, r1.str.1, rfl, .inr ha, h1, hQ _ _ H q (fun _ _ e => e) (.str _ h2)⟩
  · exact q.elim
/-- x.split(sep) -/
def splitD : List D → (D → Prop) → Prop
  | [.str a, .str b], K => (b.length == 0) = false ∧ a.length + 2 ≤ sizeLine ∧ (Txt.split a b).length ≤ sizeLine ∧ (∀ y ∈ Txt.split a b, y.length ≤ sizeLine) ∧ K (.list ((Txt.split a b).map PyData.str))
  | _, _ => False
theorem dm_split : DMeth X "str.split" splitD := by
  intro pins s σ H x xs v us Q I rx rs ⟨A, ds, K, dm, rd, q, hQ⟩
  unfold splitD at q
  split at q
  · obtain ⟨h1, h2, h3, h4, q⟩ := q
    obtain ⟨v1, v2, e, r1, r2⟩ := rd.two
    cases e
    exact mt_split pins s σ H _ _ v us Q I rx rs ⟨_, _, r1.str.1, by rw [r2.str.1], h1, h2, fun p hp => hQ _ _ _ q (ext_laid hp) (.lst upd_same (dom_not dm hp) (by rw [List.length_map]; exact h3) (RepAll.of_strs _ h4))⟩
  · exact q.elim
end
end DL
/-! DLLaw: a law's script, its pots, its draws. -/
namespace DL
open PySem PySem.Spec PyProof.Rows L2
section
variable {X : Cx} {W : Wd} {N : List Str} {sc : Scope} {kk : Nat} {e a b : Expr} {es : List Expr} {c ca cb cc : Nat} {g ga gb gc : TDE} {pos p p2 p3 p4 p5 : Pos} {k j : Nat} {σ : St} {Δ : DEnv} {H H' : Hp} {v : V} {d : D}
/-! ### list(range(e)), list(range(e, f)) -/
def rgD (a b : Int) : List D := (List.range (b - a).toNat).map fun i => PyData.int (a + (i : Nat))
theorem rep_rg {K : PySem.W.Frag} {A : Addr → Prop} {H : Hp} : ∀ (l : List Nat) (a : Int), RepAll K A H (l.map fun i => V.int (a + (i : Nat))) (l.map fun i => PyData.int (a + (i : Nat)))
  | [], _ => .nil
  | n :: l, a => .cons (.int _) (rep_rg l a)
def gLRg (ga : TDE) : TDL := fun Δ K => ga Δ fun d => match d with
  | .int n => 0 ≤ n ∧ n ≤ 16777216 ∧ K (rgD 0 n)
  | _ => False
theorem rgD_len (a b : Int) : (rgD a b).length = (b - a).toNat := by
  unfold rgD
  rw [List.length_map, List.length_range]
theorem df_lrg (C : Cxt X W N sc kk) (hg : sc.names.lookup ("list" : Str) = some .globalImplicit) (hm : X.mg ("list" : Str) = none) (hg2 : sc.names.lookup ("range" : Str) = some .globalImplicit) (hm2 : X.mg ("range" : Str) = none) (he : DB X W e ga c)
    (na : starEach [e] X.env = (false, eval e X.env) :: starEach [] X.env := by rfl) (na2 : starEach [.Call (.Name "range" p2) [e] [] p3] X.env = (false, eval (.Call (.Name "range" p2) [e] [] p3) X.env) :: starEach [] X.env := by rfl) : DF X W (.Call (.Name "list" p) [.Call (.Name "range" p2) [e] [] p3] [] pos) (gLRg ga) c :=
  pe_imp (pe_listRg C.calm (C.gl hg) hm (prg_1 (C.gl hg2) hm2 he na) na2) fun σ H Q ⟨k, Δ, K, h1, h2, h3, h4⟩ => ⟨k, Δ, _, h1, h2, h3, fun d v H1 q1 c1 r1 => by
    cases d with
    | int n =>
      obtain ⟨h0, hn, q1⟩ := (show 0 ≤ n ∧ n ≤ 16777216 ∧ K (rgD 0 n) from q1)
      have e1 := h2.chg C.ok c1
      refine ⟨n, RepO.int r1, RgOk.of_le (by omega) hn (by omega) h0, fun q hq => ?_⟩
      exact h4 _ _ _ _ q1 (c1.laid C h2 hq) (c1.free hq) upd_same (by rw [rgD_len, sizeLine_eq]; omega) (rep_rg _ _)
    | _ => exact (show False from q1).elim⟩

/-! ### the script: len, an item, sum(script[:1]) -/
def gLenS (i : Nat) : TDE := fun Δ K => match nth Δ i with
  | .scr ns => K (.int ns.length)
  | _ => False
def gIxS (i : Nat) (ga : TDE) : TDE := fun Δ K => match nth Δ i with
  | .scr ns => ga Δ fun d => match d with
    | .int n => ∃ z, atI ns n = some z ∧ K (.int z)
    | _ => False
  | _ => False
def gSumS (i : Nat) : TDE := fun Δ K => match nth Δ i with
  | .scr ns => K (.int (ns.take 1).sum)
  | _ => False
theorem scr_of {i : Nat} {ns : List Int} (en : En W k σ H Δ) (h : nth Δ i = .scr ns) : ∃ a, σ[i]? = some (some (.ref a)) ∧ ScrAt W.K (AA W σ Δ) H a ns := by
  have s := en.sl i
  rw [h] at s
  exact s
variable {x : Str} {i : Nat}
theorem de_lenS (C : Cxt X W N sc kk) (hg : sc.names.lookup ("len" : Str) = some .globalImplicit) (hm : X.mg ("len" : Str) = none) (hx : N[i]? = some x) (hv : Vis sc x) (hd : (x == ("__debug__" : Str)) = false := by decide +kernel) (hcd : (x == ("__classdict__" : Str)) = false := by decide +kernel)
    (he : starEach [.Name x p2] X.env = (false, eval (.Name x p2) X.env) :: starEach [] X.env := by rfl) (hpl : (backTo pos (starEach [] X.env)).any (·.1) = false := by rfl) : DE X W (.Call (.Name "len" p) [.Name x p2] [] pos) (gLenS i) 0 :=
  pe_imp (pe_callB call_len (C.gl hg) hm PySem.boot_len (pa_cons (pe_var (i := i) (by rw [C.hN]; exact hx) (by rw [C.hsc]; exact hv) hd hcd) pa_nil he) (by decide +kernel) (by decide +kernel) he hpl) fun σ H Q ⟨k, Δ, K, h1, h2, h3, h4⟩ => by
    unfold gLenS at h3
    cases h : nth Δ i with
    | scr ns =>
      rw [h] at h3
      obtain ⟨a, e, r⟩ := scr_of h2 h
      refine ⟨.ref a, e, .ref a, _, rfl, .inl ⟨_, by rw [← C.hK]; exact r.sq, rfl⟩, ?_⟩
      rw [List.length_map]
      exact h4 _ _ H h3 h2.refl (.int _)
    | _ =>
      rw [h] at h3
      exact (show False from h3).elim
theorem atI_map {α β : Type} {f : α → β} {xs : List α} {n : Int} {z : α} (h : atI xs n = some z) : atI (xs.map f) n = some (f z) := by
  unfold atI at h ⊢
  rw [List.length_map]
  cases hn : ixN xs.length n with
  | none =>
    rw [hn] at h
    cases h
  | some j =>
    rw [hn] at h
    show (xs.map f)[j]? = some (f z)
    rw [List.getElem?_map]
    rw [show xs[j]? = some z from h]
    rfl
theorem de_ixS (C : Cxt X W N sc kk) (hx : N[i]? = some x) (hv : Vis sc x) (hb : DB X W b gb cb) (hd : (x == ("__debug__" : Str)) = false := by decide +kernel) (hcd : (x == ("__classdict__" : Str)) = false := by decide +kernel) (hs : PlainIx b := by exact fun _ _ => rfl) : DE X W (.Subscript (.Name x p) b pos) (gIxS i gb) cb :=
  pe_imp (pe_ix ix_list (pe_var (i := i) (by rw [C.hN]; exact hx) (by rw [C.hsc]; exact hv) hd hcd) hb hs) fun σ H Q ⟨k, Δ, K, h1, h2, h3, h4⟩ => by
    unfold gIxS at h3
    cases h : nth Δ i with
    | scr ns =>
      rw [h] at h3
      obtain ⟨a, e, r⟩ := scr_of h2 h
      refine ⟨.ref a, e, k, Δ, _, h1, h2, h3, fun d v H1 q1 c1 r1 => ?_⟩
      cases d with
      | int n =>
        obtain ⟨z, hz, q1⟩ := (show ∃ z, atI ns n = some z ∧ K (.int z) from q1)
        refine ⟨a, _, n, .int z, rfl, RepO.int r1, by rw [← C.hK]; exact (r.map (c1.kpE C.ok)).sq, atI_map hz, h4 _ _ H1 q1 c1 (.int _)⟩
      | _ => exact (show False from q1).elim
    | _ =>
      rw [h] at h3
      exact (show False from h3).elim
theorem cut01 {α : Type} (xs : List α) : cutL xs none (some 1) = xs.take 1 := by
  unfold cutL
  rw [HT.sIx_none, show HT.sIx xs.length xs.length (some 1) = min 1 xs.length from HT.sIx_nat xs.length xs.length 1, List.drop_zero, Nat.sub_zero]
  cases xs with
  | nil => rfl
  | cons x r =>
    rw [show min 1 (x :: r).length = 1 by
      rw [List.length_cons]
      omega]
theorem de_sumS (C : Cxt X W N sc kk) (hg : sc.names.lookup ("sum" : Str) = some .globalImplicit) (hm : X.mg ("sum" : Str) = none) (hx : N[i]? = some x) (hv : Vis sc x) {kz : Nat} (hd : (x == ("__debug__" : Str)) = false := by decide +kernel) (hcd : (x == ("__classdict__" : Str)) = false := by decide +kernel)
    (he : starEach [.Subscript (.Name x p2) (.Slice none (some (.Constant (.int 1) kz p3)) none p4) p5] X.env = (false, eval (.Subscript (.Name x p2) (.Slice none (some (.Constant (.int 1) kz p3)) none p4) p5) X.env) :: starEach [] X.env := by rfl) (hpl : (backTo pos (starEach [] X.env)).any (·.1) = false := by rfl) :
    DE X W (.Call (.Name "sum" p) [.Subscript (.Name x p2) (.Slice none (some (.Constant (.int 1) kz p3)) none p4) p5] [] pos) (gSumS i) 0 :=
  pe_imp (pe_callB (cr_sum C.calm) (C.gl hg) hm PyProof.Rows.boot_sum (pa_cons (pe_slice sl_list (pe_var (i := i) (by rw [C.hN]; exact hx) (by rw [C.hsc]; exact hv) hd hcd) po_none (po_some pe_int)) pa_nil he) (by decide +kernel) (by decide +kernel) he hpl) fun σ H Q ⟨k, Δ, K, h1, h2, h3, h4⟩ => by
    unfold gSumS at h3
    cases h : nth Δ i with
    | scr ns =>
      rw [h] at h3
      obtain ⟨a, e, r⟩ := scr_of h2 h
      refine ⟨.ref a, e, 1, rfl, a, _, rfl, by rw [← C.hK]; exact r.sq, fun q hq => ⟨q, ns.take 1, rfl, .inl (.inl ?_), ?_⟩⟩
      · rw [upd_same]
        show some (HO.lst (cutL (ns.map V.int) none (some 1))) = _
        rw [cut01, List.map_take]
      · exact h4 _ _ _ h3 (h2.refl.laid C h2 hq) (.int _)
    | _ =>
      rw [h] at h3
      exact (show False from h3).elim

/-! ### the pot -/
def PB (j v : Int) : Prop := (j = 0 ∧ 0 ≤ v ∧ v < 10 ^ 300) ∨ (j = 1 ∧ 0 ≤ v ∧ v < 2 ^ 61) ∨ (j = 2 ∧ 0 ≤ v ∧ v ≤ 4194304)
def gPix (i : Nat) (j : Int) : TDE := fun Δ K => match nth Δ i with
  | .pot => (j = 0 ∨ j = 1 ∨ j = 2) ∧ ∀ v, PB j v → K (.int v)
  | _ => False
theorem pot_of (en : En W k σ H Δ) (h : nth Δ i = .pot) : ∃ a, σ[i]? = some (some (.ref a)) ∧ W.P a ∧ PotAt (W.n0 + k) H a := by
  have s := en.sl i
  rw [h] at s
  obtain ⟨a, e, q⟩ := s
  exact ⟨a, e, q, en.fin.pots a q⟩
theorem de_pix (C : Cxt X W N sc kk) {j : Int} {kz : Nat} (hx : N[i]? = some x) (hv : Vis sc x) (hd : (x == ("__debug__" : Str)) = false := by decide +kernel) (hcd : (x == ("__classdict__" : Str)) = false := by decide +kernel) : DE X W (.Subscript (.Name x p) (.Constant (.int j) kz p2) pos) (gPix i j) 0 :=
  pe_imp (pe_ix ix_list (pe_var (i := i) (by rw [C.hN]; exact hx) (by rw [C.hsc]; exact hv) hd hcd) pe_int (fun _ _ => rfl)) fun σ H Q ⟨k, Δ, K, h1, h2, h3, h4⟩ => by
    unfold gPix at h3
    cases h : nth Δ i with
    | pot =>
      rw [h] at h3
      obtain ⟨hj, h3⟩ := h3
      obtain ⟨a, e, q, x1, y1, z1, ea, b1, b2, b3, b4, b5, b6⟩ := pot_of h2 h
      have lim := C.ok.lim
      have zl : z1 ≤ 4194304 := by
        have : LIM = 4194304 := rfl
        omega
      rcases hj with rfl | rfl | rfl
      · exact ⟨.ref a, e, a, _, 0, .int x1, rfl, rfl, .inl (.inl ea), rfl, h4 _ _ H (h3 _ (.inl ⟨rfl, b1, b2⟩)) h2.refl (.int _)⟩
      · exact ⟨.ref a, e, a, _, 1, .int y1, rfl, rfl, .inl (.inl ea), rfl, h4 _ _ H (h3 _ (.inr (.inl ⟨rfl, b3, b4⟩))) h2.refl (.int _)⟩
      · exact ⟨.ref a, e, a, _, 2, .int z1, rfl, rfl, .inl (.inl ea), rfl, h4 _ _ H (h3 _ (.inr (.inr ⟨rfl, b5, zl⟩))) h2.refl (.int _)⟩
    | _ =>
      rw [h] at h3
      exact (show False from h3).elim
/-- a pot changes -/
theorem En.pot (ok : W.Ok) (en : En W k σ H Δ) {a : Addr} {xs : List V} (q : W.P a) (l : k ≤ j) (new : PotAt (W.n0 + j) (upd H a (.lst xs)) a) : En W j σ (upd H a (.lst xs)) Δ ∧ Kp (AA W σ Δ) (AA W σ Δ) H (upd H a (.lst xs)) := by
  have kp : Kp (AA W σ Δ) (AA W σ Δ) H (upd H a (.lst xs)) := fun b o e n => ⟨by rw [upd_ne (show b ≠ a from fun z => n (by rw [z]; exact .inl (ok.sub a q)))]; exact e, n⟩
  refine ⟨⟨en.len, fun i => ?_, en.uniq, ⟨fun b o e n => ?_, fun b p => ?_⟩, fun b h => ?_⟩, kp⟩
  · have s := en.sl i
    revert s
    cases nth Δ i with
    | un => exact fun s => s
    | dat d => exact fun ⟨v, e, r⟩ => ⟨v, e, r.map kp⟩
    | scr ns => exact fun ⟨v, e, r⟩ => ⟨v, e, r.map kp⟩
    | pot => exact fun s => s
    | own ds =>
      rintro ⟨b, ys, e1, e2, e3, e4, e5⟩
      exact ⟨b, ys, e1, by rw [upd_ne (show b ≠ a from fun z => ok.pdom a q (z ▸ e4))]; exact e2, e3.map kp, e4, e5⟩
  · rw [upd_ne (show b ≠ a from fun z => n (by rw [z]; exact q))]
    exact en.fin.since b o e n
  · by_cases z : b = a
    · rw [z]
      exact new
    · obtain ⟨x1, y1, z1, e, r⟩ := (en.fin.pots b p).mono (m := W.n0 + j) (by omega)
      exact ⟨x1, y1, z1, by rw [upd_ne z]; exact e, r⟩
  · by_cases z : b = a
    · rw [z, upd_same]
      simp
    · rw [upd_ne z]
      exact en.dom0 b h
/-- pot[0] = e -/
def gPs0 (i : Nat) (g : TDE) : TDS := fun D Δ => g Δ fun d => match d with
  | .int v => nth Δ i = .pot ∧ 0 ≤ v ∧ v < 10 ^ 300 ∧ D.nx Δ
  | _ => False
theorem ds_ps0 (C : Cxt X W N sc kk) {kz : Nat} (hx : N[i]? = some x) (hv : Vis sc x) (he : DE X W e g c) (hd : (x == ("__debug__" : Str)) = false := by decide +kernel) (hcd : (x == ("__classdict__" : Str)) = false := by decide +kernel)
    (ha : ∀ v, assign (.Subscript (.Name x p) (.Constant (.int 0) kz p2) p3) X.env v = (do
      let ov ← holding [v] (eval (.Name x p) X.env)
      let iv ← holding [v, ov] (eval (.Constant (.int 0) kz p2) X.env)
      standAt p3
      holding [v, ov, iv] (setItem ov iv v)
      release [v, ov, iv] []) := by intro _; rfl)
    (hs : swapsWithSole [.Subscript (.Name x p) (.Constant (.int 0) kz p2) p3] e pos.line X.env = pure false := by rfl) (hw : swappedStores [.Subscript (.Name x p) (.Constant (.int 0) kz p2) p3] e X.env = pure none := by rfl)
    (h1 : (assignEach [.Subscript (.Name x p) (.Constant (.int 0) kz p2) p3] X.env).map (·.2) = [assign (.Subscript (.Name x p) (.Constant (.int 0) kz p2) p3) X.env] := by rfl) :
    DS X W (.Assign [.Subscript (.Name x p) (.Constant (.int 0) kz p2) p3] e pos) (gPs0 i g) c :=
  ps_imp (ps_asg he (pg_sub (pe_var (i := i) (by rw [C.hN]; exact hx) (by rw [C.hsc]; exact hv) hd hcd) pe_int set_list ha) hs hw h1) fun E σ H ⟨k, Δ, D2, h1, h2, h3, h4⟩ => ⟨k, Δ, _, h1, h2, h3, fun d v H1 q1 c1 r1 => by
    cases d with
    | int n =>
      obtain ⟨hp, n0, n1, q⟩ := (show nth Δ i = .pot ∧ 0 ≤ n ∧ n < 10 ^ 300 ∧ D2.nx Δ from q1)
      have e1 := h2.chg C.ok c1
      obtain ⟨a, e, qa, x1, y1, z1, ea, b1, b2, b3, b4, b5, b6⟩ := pot_of e1 hp
      have rv : v = .int n := by
        cases r1
        rfl
      subst rv
      obtain ⟨e2, kp⟩ := e1.pot C.ok (xs := [.int n, .int y1, .int z1]) qa (Nat.le_refl _) ⟨n, y1, z1, upd_same, n0, n1, b3, b4, b5, b6⟩
      exact ⟨.ref a, e, a, _, 0, 0, rfl, rfl, ea, rfl, h4.nx _ _ _ q e2 ((c1.kpE C.ok).trans kp)⟩
    | _ => exact (show False from q1).elim⟩
/-- pot[2] = pot[2] + 1: a draw -/
def gTick (i : Nat) : TDS := fun D Δ => nth Δ i = .pot ∧ D.nx Δ
theorem ds_tick (C : Cxt X W N sc kk) {kz k2 k3 : Nat} {q1 q2 q3 q4 q5 : Pos} (hx : N[i]? = some x) (hv : Vis sc x) (hd : (x == ("__debug__" : Str)) = false := by decide +kernel) (hcd : (x == ("__classdict__" : Str)) = false := by decide +kernel)
    (ha : ∀ v, assign (.Subscript (.Name x p) (.Constant (.int 2) kz p2) p3) X.env v = (do
      let ov ← holding [v] (eval (.Name x p) X.env)
      let iv ← holding [v, ov] (eval (.Constant (.int 2) kz p2) X.env)
      standAt p3
      holding [v, ov, iv] (setItem ov iv v)
      release [v, ov, iv] []) := by intro _; rfl)
    (hs : swapsWithSole [.Subscript (.Name x p) (.Constant (.int 2) kz p2) p3] (.BinOp (.Subscript (.Name x q1) (.Constant (.int 2) k2 q2) q3) .Add (.Constant (.int 1) k3 q4) q5) pos.line X.env = pure false := by rfl) (hw : swappedStores [.Subscript (.Name x p) (.Constant (.int 2) kz p2) p3] (.BinOp (.Subscript (.Name x q1) (.Constant (.int 2) k2 q2) q3) .Add (.Constant (.int 1) k3 q4) q5) X.env = pure none := by rfl)
    (h1 : (assignEach [.Subscript (.Name x p) (.Constant (.int 2) kz p2) p3] X.env).map (·.2) = [assign (.Subscript (.Name x p) (.Constant (.int 2) kz p2) p3) X.env] := by rfl) :
    DS X W (.Assign [.Subscript (.Name x p) (.Constant (.int 2) kz p2) p3] (.BinOp (.Subscript (.Name x q1) (.Constant (.int 2) k2 q2) q3) .Add (.Constant (.int 1) k3 q4) q5) pos) (gTick i) 1 :=
  ps_imp (ps_asg (pe_op op_add (pe_ix ix_list (pe_var (i := i) (by rw [C.hN]; exact hx) (by rw [C.hsc]; exact hv) hd hcd) pe_int (fun _ _ => rfl)) pe_int) (pg_sub (pe_var (i := i) (by rw [C.hN]; exact hx) (by rw [C.hsc]; exact hv) hd hcd) pe_int set_list ha) hs hw h1) fun E σ H ⟨k, Δ, D2, h1, h2, ⟨hp, q⟩, h4⟩ => by
    obtain ⟨a, e, qa, x1, y1, z1, ea, b1, b2, b3, b4, b5, b6⟩ := pot_of h2 hp
    obtain ⟨e2, kp⟩ := h2.pot C.ok (j := k + 1) (xs := [.int x1, .int y1, .int (z1 + 1)]) qa (by omega) ⟨x1, y1, z1 + 1, upd_same, b1, b2, b3, b4, by omega, by omega⟩
    exact ⟨.ref a, e, a, _, 2, .int z1, rfl, rfl, .inl (.inl ea), rfl, z1, 1, rfl, rfl, .ref a, e, a, _, 2, 2, rfl, rfl, ea, rfl, h4.nx _ _ _ q e2 kp⟩
end
end DL
/-! DLEnd: a new pot for the statements behind; the law's own call. -/
namespace DL
open PySem PySem.Spec PyProof.Rows L2
def plainSv : Sv → Bool
  | .pot => false
  | .own _ => false
  | _ => true
def washS : Sv → Sv
  | .pot => .un
  | .own _ => .un
  | s => s
def wash (Δ : DEnv) : DEnv := Δ.map washS
theorem nth_wash : ∀ (Δ : DEnv) (i : Nat), nth (wash Δ) i = washS (nth Δ i)
  | [], _ => rfl
  | _ :: _, 0 => rfl
  | _ :: r, i + 1 => nth_wash r i
theorem nth_plain : ∀ {Δ : DEnv} (i : Nat), Δ.all plainSv = true → plainSv (nth Δ i) = true
  | [], _, _ => rfl
  | s :: r, 0, h => by
    rw [List.all_cons, Bool.and_eq_true] at h
    exact h.1
  | s :: r, i + 1, h => by
    rw [List.all_cons, Bool.and_eq_true] at h
    exact nth_plain (Δ := r) i h.2
section
variable {X : Cx} {W : Wd} {N : List Str} {sc : Scope} {kk : Nat} {c : Nat} {pos p p2 p3 p4 p5 : Pos} {k j : Nat} {σ : St} {Δ : DEnv} {H H' H1 : Hp}
theorem no_own_wash {a : Addr} (h : OwnA σ (wash Δ) a) : False := by
  obtain ⟨i, ds, h1, _⟩ := h
  rw [nth_wash] at h1
  cases e : nth Δ i <;> rw [e] at h1 <;> cases h1
theorem no_own_plain (hp : Δ.all plainSv = true) {a : Addr} (h : OwnA σ Δ a) : False := by
  obtain ⟨i, ds, h1, _⟩ := h
  have := nth_plain i hp
  rw [h1] at this
  cases this
/-- the world behind a new pot at q -/
abbrev Wd.potAt (W : Wd) (σ : St) (Δ : DEnv) (q : Addr) (H1 : Hp) (c : Nat) : Wd := { K := W.K, A0 := fun b => AA W σ Δ b ∨ b = q, P := fun b => b = q, H0 := H1, n0 := 0, c0 := c, E := W.E }
theorem fin_back {q : Addr} {jj : Nat} (en : En W k σ H Δ) (hq : H q = none) (hx : ∀ b o, H b = some o → H1 b = some o) (f : Fin (W.potAt σ Δ q H1 c) jj H') : Fin W k H' := by
  have st : ∀ b o, H b = some o → H' b = some o := fun b o e => f.since b o (hx b o e) fun z => by
    rw [show b = q from z, hq] at e
    cases e
  exact ⟨fun b o e n => st b o (en.fin.since b o e n), fun b p => by
    obtain ⟨x, y, z, e, r⟩ := en.fin.pots b p
    exact ⟨x, y, z, st b _ e, r⟩⟩
theorem en_back {q : Addr} {jj : Nat} {σ' : St} {Δ' : DEnv} (en : En W k σ H Δ) (hq : H q = none) (hx : ∀ b o, H b = some o → H1 b = some o) (f : En (W.potAt σ Δ q H1 c) jj σ' H' Δ') : En W k σ' H' (wash Δ') := by
  have less : ∀ a, AA W σ' (wash Δ') a → AA (W.potAt σ Δ q H1 c) σ' Δ' a := fun a h => h.elim (fun h => .inl (.inl (.inl h))) fun h => (no_own_wash h).elim
  refine ⟨by unfold wash; rw [List.length_map]; exact f.len, fun i => ?_, fun i j ds es a h1 => ?_, fin_back en hq hx f.fin, fun a h => f.dom0 a (.inl (.inl h))⟩
  · have s := f.sl i
    rw [nth_wash]
    revert s
    cases nth Δ' i with
    | un => exact fun _ => trivial
    | dat d => exact fun ⟨v, e, r⟩ => ⟨v, e, r.map (Kp.less less)⟩
    | scr ns => exact fun ⟨v, e, r⟩ => ⟨v, e, r.map (Kp.less less)⟩
    | pot => exact fun _ => trivial
    | own ds => exact fun _ => trivial
  · rw [nth_wash] at h1
    cases e : nth Δ' i <;> rw [e] at h1 <;> cases h1
variable {E : Value → D → Prop} {x y z w : Str} {i l m : Nat} {f : Addr} {fd : FuncData} {ps : List Str} {F : FSp} {kF : Nat} {rest : List Stmt} {g : TDS}
def NoE : Value → D → Prop := fun _ _ => False
def gPot (F : FSp) (i l m : Nat) (g : TDS) : TDS := fun D Δ => Δ.all plainSv = true ∧ i < Δ.length ∧ match nth Δ l, nth Δ m with
  | .scr ns, .dat (.int n) => F [.scr ns, .dat (.int n)] (fun d => ∃ x y : Int, d = .list [.int x, .int y, .int 0] ∧ 0 ≤ x ∧ x < 10 ^ 300 ∧ 0 ≤ y ∧ y < 2 ^ 61 ∧
      g { nx := fun Δ' => D.nx (wash Δ'), rt := D.rt, bk := fun Δ' => D.bk (wash Δ'), ct := fun Δ' => D.ct (wash Δ') } (Δ.set i .pot)) NoE
  | _, _ => False
theorem dss_pot (C : Cxt X W N sc kk) (hE : W.E = E) (hF : FnD X.prog X.w X.K X.mg X.base kF f fd ps F 0) (hk : kF ≤ kk) (hg : sc.names.lookup w = some .globalImplicit) (hm : X.mg w = some (.ref f)) (hkp : PySem.W.keepIn X.K (.ref f) = true) (hb : BindG X.K fd ps 2 [] []) (hps : ps.length = 2)
    (hx : N[i]? = some x) (hlx : Loc sc x) (hfx : X.fn x = true ∨ sc.names.lookup x = some .local) (hy : N[l]? = some y) (hvy : Vis sc y) (hz : N[m]? = some z) (hvz : Vis sc z) (hc : c ≤ LIM) (hr : ∀ W' : Wd, W'.E = E → Cxt X W' N sc kk → DSs X W' rest g c)
    (hdb : (w == ("__debug__" : Str)) = false := by decide +kernel) (hdy : (y == ("__debug__" : Str)) = false := by decide +kernel) (hcy : (y == ("__classdict__" : Str)) = false := by decide +kernel) (hdz : (z == ("__debug__" : Str)) = false := by decide +kernel) (hcz : (z == ("__classdict__" : Str)) = false := by decide +kernel)
    (he1 : starEach [.Name y p3, .Name z p4] X.env = (false, eval (.Name y p3) X.env) :: starEach [.Name z p4] X.env := by rfl) (he2 : starEach [.Name z p4] X.env = (false, eval (.Name z p4) X.env) :: starEach [] X.env := by rfl) (hpl : (backTo p5 (starEach [.Name z p4] X.env)).any (·.1) = false := by rfl)
    (hs : swapsWith (.Call (.Name w p2) [.Name y p3, .Name z p4] [] p5) (some (.Name x p)) pos.line X.env = pure false := by rfl) :
    DSs X W (.Assign [.Name x p] (.Call (.Name w p2) [.Name y p3, .Name z p4] [] p5) pos :: rest) (gPot F i l m g) 0 := by
  subst hE
  have hrest : PSs X rest (fun D σ H => ∃ W' : Wd, W'.E = W.E ∧ Cxt X W' N sc kk ∧ liftS W' g c D σ H) := ⟨fun pins s σ H Q I ⟨W', h1, h2, h3⟩ => (hr W' h1 h2).run pins s σ H Q I h3⟩
  refine pss_imp (pss_cons (ps_set (i := i) (by rw [C.hN]; exact C.nd) (by rw [C.hN]; exact hx) (by rw [C.hsc]; exact hlx) (pe_g (E := EkOf W) hF (C.hr.mono hk) C.gd (C.gl hg) hm hkp hb .nil C.px (pa_cons (pe_var (i := l) (by rw [C.hN]; exact hy) (by rw [C.hsc]; exact hvy) hdy hcy) (pa_cons (pe_var (i := m) (by rw [C.hN]; exact hz) (by rw [C.hsc]; exact hvz) hdz hcz) pa_nil he2) he1) hdb he1 hpl) hs (by rw [C.hsc]; exact hfx)) hrest) ?_
  rintro E σ H ⟨k, Δ, D2, h1, h2, h3, h4⟩
  obtain ⟨hpl, hi, h3⟩ := h3
  have s1 := h2.sl l
  have s2 := h2.sl m
  revert h3 s1 s2
  cases e1 : nth Δ l with
  | scr ns =>
    cases e2 : nth Δ m with
    | dat d =>
      cases d with
      | int n =>
        rintro h3 ⟨a, q1, r1⟩ ⟨v, q2, r2⟩
        cases r2
        refine ⟨.ref a, q1, .int n, q2, rfl, ?_⟩
        -- the callee's world
        have notfrz : ∀ {A : Addr → Prop}, ScrAt W.K A H a ns → ScrAt X.K (fun b => H b ≠ none ∧ ¬ ∃ o xs, H b = some (.frz o (.lst xs))) H a ns := by
          rintro A (⟨o, e, n⟩ | r)
          · exact .inl ⟨o, e, fun z => z.2 ⟨o, _, e⟩⟩
          · exact .inr (C.hK ▸ r)
        refine ⟨{ K := X.K, A0 := fun b => H b ≠ none ∧ ¬ ∃ o xs, H b = some (.frz o (.lst xs)), P := fun _ => False, H0 := H, n0 := 0, c0 := 0, E := NoE }, [.scr ns, .dat (.int n)], _, ⟨rfl, rfl, rfl, ⟨fun _ z => z.elim, fun _ z => z.elim, Nat.zero_le _⟩, fun _ h => h.1, fun _ z => z.elim⟩, .scr (notfrz r1) (.dat (.int n) .nil), by rw [hps]; rfl, h3, ?_, ?_⟩
        · rintro d v H1 ⟨x1, y1, rfl, b1, b2, b3, b4, hg⟩ fin rr
          cases rr with
          | @lst q xs ds eq nq zq rq =>
            cases rq with
            | cons t1 rq =>
            cases rq with
            | cons t2 rq =>
            cases rq with
            | cons t3 rq =>
            cases rq
            cases t1
            cases t2
            cases t3
            have hx : ∀ b o, H b = some o → H1 b = some o := fun b o e => fin.since b o e id
            have hq : H q = none := by
              cases e : H q with
              | none => rfl
              | some o =>
                exfalso
                refine nq ⟨by rw [e]; simp, fun ⟨ob, xs, z⟩ => ?_⟩
                have := hx q _ z
                rw [eq] at this
                cases this
            have nAq : ¬ AA W σ Δ q := h2.notA hq
            have lim : LIM = 4194304 := rfl
            refine ⟨W.potAt σ Δ q H1 c, rfl, ⟨C.hN, C.hsc, C.nd, C.hr, C.gd, C.calm, C.hK, ⟨fun b p => ?_, fun b p => .inr p, by show 0 + c ≤ LIM; omega⟩, C.tk.imp fun cls d σ2 H2 h => ?_, C.po⟩, 0, Δ.set i .pot, _, by show 0 + c ≤ c; omega, ?_, hg, ?_⟩
            · rw [show b = q from p]
              show H1 q ≠ none
              rw [eq]
              simp
            · obtain ⟨dd, v, d', rfl, u1, u2, u3, u4, u5⟩ := h
              have f0 := fin_back h2 hq hx u2
              refine ⟨dd, v, d', rfl, u1, f0.mono (by omega), u3, ?_, u5.map (Kp.less fun b z => .inl (.inl z))⟩
              cases e : H dd with
              | none => exact h2.fin.free e
              | some o =>
                have u4' : H1 dd = none := u4
                rw [hx dd o e] at u4'
                cases u4'
            · have kp : Kp (AA W σ Δ) (fun b => AA W σ Δ b ∨ b = q) H H1 := fun b o e n => ⟨hx b o e, fun z => z.elim n fun z => by rw [z, hq] at e; cases e⟩
              have same : ∀ a, AA (W.potAt σ Δ q H1 c) (σ.set i (some (.ref q))) (Δ.set i .pot) a → AA W σ Δ a ∨ a = q := fun a h => h.elim id fun h => (no_own_plain hpl (ownA_set (fun _ z => by cases z) h)).elim
              refine ⟨by rw [List.length_set, List.length_set]; exact h2.len, fun t => ?_, fun t1 t2 ds es a g1 => ?_, ⟨fun b o e _ => e, fun b p => ?_⟩, fun b p => ?_⟩
              · by_cases z : t = i
                · subst z
                  rw [nth_set_self hi]
                  exact ⟨q, List.getElem?_set_self (by rw [← h2.len]; exact hi), rfl⟩
                · rw [nth_set_ne z]
                  refine slot_set z (SlotOk.mono same ?_)
                  have s := h2.sl t
                  have pl := nth_plain t hpl
                  revert s pl
                  cases nth Δ t with
                  | un => exact fun _ _ => trivial
                  | dat d => exact fun ⟨v, e, r⟩ _ => ⟨v, e, r.map kp⟩
                  | scr ns => exact fun ⟨v, e, r⟩ _ => ⟨v, e, r.map kp⟩
                  | pot => exact fun _ pl => by cases pl
                  | own ds => exact fun _ pl => by cases pl
              · by_cases z : t1 = i
                · rw [z, nth_set_self hi] at g1
                  cases g1
                · rw [nth_set_ne z] at g1
                  have pl := nth_plain t1 hpl
                  rw [g1] at pl
                  cases pl
              · rw [show b = q from p]
                exact ⟨x1, y1, 0, eq, b1, b2, b3, b4, Int.le_refl 0, Int.le_refl 0⟩
              · rcases p with p | p
                · cases e : H b with
                  | none => exact absurd p (h2.notA e)
                  | some o =>
                    rw [hx b o e]
                    simp
                · rw [show b = q from p, eq]
                  simp
            · have kpe : ∀ {σ' : St} {Δ' : DEnv} {H' : Hp}, Kp (AA (W.potAt σ Δ q H1 c) (σ.set i (some (.ref q))) (Δ.set i .pot)) (AA (W.potAt σ Δ q H1 c) σ' Δ') H1 H' → Kp (AA W σ Δ) (AA W σ' (wash Δ')) H H' := fun {σ' Δ' H'} kp b o e n => by
                obtain ⟨g1, g2⟩ := kp b o (hx b o e) fun z => z.elim (fun z => z.elim n fun z => by rw [z, hq] at e; cases e) fun z => (no_own_plain hpl (ownA_set (fun _ z => by cases z) z)).elim
                exact ⟨g1, fun z => z.elim (fun z => g2 (.inl (.inl (.inl z)))) fun z => no_own_wash z⟩
              exact ⟨fun Δ' σ' H' q1 e kp => h4.nx _ _ _ q1 ((en_back h2 hq hx e).mono (by omega)) (kpe kp), fun d v H' q1 fin rr => h4.rt d v H' q1 ((fin_back h2 hq hx fin).mono (by omega)) (rr.map (Kp.less fun b z => .inl (.inl z))),
                fun Δ' σ' H' q1 e kp => h4.bk _ _ _ q1 ((en_back h2 hq hx e).mono (by omega)) (kpe kp), fun Δ' σ' H' q1 e kp => h4.ct _ _ _ q1 ((en_back h2 hq hx e).mono (by omega)) (kpe kp)⟩
        · intro cls dd v d H1 hE fin hdd hn rr
          exact (show False from hE).elim
      | _ => exact fun z => z.elim
    | _ => exact fun z => z.elim
  | _ => exact fun z => z.elim
end
/-! ### the law's own call -/
theorem call_lawG {P : Program} {w : World} {K : PySem.W.Frag} {mg mb : Str → Option Value} {k : Nat} {g a : Addr} {fd : FuncData} {x : Str} {sp : Sp} {s₁ : Shared} {us : List Value} {ns : List Int}
    (kin : K.In s₁.heap) (hmain : s₁.heap.Ns mainGlobals mg) (hbuilt : s₁.heap.Ns builtinsNs mb) (hboot : ∀ y : Str, y ≠ "__name__" → mb y = bootBuiltins y) (hnl : s₁.heap.NoLimit) (hgens : s₁.gens = #[])
    (hobj : s₁.heap.get? a = some { cls := .type "list", data := .seq us.toArray }) (hint : IntsAre us ns) (hlen : ns.length ≤ sizeLine) (room : Room k callerA) (hgd : callerA.guards = some [])
    (hF : ∀ base : Heap, K.In base → base.Ns mainGlobals mg → FnG P w K mg base k g fd [x] sp) (hbind : ∀ (s : Shared) (u : Value), BindsTo s fd ⟨[u], []⟩ [(x, u)])
    (hsp : ∀ (H : Hp) (A : Addr → Prop), (∀ b, ¬ A b) → ScrAt K A H a ns → sp [.ref a] H (fun v _ => v = .bl true) fun _ _ _ => False) :
    codeAny (model P w) callerA (.call (.ref g) ⟨[.ref a], []⟩) (fun r s' => r = .ok (.ret (.bool true)) ∧ OldK s₁.heap s'.heap ∧ s'.os = s₁.os ∧ AllBare s'.gens) s₁ := by
  have vals := vals_ints hint
  have sameLen := hint.length
  have main : ∀ H : Hp, (∀ b, H b = none ∨ (b = a ∧ K.lookup a = none ∧ H b = some (.frz { cls := .type "list", data := .seq us.toArray } (.lst (ns.map V.int))))) → ScrAt K (fun _ => False) H a ns → HOk P w H s₁.heap →
      codeAny (model P w) callerA (.call (.ref g) ⟨[.ref a], []⟩) (fun r s' => r = .ok (.ret (.bool true)) ∧ OldK s₁.heap s'.heap ∧ s'.os = s₁.os ∧ AllBare s'.gens) s₁ := by
    intro H only scr hok
    have there : ∀ {b : Addr} {o : Obj}, s₁.heap.get? b = some o → H b = none → (hidT s₁.heap H).get? b = some o := fun q z => hidT_get q z
    have dictFree : ∀ {b : Addr} {o : Obj} {es : Array DictEntry} {n : Nat}, s₁.heap.get? b = some o → o.data = .dict es n → H b = none := fun {b o es n} q d => by
      rcases only b with z | ⟨rfl, _, _⟩
      · exact z
      · rw [hobj] at q
        cases q
        have d2 : Data.seq us.toArray _ = Data.dict es n := d
        cases d2
    have space : ∀ {b : Addr} {m : Str → Option Value}, s₁.heap.Ns b m → (hidT s₁.heap H).Ns b m := fun {b m} ⟨o, es, n, q, d, rest⟩ => ⟨o, es, n, there q (dictFree q d), d, rest⟩
    have kinB : K.In (hidT s₁.heap H) := fun b o q => there (kin b o q) (by
      rcases only b with z | ⟨rfl, z, _⟩
      · exact z
      · rw [z] at q
        cases q)
    obtain ⟨mc, lim1, lim2⟩ := hnl
    have mod : Mod K mg (hidT s₁.heap H) := ⟨kinB, space hmain, ⟨mb, space hbuilt, hboot⟩, ⟨mc, space lim1, lim2⟩⟩
    have env : Env0 P w K mg (hidT s₁.heap H) callerA [] s₁ H := ⟨rfl, mod, fun b o q => of_hidT q, Nat.le_of_eq (hidT_size _ _), trivial, fun b z => absurd (show b ∈ ([] : List Addr) from z) (by simp), hok, .of_eq hgens⟩
    refine codeAny_mono ((hF _ kinB (space hmain)).run callerA [] s₁ H ⟨[.ref a], []⟩ [.ref a] [.ref a] _ _ hgd room env (hbind s₁ (.ref a)) (.cons rfl .nil) (hsp H _ (fun _ z => z) scr)) fun r s' h => ?_
    cases r with
    | error e =>
      obtain ⟨_, _, _, _, _, _, _, _, _, _, _, _, z⟩ := h
      exact z.elim
    | ok fl =>
      cases fl with
      | ret u =>
        obtain ⟨v, H2, os, bare, un, hok2, rel, q⟩ := h
        obtain rfl : v = V.bl true := q
        obtain rfl : u = Value.bool true := rel
        refine ⟨rfl, OldK.of_keep fun b o q => ?_, os, bare⟩
        rcases only b with z | ⟨rfl, _, z⟩
        · exact un.keep b o q z (by intro y; exact absurd (show b ∈ ([] : List Addr) from y) (by simp)) (by simp)
        · obtain ⟨g1, _⟩ := hok b _ z
          obtain ⟨g2, _⟩ := hok2 b _ (un.frzs b _ _ z)
          rw [q] at g1
          cases g1
          exact g2
      | next => exact (show False from h).elim
      | brk => exact (show False from h).elim
      | cont => exact (show False from h).elim
  cases hk : K.lookup a with
  | some o =>
    have q := kin a o hk
    rw [hobj] at q
    cases q
    exact main (fun _ => none) (fun _ => .inl rfl) (.inr (.inr ⟨_, us.toArray, _, hk, rfl, rfl, rfl, by rw [List.size_toArray, sameLen]; exact hlen, by simpa using vals⟩)) fun b u z => by cases (show (none : Option HO) = some u from z)
  | none =>
    have at_a : (if a = a then some (HO.frz { cls := .type "list", data := .seq us.toArray } (.lst (ns.map V.int))) else none) = some (HO.frz { cls := .type "list", data := .seq us.toArray } (.lst (ns.map V.int))) := if_pos rfl
    refine main (fun b => if b = a then some (.frz { cls := .type "list", data := .seq us.toArray } (.lst (ns.map V.int))) else none) (fun b => ?_) (.inl ⟨_, at_a, id⟩) fun b u z => ?_
    · by_cases e : b = a
      · exact .inr ⟨e, hk, if_pos e⟩
      · exact .inl (if_neg e)
    · by_cases e : b = a
      · have z2 := (if_pos e).symm.trans z
        cases z2
        subst e
        exact ⟨hobj, by rw [List.length_map]; exact hlen, us, _, vals, hobj⟩
      · cases (if_neg e).symm.trans z
/-- the goal that k_head leaves, from the law's promise over data -/
theorem walk_ofG {l : PySem.W.OpenLaw} {n k c : Nat} {q : Program} {loose : List Str} {XP : (Str → Option Value) → Heap → Prop} {YP : World → Heap → Prop} {d : DefRec} {K : Params → PySem.W.Frag} {F : FSp} {x : Str}
    (hmost : l.most = some n) (hsmall : n ≤ sizeLine) (hdf : d.params.defaults = []) (room : Room k callerA) (hgd : callerA.guards = some []) (hc : c ≤ LIM)
    (hK : ∀ (w : World) (h : Heap), YP w h → (K w.params).In h)
    (hF : ∀ (w : World) (mg : Str → Option Value) (fa : Addr) (h : Heap), (K w.params).In h → h.Ns mainGlobals mg → mg d.name = some (.ref fa) →
      ∃ fd : FuncData, (∀ (s : Shared) (u : Value), BindsTo s fd ⟨[u], []⟩ [(x, u)]) ∧ ∀ base : Heap, (K w.params).In base → base.Ns mainGlobals mg → FnD l.prog w (K w.params) mg base k fa fd [x] F c)
    (hlaw : ∀ (ns : List Int) (Kd : D → Prop), ns.length ≤ n → (∀ z ∈ ns, Builtin.Int.intBits z ≤ 1048576) → Kd (.bool true) → F [.scr ns] Kd NoE) :
    PySem.W.WalkO q loose XP YP l.row.toRowW d [] (fun f vs => PySem.call f vs) := by
  refine Att.attach_callB hmost hdf fun w s₀ s₁ mg mb fa o pm cd doc a us ns G Y ho hd hcd hmg hobj hint hlen hbits hgens => ?_
  have kin := hK w _ Y
  obtain ⟨fd, hbind, hfn⟩ := hF w mg fa _ kin G.T.g hmg
  refine call_lawG kin G.T.g G.T.b G.T.builtins G.T.nolimit hgens hobj hint (Nat.le_trans hlen hsmall) room hgd hfn hbind fun H A nA scr => ?_
  refine ⟨{ K := K w.params, A0 := A, P := fun _ => False, H0 := H, n0 := 0, c0 := c, E := NoE }, [.scr ns], fun d => d = .bool true, ⟨rfl, rfl, rfl, ⟨fun _ z => z.elim, fun _ z => z.elim, by show 0 + c ≤ LIM; omega⟩, fun b z => (nA b z).elim, fun _ z => z.elim⟩, .scr scr .nil, rfl, hlaw ns _ hlen hbits rfl, ?_, ?_⟩
  · rintro d v H' rfl fin r
    cases r
    rfl
  · intro cls dd v d H' z
    exact (show False from z).elim
theorem guards_caller : callerA.guards = some [] := rfl
end DL
/-! DLMore: dict displays, defaults, a def by its body with room for its draws. -/
namespace DL
open PySem PySem.Spec PyProof.Rows L2
theorem vis_by {sc : Scope} {x : Str} (h : (match sc.names.lookup x with | some .local => true | some .cell => true | some .free => true | _ => false) = true) : Vis sc x := by
  unfold Vis
  revert h
  cases sc.names.lookup x with
  | none => exact fun h => by cases h
  | some k => cases k <;> first | exact fun _ => .inl rfl | exact fun _ => .inr (.inl rfl) | exact fun _ => .inr (.inr rfl) | exact fun h => by cases h
theorem loc_by {sc : Scope} {x : Str} (h : (match sc.names.lookup x with | some .local => true | some .cell => true | _ => false) = true) : L2.Loc sc x := by
  unfold L2.Loc
  revert h
  cases sc.names.lookup x with
  | none => exact fun h => by cases h
  | some k => cases k <;> first | exact fun _ => .inl rfl | exact fun _ => .inr rfl | exact fun h => by cases h
section
variable {X : Cx} {W : Wd} {N : List Str} {sc : Scope} {kk : Nat} {e : Expr} {c ca cb : Nat} {g : TDE} {pos p p2 : Pos} {k j : Nat} {σ : St} {Δ : DEnv} {H H' : Hp}
theorem DSs.le {s : List Stmt} {g : TDS} (h : DSs X W s g cb) (l : cb ≤ c) : DSs X W s g c := pss_imp h fun E σ H ⟨k, Δ, D2, h1, h2, h3, h4⟩ => ⟨k, Δ, D2, by omega, h2, h3, h4.le (by omega)⟩
/-- the same context where the object at L changes, too, and nothing is raised -/
theorem Cxt.inn (C : Cxt X W N sc kk) (L : Addr) : Cxt X (W.blk L) N sc kk := ⟨C.hN, C.hsc, C.nd, C.hr, C.gd, C.calm, C.hK, ⟨C.ok.pdom, fun b p => .inl (C.ok.sub b p), C.ok.lim⟩, C.tk.imp fun cls d _ H h => by
  obtain ⟨_, _, _, _, z, _⟩ := h
  exact z.elim, C.po⟩
def gDic0 : TDE := fun _ K => K (.dict [])
theorem de_dic0 (C : Cxt X W N sc kk) : DE X W (.Dict [] [] pos) gDic0 0 := pe_imp pe_dnewK fun σ H Q ⟨k, Δ, K, h1, h2, h3, h4⟩ => fun q hq => h4 _ _ _ h3 (h2.refl.laid C h2 hq) (.dic upd_same (h2.notA hq) .nil)
def gDic1 (x : Str) (g : TDE) : TDE := fun Δ K => g Δ fun d => K (.dict [(.str x, d)])
theorem de_dic1 (C : Cxt X W N sc kk) {x : Str} {j : Nat} (he : ∀ L, Cxt X (W.blk L) N sc kk → DE X (W.blk L) e g c) : DE X W (.Dict [some (.Constant (.str x) j p)] [e] pos) (gDic1 x g) c :=
  pe_imp (pe_disp (pps_cons pe_str (pe_ex fun L => he L (C.inn L)) pps_nil) rfl rfl (by simp) (by simp)) fun σ H Q ⟨k, Δ, K, h1, h2, h3, h4⟩ => fun q hq => by
    obtain ⟨en, kp⟩ := h2.blk (vs := []) C.ok hq (Fin.laid h2.fin (o := .dK []) hq) (by rw [upd_same]; simp) (fun i z => by cases z)
    refine ⟨q, k, Δ, _, h1, en, h3, fun d v H2 q2 c2 r2 => ?_⟩
    have nP : ¬ W.P q := fun z => C.ok.pdom q z (h2.fin.free hq)
    have e2 : H2 q = some (.dK []) := c2.keep q _ upd_same nP
    refine ⟨e2, [(.inr x, v)], rfl, by simp, ?_⟩
    have c3 : Chg W (k + c) H H2 := ((Fin.laid h2.fin (o := .dK []) hq).mono (Nat.le_add_right k c)).trans c2.ofBlk
    have c4 : Chg W (k + c) H (upd H2 q (.dK (mergeK [] [(.inr x, v)]))) := by
      refine ⟨fun b o z n => ?_, fun b z => ?_⟩
      · rw [upd_ne (ne_of_none z hq)]
        exact c3.keep b o z n
      · obtain ⟨x1, y1, z1, g1, r⟩ := c3.pots b z
        exact ⟨x1, y1, z1, by rw [upd_ne (show b ≠ q from fun w => nP (by rw [← w]; exact z))]; exact g1, r⟩
    refine h4 _ _ _ q2 c4 (.dic (kvs := [(.inr x, v)]) (upd_same) (h2.notA hq) (.cons ?_ .nil))
    refine r2.map fun b o z n => ⟨?_, fun w => n (w.elim (fun w => .inl (.inl w)) fun w => .inr w)⟩
    rw [upd_ne (show b ≠ q from fun w => n (.inl (.inr w)))]
    exact z
end
section
variable {K : PySem.W.Frag} {fd : FuncData} {ps ks : List Str} {n : Nat} {ds : List Value}
theorem BindG.dfl {T : Addr} {o : Obj} {its : Array Value} {m : Nat} (lT : K.lookup T = some o) (oT : o.data = .seq its m)
    (h : ∀ us ws : List Value, us.length = n → ws.length = ks.length → ∃ k, bindArgs fd ⟨us, ks.zip ws⟩ = seqItems? (.ref T) >>= k ∧ k (some its) = pure (ps.zip (us ++ (ws ++ ds)))) : BindG K fd ps n ks ds := fun s us ws X h1 h2 => by
  obtain ⟨k, e1, e2⟩ := h us ws h1 h2
  refine L2.BindsTo.of_looks fun M => ?_
  rw [e1]
  exact looks_items X lT oT (.of_pure e2)
end
section
variable {P : Program} {w : World} {K : PySem.W.Frag} {mg : Str → Option Value} {base : Heap} {k c : Nat} {f : Addr} {ps N : List Str} {F : FSp} {scope : Scope} {body : List Stmt} {qual name : Str} {params : Arguments} {dV kV doc pm cdv ct oc : Value} {an od : Option Addr} {osl : Array (Option Value)}
/-- what a body reads, as a promise -/
def specOf (n : Nat) (N : List Str) (g : (Value → D → Prop) → TDS) : FSp := fun as Kd E => as.length = n ∧ g E { nx := fun _ => Kd .none, rt := Kd } (startD N as)
theorem fnd_by (lk : K.lookup f = some ⟨oc, od, .func (PySem.W.fnOf name qual params body scope dV kV doc pm an cdv ct), osl⟩) (hcd : PySem.W.codeIn K cdv qual = true) (S : FnScope N ps scope) {g : (Value → D → Prop) → TDS} (hpn : ps.length ≤ N.length)
    (hbody : ∀ (X : Cx) (W : Wd) (E : Value → D → Prop), W.E = E → X.prog = P → X.w = w → X.K = K → X.mg = mg → X.base = base → (∀ x, X.fn x = true) → Cxt X W N scope k → ∃ cb, cb ≤ c ∧ DSs X W body (g E) cb) :
    FnD P w K mg base (k + 1) f (PySem.W.fnOf name qual params body scope dV kV doc pm an cdv ct) ps (specOf ps.length N g) c :=
  fnd_of lk hcd S (cb := c) (Nat.le_refl c) hpn (fun X W E e1 e2 e3 e4 e5 e6 hf C => by
    obtain ⟨cb, l, h⟩ := hbody X W E e1 e2 e3 e4 e5 e6 hf C
    exact h.le l) fun as Kd E hl h => h.2
end
/-! ### constants of the module -/
theorem KRep.non {K : PySem.W.Frag} : KRep K .none .none := ⟨.non, rfl, fun _ _ => .non⟩
theorem KRep.bl {K : PySem.W.Frag} {b : Bool} : KRep K (.bool b) (.bool b) := ⟨.bl b, rfl, fun _ _ => .bl b⟩
inductive KReps (K : PySem.W.Frag) : List Value → List D → Prop
  | nil : KReps K [] []
  | cons {u : Value} {us : List Value} {d : D} {ds : List D} : KRep K u d → KReps K us ds → KReps K (u :: us) (d :: ds)
theorem KReps.vals {K : PySem.W.Frag} : ∀ {us : List Value} {ds : List D}, KReps K us ds → ∃ vs, Vals vs us ∧ ∀ A H, RepAll K A H vs ds
  | _, _, .nil => ⟨[], .nil, fun _ _ => .nil⟩
  | _, _, .cons ⟨v, r1, r2⟩ t => by
    obtain ⟨vs, h1, h2⟩ := t.vals
    exact ⟨v :: vs, .cons r1 h1, fun A H => .cons (r2 A H) (h2 A H)⟩
theorem KReps.len {K : PySem.W.Frag} : ∀ {us : List Value} {ds : List D}, KReps K us ds → us.length = ds.length
  | _, _, .nil => rfl
  | _, _, .cons _ t => congrArg (· + 1) t.len
theorem KRep.tup {K : PySem.W.Frag} {a : Addr} {od : Option Addr} {its : Array Value} {n : Nat} {sl : Array (Option Value)} {ds : List D} (l : K.lookup a = some ⟨.type "tuple", od, .seq its n, sl⟩) (hz : ds.length ≤ sizeLine) (r : KReps K its.toList ds) : KRep K (.ref a) (.tuple ds) := by
  obtain ⟨vs, h1, h2⟩ := r.vals
  have e := r.len
  rw [Array.length_toList] at e
  exact ⟨.ref a, rfl, fun A H => .tup (.inr (.inr ⟨_, its, n, l, rfl, rfl, by rw [e]; exact hz, h1⟩)) hz (h2 A H)⟩
/-! ### a block of a comprehension; stores from the right -/
section
variable {X : Cx} {W : Wd} {N : List Str} {sc : Scope} {kk : Nat} {scope : Scope}
theorem blk_use (C : Cxt X W N sc kk) {Φ : Cx → Wd → Prop} (h : ∀ (L : Addr) (s : Shared) (H : Hp) (C' : Addr) (cl : List (Str × Addr)) (fp : List Addr), Cxt (X.blk s H scope (compEnvC scope cl C' X.env) fp) (W.blk L) N (relS scope sc) kk → Φ (X.blk s H scope (compEnvC scope cl C' X.env) fp) (W.blk L)) : Blk X W scope Φ :=
  fun L s H C' cl fp => h L s H C' cl fp (C.blk L s H scope cl C' fp)
theorem swp2 (C : Cxt X W N sc kk) {x y : Str} {px py pt pt2 : Pos} {kt k2 : Nat} {a b : Expr} (hk : sc.kind = .function) (lx : sc.names.lookup x = some .local) (ly : sc.names.lookup y = some .local) (hxy : (x == y) = false) (hl : (py.line == px.line) = true)
    (ha : ∀ v p, a ≠ .Starred v p) (hb : ∀ v p, b ≠ .Starred v p) (h2 : [a, b].all (foldedForSure 8) = false) (h3 : [a, b].all (constantsAlone 8) = false) :
    swappedStores [.Tuple [.Name x px, .Name y py] kt pt] (.Tuple [a, b] k2 pt2) X.env = pure (some [x, y]) := by
  have kx : X.env.kindOf x = some .local := by
    show X.env.scope.names.lookup x = _
    rw [C.hsc]
    exact lx
  have ky : X.env.kindOf y = some .local := by
    show X.env.scope.names.lookup y = _
    rw [C.hsc]
    exact ly
  have kb : (X.env.blockKind != .function) = false := by
    have e : X.env.scope.kind = .function := by rw [C.hsc, hk]
    unfold Env.blockKind
    rw [e]
    rfl
  have e1 : (([.Name x px, .Name y py] : List Expr).head?.map (·.pos.line)).getD 0 = px.line := rfl
  have yx : (y == x) = false := by
    cases e : (y == x) with
    | false => rfl
    | true => rw [beq_iff_eq.mp e, beq_self_eq_true] at hxy; cases hxy
  unfold swappedStores
  simp only [e1, kb, h2, h3, List.filterMap_cons, List.filterMap_nil, kx, ky, hl, beq_self_eq_true, Bool.and_self, if_true, List.length_cons, List.length_nil]
  simp [List.eraseDups_cons, hxy, yx, List.filter]
end
/-! ### more draws may be told than are made -/
section
variable {X : Cx} {W : Wd} {e : Expr} {c cb : Nat} {g : TDE} {gt : TDT} {ifs : List Expr}
theorem DE.le (h : DE X W e g cb) (l : cb ≤ c) : DE X W e g c := pe_imp h fun σ H Q ⟨k, Δ, K, h1, h2, h3, h4⟩ => ⟨k, Δ, K, by omega, h2, h3, fun d v H' q ch r => h4 d v H' q (ch.mono (by omega)) r⟩
theorem DT.le (h : DT X W e gt cb) (l : cb ≤ c) : DT X W e gt c := pt_imp h fun σ H Q ⟨k, Δ, K, h1, h2, h3, h4⟩ => ⟨k, Δ, K, by omega, h2, h3, fun d H' q ch => h4 d H' q (ch.mono (by omega))⟩
theorem PTsD.le (h : PTsD X W ifs gt cb) (l : cb ≤ c) : PTsD X W ifs gt c := ⟨⟨fun pins s σ H Q I ⟨k, Δ, K, h1, h2, h3, h4⟩ => h.run.run pins s σ H Q I ⟨k, Δ, K, by omega, h2, h3, fun d H' q ch => h4 d H' q (ch.mono (by omega))⟩⟩⟩
end
end DL
/-! DLRead: the readings' operators, case by case. -/
namespace DL
open PySem PySem.Spec PyProof.Rows
section
variable {K : D → Prop} {i j : Int} {a b : Str} {p q : Bool} {xs ys : List D} {x : D} {v : Int}
theorem addD_ii : addD (.int i) (.int j) K = K (.int (i + j)) := rfl
theorem addD_ss : addD (.str a) (.str b) K = (a.length + b.length ≤ sizeLine ∧ K (.str (a ++ b))) := rfl
theorem addD_ll : addD (.list xs) (.list ys) K = (xs.length + ys.length ≤ sizeLine ∧ K (.list (xs ++ ys))) := rfl
theorem addD_tt : addD (.tuple xs) (.tuple ys) K = (xs.length + ys.length ≤ sizeLine ∧ K (.tuple (xs ++ ys))) := rfl
theorem subD_ii : subD (.int i) (.int j) K = K (.int (i - j)) := rfl
theorem mulD_ii : mulD (.int i) (.int j) K = (MulOk i j ∧ K (.int (i * j))) := rfl
theorem mulD_si : mulD (.str a) (.int j) K = (PySem.MulOk a j ∧ (Txt.mul a j).length ≤ sizeLine ∧ K (.str (Txt.mul a j))) := rfl
theorem mulD_li : mulD (.list xs) (.int j) K = (-(2 ^ 63) ≤ j ∧ j < 2 ^ 63 ∧ xs.length * j.toNat ≤ sizeLine ∧ K (.list (List.replicate j.toNat xs).flatten)) := rfl
theorem fdivD_ii : fdivD (.int i) (.int j) K = (L2.CDivW i j ∧ K (.int (i / j))) := rfl
theorem modD_ii : modD (.int i) (.int j) K = (0 < j ∧ K (.int (i % j))) := rfl
theorem powD_ii : powD (.int i) (.int j) K = (0 ≤ j ∧ (Builtin.Int.intBits i : Int) * j ≤ 2 ^ 27 ∧ K (.int (i ^ j.toNat))) := rfl
theorem eqD_ii : eqD (.int i) (.int j) K = K (.bool (decide (i = j))) := rfl
theorem eqD_ss : eqD (.str a) (.str b) K = K (.bool (decide (a = b))) := rfl
theorem eqD_bb : eqD (.bool p) (.bool q) K = K (.bool (decide (p = q))) := rfl
theorem neD_ii : neD (.int i) (.int j) K = K (.bool (!decide (i = j))) := rfl
theorem neD_ss : neD (.str a) (.str b) K = K (.bool (!decide (a = b))) := rfl
theorem neD_bb : neD (.bool p) (.bool q) K = K (.bool (!decide (p = q))) := rfl
theorem ltD_ii : ltD (.int i) (.int j) K = K (.bool (decide (i < j))) := rfl
theorem ltD_ss : ltD (.str a) (.str b) K = K (.bool (decide (a.cps.toList < b.cps.toList))) := rfl
theorem leD_ii : leD (.int i) (.int j) K = K (.bool (decide (i ≤ j))) := rfl
theorem gtD_ii : gtD (.int i) (.int j) K = K (.bool (decide (j < i))) := rfl
theorem geD_ii : geD (.int i) (.int j) K = K (.bool (decide (j ≤ i))) := rfl
theorem isD_n : isD x .none K = K (.bool (isNo x)) := by cases x <;> rfl
theorem isD_bb : isD (.bool p) (.bool q) K = K (.bool (decide (p = q))) := rfl
theorem isnotD_n : isnotD x .none K = K (.bool (!isNo x)) := by cases x <;> rfl
theorem isnotD_bb : isnotD (.bool p) (.bool q) K = K (.bool (!decide (p = q))) := rfl
theorem inD_ss : inD (.str a) (.str b) K = ∃ c : Nat, a = ⟨#[c]⟩ ∧ K (.bool (decide (c ∈ b.cps.toList))) := rfl
theorem inD_l : inD x (.list ys) K = (SeqAt.shaped x = true ∧ SeqAt.shaped (.list ys) = true ∧ K (.bool (ys.any fun z => PyData.eqv z x))) := by cases x <;> rfl
theorem inD_t : inD x (.tuple ys) K = (SeqAt.shaped x = true ∧ SeqAt.shaped (.tuple ys) = true ∧ K (.bool (ys.any fun z => PyData.eqv z x))) := by cases x <;> rfl
theorem notinD_ss : notinD (.str a) (.str b) K = ∃ c : Nat, a = ⟨#[c]⟩ ∧ K (.bool (!decide (c ∈ b.cps.toList))) := rfl
theorem notinD_l : notinD x (.list ys) K = (SeqAt.shaped x = true ∧ SeqAt.shaped (.list ys) = true ∧ K (.bool (!ys.any fun z => PyData.eqv z x))) := by cases x <;> rfl
theorem notinD_t : notinD x (.tuple ys) K = (SeqAt.shaped x = true ∧ SeqAt.shaped (.tuple ys) = true ∧ K (.bool (!ys.any fun z => PyData.eqv z x))) := by cases x <;> rfl
theorem ixD_l : ixD (.list xs) (.int i) K = ∃ d, L2.atI xs i = some d ∧ K d := rfl
theorem ixD_t : ixD (.tuple xs) (.int i) K = ∃ d, L2.atI xs i = some d ∧ K d := rfl
theorem ixD_s : ixD (.str a) (.int i) K = ∃ c, L2.atI a.cps.toList i = some c ∧ K (.str ⟨#[c]⟩) := rfl
theorem slD_t {lo hi : Option Int} : slD (.tuple xs) lo hi K = K (.tuple (cutL xs lo hi)) := rfl
theorem slD_s {lo hi : Option Int} : slD (.str a) lo hi K = K (.str (L2.cutS a lo hi)) := rfl
theorem slD_l {lo hi : Option Int} : slD (.list xs) lo hi K = K (.list (cutL xs lo hi)) := rfl
theorem lenD_s : lenD [.str a] K = K (.int a.length) := rfl
theorem lenD_l : lenD [.list xs] K = K (.int xs.length) := rfl
theorem lenD_t : lenD [.tuple xs] K = K (.int xs.length) := rfl
theorem tupD_l : tupD [.list xs] K = K (.tuple xs) := rfl
theorem tupD_t : tupD [.tuple xs] K = K (.tuple xs) := rfl
theorem listD_l {K : List D → Prop} : listD [.list xs] K = K xs := rfl
theorem listD_t {K : List D → Prop} : listD [.tuple xs] K = K xs := rfl
theorem allD_l : allD [.list xs] K = ∃ bs : List Bool, xs = bs.map PyData.bool ∧ K (.bool (bs.all id)) := rfl
theorem anyD_l : anyD [.list xs] K = ∃ bs : List Bool, xs = bs.map PyData.bool ∧ K (.bool (bs.any id)) := rfl
theorem sumD_l : sumD [.list xs] K = ∃ ns : List Int, xs = ns.map PyData.int ∧ K (.int ns.sum) := rfl
theorem maxD_ii : maxD [.int i, .int j] K = K (.int (if j > i then j else i)) := rfl
theorem minD_ii : minD [.int i, .int j] K = K (.int (if j < i then j else i)) := rfl
theorem maxD_l : maxD [.list xs] K = ∃ ns : List Int, xs = ns.map PyData.int ∧ 0 < ns.length ∧ ∀ m, m ∈ ns → (∀ y, y ∈ ns → y ≤ m) → K (.int m) := rfl
theorem minD_l : minD [.list xs] K = ∃ ns : List Int, xs = ns.map PyData.int ∧ 0 < ns.length ∧ ∀ m, m ∈ ns → (∀ y, y ∈ ns → m ≤ y) → K (.int m) := rfl
theorem absD_i : absD [.int i] K = K (.int (if i < 0 then -i else i)) := rfl
theorem gcdD_ii : gcdD [.int i, .int j] K = K (.int ((Nat.gcd i.natAbs j.natAbs : Nat) : Int)) := rfl
theorem intD_i : intD [.int i] K = K (.int i) := rfl
theorem intD_b : intD [.bool p] K = K (.int (if p then 1 else 0)) := rfl
theorem intD_s : intD [.str a] K = ∃ n, PySem.intText? a = some n ∧ a.length ≤ 640 ∧ K (.int n) := rfl
theorem strD_i : strD [.int i] K = (i.natAbs.log2 < 1920 ∧ K (.str (toString i))) := rfl
theorem strD_s : strD [.str a] K = K (.str a) := rfl
theorem reprD_1 : reprD [x] K = (x.canLay0 = true ∧ x.showable = true ∧ x.depth ≤ 90 ∧ x.shown.length ≤ sizeLine ∧ K (.str x.shown)) := rfl
theorem joinD_l : joinD [.str a, .list xs] K = ∃ ys : List Str, xs = ys.map PyData.str ∧ (ys.map (·.length)).sum + ys.length * a.length ≤ 16777216 ∧ (Txt.join a ys).length ≤ sizeLine ∧ K (.str (Txt.join a ys)) := rfl
theorem splitD_s : splitD [.str a, .str b] K = ((b.length == 0) = false ∧ a.length + 2 ≤ sizeLine ∧ (Txt.split a b).length ≤ sizeLine ∧ (∀ y ∈ Txt.split a b, y.length ≤ sizeLine) ∧ K (.list ((Txt.split a b).map PyData.str))) := rfl
theorem PB_0 : PB 0 v ↔ 0 ≤ v ∧ v < 10 ^ 300 := by
  unfold PB
  constructor
  · rintro (⟨_, h⟩ | ⟨h, _⟩ | ⟨h, _⟩)
    · exact h
    · cases h
    · cases h
  · exact fun h => .inl ⟨rfl, h⟩
theorem PB_1 : PB 1 v ↔ 0 ≤ v ∧ v < 2 ^ 61 := by
  unfold PB
  constructor
  · rintro (⟨h, _⟩ | ⟨_, h⟩ | ⟨h, _⟩)
    · cases h
    · exact h
    · cases h
  · exact fun h => .inr (.inl ⟨rfl, h⟩)
theorem PB_2 : PB 2 v ↔ 0 ≤ v ∧ v ≤ 4194304 := by
  unfold PB
  constructor
  · rintro (⟨h, _⟩ | ⟨h, _⟩ | ⟨_, h⟩)
    · cases h
    · cases h
    · exact h
  · exact fun h => .inr (.inr ⟨rfl, h⟩)
end
theorem gIte_t {P Q : Prop} : gIte true P Q = P := propext ⟨fun h => h.1 rfl, fun h => ⟨fun _ => h, fun z => (nomatch z)⟩⟩
theorem gIte_f {P Q : Prop} : gIte false P Q = Q := propext ⟨fun h => h.2 rfl, fun h => ⟨fun z => (nomatch z), fun _ => h⟩⟩
theorem gIte_d {p P Q : Prop} [Decidable p] : gIte (decide p) P Q = ((p → P) ∧ (¬ p → Q)) := propext ⟨fun h => ⟨fun z => h.1 (decide_eq_true z), fun z => h.2 (decide_eq_false z)⟩, fun h => ⟨fun z => h.1 (of_decide_eq_true z), fun z => h.2 (of_decide_eq_false z)⟩⟩
theorem gIte_n {b : Bool} {P Q : Prop} : gIte (!b) P Q = gIte b Q P := by cases b <;> simp [gIte]
/-! ### sizes of ints -/
def Sz (b : Nat) (i : Int) : Prop := i.natAbs < 2 ^ b
theorem Sz.le {b c : Nat} {i : Int} (h : Sz b i) (l : b ≤ c) : Sz c i := Nat.lt_of_lt_of_le h (Nat.pow_le_pow_right (by decide) l)
theorem Sz.mul {b c : Nat} {i j : Int} (h : Sz b i) (k : Sz c j) : Sz (b + c) (i * j) := by
  unfold Sz at *
  rw [Int.natAbs_mul, Nat.pow_add]
  exact Nat.mul_lt_mul_of_le_of_lt (Nat.le_of_lt h) k (Nat.pow_pos (by decide))
theorem Sz.add {b c : Nat} {i j : Int} (h : Sz b i) (k : Sz c j) : Sz (max b c + 1) (i + j) := by
  have h1 := h.le (Nat.le_max_left b c)
  have h2 := k.le (Nat.le_max_right b c)
  unfold Sz at *
  rw [Nat.pow_succ]
  omega
theorem Sz.pow {b : Nat} {i : Int} (h : Sz b i) : ∀ n : Nat, Sz (b * n + 1) (i ^ n)
  | 0 => by
    show (i ^ 0).natAbs < 2 ^ (b * 0 + 1)
    rw [Int.pow_zero, Nat.mul_zero]
    decide
  | n + 1 => by
    have := (Sz.pow h n).mul h
    rw [Int.pow_succ]
    exact this.le (by rw [Nat.mul_succ]; omega)
theorem Sz.of_range {b : Nat} {i : Int} (h0 : 0 ≤ i) (h : i < 2 ^ b) : Sz b i := by
  unfold Sz
  have e : ((2 ^ b : Nat) : Int) = (2 : Int) ^ b := by simp
  omega
theorem Sz.log {b : Nat} {i : Int} (h : Sz b i) : i.natAbs.log2 ≤ b := by
  by_cases z : i.natAbs = 0
  · rw [z]
    exact Nat.zero_le _
  · exact Nat.le_of_lt ((Nat.log2_lt z).mpr h)
theorem Sz.mulOk {b c : Nat} {i j : Int} (h : Sz b i) (k : Sz c j) (l : b + c < 1000000 := by decide) : MulOk i j := by
  have h1 := h.log
  have h2 := k.log
  show i.natAbs.log2 + j.natAbs.log2 < 1000000
  omega
theorem Sz.bits {b : Nat} {i : Int} (h : Sz b i) : Builtin.Int.intBits i ≤ b := PySem.intBits_le_iff.mpr h
theorem Sz.emod {b : Nat} {i j : Int} (h : Sz b j) (p : 0 < j) : Sz b (i % j) := by
  have h1 := Int.emod_nonneg i (Int.ne_of_gt p)
  have h2 := Int.emod_lt_of_pos i p
  unfold Sz at *
  omega
theorem Sz.ediv {b : Nat} {i j : Int} (h : Sz b i) (p : 0 < j) : Sz b (i / j) := by
  have h1 := Int.natAbs_ediv_le_natAbs i j
  unfold Sz at *
  omega
theorem Sz.neg {b : Nat} {i : Int} (h : Sz b i) : Sz b (-i) := by
  unfold Sz at *
  omega
/-! ### comprehensions and loops over what is walked -/
def gLcX (cb m : Nat) (vs : List Nat) (xs : List D) (gg : TDG) (gt : TDT) (ge : TDE) (Δ : DEnv) (K : List D → Prop) : Prop := (vs.all fun i => noOwn (nth Δ i)) = true ∧ xs.length * cb ≤ m ∧ ∃ S : Nat → List D → Prop, S 0 [] ∧
  (∀ i d ds, xs[i]? = some d → S i ds → gg d (clr vs Δ) fun Δ2 => gt Δ2 fun b => gIte b (ge Δ2 fun y => S (i + 1) (ds ++ [y])) (S (i + 1) ds)) ∧ ∀ ds, S xs.length ds → K ds
theorem gLcC_x {cb m : Nat} {vs : List Nat} {gi : TDL} {gg : TDG} {gt : TDT} {ge : TDE} {Δ : DEnv} {K : List D → Prop} : gLcC cb m vs gi gg gt ge Δ K = gi Δ fun xs => gLcX cb m vs xs gg gt ge Δ K := rfl
def gForX (cb m : Nat) (xs : List D) (gt : TDG) (gb : TDS) (E : DEnds) (Δ : DEnv) : Prop := xs.length * cb ≤ m ∧ ∃ I : Nat → DEnv → Prop, I 0 Δ ∧ (∀ i d Δ', xs[i]? = some d → I i Δ' → gt d Δ' fun Δ2 => gb { E with nx := I (i + 1), ct := I (i + 1), bk := E.nx } Δ2) ∧ ∀ Δ', I xs.length Δ' → E.nx Δ'
theorem gForC_x {cb m : Nat} {gi : TDL} {gt : TDG} {gb : TDS} {E : DEnds} {Δ : DEnv} : gForC cb m gi gt gb E Δ = gi Δ fun xs => gForX cb m xs gt gb E Δ := rfl
section
variable {cb m i : Nat} {vs : List Nat} {Δ : DEnv} {K : List D → Prop} {ge : TDE} {xs : List D}
theorem lc_to (f : D → D) (hv : (vs.all fun i => noOwn (nth Δ i)) = true) (hm : xs.length * cb ≤ m) (step : ∀ d ∈ xs, ∀ P : D → Prop, P (f d) → ge ((clr vs Δ).set i (.dat d)) P) (hK : K (xs.map f)) : gLcX cb m vs xs (gTo i) gYes ge Δ K := by
  refine ⟨hv, hm, fun j ds => ds = (xs.take j).map f, rfl, fun j d ds hd hS => ⟨fun _ => ?_, fun z => nomatch z⟩, fun ds hS => ?_⟩
  · refine step d (List.mem_of_getElem? hd) _ ?_
    show ds ++ [f d] = (xs.take (j + 1)).map f
    rw [show ds = (xs.take j).map f from hS, List.take_add_one, hd, List.map_append]
    rfl
  · rw [show ds = (xs.take xs.length).map f from hS, List.take_length]
    exact hK
theorem lc_any (R : D → Prop) (hv : (vs.all fun i => noOwn (nth Δ i)) = true) (hm : xs.length * cb ≤ m) (step : ∀ d ∈ xs, ∀ P : D → Prop, (∀ y, R y → P y) → ge ((clr vs Δ).set i (.dat d)) P) (hK : ∀ ys : List D, ys.length = xs.length → (∀ y ∈ ys, R y) → K ys) : gLcX cb m vs xs (gTo i) gYes ge Δ K := by
  refine ⟨hv, hm, fun j ds => ds.length = j ∧ ∀ y ∈ ds, R y, ⟨rfl, fun y hy => by cases hy⟩, fun j d ds hd hS => ⟨fun _ => ?_, fun z => nomatch z⟩, fun ds hS => hK ds hS.1 hS.2⟩
  refine step d (List.mem_of_getElem? hd) _ fun y hy => ⟨by rw [List.length_append, hS.1]; rfl, fun z hz => ?_⟩
  rcases List.mem_append.mp hz with h | h
  · exact hS.2 z h
  · rw [List.mem_singleton.mp h]
    exact hy
end
end DL
/-! DLRev: e[::-1]; code that is never reached; three stores at once; the ground of a def that calls itself. -/
namespace DL
open PySem PySem.Spec PyProof.Rows L2
/-! ### t[::-1] of a tuple, of a list -/
theorem fm_congr {α β : Type} {f g : α → Option β} : ∀ {l : List α}, (∀ x ∈ l, f x = g x) → l.filterMap f = l.filterMap g
  | [], _ => rfl
  | x :: l, h => by
    rw [List.filterMap_cons, List.filterMap_cons, h x List.mem_cons_self, fm_congr fun y hy => h y (List.mem_cons_of_mem _ hy)]
section
variable {prog : Program} {w : World} {A : Around} {E : Value → Shared → Prop} {s : Shared}
theorem applied_back {sl : Addr} {vs : Value} {n : Nat} {Q : Int × Int × Nat → Shared → Prop} (hs : s.heap.IsSliceOf sl .none .none vs) (ps : IsPart vs (some (-1)))
    (h : Q ((n : Int) - 1, -1, n) s) : wpAny (model prog w) A (Builtin.Slice.sliceApplied (.ref sl) (pure (n : Int))) Q E s := by
  obtain ⟨os, hos, hcs, hds⟩ := id hs
  unfold Builtin.Slice.sliceApplied Builtin.Slice.sliceFields
  refine wpAny_bind (wpAny_bind (wpAny_field hos hds (x := .none) rfl (wpAny_bind (wpAny_field hos hds (x := .none) rfl (wpAny_bind (wpAny_field hos hds (x := vs) rfl (wpAny_pure ?_)))))))
  refine wpAny_bind (HT.slicePart_ ps ?_)
  show wpAny _ _ (if ((-1 : Int) == 0) = true then _ else _) _ _ s
  rw [if_neg (by decide)]
  refine wpAny_bind (slicePart_none (wpAny_bind (slicePart_none (wpAny_bind (wpAny_pure ?_)))))
  show wpAny _ _ (pure (((n : Int) - 1, (-1 : Int), Builtin.Slice.slicePlaces ((n : Int) - 1) (-1) (-1)) : Int × Int × Nat)) _ _ s
  have e : Builtin.Slice.slicePlaces ((n : Int) - 1) (-1) (-1) = n := by
    unfold Builtin.Slice.slicePlaces
    have h1 : ¬ ((-1 : Int) > 0) := by omega
    simp only [h1, if_false]
    split
    · rw [show (-(-1 : Int)) = 1 from rfl, Int.ediv_one]
      omega
    · omega
  rw [e]
  exact wpAny_pure h
theorem pick_back (xs : Array Value) : ((List.range xs.size).filterMap fun (m : Nat) => xs[(((xs.size : Int) - 1) + (m : Int) * (-1)).toNat]?).toArray = xs.toList.reverse.toArray := by
  have e : ((List.range xs.size).filterMap fun (m : Nat) => xs[(((xs.size : Int) - 1) + (m : Int) * (-1)).toNat]?) = (List.range xs.size).filterMap ((fun k => xs[k]?) ∘ fun k => xs.size - 1 - k) := by
    refine fm_congr fun m hm => ?_
    have := List.mem_range.mp hm
    show _ = xs[xs.size - 1 - m]?
    rw [show (((xs.size : Int) - 1) + (m : Int) * (-1)).toNat = xs.size - 1 - m by omega]
  rw [e, ← List.filterMap_map, PySem.W.krv_range, List.filterMap_reverse, PySem.W.krv_all]
theorem getItem_tuple_back {t sl : Addr} {items : Array Value} {vs : Value} {Q : Value → Shared → Prop} (ht : IsTup s.heap t items) (hs : s.heap.IsSliceOf sl .none .none vs) (ps : IsPart vs (some (-1)))
    (h : Q (.ref s.heap.objs.size) { s with heap := s.heap.push { cls := .type "tuple", data := .seq items.toList.reverse.toArray } })
    (hsz : items.size ≤ sizeLine) : wpAny (model prog w) A (getItem (.ref t) (.ref sl)) Q E s := by
  have htake : sizeOk (.seq items.toList.reverse.toArray) := by
    show items.toList.reverse.toArray.size ≤ sizeLine
    rw [List.size_toArray, List.length_reverse, Array.length_toList]
    exact hsz
  obtain ⟨os, hos, hcs, hds⟩ := id hs
  have hTs : s.TypeIs (.ref sl) "slice" := ⟨os, hos, hcs⟩
  unfold getItem
  try with_reducible refine wpAny_holding ?_
  first | refine wpAny_bind (wpAny_pure ?_) | skip
  refine wpAny_bind (wpAny_sequenceKey ht.typeIs (by decide) ?_)
  refine wpAny_bind (wpAny_callSpecial?_slot (name := Str.ofString "__getitem__") ht.typeIs PyProof.Rows.slot_tuple_getitem
    (wpAny_call_entry PyProof.Rows.slot_tuple_getitem ht.typeIs entry_tuple_getitem ?_ (args_tuple_getitem _ _)))
  show wpAny _ _ (Builtin.Tuple.tupleItemsOf (.ref t) >>= _) _ _ s
  refine wpAny_bind (tupleItemsOf_ ht ?_)
  refine wpAny_bind (wpAny_typeOf hTs ?_)
  rw [if_pos (by decide)]
  refine wpAny_bind (applied_back hs ps ?_)
  have hno : ¬ ((((items.size : Int) - 1) == 0 && (-1 : Int) == 1 && items.size == items.size) = true) := by
    intro q
    rw [Bool.and_eq_true, Bool.and_eq_true] at q
    exact absurd (eq_of_beq q.1.2) (by decide)
  show wpAny _ _ (if (((items.size : Int) - 1) == 0 && (-1 : Int) == 1 && items.size == items.size) = true then _ else _) _ _ s
  rw [if_neg hno, pick_back]
  first
    | exact wpAny_bind (m := Builtin.Tuple.tupleExact _) (wpAny_newObj_type (wpAny_pure ⟨_, rfl, wpAny_pure h⟩) htake)
    | exact wpAny_bind (m := Builtin.Tuple.tupleExact _) (wpAny_newObj_type (wpAny_bind (wpAny_pure (wpAny_pure ⟨_, rfl, wpAny_pure h⟩))) htake)
    | exact wpAny_bind (wpAny_bind (m := Builtin.Tuple.tupleExact _) (wpAny_newObj_type (wpAny_pure (wpAny_pure ⟨_, rfl, wpAny_pure h⟩)) htake))
    | exact wpAny_bind (wpAny_bind (m := Builtin.Tuple.tupleExact _) (wpAny_newObj_type (wpAny_pure ⟨_, rfl, wpAny_pure h⟩) htake))
end
def tRevA (K : PySem.W.Frag) (te : TE) : TE := fun σ H Q => te σ H fun x H1 => (∃ a xs, x = .ref a ∧ SqL K H1 a xs ∧ ∀ p, H1 p = none → Q (.ref p) (upd H1 p (.lst xs.reverse))) ∨ ∃ a xs, x = .ref a ∧ SqT K H1 a xs ∧ ∀ p, H1 p = none → Q (.ref p) (upd H1 p (.tup xs.reverse))
theorem pe_revA {X : Cx} {e : Expr} {te : TE} {k : Nat} {p1 p2 p3 pos : Pos} (he : PE X e te) : PE X (.Subscript e (.Slice none none (some (.UnaryOp .USub (.Constant (.int 1) k p1) p2)) p3) pos) (tRevA X.K te) := by
  refine ⟨fun pins s σ H Q I h => ?_⟩
  refine Subscript_ (thn (he.run pins s σ H _ I h) fun v s1 ⟨x, H1, I1, r1, q1⟩ => ?_)
  have hst : PO X (some (.UnaryOp .USub (.Constant (.int 1) k p1) p2)) (tPart (tUn (rU fun i => .int (-i)) (tC (.int 1)))) := po_some (pe_un un_neg pe_int)
  refine wpAny_Slice ?_
  rw [evalPart_none]
  refine wpAny_pure ?_
  refine wpAny_pure ?_
  refine thn (hst.run pins s1 σ H1 (fun o H4 => o = some (-1) ∧ H4 = H1) I1 ⟨1, rfl, -1, rfl, rfl, rfl⟩) fun vs s4 ⟨o, H4, I4, ps, eo, e4⟩ => ?_
  subst eo e4
  have I5 : Inv X pins σ H4 { s4 with heap := s4.heap.push { cls := .type "slice", data := .fields #[.none, .none, vs] } } := I4.kept (t' := s4.toks) fun b ob q => Heap.get?_push_of_some _ q
  rcases q1 with ⟨a, xs, ex, hx, q⟩ | ⟨a, xs, ex, hx, q⟩
  · subst ex
    cases r1
    obtain ⟨its, r, ht, hz⟩ := I5.list hx
    have hlen := r.length
    show wpAny (model X.prog X.w) X.A (subscriptTail e (.Slice none none (some (.UnaryOp .USub (.Constant (.int 1) k p1) p2)) p3) (.ref a) (.ref s4.heap.objs.size)) (EP X pins σ Q) X.xe { s4 with heap := s4.heap.push { cls := .type "slice", data := .fields #[.none, .none, vs] } }
    refine tail_any (ops := [.ref a, .ref s4.heap.objs.size]) ht.isList.typeIs (PySem.slot_list_getitem.lookup) ?_ (by with_unfolding_all rfl)
    refine wpAny_getItem_list_slice ht.isList (Heap.IsSliceOf.new _ .none .none vs) .none .none ps (by decide) ?_ (by rw [List.size_toArray]; omega)
    rw [PySem.W.krv_pick]
    refine ⟨.ref _, _, I5.laid (t' := s4.toks) (o := .lst xs.reverse) (fun b ob q => Heap.get?_push_of_some _ q) (Nat.le_refl _) ?_, rfl, q _ (I5.hok.fresh (Nat.le_refl _))⟩
    exact ⟨by rw [List.length_reverse]; exact hz, _, 0, r.reverse, Heap.get?_push_size _ rfl⟩
  · subst ex
    cases r1
    obtain ⟨its, r, ht, hz⟩ := I5.tuple hx
    have hlen := r.length
    show wpAny (model X.prog X.w) X.A (subscriptTail e (.Slice none none (some (.UnaryOp .USub (.Constant (.int 1) k p1) p2)) p3) (.ref a) (.ref s4.heap.objs.size)) (EP X pins σ Q) X.xe { s4 with heap := s4.heap.push { cls := .type "slice", data := .fields #[.none, .none, vs] } }
    refine tail_any (ops := [.ref a, .ref s4.heap.objs.size]) ht.typeIs PyProof.Rows.slot_tuple_getitem.lookup ?_ (by with_unfolding_all rfl)
    refine getItem_tuple_back ht (Heap.IsSliceOf.new _ .none .none vs) ps ?_ (by rw [List.size_toArray]; omega)
    refine ⟨.ref _, _, I5.laid (t' := s4.toks) (o := .tup xs.reverse) (fun b ob q => Heap.get?_push_of_some _ q) (Nat.le_refl _) ?_, rfl, q _ (I5.hok.fresh (Nat.le_refl _))⟩
    exact ⟨by rw [List.length_reverse]; exact hz, _, r.reverse, IsTup.new _ _⟩
theorem RepAll.rev {K : PySem.W.Frag} {A : Addr → Prop} {H : Hp} {vs : List V} {ds : List D} (r : RepAll K A H vs ds) : RepAll K A H vs.reverse ds.reverse := by
  induction ds generalizing vs with
  | nil => cases r; exact .nil
  | cons d ds ih =>
    cases r with
    | cons r1 r2 =>
      rw [List.reverse_cons, List.reverse_cons]
      exact (ih r2).append (.cons r1 .nil)
section
variable {X : Cx} {W : Wd} {N : List Str} {sc : Scope} {kk : Nat} {e a b : Expr} {c ca cb cc : Nat} {g ga gb gc : TDE} {pos p p2 : Pos} {k j : Nat} {σ : St} {Δ : DEnv} {H H' : Hp} {s : Stmt}
def revD : D → (D → Prop) → Prop
  | .tuple xs, K => K (.tuple xs.reverse)
  | .list xs, K => K (.list xs.reverse)
  | _, _ => False
def gRev (g : TDE) : TDE := fun Δ K => g Δ fun d => revD d K
theorem de_rev (C : Cxt X W N sc kk) {n : Nat} {p1 p2 p3 : Pos} (he : DB X W e g c) : DE X W (.Subscript e (.Slice none none (some (.UnaryOp .USub (.Constant (.int 1) n p1) p2)) p3) pos) (gRev g) c :=
  pe_imp (pe_revA he) fun σ H Q ⟨k, Δ, K, h1, h2, h3, h4⟩ => ⟨k, Δ, _, h1, h2, h3, fun d v H1 q c1 r => by
    have e1 := h2.chg C.ok c1
    have rb : RepB X.K (AA W σ Δ) H1 v d := RepB.of C e1 r e1.refl
    match d, q with
    | .tuple xs, q =>
      obtain ⟨a, vs, rfl, ha, ra, z, _⟩ := rb.tup
      refine .inr ⟨a, vs, rfl, ha, fun p hp => ?_⟩
      refine h4 _ _ _ q (c1.laid C h2 hp) (.tup (.inl ⟨.inl upd_same, e1.notA hp⟩) (by rw [List.length_reverse]; exact z) ?_)
      rw [C.hK]
      exact ra.rev.map (kp_laid hp)
    | .list xs, q =>
      obtain ⟨a, vs, rfl, ha, ra, z⟩ := rb.list
      refine .inl ⟨a, vs, rfl, .inl (.inl ha), fun p hp => ?_⟩
      refine h4 _ _ _ q (c1.laid C h2 hp) (.lst upd_same (e1.notA hp) (by rw [List.length_reverse]; exact z) ?_)
      rw [C.hK]
      exact ra.rev.map (kp_laid hp)⟩
/-! ### code that is never reached -/
def gOff : TDE := fun _ _ => False
theorem de_off : DE X W e gOff 0 := ⟨fun _ _ _ _ _ _ ⟨_, _, _, _, _, z, _⟩ => z.elim⟩
def gOffS : TDS := fun _ _ => False
theorem ds_off : DS X W s gOffS 0 := ⟨fun _ _ _ _ _ _ ⟨_, _, _, _, _, z, _⟩ => z.elim⟩
theorem fnd_off {P : Program} {w : World} {K : PySem.W.Frag} {mg : Str → Option Value} {base : Heap} {k : Nat} {f : Addr} {fd : FuncData} {ps : List Str} {c : Nat} : FnD P w K mg base k f fd ps (fun _ _ _ => False) c :=
  ⟨fun _ _ _ _ ⟨_, _, _, _, _, _, z, _⟩ => z.elim, fun _ _ _ _ _ _ _ _ _ _ _ _ _ _ ⟨_, _, _, _, _, _, z, _⟩ => z.elim⟩
/-! ### x, y, z = [..], e, e -/
def gPar3F (i j l : Nat) (g : TDL) (gb gc : TDE) : TDS := fun D Δ => g Δ fun ds => gb Δ fun d => gc Δ fun e => i < Δ.length ∧ D.nx (((Δ.set i (.own ds)).set j (.dat d)).set l (.dat e))
theorem ds_par3F (C : Cxt X W N sc kk) {f : TDL} {i j l : Nat} {x y z : Str} {a b e : Expr} {px py pz pt : Pos} {kt k2 pt2} (hx : N[i]? = some x) (hy : N[j]? = some y) (hz : N[l]? = some z) (hij : i ≠ j) (hil : i ≠ l) (hjl : j ≠ l)
    (lx : sc.names.lookup x = some .local) (ly : sc.names.lookup y = some .local) (lz : sc.names.lookup z = some .local) (ha : DF X W a f ca) (hb : ∀ L, Cxt X (W.blk L) N sc kk → DE X (W.blk L) b gb cb) (hc : ∀ L, Cxt X (W.blk L) N sc kk → DE X (W.blk L) e gc cc)
    (hw : swappedStores [.Tuple [.Name x px, .Name y py, .Name z pz] kt pt] (.Tuple [a, b, e] k2 pt2) X.env = pure (some [x, y, z]))
    (s1 : starEach [a, b, e] X.env = (false, eval a X.env) :: starEach [b, e] X.env := by rfl) (s2 : starEach [b, e] X.env = (false, eval b X.env) :: starEach [e] X.env := by rfl) (s3 : starEach [e] X.env = (false, eval e X.env) :: starEach [] X.env := by rfl)
    (hs : swapsWithSole [.Tuple [.Name x px, .Name y py, .Name z pz] kt pt] (.Tuple [a, b, e] k2 pt2) pos.line X.env = pure false := by rfl) :
    DS X W (.Assign [.Tuple [.Name x px, .Name y py, .Name z pz] kt pt] (.Tuple [a, b, e] k2 pt2) pos) (gPar3F i j l f gb gc) (ca + cb + cc) :=
  ps_imp (ps_par3 C.calm (by rw [C.hN]; exact C.nd) (by rw [C.hN]; exact hx) (by rw [C.hN]; exact hy) (by rw [C.hN]; exact hz) hij hil hjl (by rw [C.hsc]; exact lx) (by rw [C.hsc]; exact ly) (by rw [C.hsc]; exact lz) (pa_cons ha (pa_cons (pe_ex fun L => hb L (C.inn L)) (pa_cons (pe_ex fun L => hc L (C.inn L)) pa_nil s3) s2) s1) hw hs)
    fun E σ H ⟨k, Δ, D2, h1, h2, h3, h4⟩ => ⟨k, Δ, _, by omega, h2, h3, fun ds L xs H1 q1 c1 hn hL hz r => by
      obtain ⟨enB, kpB⟩ := h2.blk (vs := []) C.ok hn c1 (by rw [hL]; simp) (fun i z => by cases z)
      refine ⟨L, k + ca, Δ, _, (show k + ca + cb ≤ W.c0 by omega), enB, q1, fun d v H2 q2 c2 r2 => ?_⟩
      have e2 := enB.chg (C.inn L).ok c2
      refine ⟨L, k + ca + cb, Δ, _, (show k + ca + cb + cc ≤ W.c0 by omega), e2, q2, fun d3 v3 H3 ⟨li, q3⟩ c3 r3 => ?_⟩
      have li' : i < σ.length := by
        rw [← h2.len]
        exact li
      have nP1 : ¬ W.P L := fun q => C.ok.pdom L q (h2.fin.free hn)
      have hL3 : H3 L = some (.lst xs) := c3.keep L _ (c2.keep L _ hL nP1) nP1
      have cc' : Chg W (k + (ca + cb + cc)) H H3 := by
        have e : k + ca + cb + cc = k + (ca + cb + cc) := by omega
        rw [← e]
        exact c1.trans (c2.ofBlk.trans c3.ofBlk)
      obtain ⟨e4, kp4⟩ := h2.own (i := i) (by rw [← h2.len]; exact li) cc' hn hL3 hz (r.map ((c2.ofBlk.trans c3.ofBlk).kp C.ok fun a q => .inl (.inl q))) C.ok
      have sub : ∀ b, AA W (σ.set i (some (.ref L))) (Δ.set i (.own ds)) b → AA (W.blk L) σ Δ b := fun b q => by
        rcases q with q | ⟨j, es, h1, h2⟩
        · exact .inl (.inl q)
        · by_cases e : j = i
          · subst e
            have : (σ.set j (some (.ref L)))[j]? = some (some (.ref L)) := List.getElem?_set_self li'
            rw [this] at h2
            cases h2
            exact .inl (.inr rfl)
          · rw [nth_set_ne e] at h1
            rw [List.getElem?_set_ne (fun z => e z.symm)] at h2
            exact .inr ⟨j, es, h1, h2⟩
      have rv : Rep W.K (AA W (σ.set i (some (.ref L))) (Δ.set i (.own ds))) H3 v d := (r2.map (c3.kpE (C.inn L).ok)).map (Kp.less sub)
      have rw3 : Rep W.K (AA W (σ.set i (some (.ref L))) (Δ.set i (.own ds))) H3 v3 d3 := r3.map (Kp.less sub)
      have e5 := e4.dat (i := j) rv
      have e6 := e5.dat (i := l) (rw3.map (kp_set fun _ z => by cases z))
      exact ⟨.ref L, v, v3, rfl, h4.nx _ _ _ q3 e6 (kp4.trans ((kp_set fun _ z => by cases z).trans (kp_set fun _ z => by cases z)))⟩⟩
theorem swp3 (C : Cxt X W N sc kk) {x y z : Str} {px py pz pt pt2 : Pos} {kt k2 : Nat} {a b e : Expr} (hk : sc.kind = .function) (lx : sc.names.lookup x = some .local) (ly : sc.names.lookup y = some .local) (lz : sc.names.lookup z = some .local) (hxy : (x == y) = false) (hxz : (x == z) = false) (hyz : (y == z) = false)
    (hl : (py.line == px.line) = true) (hl2 : (pz.line == px.line) = true)
    (ha : ∀ v p, a ≠ .Starred v p) (hb : ∀ v p, b ≠ .Starred v p) (hc : ∀ v p, e ≠ .Starred v p) (h2 : [a, b, e].all (foldedForSure 8) = false) (h3 : [a, b, e].all (constantsAlone 8) = false) :
    swappedStores [.Tuple [.Name x px, .Name y py, .Name z pz] kt pt] (.Tuple [a, b, e] k2 pt2) X.env = pure (some [x, y, z]) := by
  have kd : ∀ {u : Str}, sc.names.lookup u = some .local → X.env.kindOf u = some .local := fun {u} h => by
    show X.env.scope.names.lookup u = _
    rw [C.hsc]
    exact h
  have kb : (X.env.blockKind != .function) = false := by
    have e : X.env.scope.kind = .function := by rw [C.hsc, hk]
    unfold Env.blockKind
    rw [e]
    rfl
  have e1 : (([.Name x px, .Name y py, .Name z pz] : List Expr).head?.map (·.pos.line)).getD 0 = px.line := rfl
  have sym : ∀ {u v : Str}, (u == v) = false → (v == u) = false := fun {u v} h => by
    cases q : (v == u) with
    | false => rfl
    | true => rw [beq_iff_eq.mp q, beq_self_eq_true] at h; cases h
  unfold swappedStores
  simp only [e1, kb, h2, h3, List.filterMap_cons, List.filterMap_nil, kd lx, kd ly, kd lz, hl, hl2, beq_self_eq_true, Bool.and_self, if_true, List.length_cons, List.length_nil]
  simp [List.eraseDups_cons, hxy, hxz, hyz, sym hxy, sym hxz, sym hyz, List.filter]
/-- one of two names is shared with a block within: they are stored from the left -/
theorem swc2 (C : Cxt X W N sc kk) {x y : Str} {px py pt pt2 : Pos} {kt k2 : Nat} {a b : Expr} (hk : sc.kind = .function) (hc : (sc.names.lookup x == some .local && sc.names.lookup y == some .local) = false) :
    swappedStores [.Tuple [.Name x px, .Name y py] kt pt] (.Tuple [a, b] k2 pt2) X.env = pure none := by
  have kx : X.env.kindOf x = sc.names.lookup x := by
    show X.env.scope.names.lookup x = _
    rw [C.hsc]
  have ky : X.env.kindOf y = sc.names.lookup y := by
    show X.env.scope.names.lookup y = _
    rw [C.hsc]
  have kb : (X.env.blockKind != .function) = false := by
    have e : X.env.scope.kind = .function := by rw [C.hsc, hk]
    unfold Env.blockKind
    rw [e]
    rfl
  unfold swappedStores
  simp only [kb, kx, ky, List.filterMap_cons, List.filterMap_nil, List.length_cons, List.length_nil]
  cases h1 : (sc.names.lookup x == some .local) with
  | false =>
    simp only [Bool.false_and]
    cases (sc.names.lookup y == some .local && py.line == (Option.map (fun x => x.pos.line) [Expr.Name x px, Expr.Name y py].head?).getD 0) <;> repeat' (first | rfl | split)
  | true =>
    have h2 : (sc.names.lookup y == some .local) = false := by rw [h1, Bool.true_and] at hc; exact hc
    simp only [h2, Bool.false_and, Bool.true_and]
    cases (px.line == (Option.map (fun x => x.pos.line) [Expr.Name x px, Expr.Name y py].head?).getD 0) <;> repeat' (first | rfl | split)
end
/-! ### == of a tuple and what it may be -/
theorem eqD_xt {x : D} {ys : List D} {K : D → Prop} : eqD x (.tuple ys) K = (SeqAt.shaped x = true ∧ SeqAt.shaped (.tuple ys) = true ∧ K (.bool (PyData.eqv x (.tuple ys)))) := by cases x <;> rfl
theorem eqD_tx {x : D} {ys : List D} {K : D → Prop} : eqD (.tuple ys) x K = (SeqAt.shaped (.tuple ys) = true ∧ SeqAt.shaped x = true ∧ K (.bool (PyData.eqv (.tuple ys) x))) := by cases x <;> rfl
theorem neD_xt {x : D} {ys : List D} {K : D → Prop} : neD x (.tuple ys) K = (SeqAt.shaped x = true ∧ SeqAt.shaped (.tuple ys) = true ∧ K (.bool (!PyData.eqv x (.tuple ys)))) := by cases x <;> rfl
theorem neD_tx {x : D} {ys : List D} {K : D → Prop} : neD (.tuple ys) x K = (SeqAt.shaped (.tuple ys) = true ∧ SeqAt.shaped x = true ∧ K (.bool (!PyData.eqv (.tuple ys) x))) := by cases x <;> rfl
theorem eqv_pair {p q a b : Int} : PyData.eqv (.tuple [.int p, .int q]) (.tuple [.int a, .int b]) = (decide (p = a) && decide (q = b)) := by
  simp [PyData.eqv, PyData.eqvAll]
  rfl
def isUnit : D → Bool
  | .tuple [] => true
  | _ => false
theorem eqv_unit {x : D} : PyData.eqv x (.tuple []) = isUnit x := by
  cases x with
  | tuple xs => cases xs <;> simp [PyData.eqv, PyData.eqvAll, isUnit]
  | _ => simp [PyData.eqv, isUnit]
theorem eqD_tt {xs ys : List D} {K : D → Prop} : eqD (.tuple xs) (.tuple ys) K = (SeqAt.shaped (.tuple xs) = true ∧ SeqAt.shaped (.tuple ys) = true ∧ K (.bool (PyData.eqv (.tuple xs) (.tuple ys)))) := rfl
theorem neD_tt {xs ys : List D} {K : D → Prop} : neD (.tuple xs) (.tuple ys) K = (SeqAt.shaped (.tuple xs) = true ∧ SeqAt.shaped (.tuple ys) = true ∧ K (.bool (!PyData.eqv (.tuple xs) (.tuple ys)))) := rfl
theorem shaped_pair {p q : Int} : SeqAt.shaped (.tuple [.int p, .int q]) = true := rfl
end DL
/-! K83: what the defs read (printed by gen.py). -/
namespace K83
open PySem DL
def d_BEYOND : D := (.int 1000000000000000000000000000000000000000000000000000000000000000000000000000000000000000000000000000000000000000000000000000000000000000000000000000000000000000000000000000000000000000000000000000000000000000000000000000000000000000000000000000000000000000000000000000000000000000000000000000000000000)
def d_MOST_PARTS : D := (.int 1000000)
def d_ONE : D := (.tuple [(.int 1), (.int 1)])
def d_NOTHING : D := (.tuple [(.int 0), (.int 1)])
def N__law_cells : List Str := ["script", "limit"]
def G__law_cells (E : Value → D → Prop) : TDS :=
  (gRet (gL (gLRg (gCall maxD (gCo (gC (.int 1)) (gCo (gCall minD (gCo (gVar 1) (gCo (gLenS 0) gN))) gN))))))
@[irreducible] def F__law_cells : FSp := specOf 2 N__law_cells G__law_cells
def N__law_pot : List Str := ["script", "place", "cell", "own", "small"]
def R__law_pot_0 (E : Value → D → Prop) : TDS :=
  (gRet (gL (gLst (gCo (gVar 3) (gCo (gBin modD (gCall intD (gCo (gBin addD (gBin addD (gBin mulD (gVar 4) (gC (.int 75011))) (gBin mulD (gBin mulD (gC (.int 10111)) (gVar 1)) (gVar 1))) (gC (.int 1523))) gN)) (gC (.int 2305843009213693921))) (gCo (gC (.int 0)) gN))))))
def R__law_pot_1 (E : Value → D → Prop) : TDS :=
  (gSeq (gSet 4 (gBin modD (gCall intD (gCo (gVar 2) gN)) (gC (.int 2305843009213693951)))) (R__law_pot_0 E))
def R__law_pot_2 (E : Value → D → Prop) : TDS :=
  (gSeq (gSet 3 (gBin mulD (gBin modD (gCall intD (gCo (gCall absD (gCo (gVar 2) gN)) gN)) (gBin powD (gBin powD (gC (.int 10)) (gC (.int 60))) (gC (.int 5)))) (gCall intD (gCo (gBin geD (gCall absD (gCo (gVar 2) gN)) (gBin powD (gC (.int 10)) (gC (.int 18)))) gN)))) (R__law_pot_1 E))
def G__law_pot (E : Value → D → Prop) : TDS :=
  (gSeq (gSet 2 (gIf (gTB (gBin ltD (gVar 1) (gLenS 0))) (gIxS 0 (gVar 1)) (gBin addD (gBin mulD (gC (.int 1117)) (gVar 1)) (gC (.int 911))))) (R__law_pot_2 E))
@[irreducible] def F__law_pot : FSp := specOf 2 N__law_pot G__law_pot
def N_is_less : List Str := ["one", "other"]
def G_is_less (E : Value → D → Prop) : TDS :=
  (gRet (gBin ltD (gBin mulD (gBin ixD (gVar 0) (gC (.int 0))) (gBin ixD (gVar 1) (gC (.int 1)))) (gBin mulD (gBin ixD (gVar 1) (gC (.int 0))) (gBin ixD (gVar 0) (gC (.int 1))))))
@[irreducible] def F_is_less : FSp := specOf 2 N_is_less G_is_less
def N_common : List Str := ["one", "other"]
def G_common (E : Value → D → Prop) : TDS :=
  (gRet (gCall gcdD (gCo (gVar 0) (gCo (gVar 1) gN))))
@[irreducible] def F_common : FSp := specOf 2 N_common G_common
def N_is_integer : List Str := ["value"]
def G_is_integer (E : Value → D → Prop) : TDS :=
  (gRet (gAndV (gIsi isIntD (gVar 0)) (gNotV (gIsi isBoolD (gVar 0)))))
@[irreducible] def F_is_integer : FSp := specOf 1 N_is_integer G_is_integer
def N_is_fraction : List Str := ["value", "part"]
def R_is_fraction_0 (E : Value → D → Prop) : TDS :=
  (gRet (gAndV (gBin geD (gBin ixD (gVar 0) (gC (.int 1))) (gC (.int 1))) (gBin eqD (gFn F_common E [] (gAd (gBin ixD (gVar 0) (gC (.int 0))) (gAd (gBin ixD (gVar 0) (gC (.int 1))) gAn))) (gC (.int 1)))))
def G_is_fraction (E : Value → D → Prop) : TDS :=
  (gSeq (gIfS (gOrT (gNotT (gTB (gIsi isTupD (gVar 0)))) (gOrT (gTB (gBin neD (gCall lenD (gCo (gVar 0) gN)) (gC (.int 2)))) (gNotT (gTB (gCall allD (gCo (gL (gLcC (0 + 0) 0 [1] (gSeqI (gVar 0)) (gTo 1) gYes (gFn F_is_integer NoE [] (gAd (gVar 1) gAn)))) gN)))))) (gRet (gC (.bool false))) gNext) (R_is_fraction_0 E))
@[irreducible] def F_is_fraction : FSp := specOf 1 N_is_fraction G_is_fraction
def N_is_told_fraction : List Str := ["value"]
def G_is_told_fraction (E : Value → D → Prop) : TDS :=
  (gRet (gAndV (gFn F_is_fraction E [] (gAd (gVar 0) gAn)) (gAndV (gBin ltD (gCall absD (gCo (gBin ixD (gVar 0) (gC (.int 0))) gN)) (gC d_BEYOND)) (gBin ltD (gBin ixD (gVar 0) (gC (.int 1))) (gC d_BEYOND)))))
@[irreducible] def F_is_told_fraction : FSp := specOf 1 N_is_told_fraction G_is_told_fraction
def N_is_stretch : List Str := ["value", "at"]
def R_is_stretch_0 (E : Value → D → Prop) : TDS :=
  (gRet (gOrV (gFn F_is_less E [] (gAd (gBin ixD (gVar 0) (gC (.int 0))) (gAd (gBin ixD (gVar 0) (gC (.int 2))) gAn))) (gAndV (gBin eqD (gBin ixD (gVar 0) (gC (.int 0))) (gBin ixD (gVar 0) (gC (.int 2)))) (gAndV (gBin ixD (gVar 0) (gC (.int 1))) (gBin ixD (gVar 0) (gC (.int 3)))))))
def R_is_stretch_1 (E : Value → D → Prop) : TDS :=
  (gSeq (gIfS (gOrT (gNotT (gTB (gFn F_is_told_fraction E [] (gAd (gBin ixD (gVar 0) (gC (.int 0))) gAn)))) (gOrT (gNotT (gTB (gFn F_is_told_fraction E [] (gAd (gBin ixD (gVar 0) (gC (.int 2))) gAn)))) (gTB (gBin ltD (gBin ixD (gBin ixD (gVar 0) (gC (.int 0))) (gC (.int 0))) (gC (.int 0)))))) (gRet (gC (.bool false))) gNext) (R_is_stretch_0 E))
def G_is_stretch (E : Value → D → Prop) : TDS :=
  (gSeq (gIfS (gOrT (gNotT (gTB (gIsi isTupD (gVar 0)))) (gOrT (gTB (gBin neD (gCall lenD (gCo (gVar 0) gN)) (gC (.int 4)))) (gNotT (gTB (gCall allD (gCo (gL (gLcC (0 + 0) 0 [1] (gSeqI (gTup (gCo (gC (.int 1)) (gCo (gC (.int 3)) gN)))) (gTo 1) gYes (gIsi isBoolD (gBin ixD (gVar 0) (gVar 1))))) gN)))))) (gRet (gC (.bool false))) gNext) (R_is_stretch_1 E))
@[irreducible] def F_is_stretch : FSp := specOf 1 N_is_stretch G_is_stretch
def N_check_stretch : List Str := ["stretch"]
def G_check_stretch (E : Value → D → Prop) : TDS :=
  (gIfS (gNotT (gTB (gFn F_is_stretch E [] (gAd (gVar 0) gAn)))) gOffS gNext)
@[irreducible] def F_check_stretch : FSp := specOf 1 N_check_stretch G_check_stretch
def N_floor_of : List Str := ["one"]
def G_floor_of (E : Value → D → Prop) : TDS :=
  (gRet (gBin fdivD (gBin ixD (gVar 0) (gC (.int 0))) (gBin ixD (gVar 0) (gC (.int 1)))))
@[irreducible] def F_floor_of : FSp := specOf 1 N_floor_of G_floor_of
def N_is_inside : List Str := ["stretch", "one", "low", "is_low", "high", "is_high"]
def R_is_inside_0 (E : Value → D → Prop) : TDS :=
  (gRet (gOrV (gBin isD (gVar 4) (gC .none)) (gOrV (gFn F_is_less E [] (gAd (gVar 1) (gAd (gVar 4) gAn))) (gAndV (gBin eqD (gVar 1) (gVar 4)) (gVar 5)))))
def R_is_inside_1 (E : Value → D → Prop) : TDS :=
  (gSeq (gIfS (gOrT (gTB (gFn F_is_less E [] (gAd (gVar 1) (gAd (gVar 2) gAn)))) (gAndT (gTB (gBin eqD (gVar 1) (gVar 2))) (gNotT (gTB (gVar 3))))) (gRet (gC (.bool false))) gNext) (R_is_inside_0 E))
def G_is_inside (E : Value → D → Prop) : TDS :=
  (gSeq (gAsg (gVar 0) (gToT 4 (gToC (gTo 2) (gToC (gTo 3) (gToC (gTo 4) (gToC (gTo 5) gTo0)))))) (R_is_inside_1 E))
@[irreducible] def F_is_inside : FSp := specOf 2 N_is_inside G_is_inside
def N_reduced : List Str := ["top", "low", "by"]
def R_reduced_0 (E : Value → D → Prop) : TDS :=
  (gRet (gTup (gCo (gBin fdivD (gVar 0) (gVar 2)) (gCo (gBin fdivD (gVar 1) (gVar 2)) gN))))
def G_reduced (E : Value → D → Prop) : TDS :=
  (gSeq (gSet 2 (gIf (gTB (gBin gtD (gVar 1) (gC (.int 0)))) (gFn F_common E [] (gAd (gVar 0) (gAd (gVar 1) gAn))) (gBin subD (gC (.int 0)) (gFn F_common E [] (gAd (gVar 0) (gAd (gVar 1) gAn)))))) (R_reduced_0 E))
@[irreducible] def F_reduced : FSp := specOf 2 N_reduced G_reduced
def N_difference : List Str := ["one", "other"]
def G_difference (E : Value → D → Prop) : TDS :=
  (gRet (gFn F_reduced E [] (gAd (gBin subD (gBin mulD (gBin ixD (gVar 0) (gC (.int 0))) (gBin ixD (gVar 1) (gC (.int 1)))) (gBin mulD (gBin ixD (gVar 1) (gC (.int 0))) (gBin ixD (gVar 0) (gC (.int 1))))) (gAd (gBin mulD (gBin ixD (gVar 0) (gC (.int 1))) (gBin ixD (gVar 1) (gC (.int 1)))) gAn))))
@[irreducible] def F_difference : FSp := specOf 2 N_difference G_difference
def N_quotient : List Str := ["one", "other"]
def G_quotient (E : Value → D → Prop) : TDS :=
  (gRet (gFn F_reduced E [] (gAd (gBin mulD (gBin ixD (gVar 0) (gC (.int 0))) (gBin ixD (gVar 1) (gC (.int 1)))) (gAd (gBin mulD (gBin ixD (gVar 0) (gC (.int 1))) (gBin ixD (gVar 1) (gC (.int 0)))) gAn))))
@[irreducible] def F_quotient : FSp := specOf 2 N_quotient G_quotient
def N_simplest_of : List Str := ["stretch", "wholes", "first", "left", "lap", "low", "is_low", "high", "is_high", "whole", "rest", "far", "found"]
def R_simplest_of_0 (E : Value → D → Prop) : TDS :=
  (gSet 3 (gTup (gCo (gVar 11) (gCo (gVar 8) (gCo (gIf (gTB (gBin eqD (gVar 10) (gC d_NOTHING))) (gC .none) (gFn F_quotient E [] (gAd (gC d_ONE) (gAd (gVar 10) gAn)))) (gCo (gVar 6) gN))))))
def R_simplest_of_1 (E : Value → D → Prop) : TDS :=
  (gSeq (gSet 11 (gFn F_quotient E [] (gAd (gC d_ONE) (gAd (gFn F_difference E [] (gAd (gVar 7) (gAd (gTup (gCo (gVar 9) (gCo (gC (.int 1)) gN))) gAn))) gAn)))) (R_simplest_of_0 E))
def R_simplest_of_2 (E : Value → D → Prop) : TDS :=
  (gSeq (gSet 10 (gFn F_difference E [] (gAd (gVar 5) (gAd (gTup (gCo (gVar 9) (gCo (gC (.int 1)) gN))) gAn)))) (R_simplest_of_1 E))
def R_simplest_of_3 (E : Value → D → Prop) : TDS :=
  (gSeq (gApp 1 (gVar 9)) (R_simplest_of_2 E))
def R_simplest_of_4 (E : Value → D → Prop) : TDS :=
  (gSeq (gIfS (gTB (gFn F_is_inside E [] (gAd (gVar 3) (gAd (gTup (gCo (gVar 2) (gCo (gC (.int 1)) gN))) gAn)))) gBreak gNext) (R_simplest_of_3 E))
def R_simplest_of_5 (E : Value → D → Prop) : TDS :=
  (gSeq (gSet 2 (gIf (gAndT (gTB (gVar 6)) (gTB (gBin eqD (gBin ixD (gVar 5) (gC (.int 1))) (gC (.int 1))))) (gVar 9) (gBin addD (gVar 9) (gC (.int 1))))) (R_simplest_of_4 E))
def R_simplest_of_6 (E : Value → D → Prop) : TDS :=
  (gSeq (gSet 9 (gFn F_floor_of E [] (gAd (gVar 5) gAn))) (R_simplest_of_5 E))
def R_simplest_of_7 (E : Value → D → Prop) : TDS :=
  (gRet (gVar 12))
def R_simplest_of_8 (E : Value → D → Prop) : TDS :=
  (gSeq (gForC 0 0 (gSeqI (gRev (gVarB 1))) (gTo 9) (gSet 12 (gTup (gCo (gBin addD (gBin mulD (gVar 9) (gBin ixD (gVar 12) (gC (.int 0)))) (gBin ixD (gVar 12) (gC (.int 1)))) (gCo (gBin ixD (gVar 12) (gC (.int 0))) gN))))) (R_simplest_of_7 E))
def R_simplest_of_9 (E : Value → D → Prop) : TDS :=
  (gSeq (gSet 12 (gTup (gCo (gVar 2) (gCo (gC (.int 1)) gN)))) (R_simplest_of_8 E))
def R_simplest_of_10 (E : Value → D → Prop) : TDS :=
  (gSeq (gForC 0 0 (gRg1 (gC d_MOST_PARTS)) (gTo 4) (gSeq (gAsg (gVar 3) (gToT 4 (gToC (gTo 5) (gToC (gTo 6) (gToC (gTo 7) (gToC (gTo 8) gTo0)))))) (R_simplest_of_6 E))) (R_simplest_of_9 E))
def G_simplest_of (E : Value → D → Prop) : TDS :=
  (gSeq (gPar3F 1 2 3 (gLst gN) (gC (.int 0)) (gVar 0)) (R_simplest_of_10 E))
@[irreducible] def F_simplest_of : FSp := specOf 1 N_simplest_of G_simplest_of
def N_parents_of : List Str := ["one", "left", "right", "rest", "is_right", "whole", "top", "times"]
def R_parents_of_0 (E : Value → D → Prop) : TDS :=
  (gPar 3 4 (gCo (gTup (gCo (gBin ixD (gVar 3) (gC (.int 1))) (gCo (gVar 6) gN))) (gCo (gNotV (gVar 4)) gN)))
def R_parents_of_1 (E : Value → D → Prop) : TDS :=
  (gSeq (gIfS (gTB (gVar 4)) (gSet 1 (gTup (gCo (gBin addD (gBin ixD (gVar 1) (gC (.int 0))) (gBin mulD (gVar 7) (gBin ixD (gVar 2) (gC (.int 0))))) (gCo (gBin addD (gBin ixD (gVar 1) (gC (.int 1))) (gBin mulD (gVar 7) (gBin ixD (gVar 2) (gC (.int 1))))) gN)))) (gSet 2 (gTup (gCo (gBin addD (gBin ixD (gVar 2) (gC (.int 0))) (gBin mulD (gVar 7) (gBin ixD (gVar 1) (gC (.int 0))))) (gCo (gBin addD (gBin ixD (gVar 2) (gC (.int 1))) (gBin mulD (gVar 7) (gBin ixD (gVar 1) (gC (.int 1))))) gN))))) (R_parents_of_0 E))
def R_parents_of_2 (E : Value → D → Prop) : TDS :=
  (gSeq (gSet 7 (gIf (gTB (gBin neD (gVar 6) (gC (.int 0)))) (gVar 5) (gBin subD (gVar 5) (gC (.int 1))))) (R_parents_of_1 E))
def R_parents_of_3 (E : Value → D → Prop) : TDS :=
  (gRet (gTup (gCo (gVar 1) (gCo (gVar 2) gN))))
def R_parents_of_4 (E : Value → D → Prop) : TDS :=
  (gSeq (gWhC (0 + 0) 0 (gTB (gBin neD (gBin ixD (gVar 3) (gC (.int 1))) (gC (.int 0)))) (gSeq (gPar 5 6 (gCo (gBin fdivD (gBin ixD (gVar 3) (gC (.int 0))) (gBin ixD (gVar 3) (gC (.int 1)))) (gCo (gBin modD (gBin ixD (gVar 3) (gC (.int 0))) (gBin ixD (gVar 3) (gC (.int 1)))) gN))) (R_parents_of_2 E))) (R_parents_of_3 E))
def R_parents_of_5 (E : Value → D → Prop) : TDS :=
  (gSeq (gAsg (gTup (gCo (gTup (gCo (gC (.int 0)) (gCo (gC (.int 1)) gN))) (gCo (gTup (gCo (gC (.int 1)) (gCo (gC (.int 0)) gN))) (gCo (gVar 0) (gCo (gC (.bool true)) gN))))) (gToT 4 (gToC (gTo 1) (gToC (gTo 2) (gToC (gTo 3) (gToC (gTo 4) gTo0)))))) (R_parents_of_4 E))
def G_parents_of (E : Value → D → Prop) : TDS :=
  (gSeq (gIfS (gTB (gBin eqD (gBin ixD (gVar 0) (gC (.int 1))) (gC (.int 1)))) (gRet (gTup gN)) gNext) (R_parents_of_5 E))
@[irreducible] def F_parents_of : FSp := specOf 1 N_parents_of G_parents_of
def N_edge_told : List Str := ["stretch", "found"]
def R_edge_told_0 (E : Value → D → Prop) : TDS :=
  (gRet (gTup (gCo (gBin ixD (gVar 1) (gC (.int 1))) (gCo (gBin ixD (gVar 1) (gC (.int 0))) (gCo (gFn F_parents_of E [] (gAd (gVar 1) gAn)) gN)))))
def G_edge_told (E : Value → D → Prop) : TDS :=
  (gSeq (gSet 1 (gFn F_simplest_of E [] (gAd (gVar 0) gAn))) (R_edge_told_0 E))
@[irreducible] def F_edge_told : FSp := specOf 1 N_edge_told G_edge_told
def N_edge_size : List Str := ["stretch"]
def R_edge_size_0 (E : Value → D → Prop) : TDS :=
  (gRet (gFn F_edge_told E [] (gAd (gVar 0) gAn)))
def G_edge_size (E : Value → D → Prop) : TDS :=
  (gSeq (gDrop (gFn F_check_stretch E [] (gAd (gVar 0) gAn))) (R_edge_size_0 E))
@[irreducible] def F_edge_size : FSp := specOf 1 N_edge_size G_edge_size
def N__law_take : List Str := ["pot", "upto", "digit", "prime", "mixed"]
def R__law_take_0 (E : Value → D → Prop) : TDS :=
  (gRet (gVar 2))
def R__law_take_1 (E : Value → D → Prop) : TDS :=
  (gSeq (gPs0 0 (gBin fdivD (gPix 0 0) (gVar 1))) (R__law_take_0 E))
def R__law_take_2 (E : Value → D → Prop) : TDS :=
  (gRet (gBin modD (gCall intD (gCo (gBin fdivD (gVar 4) (gC (.int 521))) gN)) (gVar 1)))
def R__law_take_3 (E : Value → D → Prop) : TDS :=
  (gSeq (gSet 4 (gBin modD (gCall intD (gCo (gBin mulD (gVar 4) (gBin addD (gBin modD (gCall intD (gCo (gVar 4) gN)) (gC (.int 13009))) (gBin mulD (gC (.int 719)) (gPix 0 2)))) gN)) (gC (.int 2305843009213693907)))) (R__law_take_2 E))
def R__law_take_4 (E : Value → D → Prop) : TDS :=
  (gSeq (gSet 4 (gBin modD (gCall intD (gCo (gBin powD (gCall intD (gCo (gBin addD (gBin addD (gPix 0 1) (gBin mulD (gBin mulD (gC (.int 95009)) (gPix 0 2)) (gPix 0 2))) (gC (.int 557))) gN)) (gC (.int 3))) gN)) (gVar 3))) (R__law_take_3 E))
def R__law_take_5 (E : Value → D → Prop) : TDS :=
  (gSeq (gSet 3 (gBin ixD (gL (gLst (gCo (gC (.int 2147483647)) (gCo (gC (.int 2147483629)) (gCo (gC (.int 2147483587)) (gCo (gC (.int 2147483579)) (gCo (gC (.int 2147483563)) gN))))))) (gBin modD (gCall intD (gCo (gPix 0 2) gN)) (gC (.int 5))))) (R__law_take_4 E))
def R__law_take_6 (E : Value → D → Prop) : TDS :=
  (gSeq (gTick 0) (R__law_take_5 E))
def G__law_take (E : Value → D → Prop) : TDS :=
  (gSeq (gIfS (gTB (gBin gtD (gPix 0 0) (gC (.int 0)))) (gSeq (gSet 2 (gBin modD (gCall intD (gCo (gPix 0 0) gN)) (gVar 1))) (R__law_take_1 E)) gNext) (R__law_take_6 E))
@[irreducible] def F__law_take : FSp := specOf 2 N__law_take G__law_take
def N__law_cut : List Str := ["top", "low", "one", "other"]
def R__law_cut_0 (E : Value → D → Prop) : TDS :=
  (gRet (gTup (gCo (gBin fdivD (gCall intD (gCo (gVar 0) gN)) (gVar 2)) (gCo (gBin fdivD (gCall intD (gCo (gVar 1) gN)) (gVar 2)) gN))))
def R__law_cut_1 (E : Value → D → Prop) : TDS :=
  (gSeq (gWhC (0 + 0) 0 (gTB (gBin neD (gVar 3) (gC (.int 0)))) (gPar 2 3 (gCo (gVar 3) (gCo (gBin modD (gVar 2) (gVar 3)) gN)))) (R__law_cut_0 E))
def G__law_cut (E : Value → D → Prop) : TDS :=
  (gSeq (gPar 2 3 (gCo (gCall absD (gCo (gCall intD (gCo (gVar 0) gN)) gN)) (gCo (gCall intD (gCo (gVar 1) gN)) gN))) (R__law_cut_1 E))
@[irreducible] def F__law_cut : FSp := specOf 2 N__law_cut G__law_cut
def N__law_of : List Str := ["pot", "some"]
def G__law_of (E : Value → D → Prop) : TDS :=
  (gRet (gBin ixD (gVar 1) (gFn F__law_take E [] (gAp 0 (gAd (gCall lenD (gCo (gVar 1) gN)) gAn)))))
@[irreducible] def F__law_of : FSp := specOf 2 N__law_of G__law_of
def N__law_stretch : List Str := ["pot", "most", "low", "top", "wide", "here", "there"]
def R__law_stretch_0 (E : Value → D → Prop) : TDS :=
  (gRet (gTup (gCo (gVar 5) (gCo (gBin eqD (gFn F__law_take E [] (gAp 0 (gAd (gC (.int 2)) gAn))) (gC (.int 0))) (gCo (gVar 6) (gCo (gBin eqD (gFn F__law_take E [] (gAp 0 (gAd (gC (.int 2)) gAn))) (gC (.int 0))) gN))))))
def R__law_stretch_1 (E : Value → D → Prop) : TDS :=
  (gSeq (gIfS (gTB (gBin eqD (gFn F__law_take E [] (gAp 0 (gAd (gC (.int 6)) gAn))) (gC (.int 0)))) (gRet (gTup (gCo (gVar 5) (gCo (gC (.bool true)) (gCo (gVar 5) (gCo (gC (.bool true)) gN)))))) gNext) (R__law_stretch_0 E))
def R__law_stretch_2 (E : Value → D → Prop) : TDS :=
  (gSeq (gPar 5 6 (gCo (gFn F__law_cut E [] (gAd (gVar 3) (gAd (gVar 2) gAn))) (gCo (gFn F__law_cut E [] (gAd (gBin addD (gBin mulD (gVar 3) (gBin ixD (gVar 4) (gC (.int 1)))) (gBin mulD (gBin ixD (gVar 4) (gC (.int 0))) (gVar 2))) (gAd (gBin mulD (gVar 2) (gBin ixD (gVar 4) (gC (.int 1)))) gAn))) gN))) (R__law_stretch_1 E))
def R__law_stretch_3 (E : Value → D → Prop) : TDS :=
  (gSeq (gSet 4 (gTup (gCo (gBin addD (gC (.int 1)) (gCall intD (gCo (gFn F__law_take E [] (gAp 0 (gAd (gC (.int 3)) gAn))) gN))) (gCo (gBin addD (gC (.int 1)) (gCall intD (gCo (gFn F__law_take E [] (gAp 0 (gAd (gFn F__law_of E [] (gAp 0 (gAd (gL (gLst (gCo (gC (.int 3)) (gCo (gC (.int 12)) (gCo (gC (.int 60)) gN))))) gAn))) gAn))) gN))) gN)))) (R__law_stretch_2 E))
def R__law_stretch_4 (E : Value → D → Prop) : TDS :=
  (gSeq (gSet 3 (gCall intD (gCo (gFn F__law_take E [] (gAp 0 (gAd (gBin addD (gBin mulD (gC (.int 2)) (gVar 2)) (gC (.int 1))) gAn))) gN))) (R__law_stretch_3 E))
def G__law_stretch (E : Value → D → Prop) : TDS :=
  (gSeq (gSet 2 (gCall intD (gCo (gBin addD (gC (.int 1)) (gFn F__law_take E [] (gAp 0 (gAd (gVar 1) gAn)))) gN))) (R__law_stretch_4 E))
@[irreducible] def F__law_stretch : FSp := specOf 2 N__law_stretch G__law_stretch
def N__law_is_in : List Str := ["stretch", "top", "low", "here", "is_low", "there", "is_high", "left", "right"]
def R__law_is_in_0 (E : Value → D → Prop) : TDS :=
  (gRet (gAndV (gOrV (gBin gtD (gVar 7) (gC (.int 0))) (gAndV (gBin eqD (gVar 7) (gC (.int 0))) (gVar 4))) (gOrV (gBin gtD (gVar 8) (gC (.int 0))) (gAndV (gBin eqD (gVar 8) (gC (.int 0))) (gVar 6)))))
def R__law_is_in_1 (E : Value → D → Prop) : TDS :=
  (gSeq (gPar 7 8 (gCo (gBin subD (gBin mulD (gVar 1) (gBin ixD (gVar 3) (gC (.int 1)))) (gBin mulD (gBin ixD (gVar 3) (gC (.int 0))) (gVar 2))) (gCo (gBin subD (gBin mulD (gBin ixD (gVar 5) (gC (.int 0))) (gVar 2)) (gBin mulD (gVar 1) (gBin ixD (gVar 5) (gC (.int 1))))) gN))) (R__law_is_in_0 E))
def G__law_is_in (E : Value → D → Prop) : TDS :=
  (gSeq (gAsg (gVar 0) (gToT 4 (gToC (gTo 3) (gToC (gTo 4) (gToC (gTo 5) (gToC (gTo 6) gTo0)))))) (R__law_is_in_1 E))
@[irreducible] def F__law_is_in : FSp := specOf 3 N__law_is_in G__law_is_in
def N__law_simplest : List Str := ["stretch", "low", "first", "top"]
def R__law_simplest_0 (E : Value → D → Prop) : TDS :=
  (gForC 0 0 (gSeqI (gTup (gCo (gVar 2) (gCo (gBin addD (gVar 2) (gC (.int 1))) gN)))) (gTo 3) (gIfS (gTB (gFn F__law_is_in E [] (gAd (gVar 0) (gAd (gVar 3) (gAd (gVar 1) gAn))))) (gRet (gTup (gCo (gCall intD (gCo (gVar 3) gN)) (gCo (gCall intD (gCo (gVar 1) gN)) gN)))) gNext))
def R__law_simplest_1 (E : Value → D → Prop) : TDS :=
  (gRet (gC .none))
def G__law_simplest (E : Value → D → Prop) : TDS :=
  (gSeq (gForC 0 0 (gRg2 (gC (.int 1)) (gC (.int 4000))) (gTo 1) (gSeq (gSet 2 (gBin fdivD (gBin mulD (gBin ixD (gBin ixD (gVar 0) (gC (.int 0))) (gC (.int 0))) (gVar 1)) (gBin ixD (gBin ixD (gVar 0) (gC (.int 0))) (gC (.int 1))))) (R__law_simplest_0 E))) (R__law_simplest_1 E))
@[irreducible] def F__law_simplest : FSp := specOf 1 N__law_simplest G__law_simplest
def N_with_parents : List Str := ["one"]
def G_with_parents (E : Value → D → Prop) : TDS :=
  (gRet (gTup (gCo (gVar 0) (gCo (gFn F_parents_of E [] (gAd (gVar 0) gAn)) gN))))
@[irreducible] def F_with_parents : FSp := specOf 1 N_with_parents G_with_parents
def N_simplest : List Str := ["stretch"]
def R_simplest_0 (E : Value → D → Prop) : TDS :=
  (gRet (gFn F_with_parents E [] (gAd (gFn F_simplest_of E [] (gAd (gVar 0) gAn)) gAn)))
def G_simplest (E : Value → D → Prop) : TDS :=
  (gSeq (gDrop (gFn F_check_stretch E [] (gAd (gVar 0) gAn))) (R_simplest_0 E))
@[irreducible] def F_simplest : FSp := specOf 1 N_simplest G_simplest
def N__law_is_whole : List Str := ["value"]
def G__law_is_whole (E : Value → D → Prop) : TDS :=
  (gRet (gAndV (gIsi isIntD (gVar 0)) (gNotV (gIsi isBoolD (gVar 0)))))
@[irreducible] def F__law_is_whole : FSp := specOf 1 N__law_is_whole G__law_is_whole
def N__law_is_paper : List Str := ["stretch", "fraction", "paper", "top", "low", "one", "by", "other", "its", "part"]
def R__law_is_paper_0 (E : Value → D → Prop) : TDS :=
  (gRet (gAndV (gNotV (gFn F__law_is_in E [] (gAd (gVar 0) (gAd (gVar 5) (gAd (gVar 6) gAn))))) (gOrV (gBin eqD (gVar 8) (gC (.int 0))) (gNotV (gFn F__law_is_in E [] (gAd (gVar 0) (gAd (gVar 7) (gAd (gVar 8) gAn))))))))
def R__law_is_paper_1 (E : Value → D → Prop) : TDS :=
  (gSeq (gIfS (gOrT (gTB (gBin ltD (gVar 6) (gC (.int 1)))) (gOrT (gTB (gBin neD (gTup (gCo (gBin addD (gVar 5) (gVar 7)) (gCo (gBin addD (gVar 6) (gVar 8)) gN))) (gVar 1))) (gTB (gBin neD (gBin subD (gBin mulD (gVar 7) (gVar 6)) (gBin mulD (gVar 5) (gVar 8))) (gC (.int 1)))))) (gRet (gC (.bool false))) gNext) (R__law_is_paper_0 E))
def R__law_is_paper_2 (E : Value → D → Prop) : TDS :=
  (gSeq (gAsg (gVar 2) (gToT 2 (gToC (gToT 2 (gToC (gTo 5) (gToC (gTo 6) gTo0))) (gToC (gToT 2 (gToC (gTo 7) (gToC (gTo 8) gTo0))) gTo0)))) (R__law_is_paper_1 E))
def R__law_is_paper_3 (E : Value → D → Prop) : TDS :=
  (gSeq (gForC 0 0 (gSeqI (gVar 2)) (gTo 5) (gIfS (gOrT (gNotT (gTB (gIsi isTupD (gVar 5)))) (gOrT (gTB (gBin neD (gCall lenD (gCo (gVar 5) gN)) (gC (.int 2)))) (gNotT (gTB (gCall allD (gCo (gL (gLcC (0 + 0) 0 [9] (gSeqI (gVar 5)) (gTo 9) gYes (gAndV (gFn F__law_is_whole NoE [] (gAd (gVar 9) gAn)) (gBin geD (gVar 9) (gC (.int 0)))))) gN)))))) (gRet (gC (.bool false))) gNext)) (R__law_is_paper_2 E))
def R__law_is_paper_4 (E : Value → D → Prop) : TDS :=
  (gSeq (gIfS (gOrT (gNotT (gTB (gIsi isTupD (gVar 2)))) (gTB (gBin neD (gCall lenD (gCo (gVar 2) gN)) (gC (.int 2))))) (gRet (gC (.bool false))) gNext) (R__law_is_paper_3 E))
def R__law_is_paper_5 (E : Value → D → Prop) : TDS :=
  (gSeq (gIfS (gTB (gBin eqD (gVar 4) (gC (.int 1)))) (gRet (gAndV (gBin eqD (gVar 2) (gTup gN)) (gAndV (gIsi isTupD (gVar 2)) (gNotV (gFn F__law_is_in E [] (gAd (gVar 0) (gAd (gBin subD (gVar 3) (gC (.int 1))) (gAd (gC (.int 1)) gAn)))))))) gNext) (R__law_is_paper_4 E))
def R__law_is_paper_6 (E : Value → D → Prop) : TDS :=
  (gSeq (gIfS (gOrT (gTB (gBin ltD (gVar 4) (gC (.int 1)))) (gOrT (gTB (gBin neD (gFn F__law_cut E [] (gAd (gVar 3) (gAd (gVar 4) gAn))) (gVar 1))) (gNotT (gTB (gFn F__law_is_in E [] (gAd (gVar 0) (gAd (gVar 3) (gAd (gVar 4) gAn)))))))) (gRet (gC (.bool false))) gNext) (R__law_is_paper_5 E))
def R__law_is_paper_7 (E : Value → D → Prop) : TDS :=
  (gSeq (gAsg (gVar 1) (gToT 2 (gToC (gTo 3) (gToC (gTo 4) gTo0)))) (R__law_is_paper_6 E))
def G__law_is_paper (E : Value → D → Prop) : TDS :=
  (gSeq (gIfS (gOrT (gNotT (gTB (gIsi isTupD (gVar 1)))) (gOrT (gTB (gBin neD (gCall lenD (gCo (gVar 1) gN)) (gC (.int 2)))) (gNotT (gTB (gCall allD (gCo (gL (gLcC (0 + 0) 0 [9] (gSeqI (gVar 1)) (gTo 9) gYes (gFn F__law_is_whole NoE [] (gAd (gVar 9) gAn)))) gN)))))) (gRet (gC (.bool false))) gNext) (R__law_is_paper_7 E))
@[irreducible] def F__law_is_paper : FSp := specOf 3 N__law_is_paper G__law_is_paper
def N__law_is_shown : List Str := ["stretch", "value"]
def G__law_is_shown (E : Value → D → Prop) : TDS :=
  (gRet (gAndV (gIsi isTupD (gVar 1)) (gAndV (gBin eqD (gCall lenD (gCo (gVar 1) gN)) (gC (.int 2))) (gFn F__law_is_paper E [] (gAd (gVar 0) (gAd (gBin ixD (gVar 1) (gC (.int 0))) (gAd (gBin ixD (gVar 1) (gC (.int 1))) gAn)))))))
@[irreducible] def F__law_is_shown : FSp := specOf 2 N__law_is_shown G__law_is_shown
def N__law_is_edge : List Str := ["stretch", "value", "part"]
def R__law_is_edge_0 (E : Value → D → Prop) : TDS :=
  (gRet (gAndV (gBin gtD (gBin ixD (gVar 1) (gC (.int 0))) (gC (.int 0))) (gFn F__law_is_paper E [] (gAd (gVar 0) (gAd (gTup (gCo (gBin ixD (gVar 1) (gC (.int 1))) (gCo (gBin ixD (gVar 1) (gC (.int 0))) gN))) (gAd (gBin ixD (gVar 1) (gC (.int 2))) gAn))))))
def G__law_is_edge (E : Value → D → Prop) : TDS :=
  (gSeq (gIfS (gOrT (gNotT (gTB (gIsi isTupD (gVar 1)))) (gOrT (gTB (gBin neD (gCall lenD (gCo (gVar 1) gN)) (gC (.int 3)))) (gNotT (gTB (gCall allD (gCo (gL (gLcC (0 + 0) 0 [2] (gSeqI (gSl slD (gVar 1) gNo (gPart (gC (.int 2))))) (gTo 2) gYes (gFn F__law_is_whole NoE [] (gAd (gVar 2) gAn)))) gN)))))) (gRet (gC (.bool false))) gNext) (R__law_is_edge_0 E))
@[irreducible] def F__law_is_edge : FSp := specOf 2 N__law_is_edge G__law_is_edge
def N__law_odd : List Str := ["pot", "some"]
def R__law_odd_0 (E : Value → D → Prop) : TDS :=
  (gFrz 1 (gRet (gFn F__law_of E [] (gAp 0 (gAd (gVar 1) gAn)))))
def R__law_odd_1 (E : Value → D → Prop) : TDS :=
  (gSeq (gExt 1 (gL (gLst (gCo (gTup (gCo (gC (.str "a")) gN)) (gCo (gTup (gCo (gC (.str "a")) (gCo (gC (.str "b")) gN))) (gCo (gTup (gCo (gC (.int 1)) (gCo (gC (.int 2)) gN))) (gCo (gTup (gCo (gC .none) gN)) (gCo (gTup (gCo (gC (.str "a")) (gCo (gC (.str "b")) (gCo (gC (.int 1)) gN)))) (gCo (gBin powD (gC (.int 10)) (gC (.int 11))) gN))))))))) (R__law_odd_0 E))
def G__law_odd (E : Value → D → Prop) : TDS :=
  (gSeq (gSetF 1 (gLst (gCo (gC .none) (gCo (gC (.bool true)) (gCo (gC (.bool false)) (gCo (gC (.int 0)) (gCo (gC (.int 1)) (gCo (gNeg (gC (.int 1))) (gCo (gC (.int 2)) (gCo (gC (.int 9999)) (gCo (gC (.int 10000)) (gCo (gC (.str "")) (gCo (gC (.str "a")) (gCo (gC (.str "A")) (gCo (gC (.str "bars")) (gCo (gC (.str "row in")) (gCo (gTup gN) (gCo (gL (gLst gN)) (gCo gDic0 (gCo (gTup (gCo (gC (.int 0)) gN)) (gCo (gTup (gCo (gTup gN) gN)) (gCo (gL (gLst (gCo (gC (.int 0)) gN))) gN)))))))))))))))))))))) (R__law_odd_1 E))
@[irreducible] def F__law_odd : FSp := specOf 1 N__law_odd G__law_odd
def N__law_bent : List Str := ["pot", "value", "at", "some"]
def R__law_bent_0 (Fr : FSp) (E : Value → D → Prop) : TDS :=
  (gRet (gBin addD (gBin addD (gSl slD (gVar 1) gNo (gPart (gVar 2))) (gTup (gCo (gFn Fr E [] (gAp 0 (gAd (gBin ixD (gVar 1) (gVar 2)) gAn))) gN))) (gSl slD (gVar 1) (gPart (gBin addD (gVar 2) (gC (.int 1)))) gNo)))
def R__law_bent_1 (Fr : FSp) (E : Value → D → Prop) : TDS :=
  (gRet (gFn F__law_of E [] (gAp 0 (gAd (gVar 3) gAn))))
def R__law_bent_2 (Fr : FSp) (E : Value → D → Prop) : TDS :=
  (gRet (gFn F__law_odd E [] (gAp 0 gAn)))
def R__law_bent_3 (Fr : FSp) (E : Value → D → Prop) : TDS :=
  (gSeq (gIfS (gTB (gIsi isStrD (gVar 1))) (gRet (gFn F__law_of E [] (gAp 0 (gAd (gL (gLst (gCo gOff (gCo (gSl slD (gVar 1) gNo (gPart (gNeg (gC (.int 1))))) (gCo gOff (gCo (gC .none) (gCo (gC (.str "city")) (gCo (gC (.str "told")) (gCo (gC (.str "7")) (gCo (gL (gLst (gCo (gVar 1) gN))) (gCo (gC (.int 0)) gN))))))))))) gAn)))) gNext) (R__law_bent_2 Fr E))
def R__law_bent_4 (Fr : FSp) (E : Value → D → Prop) : TDS :=
  (gSeq (gIfS (gAndT (gTB (gIsi isIntD (gVar 1))) (gNotT (gTB (gIsi isBoolD (gVar 1))))) (gRet (gFn F__law_of E [] (gAp 0 (gAd (gL (gLst (gCo (gBin addD (gVar 1) (gC (.int 1))) (gCo (gBin subD (gVar 1) (gC (.int 1))) (gCo (gBin eqD (gVar 1) (gC (.int 1))) (gCo (gCall strD (gCo (gVar 1) gN)) (gCo (gC .none) (gCo (gC (.int 0)) (gCo (gNeg (gVar 1)) (gCo (gBin addD (gVar 1) (gC (.int 3))) gN)))))))))) gAn)))) gNext) (R__law_bent_3 Fr E))
def R__law_bent_5 (Fr : FSp) (E : Value → D → Prop) : TDS :=
  (gSeq (gIfS (gTB (gIsi isTupD (gVar 1))) (gSeq (gSet 3 (gL (gLst (gCo (gL (gCallF listD (gCo (gVar 1) gN))) (gCo (gSl slD (gVar 1) (gPart (gC (.int 1))) gNo) (gCo (gSl slD (gVar 1) gNo (gPart (gNeg (gC (.int 1))))) (gCo (gBin addD (gVar 1) (gSl slD (gVar 1) (gPart (gNeg (gC (.int 1)))) gNo)) (gCo (gRev (gVar 1)) (gCo (gTup gN) (gCo (gC .none) (gCo (gBin addD (gVar 1) (gTup (gCo (gC (.int 0)) gN))) gN))))))))))) (R__law_bent_1 Fr E)) gNext) (R__law_bent_4 Fr E))
def G__law_bent (Fr : FSp) (E : Value → D → Prop) : TDS :=
  (gSeq (gIfS (gAndT (gTB (gIsi isTupD (gVar 1))) (gAndT (gTB (gBin neD (gVar 1) (gTup gN))) (gTB (gBin gtD (gFn F__law_take E [] (gAp 0 (gAd (gC (.int 6)) gAn))) (gC (.int 0)))))) (gSeq (gSet 2 (gFn F__law_take E [] (gAp 0 (gAd (gCall lenD (gCo (gVar 1) gN)) gAn)))) (R__law_bent_0 Fr E)) gNext) (R__law_bent_5 Fr E))
def V__law_bent : Nat → FSp
  | 0 => fun _ _ _ => False
  | n + 1 => specOf 2 N__law_bent (G__law_bent (V__law_bent n))
@[irreducible] def F__law_bent : FSp := V__law_bent 4
def N_are_parents : List Str := ["value", "one", "part"]
def R_are_parents_0 (E : Value → D → Prop) : TDS :=
  (gRet (gBin gtD (gBin ixD (gBin ixD (gVar 0) (gC (.int 0))) (gC (.int 1))) (gC (.int 0))))
def R_are_parents_1 (E : Value → D → Prop) : TDS :=
  (gSeq (gForC 0 0 (gSeqI (gVar 0)) (gTo 1) (gIfS (gOrT (gNotT (gTB (gIsi isTupD (gVar 1)))) (gOrT (gTB (gBin neD (gCall lenD (gCo (gVar 1) gN)) (gC (.int 2)))) (gNotT (gTB (gCall allD (gCo (gL (gLcC (0 + 0) 0 [2] (gSeqI (gVar 1)) (gTo 2) gYes (gAndV (gFn F_is_integer NoE [] (gAd (gVar 2) gAn)) (gBin geD (gVar 2) (gC (.int 0)))))) gN)))))) (gRet (gC (.bool false))) gNext)) (R_are_parents_0 E))
def G_are_parents (E : Value → D → Prop) : TDS :=
  (gSeq (gIfS (gOrT (gNotT (gTB (gIsi isTupD (gVar 0)))) (gTB (gBin neD (gCall lenD (gCo (gVar 0) gN)) (gC (.int 2))))) (gRet (gC (.bool false))) gNext) (R_are_parents_1 E))
@[irreducible] def F_are_parents : FSp := specOf 1 N_are_parents G_are_parents
def N_is_simplest : List Str := ["stretch", "value", "top", "low", "paper", "one", "by", "other", "its"]
def R_is_simplest_0 (E : Value → D → Prop) : TDS :=
  (gRet (gAndV (gNotV (gFn F_is_inside E [] (gAd (gVar 0) (gAd (gTup (gCo (gVar 5) (gCo (gVar 6) gN))) gAn)))) (gOrV (gBin eqD (gVar 8) (gC (.int 0))) (gNotV (gFn F_is_inside E [] (gAd (gVar 0) (gAd (gTup (gCo (gVar 7) (gCo (gVar 8) gN))) gAn)))))))
def R_is_simplest_1 (E : Value → D → Prop) : TDS :=
  (gSeq (gIfS (gOrT (gTB (gBin neD (gTup (gCo (gBin addD (gVar 5) (gVar 7)) (gCo (gBin addD (gVar 6) (gVar 8)) gN))) (gTup (gCo (gVar 2) (gCo (gVar 3) gN))))) (gTB (gBin neD (gBin subD (gBin mulD (gVar 7) (gVar 6)) (gBin mulD (gVar 5) (gVar 8))) (gC (.int 1))))) (gRet (gC (.bool false))) gNext) (R_is_simplest_0 E))
def R_is_simplest_2 (E : Value → D → Prop) : TDS :=
  (gSeq (gAsg (gVar 4) (gToT 2 (gToC (gToT 2 (gToC (gTo 5) (gToC (gTo 6) gTo0))) (gToC (gToT 2 (gToC (gTo 7) (gToC (gTo 8) gTo0))) gTo0)))) (R_is_simplest_1 E))
def R_is_simplest_3 (E : Value → D → Prop) : TDS :=
  (gSeq (gIfS (gNotT (gTB (gFn F_are_parents E [] (gAd (gVar 4) gAn)))) (gRet (gC (.bool false))) gNext) (R_is_simplest_2 E))
def R_is_simplest_4 (E : Value → D → Prop) : TDS :=
  (gSeq (gIfS (gTB (gBin eqD (gVar 3) (gC (.int 1)))) (gRet (gAndV (gBin eqD (gVar 4) (gTup gN)) (gAndV (gIsi isTupD (gVar 4)) (gNotV (gFn F_is_inside E [] (gAd (gVar 0) (gAd (gTup (gCo (gBin subD (gVar 2) (gC (.int 1))) (gCo (gC (.int 1)) gN))) gAn))))))) gNext) (R_is_simplest_3 E))
def R_is_simplest_5 (E : Value → D → Prop) : TDS :=
  (gSeq (gAsg (gVar 1) (gToT 2 (gToC (gToT 2 (gToC (gTo 2) (gToC (gTo 3) gTo0))) (gToC (gTo 4) gTo0)))) (R_is_simplest_4 E))
def G_is_simplest (E : Value → D → Prop) : TDS :=
  (gSeq (gIfS (gOrT (gNotT (gTB (gIsi isTupD (gVar 1)))) (gOrT (gTB (gBin neD (gCall lenD (gCo (gVar 1) gN)) (gC (.int 2)))) (gOrT (gNotT (gTB (gFn F_is_fraction E [] (gAd (gBin ixD (gVar 1) (gC (.int 0))) gAn)))) (gNotT (gTB (gFn F_is_inside E [] (gAd (gVar 0) (gAd (gBin ixD (gVar 1) (gC (.int 0))) gAn)))))))) (gRet (gC (.bool false))) gNext) (R_is_simplest_5 E))
@[irreducible] def F_is_simplest : FSp := specOf 2 N_is_simplest G_is_simplest
def N_shows_simplest : List Str := ["stretch", "value"]
def R_shows_simplest_0 (E : Value → D → Prop) : TDS :=
  (gRet (gFn F_is_simplest E [] (gAd (gVar 0) (gAd (gVar 1) gAn))))
def G_shows_simplest (E : Value → D → Prop) : TDS :=
  (gSeq (gDrop (gFn F_check_stretch E [] (gAd (gVar 0) gAn))) (R_shows_simplest_0 E))
@[irreducible] def F_shows_simplest : FSp := specOf 2 N_shows_simplest G_shows_simplest
def N_shows_edge_size : List Str := ["stretch", "value"]
def R_shows_edge_size_0 (E : Value → D → Prop) : TDS :=
  (gRet (gFn F_is_simplest E [] (gAd (gVar 0) (gAd (gTup (gCo (gTup (gCo (gBin ixD (gVar 1) (gC (.int 1))) (gCo (gBin ixD (gVar 1) (gC (.int 0))) gN))) (gCo (gBin ixD (gVar 1) (gC (.int 2))) gN))) gAn))))
def R_shows_edge_size_1 (E : Value → D → Prop) : TDS :=
  (gSeq (gIfS (gOrT (gNotT (gTB (gIsi isTupD (gVar 1)))) (gOrT (gTB (gBin neD (gCall lenD (gCo (gVar 1) gN)) (gC (.int 3)))) (gOrT (gNotT (gTB (gFn F_is_integer E [] (gAd (gBin ixD (gVar 1) (gC (.int 0))) gAn)))) (gNotT (gTB (gFn F_is_integer E [] (gAd (gBin ixD (gVar 1) (gC (.int 1))) gAn))))))) (gRet (gC (.bool false))) gNext) (R_shows_edge_size_0 E))
def G_shows_edge_size (E : Value → D → Prop) : TDS :=
  (gSeq (gDrop (gFn F_check_stretch E [] (gAd (gVar 0) gAn))) (R_shows_edge_size_1 E))
@[irreducible] def F_shows_edge_size : FSp := specOf 2 N_shows_edge_size G_shows_edge_size
def N__law_right : List Str := ["pot", "stretch", "far", "due", "told", "edge", "values", "value", "lap"]
def R__law_right_0 (E : Value → D → Prop) : TDS :=
  (gRet (gC (.bool true)))
def R__law_right_1 (E : Value → D → Prop) : TDS :=
  (gSeq (gForC 0 0 (gSeqI (gBin addD (gVarB 6) (gL (gLcC (0 + 24) 120 [8] (gRg1 (gC (.int 5))) (gTo 8) gYes (gFn F__law_bent NoE [] (gAp 0 (gAd (gVar 5) gAn))))))) (gTo 7) (gIfS (gTB (gBin neD (gCall reprD (gCo (gFn F_shows_edge_size E [] (gAd (gVar 1) (gAd (gVar 7) gAn))) gN)) (gCall reprD (gCo (gFn F__law_is_edge E [] (gAd (gVar 1) (gAd (gVar 7) gAn))) gN)))) (gRet (gC (.bool false))) gNext)) (R__law_right_0 E))
def R__law_right_2 (E : Value → D → Prop) : TDS :=
  (gSeq (gExt 6 (gL (gLst (gCo (gTup (gCo (gBin ixD (gVar 5) (gC (.int 0))) (gCo (gBin ixD (gVar 5) (gC (.int 1))) (gCo (gTup gN) gN)))) (gCo (gBin addD (gTup (gCo (gBin addD (gBin ixD (gVar 5) (gC (.int 0))) (gC (.int 1))) gN)) (gSl slD (gVar 5) (gPart (gC (.int 1))) gNo)) (gCo (gFn F_edge_size E [] (gAd (gVar 2) gAn)) (gCo (gC .none) gN))))))) (R__law_right_1 E))
def R__law_right_3 (E : Value → D → Prop) : TDS :=
  (gSeq (gSetF 6 (gLst (gCo (gVar 5) (gCo (gRev (gVar 5)) (gCo (gL (gCallF listD (gCo (gVar 5) gN))) (gCo (gSl slD (gVar 5) gNo (gPart (gC (.int 2)))) gN)))))) (R__law_right_2 E))
def R__law_right_4 (E : Value → D → Prop) : TDS :=
  (gSeq (gFrz 6 (gForC 0 0 (gSeqI (gVar 6)) (gTo 7) (gIfS (gTB (gBin neD (gCall reprD (gCo (gFn F_shows_simplest E [] (gAd (gVar 1) (gAd (gVar 7) gAn))) gN)) (gCall reprD (gCo (gFn F__law_is_shown E [] (gAd (gVar 1) (gAd (gVar 7) gAn))) gN)))) (gRet (gC (.bool false))) gNext))) (R__law_right_3 E))
def R__law_right_5 (E : Value → D → Prop) : TDS :=
  (gSeq (gExt 6 (gBin addD (gL (gLcC (0 + 24) 144 [8] (gRg1 (gC (.int 6))) (gTo 8) gYes (gFn F__law_bent NoE [] (gAp 0 (gAd (gVar 4) gAn))))) (gL (gLst (gCo (gTup (gCo (gVar 3) (gCo (gRev (gBin ixD (gVar 4) (gC (.int 1)))) gN))) gN))))) (R__law_right_4 E))
def R__law_right_6 (E : Value → D → Prop) : TDS :=
  (gSeq (gExt 6 (gL (gLst (gCo (gTup (gCo (gTup (gCo (gBin addD (gBin ixD (gVar 3) (gC (.int 0))) (gC (.int 1))) (gCo (gBin ixD (gVar 3) (gC (.int 1))) gN))) (gCo (gBin ixD (gVar 4) (gC (.int 1))) gN))) (gCo (gTup (gCo (gTup (gCo (gBin mulD (gC (.int 2)) (gBin ixD (gVar 3) (gC (.int 0)))) (gCo (gBin mulD (gC (.int 2)) (gBin ixD (gVar 3) (gC (.int 1)))) gN))) (gCo (gBin ixD (gVar 4) (gC (.int 1))) gN))) (gCo (gFn F__law_odd E [] (gAp 0 gAn)) gN)))))) (R__law_right_5 E))
def R__law_right_7 (E : Value → D → Prop) : TDS :=
  (gSeq (gExt 6 (gL (gLst (gCo (gTup (gCo (gBin ixD (gVar 4) (gC (.int 0))) (gCo (gTup gN) gN))) (gCo (gFn F_simplest E [] (gAd (gVar 2) gAn)) (gCo (gTup (gCo (gVar 3) (gCo (gTup (gCo (gTup (gCo (gC (.int 0)) (gCo (gC (.int 1)) gN))) (gCo (gTup (gCo (gC (.int 1)) (gCo (gC (.int 0)) gN))) gN))) gN))) (gCo (gC .none) gN))))))) (R__law_right_6 E))
def R__law_right_8 (E : Value → D → Prop) : TDS :=
  (gSeq (gSetF 6 (gLst (gCo (gVar 4) (gCo (gRev (gVar 4)) (gCo (gL (gCallF listD (gCo (gVar 4) gN))) (gCo (gSl slD (gVar 4) gNo (gPart (gC (.int 1)))) (gCo (gBin addD (gVar 4) (gTup (gCo (gTup gN) gN))) gN))))))) (R__law_right_7 E))
def R__law_right_9 (E : Value → D → Prop) : TDS :=
  (gSeq (gIfS (gOrT (gTB (gBin neD (gCall reprD (gCo (gVar 5) gN)) (gCall reprD (gCo (gBin addD (gTup (gCo (gBin ixD (gVar 3) (gC (.int 1))) (gCo (gBin ixD (gVar 3) (gC (.int 0))) gN))) (gSl slD (gVar 5) (gPart (gC (.int 2))) gNo)) gN)))) (gNotT (gTB (gFn F__law_is_edge E [] (gAd (gVar 1) (gAd (gVar 5) gAn)))))) (gRet (gC (.bool false))) gNext) (R__law_right_8 E))
def R__law_right_10 (E : Value → D → Prop) : TDS :=
  (gSeq (gSet 5 (gFn F_edge_size E [] (gAd (gVar 1) gAn))) (R__law_right_9 E))
def R__law_right_11 (E : Value → D → Prop) : TDS :=
  (gSeq (gIfS (gOrT (gTB (gBin neD (gCall reprD (gCo (gBin ixD (gVar 4) (gC (.int 0))) gN)) (gCall reprD (gCo (gVar 3) gN)))) (gNotT (gTB (gFn F__law_is_shown E [] (gAd (gVar 1) (gAd (gVar 4) gAn)))))) (gRet (gC (.bool false))) gNext) (R__law_right_10 E))
def R__law_right_12 (E : Value → D → Prop) : TDS :=
  (gSeq (gAsg (gTup (gCo (gFn F__law_simplest E [] (gAd (gVar 1) gAn)) (gCo (gFn F_simplest E [] (gAd (gVar 1) gAn)) gN))) (gToT 2 (gToC (gTo 3) (gToC (gTo 4) gTo0)))) (R__law_right_11 E))
def G__law_right (E : Value → D → Prop) : TDS :=
  (gSeq (gPar 1 2 (gCo (gFn F__law_stretch E [] (gAp 0 (gAd (gC (.int 40)) gAn))) (gCo (gFn F__law_stretch E [] (gAp 0 (gAd (gC (.int 9)) gAn))) gN))) (R__law_right_12 E))
@[irreducible] def F__law_right : FSp := specOf 1 N__law_right G__law_right
def N_law : List Str := ["script", "place", "pot", "lap"]
def R_law_0 (E : Value → D → Prop) : TDS :=
  (gRet (gC (.bool true)))
def G_law (E : Value → D → Prop) : TDS :=
  (gSeq (gForC 0 0 (gSeqI (gFn F__law_cells E [] (gAs 0 (gAd (gC (.int 3)) gAn)))) (gTo 1) (gPot F__law_pot 2 0 1 (gIfS (gNotT (gTB (gCall allD (gCo (gL (gLcC (0 + 281) 1686 [3] (gRg1 (gC (.int 6))) (gTo 3) gYes (gFn F__law_right NoE [] (gAp 2 gAn)))) gN)))) (gRet (gC (.bool false))) gNext))) (R_law_0 E))
@[irreducible] def F_law : FSp := specOf 1 N_law G_law
end K83
/-! K83n: fractions between two ends: the simplest one. -/
namespace K83
theorem pos_of {b x : Int} (hb : 0 < b) (h : 0 < b * x) : 0 < x := by
  by_cases z : 0 < x
  · exact z
  · have := Int.mul_nonneg (Int.le_of_lt hb) (show 0 ≤ -x by omega)
    rw [Int.mul_neg] at this
    omega
theorem nonneg_of {b x : Int} (hb : 0 < b) (h : 0 ≤ b * x) : 0 ≤ x := by
  by_cases z : 0 ≤ x
  · exact z
  · have := Int.mul_pos hb (show 0 < -x by omega)
    rw [Int.mul_neg] at this
    omega
theorem le_mul {x q : Int} (hx : 0 ≤ x) (hq : 1 ≤ q) : x ≤ x * q := by
  have := Int.mul_nonneg hx (show 0 ≤ q - 1 by omega)
  rw [Int.mul_sub, Int.mul_one] at this
  omega
/-- ends a / b and hi, whether they are in -/
structure Sp where
  a : Int
  b : Int
  il : Bool
  hi : Option (Int × Int)
  ih : Bool
def Low (S : Sp) (p q : Int) : Prop := S.a * q < p * S.b ∨ (S.il = true ∧ S.a * q = p * S.b)
def Hig (S : Sp) (p q : Int) : Prop := ∀ c d, S.hi = some (c, d) → p * d < c * q ∨ (S.ih = true ∧ p * d = c * q)
def In (S : Sp) (p q : Int) : Prop := Low S p q ∧ Hig S p q
structure Good (S : Sp) (P Q : Int) : Prop where
  a0 : 0 ≤ S.a
  b0 : 1 ≤ S.b
  g : Nat.gcd S.a.natAbs S.b.natAbs = 1
  hi : ∀ c d, S.hi = some (c, d) → 1 ≤ d ∧ Nat.gcd c.natAbs d.natAbs = 1
  q0 : 1 ≤ Q
  w : In S P Q
def wh (S : Sp) : Int := S.a / S.b
def fi (S : Sp) : Int := if S.il = true ∧ S.b = 1 then S.a / S.b else S.a / S.b + 1
def nx (S : Sp) (c d : Int) : Sp := { a := d, b := c - wh S * d, il := S.ih, hi := if S.a % S.b = 0 then none else some (S.b, S.a % S.b), ih := S.il }
section
variable {S : Sp} {P Q p q c d u v : Int}
theorem split_a (S : Sp) : S.a = S.b * wh S + S.a % S.b := (Int.mul_ediv_add_emod S.a S.b).symm
theorem rem0 (h : 1 ≤ S.b) : 0 ≤ S.a % S.b ∧ S.a % S.b < S.b := ⟨Int.emod_nonneg _ (by omega), Int.emod_lt_of_pos _ (by omega)⟩
theorem wh0 (G : Good S P Q) : 0 ≤ wh S := Int.ediv_nonneg G.a0 (by have := G.b0; omega)
theorem b_one (G : Good S P Q) (h : S.a % S.b = 0) : S.b = 1 := by
  have h1 : S.b.natAbs ∣ S.a.natAbs := Int.natAbs_dvd_natAbs.mpr (Int.dvd_of_emod_eq_zero h)
  have h2 := Nat.gcd_eq_right h1
  rw [G.g] at h2
  have := G.b0
  omega
/-- nothing lies below the whole part -/
theorem low_wh (G : Good S P Q) (h : Low S p q) (hq : 1 ≤ q) : wh S * q ≤ p := by
  have e := split_a S
  have ⟨r0, _⟩ := rem0 G.b0
  have r1 := Int.mul_nonneg r0 (show 0 ≤ q by omega)
  have hl : S.a * q ≤ p * S.b := by
    rcases h with h | ⟨_, h⟩ <;> omega
  have : 0 ≤ S.b * (p - wh S * q) := by
    rw [e] at hl
    grind
  have := nonneg_of (by have := G.b0; omega) this
  omega
/-- at the whole part itself -/
theorem at_wh (G : Good S P Q) (h : Low S p q) (hq : 1 ≤ q) (hp : p = wh S * q) : S.b = 1 ∧ S.il = true := by
  have e := split_a S
  have ⟨r0, _⟩ := rem0 G.b0
  have hl : S.a * q ≤ p * S.b := by
    rcases h with h | ⟨_, h⟩ <;> omega
  have r2 : S.a % S.b * q ≤ 0 := by
    rw [e, hp] at hl
    grind
  have z : S.a % S.b = 0 := by
    by_cases z : S.a % S.b = 0
    · exact z
    · have := Int.mul_pos (show 0 < S.a % S.b by omega) (show 0 < q by omega)
      omega
  refine ⟨b_one G z, ?_⟩
  rcases h with h | ⟨h, _⟩
  · rw [z] at e
    rw [hp] at h
    have : S.a * q = wh S * q * S.b := by
      rw [e]
      grind
    omega
  · exact h
theorem fi_le (G : Good S P Q) (h : Low S p q) (hq : 1 ≤ q) : fi S ≤ p := by
  have w0 := wh0 G
  have h1 := low_wh G h hq
  have h2 := le_mul w0 hq
  unfold fi
  split
  · show wh S ≤ p
    omega
  · rename_i n
    show wh S + 1 ≤ p
    by_cases e : p = wh S * q
    · have := at_wh G h hq e
      exact absurd ⟨this.2, this.1⟩ n
    · omega
theorem low_fi (G : Good S P Q) : Low S (fi S) 1 := by
  have e := split_a S
  have ⟨_, r1⟩ := rem0 G.b0
  unfold Low fi
  split
  · rename_i h
    refine .inr ⟨h.1, ?_⟩
    show S.a * 1 = wh S * S.b
    have : S.a % S.b = 0 := by
      rw [h.2]
      exact Int.emod_one _
    rw [this] at e
    grind
  · refine .inl ?_
    show S.a * 1 < (wh S + 1) * S.b
    grind
/-- if the first whole number is not in, it is the one above the whole part -/
theorem fi_out (G : Good S P Q) (h : ¬ In S (fi S) 1) : fi S = wh S + 1 ∧ ∃ c d, S.hi = some (c, d) ∧ c ≤ (wh S + 1) * d := by
  have lf := low_fi G
  have nh : ¬ Hig S (fi S) 1 := fun z => h ⟨lf, z⟩
  have hsome : ∃ c d, S.hi = some (c, d) ∧ c ≤ fi S * d := by
    cases e : S.hi with
    | none => exact absurd (fun c d z => by rw [e] at z; cases z) nh
    | some cd =>
      obtain ⟨c, d⟩ := cd
      refine ⟨c, d, rfl, ?_⟩
      by_cases z : c ≤ fi S * d
      · exact z
      · exfalso
        refine nh fun c' d' z' => ?_
        rw [e] at z'
        cases z'
        exact .inl (by omega)
  have ef : fi S = wh S + 1 := by
    unfold fi
    split
    · rename_i hh
      exfalso
      have efw : fi S = wh S := by
        unfold fi
        rw [if_pos hh]
        rfl
      obtain ⟨c, d, e, hcd⟩ := hsome
      have hw := G.w.2 c d e
      have lw := low_wh G G.w.1 G.q0
      rw [efw] at hcd
      have d0 := (G.hi c d e).1
      have m1 := Int.mul_nonneg (show 0 ≤ P - wh S * Q by omega) (show 0 ≤ d by omega)
      have m2 := Int.mul_le_mul_of_nonneg_right hcd (show 0 ≤ Q by have := G.q0; omega)
      refine nh fun c' d' z' => ?_
      rw [e] at z'
      cases z'
      rw [efw]
      have key : P * d = c * Q := by
        rcases hw with hw | ⟨_, hw⟩
        · exfalso
          grind
        · exact hw
      refine .inr ⟨?_, ?_⟩
      · rcases hw with hw | ⟨hw, _⟩
        · omega
        · exact hw
      · have z : 0 ≤ Q * (c - wh S * d) := by grind
        have := nonneg_of (by have := G.q0; omega) z
        omega
    · rfl
  obtain ⟨c, d, e, hcd⟩ := hsome
  exact ⟨ef, c, d, e, by rwa [ef] at hcd⟩
/-- what is in the stretch, seen behind the whole part -/
theorem above_wh (G : Good S P Q) (h : ¬ In S (fi S) 1) (hi : In S p q) (hq : 1 ≤ q) : 1 ≤ p - wh S * q := by
  have h1 := low_wh G hi.1 hq
  by_cases e : p = wh S * q
  · obtain ⟨b1, il⟩ := at_wh G hi.1 hq e
    have ef := (fi_out G h).1
    unfold fi at ef
    rw [if_pos ⟨il, b1⟩] at ef
    unfold wh at ef
    omega
  · omega
theorem nx_in (G : Good S P Q) (e : S.hi = some (c, d)) (hi : In S p q) (hq : 1 ≤ q) (hv : 1 ≤ p - wh S * q) : In (nx S c d) q (p - wh S * q) := by
  have e1 := split_a S
  refine ⟨?_, fun c' d' z => ?_⟩
  · show d * (p - wh S * q) < q * (c - wh S * d) ∨ (S.ih = true ∧ d * (p - wh S * q) = q * (c - wh S * d))
    rcases hi.2 c d e with h | ⟨h1, h2⟩
    · exact .inl (by grind)
    · exact .inr ⟨h1, by grind⟩
  · have z : (if S.a % S.b = 0 then none else some (S.b, S.a % S.b)) = some (c', d') := z
    split at z
    · cases z
    · cases z
      show q * (S.a % S.b) < S.b * (p - wh S * q) ∨ (S.il = true ∧ q * (S.a % S.b) = S.b * (p - wh S * q))
      rcases hi.1 with h | ⟨h1, h2⟩
      · exact .inl (by rw [e1] at h; grind)
      · exact .inr ⟨h1, by rw [e1] at h2; grind⟩
theorem in_nx (G : Good S P Q) (e : S.hi = some (c, d)) (hi : In (nx S c d) u v) (hu : 1 ≤ u) (hv : 1 ≤ v) : In S (wh S * u + v) u := by
  have e1 := split_a S
  refine ⟨?_, fun c' d' z => ?_⟩
  · by_cases z : S.a % S.b = 0
    · have m := Int.mul_pos (show 0 < v by omega) (show 0 < S.b by have := G.b0; omega)
      refine .inl ?_
      rw [z] at e1
      rw [e1]
      grind
    · have := hi.2 S.b (S.a % S.b) (by show (if S.a % S.b = 0 then none else some (S.b, S.a % S.b)) = _; rw [if_neg z])
      rcases this with h | ⟨h1, h2⟩
      · exact .inl (by rw [e1]; grind)
      · exact .inr ⟨h1, by rw [e1]; grind⟩
  · rw [e] at z
    cases z
    have h : d * v < u * (c - wh S * d) ∨ (S.ih = true ∧ d * v = u * (c - wh S * d)) := hi.1
    rcases h with h | ⟨h1, h2⟩
    · exact .inl (by grind)
    · exact .inr ⟨h1, by grind⟩
theorem nx_b (G : Good S P Q) (h : ¬ In S (fi S) 1) (e : S.hi = some (c, d)) : 1 ≤ c - wh S * d := by
  have v := above_wh G h G.w G.q0
  have d0 := (G.hi c d e).1
  have hh : P * d ≤ c * Q := by
    rcases G.w.2 c d e with z | ⟨_, z⟩ <;> omega
  have m := Int.mul_pos (show 0 < P - wh S * Q by omega) (show 0 < d by omega)
  have : 0 < Q * (c - wh S * d) := by grind
  have := pos_of (by have := G.q0; omega) this
  omega
theorem gcd_step (c d w : Int) (h : Nat.gcd c.natAbs d.natAbs = 1) : Nat.gcd d.natAbs (c - w * d).natAbs = 1 := by
  have e : Int.gcd d (c - w * d) = Int.gcd d c := by
    have := Int.gcd_sub_mul_left_right
    first
      | exact Int.gcd_sub_mul_right_right ..
      | exact Int.gcd_sub_right_mul ..
      | simp
  show Int.gcd d (c - w * d) = 1
  rw [e, Int.gcd_comm]
  exact h
theorem rem_eq (S : Sp) : S.a % S.b = S.a - wh S * S.b := by
  have := split_a S
  grind
theorem good_nx (G : Good S P Q) (h : ¬ In S (fi S) 1) (e : S.hi = some (c, d)) : Good (nx S c d) Q (P - wh S * Q) := by
  have hv := above_wh G h G.w G.q0
  have ⟨d1, g1⟩ := G.hi c d e
  refine ⟨(show 0 ≤ d by omega), nx_b G h e, gcd_step c d _ g1, fun c' d' z => ?_, hv, nx_in G e G.w G.q0 hv⟩
  have z : (if S.a % S.b = 0 then none else some (S.b, S.a % S.b)) = some (c', d') := z
  split at z
  · cases z
  · cases z
    have ⟨r0, _⟩ := rem0 G.b0
    refine ⟨by omega, ?_⟩
    rw [rem_eq S]
    exact gcd_step S.a S.b _ G.g
def ms (S : Sp) : Int := S.b + match S.hi with
  | none => 0
  | some (_, d) => d
theorem ms_nx (G : Good S P Q) (h : ¬ In S (fi S) 1) (e : S.hi = some (c, d)) : ms (nx S c d) < ms S ∧ 0 ≤ ms (nx S c d) ∧ c - wh S * d ≤ d := by
  obtain ⟨_, c', d', e', hc⟩ := fi_out G h
  rw [e] at e'
  cases e'
  have ⟨r0, r1⟩ := rem0 G.b0
  have nb := nx_b G h e
  have hle : c - wh S * d ≤ d := by
    rw [Int.add_mul] at hc
    omega
  refine ⟨?_, ?_, hle⟩
  · unfold ms
    rw [e]
    show (c - wh S * d) + (match (if S.a % S.b = 0 then none else some (S.b, S.a % S.b)) with | none => 0 | some (_, d) => d) < S.b + d
    split <;> rename_i q
    · have := G.b0
      omega
    · split at q
      · cases q
      · cases q
        omega
  · unfold ms
    show 0 ≤ (c - wh S * d) + (match (if S.a % S.b = 0 then none else some (S.b, S.a % S.b)) with | none => 0 | some (_, d) => d)
    split <;> rename_i q
    · omega
    · split at q
      · cases q
      · cases q
        omega
inductive Run : Sp → List Int → Int → Prop
  | stop {S : Sp} : In S (fi S) 1 → Run S [] (fi S)
  | step {S : Sp} {c d : Int} {ws : List Int} {f : Int} : ¬ In S (fi S) 1 → S.hi = some (c, d) → Run (nx S c d) ws f → Run S (wh S :: ws) f
inductive Path (S0 : Sp) : List Int → Sp → Prop
  | nil : Path S0 [] S0
  | snoc {ws : List Int} {S : Sp} {c d : Int} : Path S0 ws S → ¬ In S (fi S) 1 → S.hi = some (c, d) → Path S0 (ws ++ [wh S]) (nx S c d)
theorem Path.run {S0 S : Sp} {ws us : List Int} {f : Int} (p : Path S0 ws S) (r : Run S us f) : Run S0 (ws ++ us) f := by
  induction p generalizing us with
  | nil => exact r
  | snoc _ h e ih =>
    rw [List.append_assoc]
    exact ih (.step h e r)
def val : List Int → Int → Int × Int
  | [], f => (f, 1)
  | w :: ws, f => (w * (val ws f).1 + (val ws f).2, (val ws f).1)
structure Best (S : Sp) (p q : Int) : Prop where
  inn : In S p q
  p0 : 0 ≤ p
  q1 : 1 ≤ q
  least : ∀ x y, In S x y → 1 ≤ y → p ≤ x ∧ q ≤ y
  g : Nat.gcd p.natAbs q.natAbs = 1
theorem low_pos (G : Good S P Q) (h : Low S p q) (hq : 1 ≤ q) (ha : 1 ≤ S.a) : 1 ≤ p := by
  have hl : S.a * q ≤ p * S.b := by
    rcases h with h | ⟨_, h⟩ <;> omega
  have m := Int.mul_pos (show 0 < S.a by omega) (show 0 < q by omega)
  have : 0 < S.b * p := by grind
  have := pos_of (by have := G.b0; omega) this
  omega
theorem gcd_back (u v w : Int) (h : Nat.gcd u.natAbs v.natAbs = 1) : Nat.gcd (w * u + v).natAbs u.natAbs = 1 := by
  have := gcd_step v u (-w) (by rw [Nat.gcd_comm]; exact h)
  rw [Nat.gcd_comm, show w * u + v = v - -w * u by grind]
  exact this
theorem best_run {f : Int} {ws : List Int} (r : Run S ws f) (G : Good S P Q) : Best S (val ws f).1 (val ws f).2 := by
  induction r generalizing P Q with
  | stop h =>
    have l := fi_le G G.w.1 G.q0
    refine ⟨h, ?_, Int.le_refl 1, fun x y hi hy => ⟨fi_le G hi.1 hy, hy⟩, by rw [show (val [] _).2 = 1 from rfl]; exact Nat.gcd_one_right _⟩
    have := wh0 G
    unfold wh at this
    show 0 ≤ fi _
    unfold fi
    split <;> omega
  | step h e r ih =>
    rename_i S c d ws f
    have B := ih (good_nx G h e)
    have hu : 1 ≤ (val ws f).1 := low_pos (good_nx G h e) B.inn.1 B.q1 (G.hi c d e).1
    refine ⟨in_nx G e B.inn hu B.q1, ?_, hu, fun x y hi hy => ?_, gcd_back _ _ _ B.g⟩
    · have m := Int.mul_nonneg (wh0 G) B.p0
      have := B.q1
      show 0 ≤ wh S * (val ws f).1 + (val ws f).2
      omega
    · have hv := above_wh G h hi hy
      have ⟨l1, l2⟩ := B.least _ _ (nx_in G e hi hy hv) hv
      refine ⟨?_, l1⟩
      have m := Int.mul_le_mul_of_nonneg_left l1 (wh0 G)
      show wh S * (val ws f).1 + (val ws f).2 ≤ x
      omega
/-- sizes -/
structure Bd (S : Sp) (M : Int) : Prop where
  a : S.a ≤ M
  b : S.b ≤ M
  hi : ∀ c d, S.hi = some (c, d) → 0 ≤ c ∧ c ≤ M ∧ d ≤ M
theorem bd_nx {M : Int} (G : Good S P Q) (B : Bd S M) (h : ¬ In S (fi S) 1) (e : S.hi = some (c, d)) : Bd (nx S c d) M := by
  have ⟨_, _, l⟩ := ms_nx G h e
  have ⟨b1, b2, b3⟩ := B.hi c d e
  have ⟨r0, r1⟩ := rem0 G.b0
  refine ⟨b3, (show c - wh S * d ≤ M by omega), fun c' d' z => ?_⟩
  have z : (if S.a % S.b = 0 then none else some (S.b, S.a % S.b)) = some (c', d') := z
  have := B.b
  split at z
  · cases z
  · cases z
    omega
theorem wh_le {M : Int} (G : Good S P Q) (B : Bd S M) : wh S ≤ M := by
  have := Int.ediv_le_self S.b G.a0
  have := B.a
  unfold wh
  omega
theorem run_sizes {f : Int} {ws : List Int} {B M : Int} (r : Run S ws f) (G : Good S P Q) (hP : P ≤ B) (hQ : Q ≤ B) (bd : Bd S M) : ∀ k ≤ ws.length, 0 ≤ (val (ws.drop k) f).1 ∧ (val (ws.drop k) f).1 ≤ B ∧ 0 ≤ (val (ws.drop k) f).2 ∧ (val (ws.drop k) f).2 ≤ B := by
  induction r generalizing P Q with
  | stop h =>
    intro k hk
    have b := best_run (.stop h) G
    have := b.least P Q G.w G.q0
    rw [List.drop_nil]
    exact ⟨b.p0, by omega, by have := b.q1; omega, by omega⟩
  | step h e r ih =>
    rename_i S c d ws f
    intro k hk
    cases k with
    | zero =>
      have b := best_run (.step h e r) G
      have := b.least P Q G.w G.q0
      rw [List.drop_zero]
      exact ⟨b.p0, by omega, by have := b.q1; omega, by omega⟩
    | succ k =>
      have m := Int.mul_nonneg (wh0 G) (show 0 ≤ Q by have := G.q0; omega)
      exact ih (good_nx G h e) hQ (by omega) (bd_nx G bd h e) k (by rw [List.length_cons] at hk; omega)
theorem run_whs {f : Int} {ws : List Int} {M : Int} (r : Run S ws f) (G : Good S P Q) (bd : Bd S M) : ∀ w ∈ ws, 0 ≤ w ∧ w ≤ M := by
  induction r generalizing P Q with
  | stop h => exact fun w hw => by cases hw
  | step h e r ih =>
    intro w hw
    rcases List.mem_cons.mp hw with z | z
    · rw [z]
      exact ⟨wh0 G, wh_le G bd⟩
    · exact ih (good_nx G h e) (bd_nx G bd h e) w z
/-- low by low -/
theorem first_hit (G : Good S P Q) (B : Best S p q) : (In S (S.a * q / S.b) q → S.a * q / S.b = p) ∧ (¬ In S (S.a * q / S.b) q → S.a * q / S.b + 1 = p) := by
  have b0 := G.b0
  have e := Int.mul_ediv_add_emod (S.a * q) S.b
  have r0 := Int.emod_nonneg (S.a * q) (show S.b ≠ 0 by omega)
  have r1 := Int.emod_lt_of_pos (S.a * q) (show 0 < S.b by omega)
  generalize hf : S.a * q / S.b = f at *
  have hl : S.a * q ≤ p * S.b := by
    rcases B.inn.1 with h | ⟨_, h⟩ <;> omega
  have hfp : f ≤ p := by
    have : 0 ≤ S.b * (p - f) := by grind
    have := nonneg_of (by omega) this
    omega
  refine ⟨fun h => ?_, fun h => ?_⟩
  · have := (B.least _ _ h B.q1).1
    omega
  · have ne : p ≠ f := fun z => h (z ▸ B.inn)
    have hi : In S (f + 1) q := by
      refine ⟨.inl (by grind), fun c d z => ?_⟩
      have d1 := (G.hi c d z).1
      by_cases w : f + 1 = p
      · rw [w]
        exact B.inn.2 c d z
      · refine .inl ?_
        have m := Int.mul_pos (show 0 < p - (f + 1) by omega) (show 0 < d by omega)
        rcases B.inn.2 c d z with h | ⟨_, h⟩ <;> grind
    have := (B.least _ _ hi B.q1).1
    omega
theorem not_before (B : Best S p q) {x y : Int} (hy : 1 ≤ y) (hq : y < q) : ¬ In S x y := fun h => by
  have := (B.least _ _ h hy).2
  omega
/-- told by cross products, by parts -/
theorem cross {p q a b : Int} (hq : 1 ≤ q) (hb : 1 ≤ b) (g1 : Nat.gcd p.natAbs q.natAbs = 1) (g2 : Nat.gcd a.natAbs b.natAbs = 1) : p * b = a * q ↔ (p = a ∧ q = b) := by
  refine ⟨fun h => ?_, fun ⟨h1, h2⟩ => by rw [h1, h2]⟩
  have n : p.natAbs * b.natAbs = a.natAbs * q.natAbs := by rw [← Int.natAbs_mul, ← Int.natAbs_mul, h]
  have h1 : q.natAbs ∣ b.natAbs := (Nat.Coprime.dvd_of_dvd_mul_left (Nat.Coprime.symm g1) (n ▸ Nat.dvd_mul_left _ _))
  have h2 : b.natAbs ∣ q.natAbs := (Nat.Coprime.dvd_of_dvd_mul_left (Nat.Coprime.symm g2) (n ▸ Nat.dvd_mul_left _ _))
  have e := Nat.dvd_antisymm h1 h2
  have e2 : q = b := by omega
  subst e2
  exact ⟨Int.eq_of_mul_eq_mul_right (by omega) h, rfl⟩
/-- between two ends there is the one of their sums -/
theorem mediant {a b c d : Int} {il ih : Bool} (b0 : 1 ≤ b) (d0 : 1 ≤ d) (h : a * d < c * b) : In ⟨a, b, il, some (c, d), ih⟩ (a + c) (b + d) := by
  refine ⟨.inl (show a * (b + d) < (a + c) * b by grind), fun c' d' z => ?_⟩
  cases z
  exact .inl (show (a + c) * d < c * (b + d) by grind)
end
/-! ### parents -/
structure PI (p q l0 l1 r0 r1 x y : Int) (t : Bool) : Prop where
  l0n : 0 ≤ l0
  l1n : 1 ≤ l1
  r0n : 1 ≤ r0
  r1n : 0 ≤ r1
  det : r0 * l1 - l0 * r1 = 1
  yn : 0 ≤ y
  go : 1 ≤ y → 1 ≤ x ∧ Nat.gcd x.natAbs y.natAbs = 1 ∧ (y = 1 → 2 ≤ x) ∧ (if t = true then p = l0 * y + r0 * x ∧ q = l1 * y + r1 * x else p = l0 * x + r0 * y ∧ q = l1 * x + r1 * y)
  fin : y = 0 → l0 + r0 = p ∧ l1 + r1 = q
theorem pi_first {p q : Int} (hp : 1 ≤ p) (hq : 2 ≤ q) (g : Nat.gcd p.natAbs q.natAbs = 1) : PI p q 0 1 1 0 p q true :=
  ⟨by decide, by decide, by decide, by decide, by decide, by omega, fun _ => ⟨hp, g, by omega, by simp⟩, by omega⟩
theorem pi_step {p q l0 l1 r0 r1 x y : Int} {t : Bool} (I : PI p q l0 l1 r0 r1 x y t) (hy : 1 ≤ y) :
    let n := if x % y ≠ 0 then x / y else x / y - 1
    0 ≤ n ∧ (if t = true then PI p q (l0 + n * r0) (l1 + n * r1) r0 r1 y (x % y) (!t) else PI p q l0 l1 (r0 + n * l0) (r1 + n * l1) y (x % y) (!t)) := by
  intro n
  obtain ⟨x1, g, y1, rel⟩ := I.go hy
  have e := Int.mul_ediv_add_emod x y
  have t0 := Int.emod_nonneg x (show y ≠ 0 by omega)
  have t1 := Int.emod_lt_of_pos x (show 0 < y by omega)
  have w0 : 0 ≤ x / y := Int.ediv_nonneg (by omega) (by omega)
  have hz : x % y = 0 → y = 1 ∧ 2 ≤ x := fun z => by
    have h1 : y.natAbs ∣ x.natAbs := Int.natAbs_dvd_natAbs.mpr (Int.dvd_of_emod_eq_zero z)
    have h2 := Nat.gcd_eq_right h1
    rw [g] at h2
    have : y = 1 := by omega
    exact ⟨this, y1 this⟩
  have hn0 : 0 ≤ n := by
    show 0 ≤ if x % y ≠ 0 then x / y else x / y - 1
    split
    · exact w0
    · rename_i z
      have z : x % y = 0 := by omega
      obtain ⟨h1, h2⟩ := hz z
      rw [h1, Int.ediv_one]
      omega
  have g2 : Nat.gcd y.natAbs (x % y).natAbs = 1 := by
    have := gcd_step x y (x / y) g
    rwa [show x - x / y * y = x % y by grind] at this
  have gone : 1 ≤ x % y → y ≠ 1 := fun h z => by
    rw [z, Int.emod_one] at h
    omega
  have nr : 1 ≤ x % y → n = x / y := fun h => if_pos (by omega)
  have nz : x % y = 0 → n = x / y - 1 := fun h => if_neg (by omega)
  refine ⟨hn0, ?_⟩
  obtain ⟨i1, i2, i3, i4, i5, _, _, _⟩ := I
  cases t with
  | true =>
    rw [if_pos rfl] at rel ⊢
    obtain ⟨rp, rq⟩ := rel
    have m0 := Int.mul_nonneg hn0 (show 0 ≤ r0 by omega)
    have m1 := Int.mul_nonneg hn0 i4
    refine ⟨by omega, by omega, i3, i4, by grind, t0, fun h => ⟨hy, g2, fun z => ?_, ?_⟩, fun z => ?_⟩
    · have := gone h
      omega
    · rw [if_neg (by decide), nr h]
      exact ⟨by grind, by grind⟩
    · have := hz z
      rw [nz z]
      rw [z] at e
      exact ⟨by grind, by grind⟩
  | false =>
    rw [if_neg (by decide)] at rel ⊢
    obtain ⟨rp, rq⟩ := rel
    have m0 := Int.mul_nonneg hn0 i1
    have m1 := Int.mul_nonneg hn0 (show 0 ≤ l1 by omega)
    refine ⟨i1, i2, by omega, by omega, by grind, t0, fun h => ⟨hy, g2, fun z => ?_, ?_⟩, fun z => ?_⟩
    · have := gone h
      omega
    · rw [if_pos (by decide), nr h]
      exact ⟨by grind, by grind⟩
    · have := hz z
      rw [nz z]
      rw [z] at e
      exact ⟨by grind, by grind⟩
theorem pi_size {p q l0 l1 r0 r1 x y B : Int} {t : Bool} (I : PI p q l0 l1 r0 r1 x y t) (hy : 1 ≤ y) (hp : p ≤ B) (hq : q ≤ B) : l0 ≤ B ∧ l1 ≤ B ∧ r0 ≤ B ∧ r1 ≤ B ∧ 0 ≤ l0 ∧ 0 ≤ l1 ∧ 0 ≤ r0 ∧ 0 ≤ r1 := by
  obtain ⟨x1, _, _, rel⟩ := I.go hy
  obtain ⟨i1, i2, i3, i4, _, _, _, _⟩ := I
  have a1 := le_mul i1 hy
  have a2 := le_mul i1 x1
  have b1 := le_mul (show 0 ≤ l1 by omega) hy
  have b2 := le_mul (show 0 ≤ l1 by omega) x1
  have c1 := le_mul (show 0 ≤ r0 by omega) hy
  have c2 := le_mul (show 0 ≤ r0 by omega) x1
  have d1 := le_mul i4 hy
  have d2 := le_mul i4 x1
  cases t with
  | true =>
    rw [if_pos rfl] at rel
    obtain ⟨rp, rq⟩ := rel
    exact ⟨by omega, by omega, by omega, by omega, by omega, by omega, by omega, by omega⟩
  | false =>
    rw [if_neg (by decide)] at rel
    obtain ⟨rp, rq⟩ := rel
    exact ⟨by omega, by omega, by omega, by omega, by omega, by omega, by omega, by omega⟩
end K83
/-! K83d: draws; numbers. -/
namespace K83
open PySem DL
variable {K : D → Prop} {E : Value → D → Prop}
theorem lit {b : Nat} {i : Int} (h : i.natAbs < 2 ^ b := by decide) : Sz b i := h
theorem cdiv_of {i j : Int} {b : Nat} (h : 0 < j) (s : Sz b j) (l : b < 9000) : L2.CDivW i j := ⟨h, Nat.lt_of_le_of_lt s.log l⟩
theorem three : 3 ≤ sizeLine := by rw [sizeLine_eq]; decide
theorem sl {n : Nat} (h : n ≤ 1000) : n ≤ sizeLine := by rw [sizeLine_eq]; omega
/-! ### draws -/
theorem take_ok {u : Int} (hu : 0 < u) (hz : u < 2 ^ 24) (h : ∀ i, 0 ≤ i → i < u → K (.int i)) : F__law_take [.pot, .dat (.int u)] K E := by
  have su : Sz 24 u := Sz.of_range (Int.le_of_lt hu) hz
  unfold F__law_take specOf G__law_take N__law_take
  refine ⟨rfl, ?_⟩
  simp only [gSeq, gSet, gVar, gVarB, gC, gBin, gChain, gTB, gIf, gIfS, gRet, gCall, gCallF, gCo, gN, gTup, gLst, gL, gNotT, gNotV, gAndT, gOrT, gAndV, gOrV, gIsi, gSl, gPart, gNo, gM0, gM1, gFn, gAn, gAd, gAp, gAs, gAsg, gTo, gToT, gToC, gTo0, gNext, gNeg, gPs0, gTick, gPix, gLenS, gIxS, gSumS, gLRg, gPar, gDic0, gDic1, gYes, gSeqI, gRg1, gRg2, gRetN, gSetF, gApp, gExt, gDrop, gFrz, gLcC_x, gForC_x, gRev, revD, gPar3F, gOff, gOffS, gBreak, gCont, clr, startD, nth, List.set, true_or, or_true, true_and, and_true, R__law_pot_0, R__law_pot_1, R__law_pot_2, R_is_fraction_0, R_is_stretch_0, R_is_stretch_1, R_is_inside_0, R_is_inside_1, R_reduced_0, R_simplest_of_0, R_simplest_of_1, R_simplest_of_2, R_simplest_of_3, R_simplest_of_4, R_simplest_of_5, R_simplest_of_6, R_simplest_of_7, R_simplest_of_8, R_simplest_of_9, R_simplest_of_10, R_parents_of_0, R_parents_of_1, R_parents_of_2, R_parents_of_3, R_parents_of_4, R_parents_of_5, R_edge_told_0, R_edge_size_0, R__law_take_0, R__law_take_1, R__law_take_2, R__law_take_3, R__law_take_4, R__law_take_5, R__law_take_6, R__law_cut_0, R__law_cut_1, R__law_stretch_0, R__law_stretch_1, R__law_stretch_2, R__law_stretch_3, R__law_stretch_4, R__law_is_in_0, R__law_is_in_1, R__law_simplest_0, R__law_simplest_1, R_simplest_0, R__law_is_paper_0, R__law_is_paper_1, R__law_is_paper_2, R__law_is_paper_3, R__law_is_paper_4, R__law_is_paper_5, R__law_is_paper_6, R__law_is_paper_7, R__law_is_edge_0, R__law_odd_0, R__law_odd_1, R__law_bent_0, R__law_bent_1, R__law_bent_2, R__law_bent_3, R__law_bent_4, R__law_bent_5, R_are_parents_0, R_are_parents_1, R_is_simplest_0, R_is_simplest_1, R_is_simplest_2, R_is_simplest_3, R_is_simplest_4, R_is_simplest_5, R_shows_simplest_0, R_shows_edge_size_0, R_shows_edge_size_1, addD_ii, addD_ss, addD_ll, addD_tt, subD_ii, mulD_ii, mulD_si, mulD_li, fdivD_ii, modD_ii, powD_ii, eqD_ii, eqD_ss, eqD_bb, neD_ii, neD_ss, neD_bb, ltD_ii, ltD_ss, leD_ii, gtD_ii, geD_ii, isD_n, isD_bb, isnotD_n, isnotD_bb, inD_ss, inD_l, inD_t, notinD_ss, notinD_l, notinD_t, ixD_l, ixD_t, ixD_s, slD_t, slD_s, slD_l, lenD_s, lenD_l, lenD_t, tupD_l, tupD_t, listD_l, listD_t, allD_l, anyD_l, sumD_l, maxD_ii, minD_ii, maxD_l, minD_l, absD_i, gcdD_ii, intD_i, intD_b, intD_s, strD_i, strD_s, reprD_1, joinD_l, splitD_s, PB_0, PB_1, PB_2, gIte_t, gIte_f, gIte_d, gIte_n, eqD_xt, eqD_tx, neD_xt, neD_tx, eqD_tt, neD_tt]
  intro v hv
  refine ⟨fun h0 v1 hv1 => ⟨hu, fun v2 hv2 => ⟨cdiv_of hu su (by decide), Int.ediv_nonneg hv2.1 (Int.le_of_lt hu), ?_, ?_⟩⟩, fun h0 => ⟨by decide, fun z hz2 => ⟨by decide, ?_⟩⟩⟩
  · exact Int.lt_of_le_of_lt (Int.ediv_le_self _ hv2.1) hv2.2
  · exact h _ (Int.emod_nonneg _ (Int.ne_of_gt hu)) (Int.emod_lt_of_pos _ hu)
  · have h5 : z % 5 = 0 ∨ z % 5 = 1 ∨ z % 5 = 2 ∨ z % 5 = 3 ∨ z % 5 = 4 := by omega
    obtain ⟨p, hp, p0, p1⟩ : ∃ p : Int, L2.atI [PyData.int 2147483647, PyData.int 2147483629, PyData.int 2147483587, PyData.int 2147483579, PyData.int 2147483563] (z % 5) = some (.int p) ∧ 0 < p ∧ p < 2 ^ 31 := by
      rcases h5 with e | e | e | e | e <;> rw [e] <;> exact ⟨_, rfl, by decide, by decide⟩
    refine ⟨_, hp, fun a ha b hb => ?_⟩
    have sa : Sz 61 a := Sz.of_range ha.1 ha.2
    have sb : Sz 23 b := Sz.of_range hb.1 (by omega)
    have sp : Sz 31 p := Sz.of_range (Int.le_of_lt p0) p1
    have l1 : Sz 30 95009 := lit
    refine ⟨Sz.mulOk l1 sb, fun c hc => ?_⟩
    have sc : Sz 23 c := Sz.of_range hc.1 (by omega)
    refine ⟨Sz.mulOk (l1.mul sb) sc, by decide, ?_, ?_⟩
    · have l2 : Sz 30 557 := lit
      have := ((sa.add ((l1.mul sb).mul sc)).add l2).bits
      omega
    · simp only [modD_ii, intD_i]
      refine ⟨p0, by decide, fun q hq => ?_⟩
      have sq : Sz 23 q := Sz.of_range hq.1 (by omega)
      refine ⟨Sz.mulOk (lit (b := 30)) sq, ?_⟩
      simp only [addD_ii, mulD_ii, modD_ii, intD_i, fdivD_ii]
      refine ⟨Sz.mulOk (sp.emod p0) ((Sz.emod (lit (b := 30)) (by decide)).add ((lit (b := 30)).mul sq)), by decide, ⟨by decide, by decide⟩, hu, ?_⟩
      exact h _ (Int.emod_nonneg _ (Int.ne_of_gt hu)) (Int.emod_lt_of_pos _ hu)
theorem of_ok {xs : List D} (h0 : xs ≠ []) (hz : xs.length < 2 ^ 24) (h : ∀ x ∈ xs, K x) : F__law_of [.pot, .dat (.list xs)] K E := by
  have hp : 0 < xs.length := List.length_pos_iff.mpr h0
  unfold F__law_of specOf G__law_of N__law_of
  refine ⟨rfl, ?_⟩
  simp only [gSeq, gSet, gVar, gVarB, gC, gBin, gChain, gTB, gIf, gIfS, gRet, gCall, gCallF, gCo, gN, gTup, gLst, gL, gNotT, gNotV, gAndT, gOrT, gAndV, gOrV, gIsi, gSl, gPart, gNo, gM0, gM1, gFn, gAn, gAd, gAp, gAs, gAsg, gTo, gToT, gToC, gTo0, gNext, gNeg, gPs0, gTick, gPix, gLenS, gIxS, gSumS, gLRg, gPar, gDic0, gDic1, gYes, gSeqI, gRg1, gRg2, gRetN, gSetF, gApp, gExt, gDrop, gFrz, gLcC_x, gForC_x, gRev, revD, gPar3F, gOff, gOffS, gBreak, gCont, clr, startD, nth, List.set, true_or, or_true, true_and, and_true, R__law_pot_0, R__law_pot_1, R__law_pot_2, R_is_fraction_0, R_is_stretch_0, R_is_stretch_1, R_is_inside_0, R_is_inside_1, R_reduced_0, R_simplest_of_0, R_simplest_of_1, R_simplest_of_2, R_simplest_of_3, R_simplest_of_4, R_simplest_of_5, R_simplest_of_6, R_simplest_of_7, R_simplest_of_8, R_simplest_of_9, R_simplest_of_10, R_parents_of_0, R_parents_of_1, R_parents_of_2, R_parents_of_3, R_parents_of_4, R_parents_of_5, R_edge_told_0, R_edge_size_0, R__law_take_0, R__law_take_1, R__law_take_2, R__law_take_3, R__law_take_4, R__law_take_5, R__law_take_6, R__law_cut_0, R__law_cut_1, R__law_stretch_0, R__law_stretch_1, R__law_stretch_2, R__law_stretch_3, R__law_stretch_4, R__law_is_in_0, R__law_is_in_1, R__law_simplest_0, R__law_simplest_1, R_simplest_0, R__law_is_paper_0, R__law_is_paper_1, R__law_is_paper_2, R__law_is_paper_3, R__law_is_paper_4, R__law_is_paper_5, R__law_is_paper_6, R__law_is_paper_7, R__law_is_edge_0, R__law_odd_0, R__law_odd_1, R__law_bent_0, R__law_bent_1, R__law_bent_2, R__law_bent_3, R__law_bent_4, R__law_bent_5, R_are_parents_0, R_are_parents_1, R_is_simplest_0, R_is_simplest_1, R_is_simplest_2, R_is_simplest_3, R_is_simplest_4, R_is_simplest_5, R_shows_simplest_0, R_shows_edge_size_0, R_shows_edge_size_1, addD_ii, addD_ss, addD_ll, addD_tt, subD_ii, mulD_ii, mulD_si, mulD_li, fdivD_ii, modD_ii, powD_ii, eqD_ii, eqD_ss, eqD_bb, neD_ii, neD_ss, neD_bb, ltD_ii, ltD_ss, leD_ii, gtD_ii, geD_ii, isD_n, isD_bb, isnotD_n, isnotD_bb, inD_ss, inD_l, inD_t, notinD_ss, notinD_l, notinD_t, ixD_l, ixD_t, ixD_s, slD_t, slD_s, slD_l, lenD_s, lenD_l, lenD_t, tupD_l, tupD_t, listD_l, listD_t, allD_l, anyD_l, sumD_l, maxD_ii, minD_ii, maxD_l, minD_l, absD_i, gcdD_ii, intD_i, intD_b, intD_s, strD_i, strD_s, reprD_1, joinD_l, splitD_s, PB_0, PB_1, PB_2, gIte_t, gIte_f, gIte_d, gIte_n, eqD_xt, eqD_tx, neD_xt, neD_tx, eqD_tt, neD_tt, List.append_nil]
  refine take_ok (by omega) (by omega) fun i h1 h2 => ?_
  simp only [ixD_l]
  have hi : i.toNat < xs.length := by omega
  refine ⟨xs[i.toNat], ?_, h _ (List.getElem_mem hi)⟩
  have e := L2.atI_nat (List.getElem?_eq_getElem hi)
  rwa [Int.toNat_of_nonneg h1] at e
theorem pot_ok {ns : List Int} {n : Int} (h0 : 0 ≤ n) (h1 : n < 1000) (h : ∀ x y : Int, 0 ≤ x → x < 10 ^ 300 → 0 ≤ y → y < 2 ^ 61 → K (.list [.int x, .int y, .int 0])) : F__law_pot [.scr ns, .dat (.int n)] K E := by
  unfold F__law_pot specOf G__law_pot N__law_pot
  refine ⟨rfl, ?_⟩
  simp only [gSeq, gSet, gVar, gVarB, gC, gBin, gChain, gTB, gIf, gIfS, gRet, gCall, gCallF, gCo, gN, gTup, gLst, gL, gNotT, gNotV, gAndT, gOrT, gAndV, gOrV, gIsi, gSl, gPart, gNo, gM0, gM1, gFn, gAn, gAd, gAp, gAs, gAsg, gTo, gToT, gToC, gTo0, gNext, gNeg, gPs0, gTick, gPix, gLenS, gIxS, gSumS, gLRg, gPar, gDic0, gDic1, gYes, gSeqI, gRg1, gRg2, gRetN, gSetF, gApp, gExt, gDrop, gFrz, gLcC_x, gForC_x, gRev, revD, gPar3F, gOff, gOffS, gBreak, gCont, clr, startD, nth, List.set, true_or, or_true, true_and, and_true, R__law_pot_0, R__law_pot_1, R__law_pot_2, R_is_fraction_0, R_is_stretch_0, R_is_stretch_1, R_is_inside_0, R_is_inside_1, R_reduced_0, R_simplest_of_0, R_simplest_of_1, R_simplest_of_2, R_simplest_of_3, R_simplest_of_4, R_simplest_of_5, R_simplest_of_6, R_simplest_of_7, R_simplest_of_8, R_simplest_of_9, R_simplest_of_10, R_parents_of_0, R_parents_of_1, R_parents_of_2, R_parents_of_3, R_parents_of_4, R_parents_of_5, R_edge_told_0, R_edge_size_0, R__law_take_0, R__law_take_1, R__law_take_2, R__law_take_3, R__law_take_4, R__law_take_5, R__law_take_6, R__law_cut_0, R__law_cut_1, R__law_stretch_0, R__law_stretch_1, R__law_stretch_2, R__law_stretch_3, R__law_stretch_4, R__law_is_in_0, R__law_is_in_1, R__law_simplest_0, R__law_simplest_1, R_simplest_0, R__law_is_paper_0, R__law_is_paper_1, R__law_is_paper_2, R__law_is_paper_3, R__law_is_paper_4, R__law_is_paper_5, R__law_is_paper_6, R__law_is_paper_7, R__law_is_edge_0, R__law_odd_0, R__law_odd_1, R__law_bent_0, R__law_bent_1, R__law_bent_2, R__law_bent_3, R__law_bent_4, R__law_bent_5, R_are_parents_0, R_are_parents_1, R_is_simplest_0, R_is_simplest_1, R_is_simplest_2, R_is_simplest_3, R_is_simplest_4, R_is_simplest_5, R_shows_simplest_0, R_shows_edge_size_0, R_shows_edge_size_1, addD_ii, addD_ss, addD_ll, addD_tt, subD_ii, mulD_ii, mulD_si, mulD_li, fdivD_ii, modD_ii, powD_ii, eqD_ii, eqD_ss, eqD_bb, neD_ii, neD_ss, neD_bb, ltD_ii, ltD_ss, leD_ii, gtD_ii, geD_ii, isD_n, isD_bb, isnotD_n, isnotD_bb, inD_ss, inD_l, inD_t, notinD_ss, notinD_l, notinD_t, ixD_l, ixD_t, ixD_s, slD_t, slD_s, slD_l, lenD_s, lenD_l, lenD_t, tupD_l, tupD_t, listD_l, listD_t, allD_l, anyD_l, sumD_l, maxD_ii, minD_ii, maxD_l, minD_l, absD_i, gcdD_ii, intD_i, intD_b, intD_s, strD_i, strD_s, reprD_1, joinD_l, splitD_s, PB_0, PB_1, PB_2, gIte_t, gIte_f, gIte_d, gIte_n, eqD_xt, eqD_tx, neD_xt, neD_tx, eqD_tt, neD_tt]
  have hM : ((10 : Int) ^ Int.toNat 60) ^ Int.toNat 5 = 10 ^ 300 := by decide +kernel
  have pM : (0 : Int) < 10 ^ 300 := by decide +kernel
  have sM : Sz 1000 ((10 : Int) ^ 300) := by unfold Sz; decide +kernel
  have l0 : Sz 1 0 := lit
  have l1 : Sz 1 1 := lit
  have hx : ∀ (a : Int) (b : Bool), DL.MulOk (a % 10 ^ 300) (if b = true then 1 else 0) ∧ 0 ≤ a % 10 ^ 300 * (if b = true then 1 else 0) ∧ a % 10 ^ 300 * (if b = true then 1 else 0) < 10 ^ 300 := fun a b => by
    cases b with
    | false =>
      rw [if_neg (by decide), Int.mul_zero]
      exact ⟨Sz.mulOk (Sz.emod sM pM) l0, Int.le_refl 0, pM⟩
    | true =>
      rw [if_pos rfl, Int.mul_one]
      exact ⟨Sz.mulOk (Sz.emod sM pM) l1, Int.emod_nonneg _ (Int.ne_of_gt pM), Int.emod_lt_of_pos _ pM⟩
  have l2 : Sz 30 75011 := lit
  have l3 : Sz 30 10111 := lit
  have l4 : Sz 30 1117 := lit
  have l5 : Sz 62 2305843009213693951 := lit
  have sn : Sz 10 n := Sz.of_range h0 (by omega)
  refine ⟨fun hn => ?_, fun hn => ⟨Sz.mulOk l4 sn, ?_⟩⟩
  · have hi : n.toNat < ns.length := by omega
    have e := L2.atI_nat (List.getElem?_eq_getElem hi)
    rw [Int.toNat_of_nonneg h0] at e
    refine ⟨_, e, ?_⟩
    refine ⟨by decide, by decide +kernel, by decide, by decide +kernel, by decide +kernel, by decide, by decide +kernel, ?_, by decide, Sz.mulOk (Sz.emod l5 (by decide)) l2, Sz.mulOk l3 sn, Sz.mulOk (l3.mul sn) sn, by decide, three, ?_⟩
    · rw [hM]
      exact (hx _ _).1
    · rw [hM]
      refine h _ _ ?_ ?_ ?_ ?_
      · exact (hx _ _).2.1
      · exact (hx _ _).2.2
      · exact Int.emod_nonneg _ (by decide)
      · exact Int.lt_of_lt_of_le (Int.emod_lt_of_pos _ (by decide)) (by decide)
  · refine ⟨by decide, by decide +kernel, by decide, by decide +kernel, by decide +kernel, by decide, by decide +kernel, ?_, by decide, Sz.mulOk (Sz.emod l5 (by decide)) l2, Sz.mulOk l3 sn, Sz.mulOk (l3.mul sn) sn, by decide, three, ?_⟩
    · rw [hM]
      exact (hx _ _).1
    · rw [hM]
      refine h _ _ ?_ ?_ ?_ ?_
      · exact (hx _ _).2.1
      · exact (hx _ _).2.2
      · exact Int.emod_nonneg _ (by decide)
      · exact Int.lt_of_lt_of_le (Int.emod_lt_of_pos _ (by decide)) (by decide)
theorem cells_ok {ns : List Int} {m : Int} (h0 : 1 ≤ m) (h1 : m < 1000) (h : ∀ k : Int, 1 ≤ k → k ≤ m → K (.list (rgD 0 k))) : F__law_cells [.scr ns, .dat (.int m)] K E := by
  unfold F__law_cells specOf G__law_cells N__law_cells
  refine ⟨rfl, ?_⟩
  simp only [gSeq, gSet, gVar, gVarB, gC, gBin, gChain, gTB, gIf, gIfS, gRet, gCall, gCallF, gCo, gN, gTup, gLst, gL, gNotT, gNotV, gAndT, gOrT, gAndV, gOrV, gIsi, gSl, gPart, gNo, gM0, gM1, gFn, gAn, gAd, gAp, gAs, gAsg, gTo, gToT, gToC, gTo0, gNext, gNeg, gPs0, gTick, gPix, gLenS, gIxS, gSumS, gLRg, gPar, gDic0, gDic1, gYes, gSeqI, gRg1, gRg2, gRetN, gSetF, gApp, gExt, gDrop, gFrz, gLcC_x, gForC_x, gRev, revD, gPar3F, gOff, gOffS, gBreak, gCont, clr, startD, nth, List.set, true_or, or_true, true_and, and_true, R__law_pot_0, R__law_pot_1, R__law_pot_2, R_is_fraction_0, R_is_stretch_0, R_is_stretch_1, R_is_inside_0, R_is_inside_1, R_reduced_0, R_simplest_of_0, R_simplest_of_1, R_simplest_of_2, R_simplest_of_3, R_simplest_of_4, R_simplest_of_5, R_simplest_of_6, R_simplest_of_7, R_simplest_of_8, R_simplest_of_9, R_simplest_of_10, R_parents_of_0, R_parents_of_1, R_parents_of_2, R_parents_of_3, R_parents_of_4, R_parents_of_5, R_edge_told_0, R_edge_size_0, R__law_take_0, R__law_take_1, R__law_take_2, R__law_take_3, R__law_take_4, R__law_take_5, R__law_take_6, R__law_cut_0, R__law_cut_1, R__law_stretch_0, R__law_stretch_1, R__law_stretch_2, R__law_stretch_3, R__law_stretch_4, R__law_is_in_0, R__law_is_in_1, R__law_simplest_0, R__law_simplest_1, R_simplest_0, R__law_is_paper_0, R__law_is_paper_1, R__law_is_paper_2, R__law_is_paper_3, R__law_is_paper_4, R__law_is_paper_5, R__law_is_paper_6, R__law_is_paper_7, R__law_is_edge_0, R__law_odd_0, R__law_odd_1, R__law_bent_0, R__law_bent_1, R__law_bent_2, R__law_bent_3, R__law_bent_4, R__law_bent_5, R_are_parents_0, R_are_parents_1, R_is_simplest_0, R_is_simplest_1, R_is_simplest_2, R_is_simplest_3, R_is_simplest_4, R_is_simplest_5, R_shows_simplest_0, R_shows_edge_size_0, R_shows_edge_size_1, addD_ii, addD_ss, addD_ll, addD_tt, subD_ii, mulD_ii, mulD_si, mulD_li, fdivD_ii, modD_ii, powD_ii, eqD_ii, eqD_ss, eqD_bb, neD_ii, neD_ss, neD_bb, ltD_ii, ltD_ss, leD_ii, gtD_ii, geD_ii, isD_n, isD_bb, isnotD_n, isnotD_bb, inD_ss, inD_l, inD_t, notinD_ss, notinD_l, notinD_t, ixD_l, ixD_t, ixD_s, slD_t, slD_s, slD_l, lenD_s, lenD_l, lenD_t, tupD_l, tupD_t, listD_l, listD_t, allD_l, anyD_l, sumD_l, maxD_ii, minD_ii, maxD_l, minD_l, absD_i, gcdD_ii, intD_i, intD_b, intD_s, strD_i, strD_s, reprD_1, joinD_l, splitD_s, PB_0, PB_1, PB_2, gIte_t, gIte_f, gIte_d, gIte_n, eqD_xt, eqD_tx, neD_xt, neD_tx, eqD_tt, neD_tt]
  refine ⟨?_, ?_, h _ ?_ ?_⟩ <;> by_cases c : (ns.length : Int) < m <;> simp only [c, if_true, if_false] <;> split <;> omega
def intB : D → Bool
  | .int _ => true
  | _ => false
theorem isInteger_ok {d : D} (h : K (.bool (intB d))) : F_is_integer [.dat d] K E := by
  unfold F_is_integer specOf G_is_integer N_is_integer
  refine ⟨rfl, ?_⟩
  simp only [gSeq, gSet, gVar, gVarB, gC, gBin, gChain, gTB, gIf, gIfS, gRet, gCall, gCallF, gCo, gN, gTup, gLst, gL, gNotT, gNotV, gAndT, gOrT, gAndV, gOrV, gIsi, gSl, gPart, gNo, gM0, gM1, gFn, gAn, gAd, gAp, gAs, gAsg, gTo, gToT, gToC, gTo0, gNext, gNeg, gPs0, gTick, gPix, gLenS, gIxS, gSumS, gLRg, gPar, gDic0, gDic1, gYes, gSeqI, gRg1, gRg2, gRetN, gSetF, gApp, gExt, gDrop, gFrz, gLcC_x, gForC_x, gRev, revD, gPar3F, gOff, gOffS, gBreak, gCont, clr, startD, nth, List.set, true_or, or_true, true_and, and_true, R__law_pot_0, R__law_pot_1, R__law_pot_2, R_is_fraction_0, R_is_stretch_0, R_is_stretch_1, R_is_inside_0, R_is_inside_1, R_reduced_0, R_simplest_of_0, R_simplest_of_1, R_simplest_of_2, R_simplest_of_3, R_simplest_of_4, R_simplest_of_5, R_simplest_of_6, R_simplest_of_7, R_simplest_of_8, R_simplest_of_9, R_simplest_of_10, R_parents_of_0, R_parents_of_1, R_parents_of_2, R_parents_of_3, R_parents_of_4, R_parents_of_5, R_edge_told_0, R_edge_size_0, R__law_take_0, R__law_take_1, R__law_take_2, R__law_take_3, R__law_take_4, R__law_take_5, R__law_take_6, R__law_cut_0, R__law_cut_1, R__law_stretch_0, R__law_stretch_1, R__law_stretch_2, R__law_stretch_3, R__law_stretch_4, R__law_is_in_0, R__law_is_in_1, R__law_simplest_0, R__law_simplest_1, R_simplest_0, R__law_is_paper_0, R__law_is_paper_1, R__law_is_paper_2, R__law_is_paper_3, R__law_is_paper_4, R__law_is_paper_5, R__law_is_paper_6, R__law_is_paper_7, R__law_is_edge_0, R__law_odd_0, R__law_odd_1, R__law_bent_0, R__law_bent_1, R__law_bent_2, R__law_bent_3, R__law_bent_4, R__law_bent_5, R_are_parents_0, R_are_parents_1, R_is_simplest_0, R_is_simplest_1, R_is_simplest_2, R_is_simplest_3, R_is_simplest_4, R_is_simplest_5, R_shows_simplest_0, R_shows_edge_size_0, R_shows_edge_size_1, addD_ii, addD_ss, addD_ll, addD_tt, subD_ii, mulD_ii, mulD_si, mulD_li, fdivD_ii, modD_ii, powD_ii, eqD_ii, eqD_ss, eqD_bb, neD_ii, neD_ss, neD_bb, ltD_ii, ltD_ss, leD_ii, gtD_ii, geD_ii, isD_n, isD_bb, isnotD_n, isnotD_bb, inD_ss, inD_l, inD_t, notinD_ss, notinD_l, notinD_t, ixD_l, ixD_t, ixD_s, slD_t, slD_s, slD_l, lenD_s, lenD_l, lenD_t, tupD_l, tupD_t, listD_l, listD_t, allD_l, anyD_l, sumD_l, maxD_ii, minD_ii, maxD_l, minD_l, absD_i, gcdD_ii, intD_i, intD_b, intD_s, strD_i, strD_s, reprD_1, joinD_l, splitD_s, PB_0, PB_1, PB_2, gIte_t, gIte_f, gIte_d, gIte_n, eqD_xt, eqD_tx, neD_xt, neD_tx, eqD_tt, neD_tt]
  cases d <;> simp only [gIte, isIntD, isBoolD, intB] at h ⊢ <;> simp <;> exact h
theorem common_ok {a b : Int} (h : K (.int ((Nat.gcd a.natAbs b.natAbs : Nat) : Int))) : F_common [.dat (.int a), .dat (.int b)] K E := by
  unfold F_common specOf G_common N_common
  refine ⟨rfl, ?_⟩
  simp only [gSeq, gSet, gVar, gVarB, gC, gBin, gChain, gTB, gIf, gIfS, gRet, gCall, gCallF, gCo, gN, gTup, gLst, gL, gNotT, gNotV, gAndT, gOrT, gAndV, gOrV, gIsi, gSl, gPart, gNo, gM0, gM1, gFn, gAn, gAd, gAp, gAs, gAsg, gTo, gToT, gToC, gTo0, gNext, gNeg, gPs0, gTick, gPix, gLenS, gIxS, gSumS, gLRg, gPar, gDic0, gDic1, gYes, gSeqI, gRg1, gRg2, gRetN, gSetF, gApp, gExt, gDrop, gFrz, gLcC_x, gForC_x, gRev, revD, gPar3F, gOff, gOffS, gBreak, gCont, clr, startD, nth, List.set, true_or, or_true, true_and, and_true, R__law_pot_0, R__law_pot_1, R__law_pot_2, R_is_fraction_0, R_is_stretch_0, R_is_stretch_1, R_is_inside_0, R_is_inside_1, R_reduced_0, R_simplest_of_0, R_simplest_of_1, R_simplest_of_2, R_simplest_of_3, R_simplest_of_4, R_simplest_of_5, R_simplest_of_6, R_simplest_of_7, R_simplest_of_8, R_simplest_of_9, R_simplest_of_10, R_parents_of_0, R_parents_of_1, R_parents_of_2, R_parents_of_3, R_parents_of_4, R_parents_of_5, R_edge_told_0, R_edge_size_0, R__law_take_0, R__law_take_1, R__law_take_2, R__law_take_3, R__law_take_4, R__law_take_5, R__law_take_6, R__law_cut_0, R__law_cut_1, R__law_stretch_0, R__law_stretch_1, R__law_stretch_2, R__law_stretch_3, R__law_stretch_4, R__law_is_in_0, R__law_is_in_1, R__law_simplest_0, R__law_simplest_1, R_simplest_0, R__law_is_paper_0, R__law_is_paper_1, R__law_is_paper_2, R__law_is_paper_3, R__law_is_paper_4, R__law_is_paper_5, R__law_is_paper_6, R__law_is_paper_7, R__law_is_edge_0, R__law_odd_0, R__law_odd_1, R__law_bent_0, R__law_bent_1, R__law_bent_2, R__law_bent_3, R__law_bent_4, R__law_bent_5, R_are_parents_0, R_are_parents_1, R_is_simplest_0, R_is_simplest_1, R_is_simplest_2, R_is_simplest_3, R_is_simplest_4, R_is_simplest_5, R_shows_simplest_0, R_shows_edge_size_0, R_shows_edge_size_1, addD_ii, addD_ss, addD_ll, addD_tt, subD_ii, mulD_ii, mulD_si, mulD_li, fdivD_ii, modD_ii, powD_ii, eqD_ii, eqD_ss, eqD_bb, neD_ii, neD_ss, neD_bb, ltD_ii, ltD_ss, leD_ii, gtD_ii, geD_ii, isD_n, isD_bb, isnotD_n, isnotD_bb, inD_ss, inD_l, inD_t, notinD_ss, notinD_l, notinD_t, ixD_l, ixD_t, ixD_s, slD_t, slD_s, slD_l, lenD_s, lenD_l, lenD_t, tupD_l, tupD_t, listD_l, listD_t, allD_l, anyD_l, sumD_l, maxD_ii, minD_ii, maxD_l, minD_l, absD_i, gcdD_ii, intD_i, intD_b, intD_s, strD_i, strD_s, reprD_1, joinD_l, splitD_s, PB_0, PB_1, PB_2, gIte_t, gIte_f, gIte_d, gIte_n, eqD_xt, eqD_tx, neD_xt, neD_tx, eqD_tt, neD_tt]
  exact h
theorem abs_if (a : Int) : (if a < 0 then -a else a) = (a.natAbs : Int) := by
  split <;> omega
theorem cut_ok {a b : Int} (hb : 1 ≤ b) (sa : Sz 200 a) (sb : Sz 200 b) (h : K (.tuple [.int (a / ((Nat.gcd a.natAbs b.natAbs : Nat) : Int)), .int (b / ((Nat.gcd a.natAbs b.natAbs : Nat) : Int))])) : F__law_cut [.dat (.int a), .dat (.int b)] K E := by
  have g1 : 0 < Nat.gcd a.natAbs b.natAbs := Nat.gcd_pos_of_pos_right _ (by omega)
  have g2 : Nat.gcd a.natAbs b.natAbs ≤ b.natAbs := Nat.gcd_le_right _ (by omega)
  have sg : Sz 200 ((Nat.gcd a.natAbs b.natAbs : Nat) : Int) := by
    unfold Sz at *
    omega
  unfold F__law_cut specOf G__law_cut N__law_cut
  refine ⟨rfl, ?_⟩
  simp only [gSeq, gSet, gVar, gVarB, gC, gBin, gChain, gTB, gIf, gIfS, gRet, gCall, gCallF, gCo, gN, gTup, gLst, gL, gNotT, gNotV, gAndT, gOrT, gAndV, gOrV, gIsi, gSl, gPart, gNo, gM0, gM1, gFn, gAn, gAd, gAp, gAs, gAsg, gTo, gToT, gToC, gTo0, gNext, gNeg, gPs0, gTick, gPix, gLenS, gIxS, gSumS, gLRg, gPar, gDic0, gDic1, gYes, gSeqI, gRg1, gRg2, gRetN, gSetF, gApp, gExt, gDrop, gFrz, gLcC_x, gForC_x, gRev, revD, gPar3F, gOff, gOffS, gBreak, gCont, clr, startD, nth, List.set, true_or, or_true, true_and, and_true, R__law_pot_0, R__law_pot_1, R__law_pot_2, R_is_fraction_0, R_is_stretch_0, R_is_stretch_1, R_is_inside_0, R_is_inside_1, R_reduced_0, R_simplest_of_0, R_simplest_of_1, R_simplest_of_2, R_simplest_of_3, R_simplest_of_4, R_simplest_of_5, R_simplest_of_6, R_simplest_of_7, R_simplest_of_8, R_simplest_of_9, R_simplest_of_10, R_parents_of_0, R_parents_of_1, R_parents_of_2, R_parents_of_3, R_parents_of_4, R_parents_of_5, R_edge_told_0, R_edge_size_0, R__law_take_0, R__law_take_1, R__law_take_2, R__law_take_3, R__law_take_4, R__law_take_5, R__law_take_6, R__law_cut_0, R__law_cut_1, R__law_stretch_0, R__law_stretch_1, R__law_stretch_2, R__law_stretch_3, R__law_stretch_4, R__law_is_in_0, R__law_is_in_1, R__law_simplest_0, R__law_simplest_1, R_simplest_0, R__law_is_paper_0, R__law_is_paper_1, R__law_is_paper_2, R__law_is_paper_3, R__law_is_paper_4, R__law_is_paper_5, R__law_is_paper_6, R__law_is_paper_7, R__law_is_edge_0, R__law_odd_0, R__law_odd_1, R__law_bent_0, R__law_bent_1, R__law_bent_2, R__law_bent_3, R__law_bent_4, R__law_bent_5, R_are_parents_0, R_are_parents_1, R_is_simplest_0, R_is_simplest_1, R_is_simplest_2, R_is_simplest_3, R_is_simplest_4, R_is_simplest_5, R_shows_simplest_0, R_shows_edge_size_0, R_shows_edge_size_1, addD_ii, addD_ss, addD_ll, addD_tt, subD_ii, mulD_ii, mulD_si, mulD_li, fdivD_ii, modD_ii, powD_ii, eqD_ii, eqD_ss, eqD_bb, neD_ii, neD_ss, neD_bb, ltD_ii, ltD_ss, leD_ii, gtD_ii, geD_ii, isD_n, isD_bb, isnotD_n, isnotD_bb, inD_ss, inD_l, inD_t, notinD_ss, notinD_l, notinD_t, ixD_l, ixD_t, ixD_s, slD_t, slD_s, slD_l, lenD_s, lenD_l, lenD_t, tupD_l, tupD_t, listD_l, listD_t, allD_l, anyD_l, sumD_l, maxD_ii, minD_ii, maxD_l, minD_l, absD_i, gcdD_ii, intD_i, intD_b, intD_s, strD_i, strD_s, reprD_1, joinD_l, splitD_s, PB_0, PB_1, PB_2, gIte_t, gIte_f, gIte_d, gIte_n, eqD_xt, eqD_tx, neD_xt, neD_tx, eqD_tt, neD_tt, abs_if]
  refine ⟨fun n Δ' => ∃ x y : Nat, Δ' = [.dat (.int a), .dat (.int b), .dat (.int x), .dat (.int y)] ∧ Nat.gcd x y = Nat.gcd a.natAbs b.natAbs ∧ y ≤ n, ⟨b.natAbs, Nat.le_refl _, a.natAbs, b.natAbs, by rw [show b = (b.natAbs : Int) by omega]; rfl, rfl, Nat.le_refl _⟩, ?_⟩
  rintro n Δ' ⟨x, y, rfl, hg, hn⟩
  simp only [gSeq, gSet, gVar, gVarB, gC, gBin, gChain, gTB, gIf, gIfS, gRet, gCall, gCallF, gCo, gN, gTup, gLst, gL, gNotT, gNotV, gAndT, gOrT, gAndV, gOrV, gIsi, gSl, gPart, gNo, gM0, gM1, gFn, gAn, gAd, gAp, gAs, gAsg, gTo, gToT, gToC, gTo0, gNext, gNeg, gPs0, gTick, gPix, gLenS, gIxS, gSumS, gLRg, gPar, gDic0, gDic1, gYes, gSeqI, gRg1, gRg2, gRetN, gSetF, gApp, gExt, gDrop, gFrz, gLcC_x, gForC_x, gRev, revD, gPar3F, gOff, gOffS, gBreak, gCont, clr, startD, nth, List.set, true_or, or_true, true_and, and_true, R__law_pot_0, R__law_pot_1, R__law_pot_2, R_is_fraction_0, R_is_stretch_0, R_is_stretch_1, R_is_inside_0, R_is_inside_1, R_reduced_0, R_simplest_of_0, R_simplest_of_1, R_simplest_of_2, R_simplest_of_3, R_simplest_of_4, R_simplest_of_5, R_simplest_of_6, R_simplest_of_7, R_simplest_of_8, R_simplest_of_9, R_simplest_of_10, R_parents_of_0, R_parents_of_1, R_parents_of_2, R_parents_of_3, R_parents_of_4, R_parents_of_5, R_edge_told_0, R_edge_size_0, R__law_take_0, R__law_take_1, R__law_take_2, R__law_take_3, R__law_take_4, R__law_take_5, R__law_take_6, R__law_cut_0, R__law_cut_1, R__law_stretch_0, R__law_stretch_1, R__law_stretch_2, R__law_stretch_3, R__law_stretch_4, R__law_is_in_0, R__law_is_in_1, R__law_simplest_0, R__law_simplest_1, R_simplest_0, R__law_is_paper_0, R__law_is_paper_1, R__law_is_paper_2, R__law_is_paper_3, R__law_is_paper_4, R__law_is_paper_5, R__law_is_paper_6, R__law_is_paper_7, R__law_is_edge_0, R__law_odd_0, R__law_odd_1, R__law_bent_0, R__law_bent_1, R__law_bent_2, R__law_bent_3, R__law_bent_4, R__law_bent_5, R_are_parents_0, R_are_parents_1, R_is_simplest_0, R_is_simplest_1, R_is_simplest_2, R_is_simplest_3, R_is_simplest_4, R_is_simplest_5, R_shows_simplest_0, R_shows_edge_size_0, R_shows_edge_size_1, addD_ii, addD_ss, addD_ll, addD_tt, subD_ii, mulD_ii, mulD_si, mulD_li, fdivD_ii, modD_ii, powD_ii, eqD_ii, eqD_ss, eqD_bb, neD_ii, neD_ss, neD_bb, ltD_ii, ltD_ss, leD_ii, gtD_ii, geD_ii, isD_n, isD_bb, isnotD_n, isnotD_bb, inD_ss, inD_l, inD_t, notinD_ss, notinD_l, notinD_t, ixD_l, ixD_t, ixD_s, slD_t, slD_s, slD_l, lenD_s, lenD_l, lenD_t, tupD_l, tupD_t, listD_l, listD_t, allD_l, anyD_l, sumD_l, maxD_ii, minD_ii, maxD_l, minD_l, absD_i, gcdD_ii, intD_i, intD_b, intD_s, strD_i, strD_s, reprD_1, joinD_l, splitD_s, PB_0, PB_1, PB_2, gIte_t, gIte_f, gIte_d, gIte_n, eqD_xt, eqD_tx, neD_xt, neD_tx, eqD_tt, neD_tt]
  refine ⟨fun e => ?_, fun e => ?_⟩
  · have e' : y = 0 := by omega
    rw [e', Nat.gcd_zero_right] at hg
    rw [hg]
    exact ⟨cdiv_of (by omega) sg (by decide), cdiv_of (by omega) sg (by decide), sl (n := 2) (by decide), h⟩
  · have hy : 0 < y := by omega
    refine ⟨n - 1, by omega, by omega, y, x % y, ?_, ?_, ?_⟩
    · rw [Int.natCast_emod]
    · rw [← hg, Nat.gcd_comm y, ← Nat.gcd_rec, Nat.gcd_comm]
    · have := Nat.mod_lt x hy
      omega
/-- a fraction as it should be -/
def fracB : D → Bool
  | .tuple [.int a, .int b] => decide (1 ≤ b) && decide (Nat.gcd a.natAbs b.natAbs = 1)
  | _ => false
def intP (d : D) : D := .bool (intB d)
theorem ints_map (xs : List D) : xs.map intP = (xs.map intB).map PyData.bool := by
  rw [List.map_map]
  rfl
theorem intB_int {x : D} (h : intB x = true) : ∃ i, x = .int i := by
  cases x <;> simp [intB] at h
  exact ⟨_, rfl⟩
theorem frac_ints {x y : D} (h : (intB x && intB y) = false) : fracB (.tuple [x, y]) = false := by
  cases x <;> cases y <;> simp [intB] at h <;> rfl
theorem frac_len : ∀ {xs : List D}, ¬ (xs.length : Int) = 2 → fracB (.tuple xs) = false
  | [], _ => rfl
  | [x], _ => by cases x <;> rfl
  | [x, y], h => absurd rfl h
  | x :: y :: z :: r, _ => by cases x <;> cases y <;> rfl
theorem isFraction_ok {d : D} (h : K (.bool (fracB d))) : F_is_fraction [.dat d] K E := by
  unfold F_is_fraction specOf G_is_fraction N_is_fraction
  refine ⟨rfl, ?_⟩
  cases d with
  | tuple xs =>
    simp only [gSeq, gSet, gVar, gVarB, gC, gBin, gChain, gTB, gIf, gIfS, gRet, gCall, gCallF, gCo, gN, gTup, gLst, gL, gNotT, gNotV, gAndT, gOrT, gAndV, gOrV, gIsi, gSl, gPart, gNo, gM0, gM1, gFn, gAn, gAd, gAp, gAs, gAsg, gTo, gToT, gToC, gTo0, gNext, gNeg, gPs0, gTick, gPix, gLenS, gIxS, gSumS, gLRg, gPar, gDic0, gDic1, gYes, gSeqI, gRg1, gRg2, gRetN, gSetF, gApp, gExt, gDrop, gFrz, gLcC_x, gForC_x, gRev, revD, gPar3F, gOff, gOffS, gBreak, gCont, clr, startD, nth, List.set, true_or, or_true, true_and, and_true, R__law_pot_0, R__law_pot_1, R__law_pot_2, R_is_fraction_0, R_is_stretch_0, R_is_stretch_1, R_is_inside_0, R_is_inside_1, R_reduced_0, R_simplest_of_0, R_simplest_of_1, R_simplest_of_2, R_simplest_of_3, R_simplest_of_4, R_simplest_of_5, R_simplest_of_6, R_simplest_of_7, R_simplest_of_8, R_simplest_of_9, R_simplest_of_10, R_parents_of_0, R_parents_of_1, R_parents_of_2, R_parents_of_3, R_parents_of_4, R_parents_of_5, R_edge_told_0, R_edge_size_0, R__law_take_0, R__law_take_1, R__law_take_2, R__law_take_3, R__law_take_4, R__law_take_5, R__law_take_6, R__law_cut_0, R__law_cut_1, R__law_stretch_0, R__law_stretch_1, R__law_stretch_2, R__law_stretch_3, R__law_stretch_4, R__law_is_in_0, R__law_is_in_1, R__law_simplest_0, R__law_simplest_1, R_simplest_0, R__law_is_paper_0, R__law_is_paper_1, R__law_is_paper_2, R__law_is_paper_3, R__law_is_paper_4, R__law_is_paper_5, R__law_is_paper_6, R__law_is_paper_7, R__law_is_edge_0, R__law_odd_0, R__law_odd_1, R__law_bent_0, R__law_bent_1, R__law_bent_2, R__law_bent_3, R__law_bent_4, R__law_bent_5, R_are_parents_0, R_are_parents_1, R_is_simplest_0, R_is_simplest_1, R_is_simplest_2, R_is_simplest_3, R_is_simplest_4, R_is_simplest_5, R_shows_simplest_0, R_shows_edge_size_0, R_shows_edge_size_1, addD_ii, addD_ss, addD_ll, addD_tt, subD_ii, mulD_ii, mulD_si, mulD_li, fdivD_ii, modD_ii, powD_ii, eqD_ii, eqD_ss, eqD_bb, neD_ii, neD_ss, neD_bb, ltD_ii, ltD_ss, leD_ii, gtD_ii, geD_ii, isD_n, isD_bb, isnotD_n, isnotD_bb, inD_ss, inD_l, inD_t, notinD_ss, notinD_l, notinD_t, ixD_l, ixD_t, ixD_s, slD_t, slD_s, slD_l, lenD_s, lenD_l, lenD_t, tupD_l, tupD_t, listD_l, listD_t, allD_l, anyD_l, sumD_l, maxD_ii, minD_ii, maxD_l, minD_l, absD_i, gcdD_ii, intD_i, intD_b, intD_s, strD_i, strD_s, reprD_1, joinD_l, splitD_s, PB_0, PB_1, PB_2, gIte_t, gIte_f, gIte_d, gIte_n, eqD_xt, eqD_tx, neD_xt, neD_tx, eqD_tt, neD_tt, isTupD, Bool.not_true, List.append_nil]
    refine ⟨fun hl => ?_, fun hl => ?_⟩
    · match xs, hl, h with
      | [x, y], _, h =>
        refine lc_to intP rfl (Nat.le_refl _) (fun d hd P hP => isInteger_ok hP) ⟨_, ints_map _, ?_⟩
        have e : ([x, y].map intB).all id = (intB x && intB y) := by simp
        rw [e]
        refine ⟨fun z => ?_, fun z => ?_⟩
        · rw [Bool.and_eq_true] at z
          obtain ⟨i, rfl⟩ := intB_int z.1
          obtain ⟨j, rfl⟩ := intB_int z.2
          refine ⟨_, rfl, ?_⟩
          have h' : K (.bool (decide (1 ≤ j) && decide (Nat.gcd i.natAbs j.natAbs = 1))) := h
          simp only [geD_ii, gIte_d]
          refine ⟨fun w => ⟨_, rfl, _, rfl, common_ok ?_⟩, fun w => ?_⟩
          · simp only [eqD_ii]
            rw [decide_eq_true w, Bool.true_and] at h'
            have e2 : decide (((Nat.gcd i.natAbs j.natAbs : Nat) : Int) = 1) = decide (Nat.gcd i.natAbs j.natAbs = 1) := by
              by_cases q : Nat.gcd i.natAbs j.natAbs = 1
              · rw [decide_eq_true q, decide_eq_true (by omega)]
              · rw [decide_eq_false q, decide_eq_false (by omega)]
            rw [e2]
            exact h'
          · rwa [decide_eq_false w, Bool.false_and] at h'
        · rwa [frac_ints z] at h
    · rwa [frac_len hl] at h
  | _ =>
    simp only [gSeq, gSet, gVar, gVarB, gC, gBin, gChain, gTB, gIf, gIfS, gRet, gCall, gCallF, gCo, gN, gTup, gLst, gL, gNotT, gNotV, gAndT, gOrT, gAndV, gOrV, gIsi, gSl, gPart, gNo, gM0, gM1, gFn, gAn, gAd, gAp, gAs, gAsg, gTo, gToT, gToC, gTo0, gNext, gNeg, gPs0, gTick, gPix, gLenS, gIxS, gSumS, gLRg, gPar, gDic0, gDic1, gYes, gSeqI, gRg1, gRg2, gRetN, gSetF, gApp, gExt, gDrop, gFrz, gLcC_x, gForC_x, gRev, revD, gPar3F, gOff, gOffS, gBreak, gCont, clr, startD, nth, List.set, true_or, or_true, true_and, and_true, R__law_pot_0, R__law_pot_1, R__law_pot_2, R_is_fraction_0, R_is_stretch_0, R_is_stretch_1, R_is_inside_0, R_is_inside_1, R_reduced_0, R_simplest_of_0, R_simplest_of_1, R_simplest_of_2, R_simplest_of_3, R_simplest_of_4, R_simplest_of_5, R_simplest_of_6, R_simplest_of_7, R_simplest_of_8, R_simplest_of_9, R_simplest_of_10, R_parents_of_0, R_parents_of_1, R_parents_of_2, R_parents_of_3, R_parents_of_4, R_parents_of_5, R_edge_told_0, R_edge_size_0, R__law_take_0, R__law_take_1, R__law_take_2, R__law_take_3, R__law_take_4, R__law_take_5, R__law_take_6, R__law_cut_0, R__law_cut_1, R__law_stretch_0, R__law_stretch_1, R__law_stretch_2, R__law_stretch_3, R__law_stretch_4, R__law_is_in_0, R__law_is_in_1, R__law_simplest_0, R__law_simplest_1, R_simplest_0, R__law_is_paper_0, R__law_is_paper_1, R__law_is_paper_2, R__law_is_paper_3, R__law_is_paper_4, R__law_is_paper_5, R__law_is_paper_6, R__law_is_paper_7, R__law_is_edge_0, R__law_odd_0, R__law_odd_1, R__law_bent_0, R__law_bent_1, R__law_bent_2, R__law_bent_3, R__law_bent_4, R__law_bent_5, R_are_parents_0, R_are_parents_1, R_is_simplest_0, R_is_simplest_1, R_is_simplest_2, R_is_simplest_3, R_is_simplest_4, R_is_simplest_5, R_shows_simplest_0, R_shows_edge_size_0, R_shows_edge_size_1, addD_ii, addD_ss, addD_ll, addD_tt, subD_ii, mulD_ii, mulD_si, mulD_li, fdivD_ii, modD_ii, powD_ii, eqD_ii, eqD_ss, eqD_bb, neD_ii, neD_ss, neD_bb, ltD_ii, ltD_ss, leD_ii, gtD_ii, geD_ii, isD_n, isD_bb, isnotD_n, isnotD_bb, inD_ss, inD_l, inD_t, notinD_ss, notinD_l, notinD_t, ixD_l, ixD_t, ixD_s, slD_t, slD_s, slD_l, lenD_s, lenD_l, lenD_t, tupD_l, tupD_t, listD_l, listD_t, allD_l, anyD_l, sumD_l, maxD_ii, minD_ii, maxD_l, minD_l, absD_i, gcdD_ii, intD_i, intD_b, intD_s, strD_i, strD_s, reprD_1, joinD_l, splitD_s, PB_0, PB_1, PB_2, gIte_t, gIte_f, gIte_d, gIte_n, eqD_xt, eqD_tx, neD_xt, neD_tx, eqD_tt, neD_tt, isTupD, Bool.not_false]
    exact h
end K83
/-! K83w: what the defs about stretches tell. -/
namespace K83
open PySem DL
variable {K : D → Prop} {E : Value → D → Prop}
def hiD : Option (Int × Int) → D
  | none => .none
  | some (c, d) => .tuple [.int c, .int d]
def Sp.D (S : Sp) : D := .tuple [.tuple [.int S.a, .int S.b], .bool S.il, hiD S.hi, .bool S.ih]
structure Ok (S : Sp) : Prop where
  b1 : 1 ≤ S.b
  g : Nat.gcd S.a.natAbs S.b.natAbs = 1
  hi : ∀ c d, S.hi = some (c, d) → 1 ≤ d ∧ Nat.gcd c.natAbs d.natAbs = 1 ∧ Sz 60 c ∧ Sz 60 d
  sa : Sz 60 S.a
  sb : Sz 60 S.b
def inB (S : Sp) (p q : Int) : Bool := (decide (S.a * q < p * S.b) || (S.il && decide (S.a * q = p * S.b))) && match S.hi with
  | none => true
  | some (c, d) => decide (p * d < c * q) || (S.ih && decide (p * d = c * q))
theorem inB_iff {S : Sp} {p q : Int} : inB S p q = true ↔ In S p q := by
  unfold inB In Low Hig
  rw [Bool.and_eq_true, Bool.or_eq_true, Bool.and_eq_true, decide_eq_true_eq, decide_eq_true_eq]
  refine and_congr_right fun _ => ?_
  cases h : S.hi with
  | none => exact ⟨fun _ c d z => (nomatch z), fun _ => rfl⟩
  | some cd =>
    obtain ⟨c, d⟩ := cd
    show (decide (p * d < c * q) || (S.ih && decide (p * d = c * q))) = true ↔ _
    rw [Bool.or_eq_true, Bool.and_eq_true, decide_eq_true_eq, decide_eq_true_eq]
    exact ⟨fun w c' d' z => by cases z; exact w, fun w => w c d rfl⟩
theorem isLess_ok {p q a b : Int} (sp : Sz 100 p) (sq : Sz 100 q) (sa : Sz 100 a) (sb : Sz 100 b) (h : K (.bool (decide (p * b < a * q)))) : F_is_less [.dat (.tuple [.int p, .int q]), .dat (.tuple [.int a, .int b])] K E := by
  unfold F_is_less specOf G_is_less N_is_less
  refine ⟨rfl, ?_⟩
  simp only [gSeq, gSet, gVar, gVarB, gC, gBin, gChain, gTB, gIf, gIfS, gRet, gCall, gCallF, gCo, gN, gTup, gLst, gL, gNotT, gNotV, gAndT, gOrT, gAndV, gOrV, gIsi, gSl, gPart, gNo, gM0, gM1, gFn, gAn, gAd, gAp, gAs, gAsg, gTo, gToT, gToC, gTo0, gNext, gNeg, gPs0, gTick, gPix, gLenS, gIxS, gSumS, gLRg, gPar, gDic0, gDic1, gYes, gSeqI, gRg1, gRg2, gRetN, gSetF, gApp, gExt, gDrop, gFrz, gLcC_x, gForC_x, gRev, revD, gPar3F, gOff, gOffS, gBreak, gCont, clr, startD, nth, List.set, true_or, or_true, true_and, and_true, R__law_pot_0, R__law_pot_1, R__law_pot_2, R_is_fraction_0, R_is_stretch_0, R_is_stretch_1, R_is_inside_0, R_is_inside_1, R_reduced_0, R_simplest_of_0, R_simplest_of_1, R_simplest_of_2, R_simplest_of_3, R_simplest_of_4, R_simplest_of_5, R_simplest_of_6, R_simplest_of_7, R_simplest_of_8, R_simplest_of_9, R_simplest_of_10, R_parents_of_0, R_parents_of_1, R_parents_of_2, R_parents_of_3, R_parents_of_4, R_parents_of_5, R_edge_told_0, R_edge_size_0, R__law_take_0, R__law_take_1, R__law_take_2, R__law_take_3, R__law_take_4, R__law_take_5, R__law_take_6, R__law_cut_0, R__law_cut_1, R__law_stretch_0, R__law_stretch_1, R__law_stretch_2, R__law_stretch_3, R__law_stretch_4, R__law_is_in_0, R__law_is_in_1, R__law_simplest_0, R__law_simplest_1, R_simplest_0, R__law_is_paper_0, R__law_is_paper_1, R__law_is_paper_2, R__law_is_paper_3, R__law_is_paper_4, R__law_is_paper_5, R__law_is_paper_6, R__law_is_paper_7, R__law_is_edge_0, R__law_odd_0, R__law_odd_1, R__law_bent_0, R__law_bent_1, R__law_bent_2, R__law_bent_3, R__law_bent_4, R__law_bent_5, R_are_parents_0, R_are_parents_1, R_is_simplest_0, R_is_simplest_1, R_is_simplest_2, R_is_simplest_3, R_is_simplest_4, R_is_simplest_5, R_shows_simplest_0, R_shows_edge_size_0, R_shows_edge_size_1, addD_ii, addD_ss, addD_ll, addD_tt, subD_ii, mulD_ii, mulD_si, mulD_li, fdivD_ii, modD_ii, powD_ii, eqD_ii, eqD_ss, eqD_bb, neD_ii, neD_ss, neD_bb, ltD_ii, ltD_ss, leD_ii, gtD_ii, geD_ii, isD_n, isD_bb, isnotD_n, isnotD_bb, inD_ss, inD_l, inD_t, notinD_ss, notinD_l, notinD_t, ixD_l, ixD_t, ixD_s, slD_t, slD_s, slD_l, lenD_s, lenD_l, lenD_t, tupD_l, tupD_t, listD_l, listD_t, allD_l, anyD_l, sumD_l, maxD_ii, minD_ii, maxD_l, minD_l, absD_i, gcdD_ii, intD_i, intD_b, intD_s, strD_i, strD_s, reprD_1, joinD_l, splitD_s, PB_0, PB_1, PB_2, gIte_t, gIte_f, gIte_d, gIte_n, eqD_xt, eqD_tx, neD_xt, neD_tx, eqD_tt, neD_tt]
  refine ⟨_, rfl, _, rfl, ?_⟩
  simp only [gSeq, gSet, gVar, gVarB, gC, gBin, gChain, gTB, gIf, gIfS, gRet, gCall, gCallF, gCo, gN, gTup, gLst, gL, gNotT, gNotV, gAndT, gOrT, gAndV, gOrV, gIsi, gSl, gPart, gNo, gM0, gM1, gFn, gAn, gAd, gAp, gAs, gAsg, gTo, gToT, gToC, gTo0, gNext, gNeg, gPs0, gTick, gPix, gLenS, gIxS, gSumS, gLRg, gPar, gDic0, gDic1, gYes, gSeqI, gRg1, gRg2, gRetN, gSetF, gApp, gExt, gDrop, gFrz, gLcC_x, gForC_x, gRev, revD, gPar3F, gOff, gOffS, gBreak, gCont, clr, startD, nth, List.set, true_or, or_true, true_and, and_true, R__law_pot_0, R__law_pot_1, R__law_pot_2, R_is_fraction_0, R_is_stretch_0, R_is_stretch_1, R_is_inside_0, R_is_inside_1, R_reduced_0, R_simplest_of_0, R_simplest_of_1, R_simplest_of_2, R_simplest_of_3, R_simplest_of_4, R_simplest_of_5, R_simplest_of_6, R_simplest_of_7, R_simplest_of_8, R_simplest_of_9, R_simplest_of_10, R_parents_of_0, R_parents_of_1, R_parents_of_2, R_parents_of_3, R_parents_of_4, R_parents_of_5, R_edge_told_0, R_edge_size_0, R__law_take_0, R__law_take_1, R__law_take_2, R__law_take_3, R__law_take_4, R__law_take_5, R__law_take_6, R__law_cut_0, R__law_cut_1, R__law_stretch_0, R__law_stretch_1, R__law_stretch_2, R__law_stretch_3, R__law_stretch_4, R__law_is_in_0, R__law_is_in_1, R__law_simplest_0, R__law_simplest_1, R_simplest_0, R__law_is_paper_0, R__law_is_paper_1, R__law_is_paper_2, R__law_is_paper_3, R__law_is_paper_4, R__law_is_paper_5, R__law_is_paper_6, R__law_is_paper_7, R__law_is_edge_0, R__law_odd_0, R__law_odd_1, R__law_bent_0, R__law_bent_1, R__law_bent_2, R__law_bent_3, R__law_bent_4, R__law_bent_5, R_are_parents_0, R_are_parents_1, R_is_simplest_0, R_is_simplest_1, R_is_simplest_2, R_is_simplest_3, R_is_simplest_4, R_is_simplest_5, R_shows_simplest_0, R_shows_edge_size_0, R_shows_edge_size_1, addD_ii, addD_ss, addD_ll, addD_tt, subD_ii, mulD_ii, mulD_si, mulD_li, fdivD_ii, modD_ii, powD_ii, eqD_ii, eqD_ss, eqD_bb, neD_ii, neD_ss, neD_bb, ltD_ii, ltD_ss, leD_ii, gtD_ii, geD_ii, isD_n, isD_bb, isnotD_n, isnotD_bb, inD_ss, inD_l, inD_t, notinD_ss, notinD_l, notinD_t, ixD_l, ixD_t, ixD_s, slD_t, slD_s, slD_l, lenD_s, lenD_l, lenD_t, tupD_l, tupD_t, listD_l, listD_t, allD_l, anyD_l, sumD_l, maxD_ii, minD_ii, maxD_l, minD_l, absD_i, gcdD_ii, intD_i, intD_b, intD_s, strD_i, strD_s, reprD_1, joinD_l, splitD_s, PB_0, PB_1, PB_2, gIte_t, gIte_f, gIte_d, gIte_n, eqD_xt, eqD_tx, neD_xt, neD_tx, eqD_tt, neD_tt]
  refine ⟨Sz.mulOk sp sb, _, rfl, _, rfl, ?_⟩
  simp only [gSeq, gSet, gVar, gVarB, gC, gBin, gChain, gTB, gIf, gIfS, gRet, gCall, gCallF, gCo, gN, gTup, gLst, gL, gNotT, gNotV, gAndT, gOrT, gAndV, gOrV, gIsi, gSl, gPart, gNo, gM0, gM1, gFn, gAn, gAd, gAp, gAs, gAsg, gTo, gToT, gToC, gTo0, gNext, gNeg, gPs0, gTick, gPix, gLenS, gIxS, gSumS, gLRg, gPar, gDic0, gDic1, gYes, gSeqI, gRg1, gRg2, gRetN, gSetF, gApp, gExt, gDrop, gFrz, gLcC_x, gForC_x, gRev, revD, gPar3F, gOff, gOffS, gBreak, gCont, clr, startD, nth, List.set, true_or, or_true, true_and, and_true, R__law_pot_0, R__law_pot_1, R__law_pot_2, R_is_fraction_0, R_is_stretch_0, R_is_stretch_1, R_is_inside_0, R_is_inside_1, R_reduced_0, R_simplest_of_0, R_simplest_of_1, R_simplest_of_2, R_simplest_of_3, R_simplest_of_4, R_simplest_of_5, R_simplest_of_6, R_simplest_of_7, R_simplest_of_8, R_simplest_of_9, R_simplest_of_10, R_parents_of_0, R_parents_of_1, R_parents_of_2, R_parents_of_3, R_parents_of_4, R_parents_of_5, R_edge_told_0, R_edge_size_0, R__law_take_0, R__law_take_1, R__law_take_2, R__law_take_3, R__law_take_4, R__law_take_5, R__law_take_6, R__law_cut_0, R__law_cut_1, R__law_stretch_0, R__law_stretch_1, R__law_stretch_2, R__law_stretch_3, R__law_stretch_4, R__law_is_in_0, R__law_is_in_1, R__law_simplest_0, R__law_simplest_1, R_simplest_0, R__law_is_paper_0, R__law_is_paper_1, R__law_is_paper_2, R__law_is_paper_3, R__law_is_paper_4, R__law_is_paper_5, R__law_is_paper_6, R__law_is_paper_7, R__law_is_edge_0, R__law_odd_0, R__law_odd_1, R__law_bent_0, R__law_bent_1, R__law_bent_2, R__law_bent_3, R__law_bent_4, R__law_bent_5, R_are_parents_0, R_are_parents_1, R_is_simplest_0, R_is_simplest_1, R_is_simplest_2, R_is_simplest_3, R_is_simplest_4, R_is_simplest_5, R_shows_simplest_0, R_shows_edge_size_0, R_shows_edge_size_1, addD_ii, addD_ss, addD_ll, addD_tt, subD_ii, mulD_ii, mulD_si, mulD_li, fdivD_ii, modD_ii, powD_ii, eqD_ii, eqD_ss, eqD_bb, neD_ii, neD_ss, neD_bb, ltD_ii, ltD_ss, leD_ii, gtD_ii, geD_ii, isD_n, isD_bb, isnotD_n, isnotD_bb, inD_ss, inD_l, inD_t, notinD_ss, notinD_l, notinD_t, ixD_l, ixD_t, ixD_s, slD_t, slD_s, slD_l, lenD_s, lenD_l, lenD_t, tupD_l, tupD_t, listD_l, listD_t, allD_l, anyD_l, sumD_l, maxD_ii, minD_ii, maxD_l, minD_l, absD_i, gcdD_ii, intD_i, intD_b, intD_s, strD_i, strD_s, reprD_1, joinD_l, splitD_s, PB_0, PB_1, PB_2, gIte_t, gIte_f, gIte_d, gIte_n, eqD_xt, eqD_tx, neD_xt, neD_tx, eqD_tt, neD_tt]
  exact ⟨Sz.mulOk sa sq, h⟩
theorem isInside_ok {S : Sp} {p q : Int} (O : Ok S) (q1 : 1 ≤ q) (g : Nat.gcd p.natAbs q.natAbs = 1) (sp : Sz 100 p) (sq : Sz 100 q) (h : K (.bool (inB S p q))) : F_is_inside [.dat S.D, .dat (.tuple [.int p, .int q])] K E := by
  have sa := O.sa.le (show 60 ≤ 100 by decide)
  have sb := O.sb.le (show 60 ≤ 100 by decide)
  have cr := cross q1 O.b1 g O.g
  unfold F_is_inside specOf G_is_inside N_is_inside Sp.D
  refine ⟨rfl, ?_⟩
  simp only [gSeq, gSet, gVar, gVarB, gC, gBin, gChain, gTB, gIf, gIfS, gRet, gCall, gCallF, gCo, gN, gTup, gLst, gL, gNotT, gNotV, gAndT, gOrT, gAndV, gOrV, gIsi, gSl, gPart, gNo, gM0, gM1, gFn, gAn, gAd, gAp, gAs, gAsg, gTo, gToT, gToC, gTo0, gNext, gNeg, gPs0, gTick, gPix, gLenS, gIxS, gSumS, gLRg, gPar, gDic0, gDic1, gYes, gSeqI, gRg1, gRg2, gRetN, gSetF, gApp, gExt, gDrop, gFrz, gLcC_x, gForC_x, gRev, revD, gPar3F, gOff, gOffS, gBreak, gCont, clr, startD, nth, List.set, true_or, or_true, true_and, and_true, addD_ii, addD_ss, addD_ll, addD_tt, subD_ii, mulD_ii, mulD_si, mulD_li, fdivD_ii, modD_ii, powD_ii, eqD_ii, eqD_ss, eqD_bb, neD_ii, neD_ss, neD_bb, ltD_ii, ltD_ss, leD_ii, gtD_ii, geD_ii, isD_n, isD_bb, isnotD_n, isnotD_bb, inD_ss, inD_l, inD_t, notinD_ss, notinD_l, notinD_t, ixD_l, ixD_t, ixD_s, slD_t, slD_s, slD_l, lenD_s, lenD_l, lenD_t, tupD_l, tupD_t, listD_l, listD_t, allD_l, anyD_l, sumD_l, maxD_ii, minD_ii, maxD_l, minD_l, absD_i, gcdD_ii, intD_i, intD_b, intD_s, strD_i, strD_s, reprD_1, joinD_l, splitD_s, PB_0, PB_1, PB_2, gIte_t, gIte_f, gIte_d, gIte_n, eqD_xt, eqD_tx, neD_xt, neD_tx, eqD_tt, neD_tt, R_is_inside_1, List.append_nil]
  refine ⟨rfl, isLess_ok sp sq sa sb ?_⟩
  simp only [gSeq, gSet, gVar, gVarB, gC, gBin, gChain, gTB, gIf, gIfS, gRet, gCall, gCallF, gCo, gN, gTup, gLst, gL, gNotT, gNotV, gAndT, gOrT, gAndV, gOrV, gIsi, gSl, gPart, gNo, gM0, gM1, gFn, gAn, gAd, gAp, gAs, gAsg, gTo, gToT, gToC, gTo0, gNext, gNeg, gPs0, gTick, gPix, gLenS, gIxS, gSumS, gLRg, gPar, gDic0, gDic1, gYes, gSeqI, gRg1, gRg2, gRetN, gSetF, gApp, gExt, gDrop, gFrz, gLcC_x, gForC_x, gRev, revD, gPar3F, gOff, gOffS, gBreak, gCont, clr, startD, nth, List.set, true_or, or_true, true_and, and_true, addD_ii, addD_ss, addD_ll, addD_tt, subD_ii, mulD_ii, mulD_si, mulD_li, fdivD_ii, modD_ii, powD_ii, eqD_ii, eqD_ss, eqD_bb, neD_ii, neD_ss, neD_bb, ltD_ii, ltD_ss, leD_ii, gtD_ii, geD_ii, isD_n, isD_bb, isnotD_n, isnotD_bb, inD_ss, inD_l, inD_t, notinD_ss, notinD_l, notinD_t, ixD_l, ixD_t, ixD_s, slD_t, slD_s, slD_l, lenD_s, lenD_l, lenD_t, tupD_l, tupD_t, listD_l, listD_t, allD_l, anyD_l, sumD_l, maxD_ii, minD_ii, maxD_l, minD_l, absD_i, gcdD_ii, intD_i, intD_b, intD_s, strD_i, strD_s, reprD_1, joinD_l, splitD_s, PB_0, PB_1, PB_2, gIte_t, gIte_f, gIte_d, gIte_n, eqD_xt, eqD_tx, neD_xt, neD_tx, eqD_tt, neD_tt, eqv_pair]
  have fin : (decide (p * S.b < S.a * q) = false) → (S.il = true ∨ ¬ (p = S.a ∧ q = S.b)) → ∀ (b : Bool), (b = match S.hi with
      | none => true
      | some (c, d) => decide (p * d < c * q) || (S.ih && decide (p * d = c * q))) → inB S p q = b := fun h1 h2 b hb => by
    unfold inB
    rw [← hb]
    have h1 := of_decide_eq_false h1
    by_cases e : S.a * q < p * S.b
    · rw [decide_eq_true e, Bool.true_or, Bool.true_and]
    · have e2 : p * S.b = S.a * q := by omega
      have e3 := cr.mp e2
      rw [decide_eq_true e2.symm, Bool.and_true]
      rcases h2 with h2 | h2
      · rw [h2, Bool.or_true, Bool.true_and]
      · exact absurd e3 h2
  have rest : (decide (p * S.b < S.a * q) = false) → (S.il = true ∨ ¬ (p = S.a ∧ q = S.b)) → R_is_inside_0 E { nx := fun _ => K .none, rt := K } [.dat S.D, .dat (.tuple [.int p, .int q]), .dat (.tuple [.int S.a, .int S.b]), .dat (.bool S.il), .dat (hiD S.hi), .dat (.bool S.ih)] := fun h1 h2 => by
    have fin := fin h1 h2
    unfold R_is_inside_0
    cases e : S.hi with
    | none =>
      simp only [gSeq, gSet, gVar, gVarB, gC, gBin, gChain, gTB, gIf, gIfS, gRet, gCall, gCallF, gCo, gN, gTup, gLst, gL, gNotT, gNotV, gAndT, gOrT, gAndV, gOrV, gIsi, gSl, gPart, gNo, gM0, gM1, gFn, gAn, gAd, gAp, gAs, gAsg, gTo, gToT, gToC, gTo0, gNext, gNeg, gPs0, gTick, gPix, gLenS, gIxS, gSumS, gLRg, gPar, gDic0, gDic1, gYes, gSeqI, gRg1, gRg2, gRetN, gSetF, gApp, gExt, gDrop, gFrz, gLcC_x, gForC_x, gRev, revD, gPar3F, gOff, gOffS, gBreak, gCont, clr, startD, nth, List.set, true_or, or_true, true_and, and_true, R__law_pot_0, R__law_pot_1, R__law_pot_2, R_is_fraction_0, R_is_stretch_0, R_is_stretch_1, R_is_inside_0, R_is_inside_1, R_reduced_0, R_simplest_of_0, R_simplest_of_1, R_simplest_of_2, R_simplest_of_3, R_simplest_of_4, R_simplest_of_5, R_simplest_of_6, R_simplest_of_7, R_simplest_of_8, R_simplest_of_9, R_simplest_of_10, R_parents_of_0, R_parents_of_1, R_parents_of_2, R_parents_of_3, R_parents_of_4, R_parents_of_5, R_edge_told_0, R_edge_size_0, R__law_take_0, R__law_take_1, R__law_take_2, R__law_take_3, R__law_take_4, R__law_take_5, R__law_take_6, R__law_cut_0, R__law_cut_1, R__law_stretch_0, R__law_stretch_1, R__law_stretch_2, R__law_stretch_3, R__law_stretch_4, R__law_is_in_0, R__law_is_in_1, R__law_simplest_0, R__law_simplest_1, R_simplest_0, R__law_is_paper_0, R__law_is_paper_1, R__law_is_paper_2, R__law_is_paper_3, R__law_is_paper_4, R__law_is_paper_5, R__law_is_paper_6, R__law_is_paper_7, R__law_is_edge_0, R__law_odd_0, R__law_odd_1, R__law_bent_0, R__law_bent_1, R__law_bent_2, R__law_bent_3, R__law_bent_4, R__law_bent_5, R_are_parents_0, R_are_parents_1, R_is_simplest_0, R_is_simplest_1, R_is_simplest_2, R_is_simplest_3, R_is_simplest_4, R_is_simplest_5, R_shows_simplest_0, R_shows_edge_size_0, R_shows_edge_size_1, addD_ii, addD_ss, addD_ll, addD_tt, subD_ii, mulD_ii, mulD_si, mulD_li, fdivD_ii, modD_ii, powD_ii, eqD_ii, eqD_ss, eqD_bb, neD_ii, neD_ss, neD_bb, ltD_ii, ltD_ss, leD_ii, gtD_ii, geD_ii, isD_n, isD_bb, isnotD_n, isnotD_bb, inD_ss, inD_l, inD_t, notinD_ss, notinD_l, notinD_t, ixD_l, ixD_t, ixD_s, slD_t, slD_s, slD_l, lenD_s, lenD_l, lenD_t, tupD_l, tupD_t, listD_l, listD_t, allD_l, anyD_l, sumD_l, maxD_ii, minD_ii, maxD_l, minD_l, absD_i, gcdD_ii, intD_i, intD_b, intD_s, strD_i, strD_s, reprD_1, joinD_l, splitD_s, PB_0, PB_1, PB_2, gIte_t, gIte_f, gIte_d, gIte_n, eqD_xt, eqD_tx, neD_xt, neD_tx, eqD_tt, neD_tt, hiD, isNo]
      rw [e] at fin
      rw [← fin true rfl]
      exact h
    | some cd =>
      obtain ⟨c, d⟩ := cd
      obtain ⟨d1, g2, sc, sd⟩ := O.hi c d e
      have cr2 := cross q1 d1 g g2
      rw [e] at fin
      simp only [gSeq, gSet, gVar, gVarB, gC, gBin, gChain, gTB, gIf, gIfS, gRet, gCall, gCallF, gCo, gN, gTup, gLst, gL, gNotT, gNotV, gAndT, gOrT, gAndV, gOrV, gIsi, gSl, gPart, gNo, gM0, gM1, gFn, gAn, gAd, gAp, gAs, gAsg, gTo, gToT, gToC, gTo0, gNext, gNeg, gPs0, gTick, gPix, gLenS, gIxS, gSumS, gLRg, gPar, gDic0, gDic1, gYes, gSeqI, gRg1, gRg2, gRetN, gSetF, gApp, gExt, gDrop, gFrz, gLcC_x, gForC_x, gRev, revD, gPar3F, gOff, gOffS, gBreak, gCont, clr, startD, nth, List.set, true_or, or_true, true_and, and_true, R__law_pot_0, R__law_pot_1, R__law_pot_2, R_is_fraction_0, R_is_stretch_0, R_is_stretch_1, R_is_inside_0, R_is_inside_1, R_reduced_0, R_simplest_of_0, R_simplest_of_1, R_simplest_of_2, R_simplest_of_3, R_simplest_of_4, R_simplest_of_5, R_simplest_of_6, R_simplest_of_7, R_simplest_of_8, R_simplest_of_9, R_simplest_of_10, R_parents_of_0, R_parents_of_1, R_parents_of_2, R_parents_of_3, R_parents_of_4, R_parents_of_5, R_edge_told_0, R_edge_size_0, R__law_take_0, R__law_take_1, R__law_take_2, R__law_take_3, R__law_take_4, R__law_take_5, R__law_take_6, R__law_cut_0, R__law_cut_1, R__law_stretch_0, R__law_stretch_1, R__law_stretch_2, R__law_stretch_3, R__law_stretch_4, R__law_is_in_0, R__law_is_in_1, R__law_simplest_0, R__law_simplest_1, R_simplest_0, R__law_is_paper_0, R__law_is_paper_1, R__law_is_paper_2, R__law_is_paper_3, R__law_is_paper_4, R__law_is_paper_5, R__law_is_paper_6, R__law_is_paper_7, R__law_is_edge_0, R__law_odd_0, R__law_odd_1, R__law_bent_0, R__law_bent_1, R__law_bent_2, R__law_bent_3, R__law_bent_4, R__law_bent_5, R_are_parents_0, R_are_parents_1, R_is_simplest_0, R_is_simplest_1, R_is_simplest_2, R_is_simplest_3, R_is_simplest_4, R_is_simplest_5, R_shows_simplest_0, R_shows_edge_size_0, R_shows_edge_size_1, addD_ii, addD_ss, addD_ll, addD_tt, subD_ii, mulD_ii, mulD_si, mulD_li, fdivD_ii, modD_ii, powD_ii, eqD_ii, eqD_ss, eqD_bb, neD_ii, neD_ss, neD_bb, ltD_ii, ltD_ss, leD_ii, gtD_ii, geD_ii, isD_n, isD_bb, isnotD_n, isnotD_bb, inD_ss, inD_l, inD_t, notinD_ss, notinD_l, notinD_t, ixD_l, ixD_t, ixD_s, slD_t, slD_s, slD_l, lenD_s, lenD_l, lenD_t, tupD_l, tupD_t, listD_l, listD_t, allD_l, anyD_l, sumD_l, maxD_ii, minD_ii, maxD_l, minD_l, absD_i, gcdD_ii, intD_i, intD_b, intD_s, strD_i, strD_s, reprD_1, joinD_l, splitD_s, PB_0, PB_1, PB_2, gIte_t, gIte_f, gIte_d, gIte_n, eqD_xt, eqD_tx, neD_xt, neD_tx, eqD_tt, neD_tt, hiD, isNo, List.append_nil]
      refine isLess_ok sp sq (sc.le (by decide)) (sd.le (by decide)) ?_
      simp only [gSeq, gSet, gVar, gVarB, gC, gBin, gChain, gTB, gIf, gIfS, gRet, gCall, gCallF, gCo, gN, gTup, gLst, gL, gNotT, gNotV, gAndT, gOrT, gAndV, gOrV, gIsi, gSl, gPart, gNo, gM0, gM1, gFn, gAn, gAd, gAp, gAs, gAsg, gTo, gToT, gToC, gTo0, gNext, gNeg, gPs0, gTick, gPix, gLenS, gIxS, gSumS, gLRg, gPar, gDic0, gDic1, gYes, gSeqI, gRg1, gRg2, gRetN, gSetF, gApp, gExt, gDrop, gFrz, gLcC_x, gForC_x, gRev, revD, gPar3F, gOff, gOffS, gBreak, gCont, clr, startD, nth, List.set, true_or, or_true, true_and, and_true, R__law_pot_0, R__law_pot_1, R__law_pot_2, R_is_fraction_0, R_is_stretch_0, R_is_stretch_1, R_is_inside_0, R_is_inside_1, R_reduced_0, R_simplest_of_0, R_simplest_of_1, R_simplest_of_2, R_simplest_of_3, R_simplest_of_4, R_simplest_of_5, R_simplest_of_6, R_simplest_of_7, R_simplest_of_8, R_simplest_of_9, R_simplest_of_10, R_parents_of_0, R_parents_of_1, R_parents_of_2, R_parents_of_3, R_parents_of_4, R_parents_of_5, R_edge_told_0, R_edge_size_0, R__law_take_0, R__law_take_1, R__law_take_2, R__law_take_3, R__law_take_4, R__law_take_5, R__law_take_6, R__law_cut_0, R__law_cut_1, R__law_stretch_0, R__law_stretch_1, R__law_stretch_2, R__law_stretch_3, R__law_stretch_4, R__law_is_in_0, R__law_is_in_1, R__law_simplest_0, R__law_simplest_1, R_simplest_0, R__law_is_paper_0, R__law_is_paper_1, R__law_is_paper_2, R__law_is_paper_3, R__law_is_paper_4, R__law_is_paper_5, R__law_is_paper_6, R__law_is_paper_7, R__law_is_edge_0, R__law_odd_0, R__law_odd_1, R__law_bent_0, R__law_bent_1, R__law_bent_2, R__law_bent_3, R__law_bent_4, R__law_bent_5, R_are_parents_0, R_are_parents_1, R_is_simplest_0, R_is_simplest_1, R_is_simplest_2, R_is_simplest_3, R_is_simplest_4, R_is_simplest_5, R_shows_simplest_0, R_shows_edge_size_0, R_shows_edge_size_1, addD_ii, addD_ss, addD_ll, addD_tt, subD_ii, mulD_ii, mulD_si, mulD_li, fdivD_ii, modD_ii, powD_ii, eqD_ii, eqD_ss, eqD_bb, neD_ii, neD_ss, neD_bb, ltD_ii, ltD_ss, leD_ii, gtD_ii, geD_ii, isD_n, isD_bb, isnotD_n, isnotD_bb, inD_ss, inD_l, inD_t, notinD_ss, notinD_l, notinD_t, ixD_l, ixD_t, ixD_s, slD_t, slD_s, slD_l, lenD_s, lenD_l, lenD_t, tupD_l, tupD_t, listD_l, listD_t, allD_l, anyD_l, sumD_l, maxD_ii, minD_ii, maxD_l, minD_l, absD_i, gcdD_ii, intD_i, intD_b, intD_s, strD_i, strD_s, reprD_1, joinD_l, splitD_s, PB_0, PB_1, PB_2, gIte_t, gIte_f, gIte_d, gIte_n, eqD_xt, eqD_tx, neD_xt, neD_tx, eqD_tt, neD_tt, eqv_pair]
      refine ⟨fun z => ?_, fun z => ⟨shaped_pair, shaped_pair, ?_⟩⟩
      · rw [fin true (by show true = (decide (p * d < c * q) || _); rw [decide_eq_true z, Bool.true_or])] at h
        exact h
      · by_cases w : p = c ∧ q = d
        · rw [decide_eq_true w.1, decide_eq_true w.2]
          refine ⟨fun _ => ?_, fun z => (nomatch z)⟩
          rw [fin S.ih (by show S.ih = (decide (p * d < c * q) || (S.ih && decide (p * d = c * q))); rw [decide_eq_false z, decide_eq_true (cr2.mpr w), Bool.false_or, Bool.and_true])] at h
          exact h
        · have : (decide (p = c) && decide (q = d)) = false := by
            rw [← Bool.not_eq_true, Bool.and_eq_true, decide_eq_true_eq, decide_eq_true_eq]
            exact w
          rw [this]
          refine ⟨fun z => (nomatch z), fun _ => ?_⟩
          rw [fin false (by show false = (decide (p * d < c * q) || (S.ih && decide (p * d = c * q))); rw [decide_eq_false z, decide_eq_false fun y => w (cr2.mp y), Bool.false_or, Bool.and_false])] at h
          exact h
  have no : inB S p q = false → K (.bool false) := fun z => by rwa [z] at h
  refine ⟨fun z => no ?_, fun z => ⟨shaped_pair, shaped_pair, ?_⟩⟩
  · unfold inB
    rw [decide_eq_false (show ¬ S.a * q < p * S.b by omega), decide_eq_false (show ¬ S.a * q = p * S.b by omega), Bool.and_false, Bool.or_false, Bool.false_and]
  · have z' := decide_eq_false z
    by_cases w : p = S.a ∧ q = S.b
    · rw [decide_eq_true w.1, decide_eq_true w.2]
      refine ⟨fun _ => ?_, fun z => (nomatch z)⟩
      cases il : S.il with
      | true =>
        refine ⟨fun _ => ?_, fun z => (nomatch z)⟩
        have := rest z' (.inl il)
        unfold Sp.D at this
        rw [il] at this
        exact this
      | false =>
        refine ⟨fun z => (nomatch z), fun _ => no ?_⟩
        unfold inB
        have := cr.mpr w
        rw [il, decide_eq_false (show ¬ S.a * q < p * S.b by omega), Bool.false_and, Bool.or_false, Bool.false_and]
    · have : (decide (p = S.a) && decide (q = S.b)) = false := by
        rw [← Bool.not_eq_true, Bool.and_eq_true, decide_eq_true_eq, decide_eq_true_eq]
        exact w
      rw [this]
      refine ⟨fun z => (nomatch z), fun _ => ?_⟩
      have := rest z' (.inr w)
      unfold Sp.D at this
      exact this
theorem isIn_ok {S : Sp} {p q c d : Int} (O : Ok S) (e : S.hi = some (c, d)) (sp : Sz 100 p) (sq : Sz 100 q) (h : K (.bool (inB S p q))) : F__law_is_in [.dat S.D, .dat (.int p), .dat (.int q)] K E := by
  have sa := O.sa.le (show 60 ≤ 100 by decide)
  have sb := O.sb.le (show 60 ≤ 100 by decide)
  obtain ⟨d1, g2, sc, sd⟩ := O.hi c d e
  have sc := sc.le (show 60 ≤ 100 by decide)
  have sd := sd.le (show 60 ≤ 100 by decide)
  have hh : K (.bool ((decide (S.a * q < p * S.b) || (S.il && decide (S.a * q = p * S.b))) && (decide (p * d < c * q) || (S.ih && decide (p * d = c * q))))) := by
    unfold inB at h
    rw [e] at h
    exact h
  unfold F__law_is_in specOf G__law_is_in N__law_is_in Sp.D
  rw [e]
  refine ⟨rfl, ?_⟩
  simp only [gSeq, gSet, gVar, gVarB, gC, gBin, gChain, gTB, gIf, gIfS, gRet, gCall, gCallF, gCo, gN, gTup, gLst, gL, gNotT, gNotV, gAndT, gOrT, gAndV, gOrV, gIsi, gSl, gPart, gNo, gM0, gM1, gFn, gAn, gAd, gAp, gAs, gAsg, gTo, gToT, gToC, gTo0, gNext, gNeg, gPs0, gTick, gPix, gLenS, gIxS, gSumS, gLRg, gPar, gDic0, gDic1, gYes, gSeqI, gRg1, gRg2, gRetN, gSetF, gApp, gExt, gDrop, gFrz, gLcC_x, gForC_x, gRev, revD, gPar3F, gOff, gOffS, gBreak, gCont, clr, startD, nth, List.set, true_or, or_true, true_and, and_true, R__law_pot_0, R__law_pot_1, R__law_pot_2, R_is_fraction_0, R_is_stretch_0, R_is_stretch_1, R_is_inside_0, R_is_inside_1, R_reduced_0, R_simplest_of_0, R_simplest_of_1, R_simplest_of_2, R_simplest_of_3, R_simplest_of_4, R_simplest_of_5, R_simplest_of_6, R_simplest_of_7, R_simplest_of_8, R_simplest_of_9, R_simplest_of_10, R_parents_of_0, R_parents_of_1, R_parents_of_2, R_parents_of_3, R_parents_of_4, R_parents_of_5, R_edge_told_0, R_edge_size_0, R__law_take_0, R__law_take_1, R__law_take_2, R__law_take_3, R__law_take_4, R__law_take_5, R__law_take_6, R__law_cut_0, R__law_cut_1, R__law_stretch_0, R__law_stretch_1, R__law_stretch_2, R__law_stretch_3, R__law_stretch_4, R__law_is_in_0, R__law_is_in_1, R__law_simplest_0, R__law_simplest_1, R_simplest_0, R__law_is_paper_0, R__law_is_paper_1, R__law_is_paper_2, R__law_is_paper_3, R__law_is_paper_4, R__law_is_paper_5, R__law_is_paper_6, R__law_is_paper_7, R__law_is_edge_0, R__law_odd_0, R__law_odd_1, R__law_bent_0, R__law_bent_1, R__law_bent_2, R__law_bent_3, R__law_bent_4, R__law_bent_5, R_are_parents_0, R_are_parents_1, R_is_simplest_0, R_is_simplest_1, R_is_simplest_2, R_is_simplest_3, R_is_simplest_4, R_is_simplest_5, R_shows_simplest_0, R_shows_edge_size_0, R_shows_edge_size_1, addD_ii, addD_ss, addD_ll, addD_tt, subD_ii, mulD_ii, mulD_si, mulD_li, fdivD_ii, modD_ii, powD_ii, eqD_ii, eqD_ss, eqD_bb, neD_ii, neD_ss, neD_bb, ltD_ii, ltD_ss, leD_ii, gtD_ii, geD_ii, isD_n, isD_bb, isnotD_n, isnotD_bb, inD_ss, inD_l, inD_t, notinD_ss, notinD_l, notinD_t, ixD_l, ixD_t, ixD_s, slD_t, slD_s, slD_l, lenD_s, lenD_l, lenD_t, tupD_l, tupD_t, listD_l, listD_t, allD_l, anyD_l, sumD_l, maxD_ii, minD_ii, maxD_l, minD_l, absD_i, gcdD_ii, intD_i, intD_b, intD_s, strD_i, strD_s, reprD_1, joinD_l, splitD_s, PB_0, PB_1, PB_2, gIte_t, gIte_f, gIte_d, gIte_n, eqD_xt, eqD_tx, neD_xt, neD_tx, eqD_tt, neD_tt, hiD]
  refine ⟨rfl, _, rfl, ?_⟩
  simp only [gSeq, gSet, gVar, gVarB, gC, gBin, gChain, gTB, gIf, gIfS, gRet, gCall, gCallF, gCo, gN, gTup, gLst, gL, gNotT, gNotV, gAndT, gOrT, gAndV, gOrV, gIsi, gSl, gPart, gNo, gM0, gM1, gFn, gAn, gAd, gAp, gAs, gAsg, gTo, gToT, gToC, gTo0, gNext, gNeg, gPs0, gTick, gPix, gLenS, gIxS, gSumS, gLRg, gPar, gDic0, gDic1, gYes, gSeqI, gRg1, gRg2, gRetN, gSetF, gApp, gExt, gDrop, gFrz, gLcC_x, gForC_x, gRev, revD, gPar3F, gOff, gOffS, gBreak, gCont, clr, startD, nth, List.set, true_or, or_true, true_and, and_true, R__law_pot_0, R__law_pot_1, R__law_pot_2, R_is_fraction_0, R_is_stretch_0, R_is_stretch_1, R_is_inside_0, R_is_inside_1, R_reduced_0, R_simplest_of_0, R_simplest_of_1, R_simplest_of_2, R_simplest_of_3, R_simplest_of_4, R_simplest_of_5, R_simplest_of_6, R_simplest_of_7, R_simplest_of_8, R_simplest_of_9, R_simplest_of_10, R_parents_of_0, R_parents_of_1, R_parents_of_2, R_parents_of_3, R_parents_of_4, R_parents_of_5, R_edge_told_0, R_edge_size_0, R__law_take_0, R__law_take_1, R__law_take_2, R__law_take_3, R__law_take_4, R__law_take_5, R__law_take_6, R__law_cut_0, R__law_cut_1, R__law_stretch_0, R__law_stretch_1, R__law_stretch_2, R__law_stretch_3, R__law_stretch_4, R__law_is_in_0, R__law_is_in_1, R__law_simplest_0, R__law_simplest_1, R_simplest_0, R__law_is_paper_0, R__law_is_paper_1, R__law_is_paper_2, R__law_is_paper_3, R__law_is_paper_4, R__law_is_paper_5, R__law_is_paper_6, R__law_is_paper_7, R__law_is_edge_0, R__law_odd_0, R__law_odd_1, R__law_bent_0, R__law_bent_1, R__law_bent_2, R__law_bent_3, R__law_bent_4, R__law_bent_5, R_are_parents_0, R_are_parents_1, R_is_simplest_0, R_is_simplest_1, R_is_simplest_2, R_is_simplest_3, R_is_simplest_4, R_is_simplest_5, R_shows_simplest_0, R_shows_edge_size_0, R_shows_edge_size_1, addD_ii, addD_ss, addD_ll, addD_tt, subD_ii, mulD_ii, mulD_si, mulD_li, fdivD_ii, modD_ii, powD_ii, eqD_ii, eqD_ss, eqD_bb, neD_ii, neD_ss, neD_bb, ltD_ii, ltD_ss, leD_ii, gtD_ii, geD_ii, isD_n, isD_bb, isnotD_n, isnotD_bb, inD_ss, inD_l, inD_t, notinD_ss, notinD_l, notinD_t, ixD_l, ixD_t, ixD_s, slD_t, slD_s, slD_l, lenD_s, lenD_l, lenD_t, tupD_l, tupD_t, listD_l, listD_t, allD_l, anyD_l, sumD_l, maxD_ii, minD_ii, maxD_l, minD_l, absD_i, gcdD_ii, intD_i, intD_b, intD_s, strD_i, strD_s, reprD_1, joinD_l, splitD_s, PB_0, PB_1, PB_2, gIte_t, gIte_f, gIte_d, gIte_n, eqD_xt, eqD_tx, neD_xt, neD_tx, eqD_tt, neD_tt]
  refine ⟨Sz.mulOk sp sb, _, rfl, ?_⟩
  simp only [gSeq, gSet, gVar, gVarB, gC, gBin, gChain, gTB, gIf, gIfS, gRet, gCall, gCallF, gCo, gN, gTup, gLst, gL, gNotT, gNotV, gAndT, gOrT, gAndV, gOrV, gIsi, gSl, gPart, gNo, gM0, gM1, gFn, gAn, gAd, gAp, gAs, gAsg, gTo, gToT, gToC, gTo0, gNext, gNeg, gPs0, gTick, gPix, gLenS, gIxS, gSumS, gLRg, gPar, gDic0, gDic1, gYes, gSeqI, gRg1, gRg2, gRetN, gSetF, gApp, gExt, gDrop, gFrz, gLcC_x, gForC_x, gRev, revD, gPar3F, gOff, gOffS, gBreak, gCont, clr, startD, nth, List.set, true_or, or_true, true_and, and_true, R__law_pot_0, R__law_pot_1, R__law_pot_2, R_is_fraction_0, R_is_stretch_0, R_is_stretch_1, R_is_inside_0, R_is_inside_1, R_reduced_0, R_simplest_of_0, R_simplest_of_1, R_simplest_of_2, R_simplest_of_3, R_simplest_of_4, R_simplest_of_5, R_simplest_of_6, R_simplest_of_7, R_simplest_of_8, R_simplest_of_9, R_simplest_of_10, R_parents_of_0, R_parents_of_1, R_parents_of_2, R_parents_of_3, R_parents_of_4, R_parents_of_5, R_edge_told_0, R_edge_size_0, R__law_take_0, R__law_take_1, R__law_take_2, R__law_take_3, R__law_take_4, R__law_take_5, R__law_take_6, R__law_cut_0, R__law_cut_1, R__law_stretch_0, R__law_stretch_1, R__law_stretch_2, R__law_stretch_3, R__law_stretch_4, R__law_is_in_0, R__law_is_in_1, R__law_simplest_0, R__law_simplest_1, R_simplest_0, R__law_is_paper_0, R__law_is_paper_1, R__law_is_paper_2, R__law_is_paper_3, R__law_is_paper_4, R__law_is_paper_5, R__law_is_paper_6, R__law_is_paper_7, R__law_is_edge_0, R__law_odd_0, R__law_odd_1, R__law_bent_0, R__law_bent_1, R__law_bent_2, R__law_bent_3, R__law_bent_4, R__law_bent_5, R_are_parents_0, R_are_parents_1, R_is_simplest_0, R_is_simplest_1, R_is_simplest_2, R_is_simplest_3, R_is_simplest_4, R_is_simplest_5, R_shows_simplest_0, R_shows_edge_size_0, R_shows_edge_size_1, addD_ii, addD_ss, addD_ll, addD_tt, subD_ii, mulD_ii, mulD_si, mulD_li, fdivD_ii, modD_ii, powD_ii, eqD_ii, eqD_ss, eqD_bb, neD_ii, neD_ss, neD_bb, ltD_ii, ltD_ss, leD_ii, gtD_ii, geD_ii, isD_n, isD_bb, isnotD_n, isnotD_bb, inD_ss, inD_l, inD_t, notinD_ss, notinD_l, notinD_t, ixD_l, ixD_t, ixD_s, slD_t, slD_s, slD_l, lenD_s, lenD_l, lenD_t, tupD_l, tupD_t, listD_l, listD_t, allD_l, anyD_l, sumD_l, maxD_ii, minD_ii, maxD_l, minD_l, absD_i, gcdD_ii, intD_i, intD_b, intD_s, strD_i, strD_s, reprD_1, joinD_l, splitD_s, PB_0, PB_1, PB_2, gIte_t, gIte_f, gIte_d, gIte_n, eqD_xt, eqD_tx, neD_xt, neD_tx, eqD_tt, neD_tt]
  refine ⟨Sz.mulOk sa sq, _, rfl, ?_⟩
  simp only [gSeq, gSet, gVar, gVarB, gC, gBin, gChain, gTB, gIf, gIfS, gRet, gCall, gCallF, gCo, gN, gTup, gLst, gL, gNotT, gNotV, gAndT, gOrT, gAndV, gOrV, gIsi, gSl, gPart, gNo, gM0, gM1, gFn, gAn, gAd, gAp, gAs, gAsg, gTo, gToT, gToC, gTo0, gNext, gNeg, gPs0, gTick, gPix, gLenS, gIxS, gSumS, gLRg, gPar, gDic0, gDic1, gYes, gSeqI, gRg1, gRg2, gRetN, gSetF, gApp, gExt, gDrop, gFrz, gLcC_x, gForC_x, gRev, revD, gPar3F, gOff, gOffS, gBreak, gCont, clr, startD, nth, List.set, true_or, or_true, true_and, and_true, R__law_pot_0, R__law_pot_1, R__law_pot_2, R_is_fraction_0, R_is_stretch_0, R_is_stretch_1, R_is_inside_0, R_is_inside_1, R_reduced_0, R_simplest_of_0, R_simplest_of_1, R_simplest_of_2, R_simplest_of_3, R_simplest_of_4, R_simplest_of_5, R_simplest_of_6, R_simplest_of_7, R_simplest_of_8, R_simplest_of_9, R_simplest_of_10, R_parents_of_0, R_parents_of_1, R_parents_of_2, R_parents_of_3, R_parents_of_4, R_parents_of_5, R_edge_told_0, R_edge_size_0, R__law_take_0, R__law_take_1, R__law_take_2, R__law_take_3, R__law_take_4, R__law_take_5, R__law_take_6, R__law_cut_0, R__law_cut_1, R__law_stretch_0, R__law_stretch_1, R__law_stretch_2, R__law_stretch_3, R__law_stretch_4, R__law_is_in_0, R__law_is_in_1, R__law_simplest_0, R__law_simplest_1, R_simplest_0, R__law_is_paper_0, R__law_is_paper_1, R__law_is_paper_2, R__law_is_paper_3, R__law_is_paper_4, R__law_is_paper_5, R__law_is_paper_6, R__law_is_paper_7, R__law_is_edge_0, R__law_odd_0, R__law_odd_1, R__law_bent_0, R__law_bent_1, R__law_bent_2, R__law_bent_3, R__law_bent_4, R__law_bent_5, R_are_parents_0, R_are_parents_1, R_is_simplest_0, R_is_simplest_1, R_is_simplest_2, R_is_simplest_3, R_is_simplest_4, R_is_simplest_5, R_shows_simplest_0, R_shows_edge_size_0, R_shows_edge_size_1, addD_ii, addD_ss, addD_ll, addD_tt, subD_ii, mulD_ii, mulD_si, mulD_li, fdivD_ii, modD_ii, powD_ii, eqD_ii, eqD_ss, eqD_bb, neD_ii, neD_ss, neD_bb, ltD_ii, ltD_ss, leD_ii, gtD_ii, geD_ii, isD_n, isD_bb, isnotD_n, isnotD_bb, inD_ss, inD_l, inD_t, notinD_ss, notinD_l, notinD_t, ixD_l, ixD_t, ixD_s, slD_t, slD_s, slD_l, lenD_s, lenD_l, lenD_t, tupD_l, tupD_t, listD_l, listD_t, allD_l, anyD_l, sumD_l, maxD_ii, minD_ii, maxD_l, minD_l, absD_i, gcdD_ii, intD_i, intD_b, intD_s, strD_i, strD_s, reprD_1, joinD_l, splitD_s, PB_0, PB_1, PB_2, gIte_t, gIte_f, gIte_d, gIte_n, eqD_xt, eqD_tx, neD_xt, neD_tx, eqD_tt, neD_tt]
  refine ⟨Sz.mulOk sc sq, _, rfl, ?_⟩
  simp only [gSeq, gSet, gVar, gVarB, gC, gBin, gChain, gTB, gIf, gIfS, gRet, gCall, gCallF, gCo, gN, gTup, gLst, gL, gNotT, gNotV, gAndT, gOrT, gAndV, gOrV, gIsi, gSl, gPart, gNo, gM0, gM1, gFn, gAn, gAd, gAp, gAs, gAsg, gTo, gToT, gToC, gTo0, gNext, gNeg, gPs0, gTick, gPix, gLenS, gIxS, gSumS, gLRg, gPar, gDic0, gDic1, gYes, gSeqI, gRg1, gRg2, gRetN, gSetF, gApp, gExt, gDrop, gFrz, gLcC_x, gForC_x, gRev, revD, gPar3F, gOff, gOffS, gBreak, gCont, clr, startD, nth, List.set, true_or, or_true, true_and, and_true, R__law_pot_0, R__law_pot_1, R__law_pot_2, R_is_fraction_0, R_is_stretch_0, R_is_stretch_1, R_is_inside_0, R_is_inside_1, R_reduced_0, R_simplest_of_0, R_simplest_of_1, R_simplest_of_2, R_simplest_of_3, R_simplest_of_4, R_simplest_of_5, R_simplest_of_6, R_simplest_of_7, R_simplest_of_8, R_simplest_of_9, R_simplest_of_10, R_parents_of_0, R_parents_of_1, R_parents_of_2, R_parents_of_3, R_parents_of_4, R_parents_of_5, R_edge_told_0, R_edge_size_0, R__law_take_0, R__law_take_1, R__law_take_2, R__law_take_3, R__law_take_4, R__law_take_5, R__law_take_6, R__law_cut_0, R__law_cut_1, R__law_stretch_0, R__law_stretch_1, R__law_stretch_2, R__law_stretch_3, R__law_stretch_4, R__law_is_in_0, R__law_is_in_1, R__law_simplest_0, R__law_simplest_1, R_simplest_0, R__law_is_paper_0, R__law_is_paper_1, R__law_is_paper_2, R__law_is_paper_3, R__law_is_paper_4, R__law_is_paper_5, R__law_is_paper_6, R__law_is_paper_7, R__law_is_edge_0, R__law_odd_0, R__law_odd_1, R__law_bent_0, R__law_bent_1, R__law_bent_2, R__law_bent_3, R__law_bent_4, R__law_bent_5, R_are_parents_0, R_are_parents_1, R_is_simplest_0, R_is_simplest_1, R_is_simplest_2, R_is_simplest_3, R_is_simplest_4, R_is_simplest_5, R_shows_simplest_0, R_shows_edge_size_0, R_shows_edge_size_1, addD_ii, addD_ss, addD_ll, addD_tt, subD_ii, mulD_ii, mulD_si, mulD_li, fdivD_ii, modD_ii, powD_ii, eqD_ii, eqD_ss, eqD_bb, neD_ii, neD_ss, neD_bb, ltD_ii, ltD_ss, leD_ii, gtD_ii, geD_ii, isD_n, isD_bb, isnotD_n, isnotD_bb, inD_ss, inD_l, inD_t, notinD_ss, notinD_l, notinD_t, ixD_l, ixD_t, ixD_s, slD_t, slD_s, slD_l, lenD_s, lenD_l, lenD_t, tupD_l, tupD_t, listD_l, listD_t, allD_l, anyD_l, sumD_l, maxD_ii, minD_ii, maxD_l, minD_l, absD_i, gcdD_ii, intD_i, intD_b, intD_s, strD_i, strD_s, reprD_1, joinD_l, splitD_s, PB_0, PB_1, PB_2, gIte_t, gIte_f, gIte_d, gIte_n, eqD_xt, eqD_tx, neD_xt, neD_tx, eqD_tt, neD_tt]
  refine ⟨Sz.mulOk sp sd, ?_⟩
  have c1 : decide (0 < p * S.b - S.a * q) = decide (S.a * q < p * S.b) := decide_eq_decide.mpr (by omega)
  have c2 : decide (p * S.b - S.a * q = 0) = decide (S.a * q = p * S.b) := decide_eq_decide.mpr (by omega)
  have c3 : decide (0 < c * q - p * d) = decide (p * d < c * q) := decide_eq_decide.mpr (by omega)
  have c4 : decide (c * q - p * d = 0) = decide (p * d = c * q) := decide_eq_decide.mpr (by omega)
  simp only [← gIte_d, c1, c2, c3, c4]
  generalize decide (S.a * q < p * S.b) = x1 at *
  generalize decide (S.a * q = p * S.b) = x2 at *
  generalize decide (p * d < c * q) = x3 at *
  generalize decide (p * d = c * q) = x4 at *
  generalize S.il = y1 at *
  generalize S.ih = y2 at *
  cases x1 <;> cases x2 <;> cases x3 <;> cases x4 <;> cases y1 <;> cases y2 <;> simp only [gIte_t, gIte_f] <;> exact hh
end K83
/-! K83x: checks, the simplest fraction, parents: what the defs tell. -/
namespace K83
open PySem DL
variable {K : D → Prop} {E : Value → D → Prop}
abbrev frD (p q : Int) : D := .tuple [.int p, .int q]
theorem beyond_of {i : Int} (h : Sz 60 i) : i < 10 ^ 300 ∧ -i < 10 ^ 300 := by
  have h1 : i.natAbs < 2 ^ 60 := h
  have h2 : (2 : Nat) ^ 60 < 10 ^ 300 := by decide +kernel
  have h4 : ((10 ^ 300 : Nat) : Int) = (10 : Int) ^ 300 := by simp
  generalize (10 : Nat) ^ 300 = z at *
  rw [← h4]
  omega
theorem beyond_eq : d_BEYOND = .int (10 ^ 300) := by
  unfold d_BEYOND
  congr 1
theorem isTold_ok {p q : Int} (q1 : 1 ≤ q) (g : Nat.gcd p.natAbs q.natAbs = 1) (sp : Sz 60 p) (sq : Sz 60 q) (h : K (.bool true)) : F_is_told_fraction [.dat (frD p q)] K E := by
  have ⟨p1, p2⟩ := beyond_of sp
  have ⟨q2, _⟩ := beyond_of sq
  unfold F_is_told_fraction specOf G_is_told_fraction N_is_told_fraction
  refine ⟨rfl, ?_⟩
  simp only [gSeq, gSet, gVar, gVarB, gC, gBin, gChain, gTB, gIf, gIfS, gRet, gCall, gCallF, gCo, gN, gTup, gLst, gL, gNotT, gNotV, gAndT, gOrT, gAndV, gOrV, gIsi, gSl, gPart, gNo, gM0, gM1, gFn, gAn, gAd, gAp, gAs, gAsg, gTo, gToT, gToC, gTo0, gNext, gNeg, gPs0, gTick, gPix, gLenS, gIxS, gSumS, gLRg, gPar, gDic0, gDic1, gYes, gSeqI, gRg1, gRg2, gRetN, gSetF, gApp, gExt, gDrop, gFrz, gLcC_x, gForC_x, gRev, revD, gPar3F, gOff, gOffS, gBreak, gCont, clr, startD, nth, List.set, true_or, or_true, true_and, and_true, R__law_pot_0, R__law_pot_1, R__law_pot_2, R_is_fraction_0, R_is_stretch_0, R_is_stretch_1, R_is_inside_0, R_is_inside_1, R_reduced_0, R_simplest_of_0, R_simplest_of_1, R_simplest_of_2, R_simplest_of_3, R_simplest_of_4, R_simplest_of_5, R_simplest_of_6, R_simplest_of_7, R_simplest_of_8, R_simplest_of_9, R_simplest_of_10, R_parents_of_0, R_parents_of_1, R_parents_of_2, R_parents_of_3, R_parents_of_4, R_parents_of_5, R_edge_told_0, R_edge_size_0, R__law_take_0, R__law_take_1, R__law_take_2, R__law_take_3, R__law_take_4, R__law_take_5, R__law_take_6, R__law_cut_0, R__law_cut_1, R__law_stretch_0, R__law_stretch_1, R__law_stretch_2, R__law_stretch_3, R__law_stretch_4, R__law_is_in_0, R__law_is_in_1, R__law_simplest_0, R__law_simplest_1, R_simplest_0, R__law_is_paper_0, R__law_is_paper_1, R__law_is_paper_2, R__law_is_paper_3, R__law_is_paper_4, R__law_is_paper_5, R__law_is_paper_6, R__law_is_paper_7, R__law_is_edge_0, R__law_odd_0, R__law_odd_1, R__law_bent_0, R__law_bent_1, R__law_bent_2, R__law_bent_3, R__law_bent_4, R__law_bent_5, R_are_parents_0, R_are_parents_1, R_is_simplest_0, R_is_simplest_1, R_is_simplest_2, R_is_simplest_3, R_is_simplest_4, R_is_simplest_5, R_shows_simplest_0, R_shows_edge_size_0, R_shows_edge_size_1, addD_ii, addD_ss, addD_ll, addD_tt, subD_ii, mulD_ii, mulD_si, mulD_li, fdivD_ii, modD_ii, powD_ii, eqD_ii, eqD_ss, eqD_bb, neD_ii, neD_ss, neD_bb, ltD_ii, ltD_ss, leD_ii, gtD_ii, geD_ii, isD_n, isD_bb, isnotD_n, isnotD_bb, inD_ss, inD_l, inD_t, notinD_ss, notinD_l, notinD_t, ixD_l, ixD_t, ixD_s, slD_t, slD_s, slD_l, lenD_s, lenD_l, lenD_t, tupD_l, tupD_t, listD_l, listD_t, allD_l, anyD_l, sumD_l, maxD_ii, minD_ii, maxD_l, minD_l, absD_i, gcdD_ii, intD_i, intD_b, intD_s, strD_i, strD_s, reprD_1, joinD_l, splitD_s, PB_0, PB_1, PB_2, gIte_t, gIte_f, gIte_d, gIte_n, eqD_xt, eqD_tx, neD_xt, neD_tx, eqD_tt, neD_tt, List.append_nil, beyond_eq]
  refine isFraction_ok ?_
  have e : fracB (frD p q) = true := by
    show (decide (1 ≤ q) && decide (Nat.gcd p.natAbs q.natAbs = 1)) = true
    rw [decide_eq_true q1, decide_eq_true g]
    rfl
  rw [e]
  simp only [gSeq, gSet, gVar, gVarB, gC, gBin, gChain, gTB, gIf, gIfS, gRet, gCall, gCallF, gCo, gN, gTup, gLst, gL, gNotT, gNotV, gAndT, gOrT, gAndV, gOrV, gIsi, gSl, gPart, gNo, gM0, gM1, gFn, gAn, gAd, gAp, gAs, gAsg, gTo, gToT, gToC, gTo0, gNext, gNeg, gPs0, gTick, gPix, gLenS, gIxS, gSumS, gLRg, gPar, gDic0, gDic1, gYes, gSeqI, gRg1, gRg2, gRetN, gSetF, gApp, gExt, gDrop, gFrz, gLcC_x, gForC_x, gRev, revD, gPar3F, gOff, gOffS, gBreak, gCont, clr, startD, nth, List.set, true_or, or_true, true_and, and_true, R__law_pot_0, R__law_pot_1, R__law_pot_2, R_is_fraction_0, R_is_stretch_0, R_is_stretch_1, R_is_inside_0, R_is_inside_1, R_reduced_0, R_simplest_of_0, R_simplest_of_1, R_simplest_of_2, R_simplest_of_3, R_simplest_of_4, R_simplest_of_5, R_simplest_of_6, R_simplest_of_7, R_simplest_of_8, R_simplest_of_9, R_simplest_of_10, R_parents_of_0, R_parents_of_1, R_parents_of_2, R_parents_of_3, R_parents_of_4, R_parents_of_5, R_edge_told_0, R_edge_size_0, R__law_take_0, R__law_take_1, R__law_take_2, R__law_take_3, R__law_take_4, R__law_take_5, R__law_take_6, R__law_cut_0, R__law_cut_1, R__law_stretch_0, R__law_stretch_1, R__law_stretch_2, R__law_stretch_3, R__law_stretch_4, R__law_is_in_0, R__law_is_in_1, R__law_simplest_0, R__law_simplest_1, R_simplest_0, R__law_is_paper_0, R__law_is_paper_1, R__law_is_paper_2, R__law_is_paper_3, R__law_is_paper_4, R__law_is_paper_5, R__law_is_paper_6, R__law_is_paper_7, R__law_is_edge_0, R__law_odd_0, R__law_odd_1, R__law_bent_0, R__law_bent_1, R__law_bent_2, R__law_bent_3, R__law_bent_4, R__law_bent_5, R_are_parents_0, R_are_parents_1, R_is_simplest_0, R_is_simplest_1, R_is_simplest_2, R_is_simplest_3, R_is_simplest_4, R_is_simplest_5, R_shows_simplest_0, R_shows_edge_size_0, R_shows_edge_size_1, addD_ii, addD_ss, addD_ll, addD_tt, subD_ii, mulD_ii, mulD_si, mulD_li, fdivD_ii, modD_ii, powD_ii, eqD_ii, eqD_ss, eqD_bb, neD_ii, neD_ss, neD_bb, ltD_ii, ltD_ss, leD_ii, gtD_ii, geD_ii, isD_n, isD_bb, isnotD_n, isnotD_bb, inD_ss, inD_l, inD_t, notinD_ss, notinD_l, notinD_t, ixD_l, ixD_t, ixD_s, slD_t, slD_s, slD_l, lenD_s, lenD_l, lenD_t, tupD_l, tupD_t, listD_l, listD_t, allD_l, anyD_l, sumD_l, maxD_ii, minD_ii, maxD_l, minD_l, absD_i, gcdD_ii, intD_i, intD_b, intD_s, strD_i, strD_s, reprD_1, joinD_l, splitD_s, PB_0, PB_1, PB_2, gIte_t, gIte_f, gIte_d, gIte_n, eqD_xt, eqD_tx, neD_xt, neD_tx, eqD_tt, neD_tt]
  refine ⟨_, rfl, ?_⟩
  simp only [gSeq, gSet, gVar, gVarB, gC, gBin, gChain, gTB, gIf, gIfS, gRet, gCall, gCallF, gCo, gN, gTup, gLst, gL, gNotT, gNotV, gAndT, gOrT, gAndV, gOrV, gIsi, gSl, gPart, gNo, gM0, gM1, gFn, gAn, gAd, gAp, gAs, gAsg, gTo, gToT, gToC, gTo0, gNext, gNeg, gPs0, gTick, gPix, gLenS, gIxS, gSumS, gLRg, gPar, gDic0, gDic1, gYes, gSeqI, gRg1, gRg2, gRetN, gSetF, gApp, gExt, gDrop, gFrz, gLcC_x, gForC_x, gRev, revD, gPar3F, gOff, gOffS, gBreak, gCont, clr, startD, nth, List.set, true_or, or_true, true_and, and_true, R__law_pot_0, R__law_pot_1, R__law_pot_2, R_is_fraction_0, R_is_stretch_0, R_is_stretch_1, R_is_inside_0, R_is_inside_1, R_reduced_0, R_simplest_of_0, R_simplest_of_1, R_simplest_of_2, R_simplest_of_3, R_simplest_of_4, R_simplest_of_5, R_simplest_of_6, R_simplest_of_7, R_simplest_of_8, R_simplest_of_9, R_simplest_of_10, R_parents_of_0, R_parents_of_1, R_parents_of_2, R_parents_of_3, R_parents_of_4, R_parents_of_5, R_edge_told_0, R_edge_size_0, R__law_take_0, R__law_take_1, R__law_take_2, R__law_take_3, R__law_take_4, R__law_take_5, R__law_take_6, R__law_cut_0, R__law_cut_1, R__law_stretch_0, R__law_stretch_1, R__law_stretch_2, R__law_stretch_3, R__law_stretch_4, R__law_is_in_0, R__law_is_in_1, R__law_simplest_0, R__law_simplest_1, R_simplest_0, R__law_is_paper_0, R__law_is_paper_1, R__law_is_paper_2, R__law_is_paper_3, R__law_is_paper_4, R__law_is_paper_5, R__law_is_paper_6, R__law_is_paper_7, R__law_is_edge_0, R__law_odd_0, R__law_odd_1, R__law_bent_0, R__law_bent_1, R__law_bent_2, R__law_bent_3, R__law_bent_4, R__law_bent_5, R_are_parents_0, R_are_parents_1, R_is_simplest_0, R_is_simplest_1, R_is_simplest_2, R_is_simplest_3, R_is_simplest_4, R_is_simplest_5, R_shows_simplest_0, R_shows_edge_size_0, R_shows_edge_size_1, addD_ii, addD_ss, addD_ll, addD_tt, subD_ii, mulD_ii, mulD_si, mulD_li, fdivD_ii, modD_ii, powD_ii, eqD_ii, eqD_ss, eqD_bb, neD_ii, neD_ss, neD_bb, ltD_ii, ltD_ss, leD_ii, gtD_ii, geD_ii, isD_n, isD_bb, isnotD_n, isnotD_bb, inD_ss, inD_l, inD_t, notinD_ss, notinD_l, notinD_t, ixD_l, ixD_t, ixD_s, slD_t, slD_s, slD_l, lenD_s, lenD_l, lenD_t, tupD_l, tupD_t, listD_l, listD_t, allD_l, anyD_l, sumD_l, maxD_ii, minD_ii, maxD_l, minD_l, absD_i, gcdD_ii, intD_i, intD_b, intD_s, strD_i, strD_s, reprD_1, joinD_l, splitD_s, PB_0, PB_1, PB_2, gIte_t, gIte_f, gIte_d, gIte_n, eqD_xt, eqD_tx, neD_xt, neD_tx, eqD_tt, neD_tt]
  have p3 : (if p < 0 then -p else p) < 10 ^ 300 := by split <;> assumption
  refine ⟨fun _ => ⟨_, rfl, ?_⟩, fun z => absurd p3 z⟩
  simp only [gSeq, gSet, gVar, gVarB, gC, gBin, gChain, gTB, gIf, gIfS, gRet, gCall, gCallF, gCo, gN, gTup, gLst, gL, gNotT, gNotV, gAndT, gOrT, gAndV, gOrV, gIsi, gSl, gPart, gNo, gM0, gM1, gFn, gAn, gAd, gAp, gAs, gAsg, gTo, gToT, gToC, gTo0, gNext, gNeg, gPs0, gTick, gPix, gLenS, gIxS, gSumS, gLRg, gPar, gDic0, gDic1, gYes, gSeqI, gRg1, gRg2, gRetN, gSetF, gApp, gExt, gDrop, gFrz, gLcC_x, gForC_x, gRev, revD, gPar3F, gOff, gOffS, gBreak, gCont, clr, startD, nth, List.set, true_or, or_true, true_and, and_true, R__law_pot_0, R__law_pot_1, R__law_pot_2, R_is_fraction_0, R_is_stretch_0, R_is_stretch_1, R_is_inside_0, R_is_inside_1, R_reduced_0, R_simplest_of_0, R_simplest_of_1, R_simplest_of_2, R_simplest_of_3, R_simplest_of_4, R_simplest_of_5, R_simplest_of_6, R_simplest_of_7, R_simplest_of_8, R_simplest_of_9, R_simplest_of_10, R_parents_of_0, R_parents_of_1, R_parents_of_2, R_parents_of_3, R_parents_of_4, R_parents_of_5, R_edge_told_0, R_edge_size_0, R__law_take_0, R__law_take_1, R__law_take_2, R__law_take_3, R__law_take_4, R__law_take_5, R__law_take_6, R__law_cut_0, R__law_cut_1, R__law_stretch_0, R__law_stretch_1, R__law_stretch_2, R__law_stretch_3, R__law_stretch_4, R__law_is_in_0, R__law_is_in_1, R__law_simplest_0, R__law_simplest_1, R_simplest_0, R__law_is_paper_0, R__law_is_paper_1, R__law_is_paper_2, R__law_is_paper_3, R__law_is_paper_4, R__law_is_paper_5, R__law_is_paper_6, R__law_is_paper_7, R__law_is_edge_0, R__law_odd_0, R__law_odd_1, R__law_bent_0, R__law_bent_1, R__law_bent_2, R__law_bent_3, R__law_bent_4, R__law_bent_5, R_are_parents_0, R_are_parents_1, R_is_simplest_0, R_is_simplest_1, R_is_simplest_2, R_is_simplest_3, R_is_simplest_4, R_is_simplest_5, R_shows_simplest_0, R_shows_edge_size_0, R_shows_edge_size_1, addD_ii, addD_ss, addD_ll, addD_tt, subD_ii, mulD_ii, mulD_si, mulD_li, fdivD_ii, modD_ii, powD_ii, eqD_ii, eqD_ss, eqD_bb, neD_ii, neD_ss, neD_bb, ltD_ii, ltD_ss, leD_ii, gtD_ii, geD_ii, isD_n, isD_bb, isnotD_n, isnotD_bb, inD_ss, inD_l, inD_t, notinD_ss, notinD_l, notinD_t, ixD_l, ixD_t, ixD_s, slD_t, slD_s, slD_l, lenD_s, lenD_l, lenD_t, tupD_l, tupD_t, listD_l, listD_t, allD_l, anyD_l, sumD_l, maxD_ii, minD_ii, maxD_l, minD_l, absD_i, gcdD_ii, intD_i, intD_b, intD_s, strD_i, strD_s, reprD_1, joinD_l, splitD_s, PB_0, PB_1, PB_2, gIte_t, gIte_f, gIte_d, gIte_n, eqD_xt, eqD_tx, neD_xt, neD_tx, eqD_tt, neD_tt]
  rw [decide_eq_true q2]
  exact h
structure Firm (S : Sp) (c d : Int) : Prop where
  e : S.hi = some (c, d)
  a0 : 0 ≤ S.a
  ne : S.a * d < c * S.b ∨ (S.a = c ∧ S.b = d ∧ S.il = true ∧ S.ih = true)
theorem isStretch_ok {S : Sp} {c d : Int} (O : Ok S) (F : Firm S c d) (h : K (.bool true)) : F_is_stretch [.dat S.D] K E := by
  obtain ⟨d1, g2, sc, sd⟩ := O.hi c d F.e
  have a0 := F.a0
  unfold F_is_stretch specOf G_is_stretch N_is_stretch Sp.D
  rw [F.e]
  refine ⟨rfl, ?_⟩
  simp only [gSeq, gSet, gVar, gVarB, gC, gBin, gChain, gTB, gIf, gIfS, gRet, gCall, gCallF, gCo, gN, gTup, gLst, gL, gNotT, gNotV, gAndT, gOrT, gAndV, gOrV, gIsi, gSl, gPart, gNo, gM0, gM1, gFn, gAn, gAd, gAp, gAs, gAsg, gTo, gToT, gToC, gTo0, gNext, gNeg, gPs0, gTick, gPix, gLenS, gIxS, gSumS, gLRg, gPar, gDic0, gDic1, gYes, gSeqI, gRg1, gRg2, gRetN, gSetF, gApp, gExt, gDrop, gFrz, gLcC_x, gForC_x, gRev, revD, gPar3F, gOff, gOffS, gBreak, gCont, clr, startD, nth, List.set, true_or, or_true, true_and, and_true, R__law_pot_0, R__law_pot_1, R__law_pot_2, R_is_fraction_0, R_is_stretch_0, R_is_stretch_1, R_is_inside_0, R_is_inside_1, R_reduced_0, R_simplest_of_0, R_simplest_of_1, R_simplest_of_2, R_simplest_of_3, R_simplest_of_4, R_simplest_of_5, R_simplest_of_6, R_simplest_of_7, R_simplest_of_8, R_simplest_of_9, R_simplest_of_10, R_parents_of_0, R_parents_of_1, R_parents_of_2, R_parents_of_3, R_parents_of_4, R_parents_of_5, R_edge_told_0, R_edge_size_0, R__law_take_0, R__law_take_1, R__law_take_2, R__law_take_3, R__law_take_4, R__law_take_5, R__law_take_6, R__law_cut_0, R__law_cut_1, R__law_stretch_0, R__law_stretch_1, R__law_stretch_2, R__law_stretch_3, R__law_stretch_4, R__law_is_in_0, R__law_is_in_1, R__law_simplest_0, R__law_simplest_1, R_simplest_0, R__law_is_paper_0, R__law_is_paper_1, R__law_is_paper_2, R__law_is_paper_3, R__law_is_paper_4, R__law_is_paper_5, R__law_is_paper_6, R__law_is_paper_7, R__law_is_edge_0, R__law_odd_0, R__law_odd_1, R__law_bent_0, R__law_bent_1, R__law_bent_2, R__law_bent_3, R__law_bent_4, R__law_bent_5, R_are_parents_0, R_are_parents_1, R_is_simplest_0, R_is_simplest_1, R_is_simplest_2, R_is_simplest_3, R_is_simplest_4, R_is_simplest_5, R_shows_simplest_0, R_shows_edge_size_0, R_shows_edge_size_1, addD_ii, addD_ss, addD_ll, addD_tt, subD_ii, mulD_ii, mulD_si, mulD_li, fdivD_ii, modD_ii, powD_ii, eqD_ii, eqD_ss, eqD_bb, neD_ii, neD_ss, neD_bb, ltD_ii, ltD_ss, leD_ii, gtD_ii, geD_ii, isD_n, isD_bb, isnotD_n, isnotD_bb, inD_ss, inD_l, inD_t, notinD_ss, notinD_l, notinD_t, ixD_l, ixD_t, ixD_s, slD_t, slD_s, slD_l, lenD_s, lenD_l, lenD_t, tupD_l, tupD_t, listD_l, listD_t, allD_l, anyD_l, sumD_l, maxD_ii, minD_ii, maxD_l, minD_l, absD_i, gcdD_ii, intD_i, intD_b, intD_s, strD_i, strD_s, reprD_1, joinD_l, splitD_s, PB_0, PB_1, PB_2, gIte_t, gIte_f, gIte_d, gIte_n, eqD_xt, eqD_tx, neD_xt, neD_tx, eqD_tt, neD_tt, isTupD, Bool.not_true, List.append_nil, hiD]
  refine ⟨fun _ => ⟨sl (n := 2) (by decide), ?_⟩, fun z => absurd rfl z⟩
  refine lc_to (fun _ => .bool true) rfl (by decide) (fun x hx P hP => ?_) ⟨[true, true], rfl, ?_⟩
  · simp only [List.mem_cons, List.not_mem_nil, or_false] at hx
    rcases hx with rfl | rfl
    · exact ⟨_, rfl, hP⟩
    · exact ⟨_, rfl, hP⟩
  · refine ⟨fun _ => ⟨_, rfl, isTold_ok O.b1 O.g O.sa O.sb ?_⟩, fun z => nomatch z⟩
    simp only [gSeq, gSet, gVar, gVarB, gC, gBin, gChain, gTB, gIf, gIfS, gRet, gCall, gCallF, gCo, gN, gTup, gLst, gL, gNotT, gNotV, gAndT, gOrT, gAndV, gOrV, gIsi, gSl, gPart, gNo, gM0, gM1, gFn, gAn, gAd, gAp, gAs, gAsg, gTo, gToT, gToC, gTo0, gNext, gNeg, gPs0, gTick, gPix, gLenS, gIxS, gSumS, gLRg, gPar, gDic0, gDic1, gYes, gSeqI, gRg1, gRg2, gRetN, gSetF, gApp, gExt, gDrop, gFrz, gLcC_x, gForC_x, gRev, revD, gPar3F, gOff, gOffS, gBreak, gCont, clr, startD, nth, List.set, true_or, or_true, true_and, and_true, R__law_pot_0, R__law_pot_1, R__law_pot_2, R_is_fraction_0, R_is_stretch_0, R_is_stretch_1, R_is_inside_0, R_is_inside_1, R_reduced_0, R_simplest_of_0, R_simplest_of_1, R_simplest_of_2, R_simplest_of_3, R_simplest_of_4, R_simplest_of_5, R_simplest_of_6, R_simplest_of_7, R_simplest_of_8, R_simplest_of_9, R_simplest_of_10, R_parents_of_0, R_parents_of_1, R_parents_of_2, R_parents_of_3, R_parents_of_4, R_parents_of_5, R_edge_told_0, R_edge_size_0, R__law_take_0, R__law_take_1, R__law_take_2, R__law_take_3, R__law_take_4, R__law_take_5, R__law_take_6, R__law_cut_0, R__law_cut_1, R__law_stretch_0, R__law_stretch_1, R__law_stretch_2, R__law_stretch_3, R__law_stretch_4, R__law_is_in_0, R__law_is_in_1, R__law_simplest_0, R__law_simplest_1, R_simplest_0, R__law_is_paper_0, R__law_is_paper_1, R__law_is_paper_2, R__law_is_paper_3, R__law_is_paper_4, R__law_is_paper_5, R__law_is_paper_6, R__law_is_paper_7, R__law_is_edge_0, R__law_odd_0, R__law_odd_1, R__law_bent_0, R__law_bent_1, R__law_bent_2, R__law_bent_3, R__law_bent_4, R__law_bent_5, R_are_parents_0, R_are_parents_1, R_is_simplest_0, R_is_simplest_1, R_is_simplest_2, R_is_simplest_3, R_is_simplest_4, R_is_simplest_5, R_shows_simplest_0, R_shows_edge_size_0, R_shows_edge_size_1, addD_ii, addD_ss, addD_ll, addD_tt, subD_ii, mulD_ii, mulD_si, mulD_li, fdivD_ii, modD_ii, powD_ii, eqD_ii, eqD_ss, eqD_bb, neD_ii, neD_ss, neD_bb, ltD_ii, ltD_ss, leD_ii, gtD_ii, geD_ii, isD_n, isD_bb, isnotD_n, isnotD_bb, inD_ss, inD_l, inD_t, notinD_ss, notinD_l, notinD_t, ixD_l, ixD_t, ixD_s, slD_t, slD_s, slD_l, lenD_s, lenD_l, lenD_t, tupD_l, tupD_t, listD_l, listD_t, allD_l, anyD_l, sumD_l, maxD_ii, minD_ii, maxD_l, minD_l, absD_i, gcdD_ii, intD_i, intD_b, intD_s, strD_i, strD_s, reprD_1, joinD_l, splitD_s, PB_0, PB_1, PB_2, gIte_t, gIte_f, gIte_d, gIte_n, eqD_xt, eqD_tx, neD_xt, neD_tx, eqD_tt, neD_tt]
    refine ⟨_, rfl, isTold_ok d1 g2 sc sd ?_⟩
    simp only [gSeq, gSet, gVar, gVarB, gC, gBin, gChain, gTB, gIf, gIfS, gRet, gCall, gCallF, gCo, gN, gTup, gLst, gL, gNotT, gNotV, gAndT, gOrT, gAndV, gOrV, gIsi, gSl, gPart, gNo, gM0, gM1, gFn, gAn, gAd, gAp, gAs, gAsg, gTo, gToT, gToC, gTo0, gNext, gNeg, gPs0, gTick, gPix, gLenS, gIxS, gSumS, gLRg, gPar, gDic0, gDic1, gYes, gSeqI, gRg1, gRg2, gRetN, gSetF, gApp, gExt, gDrop, gFrz, gLcC_x, gForC_x, gRev, revD, gPar3F, gOff, gOffS, gBreak, gCont, clr, startD, nth, List.set, true_or, or_true, true_and, and_true, R__law_pot_0, R__law_pot_1, R__law_pot_2, R_is_fraction_0, R_is_stretch_0, R_is_stretch_1, R_is_inside_0, R_is_inside_1, R_reduced_0, R_simplest_of_0, R_simplest_of_1, R_simplest_of_2, R_simplest_of_3, R_simplest_of_4, R_simplest_of_5, R_simplest_of_6, R_simplest_of_7, R_simplest_of_8, R_simplest_of_9, R_simplest_of_10, R_parents_of_0, R_parents_of_1, R_parents_of_2, R_parents_of_3, R_parents_of_4, R_parents_of_5, R_edge_told_0, R_edge_size_0, R__law_take_0, R__law_take_1, R__law_take_2, R__law_take_3, R__law_take_4, R__law_take_5, R__law_take_6, R__law_cut_0, R__law_cut_1, R__law_stretch_0, R__law_stretch_1, R__law_stretch_2, R__law_stretch_3, R__law_stretch_4, R__law_is_in_0, R__law_is_in_1, R__law_simplest_0, R__law_simplest_1, R_simplest_0, R__law_is_paper_0, R__law_is_paper_1, R__law_is_paper_2, R__law_is_paper_3, R__law_is_paper_4, R__law_is_paper_5, R__law_is_paper_6, R__law_is_paper_7, R__law_is_edge_0, R__law_odd_0, R__law_odd_1, R__law_bent_0, R__law_bent_1, R__law_bent_2, R__law_bent_3, R__law_bent_4, R__law_bent_5, R_are_parents_0, R_are_parents_1, R_is_simplest_0, R_is_simplest_1, R_is_simplest_2, R_is_simplest_3, R_is_simplest_4, R_is_simplest_5, R_shows_simplest_0, R_shows_edge_size_0, R_shows_edge_size_1, addD_ii, addD_ss, addD_ll, addD_tt, subD_ii, mulD_ii, mulD_si, mulD_li, fdivD_ii, modD_ii, powD_ii, eqD_ii, eqD_ss, eqD_bb, neD_ii, neD_ss, neD_bb, ltD_ii, ltD_ss, leD_ii, gtD_ii, geD_ii, isD_n, isD_bb, isnotD_n, isnotD_bb, inD_ss, inD_l, inD_t, notinD_ss, notinD_l, notinD_t, ixD_l, ixD_t, ixD_s, slD_t, slD_s, slD_l, lenD_s, lenD_l, lenD_t, tupD_l, tupD_t, listD_l, listD_t, allD_l, anyD_l, sumD_l, maxD_ii, minD_ii, maxD_l, minD_l, absD_i, gcdD_ii, intD_i, intD_b, intD_s, strD_i, strD_s, reprD_1, joinD_l, splitD_s, PB_0, PB_1, PB_2, gIte_t, gIte_f, gIte_d, gIte_n, eqD_xt, eqD_tx, neD_xt, neD_tx, eqD_tt, neD_tt]
    refine ⟨_, rfl, ?_⟩
    simp only [gSeq, gSet, gVar, gVarB, gC, gBin, gChain, gTB, gIf, gIfS, gRet, gCall, gCallF, gCo, gN, gTup, gLst, gL, gNotT, gNotV, gAndT, gOrT, gAndV, gOrV, gIsi, gSl, gPart, gNo, gM0, gM1, gFn, gAn, gAd, gAp, gAs, gAsg, gTo, gToT, gToC, gTo0, gNext, gNeg, gPs0, gTick, gPix, gLenS, gIxS, gSumS, gLRg, gPar, gDic0, gDic1, gYes, gSeqI, gRg1, gRg2, gRetN, gSetF, gApp, gExt, gDrop, gFrz, gLcC_x, gForC_x, gRev, revD, gPar3F, gOff, gOffS, gBreak, gCont, clr, startD, nth, List.set, true_or, or_true, true_and, and_true, R__law_pot_0, R__law_pot_1, R__law_pot_2, R_is_fraction_0, R_is_stretch_0, R_is_stretch_1, R_is_inside_0, R_is_inside_1, R_reduced_0, R_simplest_of_0, R_simplest_of_1, R_simplest_of_2, R_simplest_of_3, R_simplest_of_4, R_simplest_of_5, R_simplest_of_6, R_simplest_of_7, R_simplest_of_8, R_simplest_of_9, R_simplest_of_10, R_parents_of_0, R_parents_of_1, R_parents_of_2, R_parents_of_3, R_parents_of_4, R_parents_of_5, R_edge_told_0, R_edge_size_0, R__law_take_0, R__law_take_1, R__law_take_2, R__law_take_3, R__law_take_4, R__law_take_5, R__law_take_6, R__law_cut_0, R__law_cut_1, R__law_stretch_0, R__law_stretch_1, R__law_stretch_2, R__law_stretch_3, R__law_stretch_4, R__law_is_in_0, R__law_is_in_1, R__law_simplest_0, R__law_simplest_1, R_simplest_0, R__law_is_paper_0, R__law_is_paper_1, R__law_is_paper_2, R__law_is_paper_3, R__law_is_paper_4, R__law_is_paper_5, R__law_is_paper_6, R__law_is_paper_7, R__law_is_edge_0, R__law_odd_0, R__law_odd_1, R__law_bent_0, R__law_bent_1, R__law_bent_2, R__law_bent_3, R__law_bent_4, R__law_bent_5, R_are_parents_0, R_are_parents_1, R_is_simplest_0, R_is_simplest_1, R_is_simplest_2, R_is_simplest_3, R_is_simplest_4, R_is_simplest_5, R_shows_simplest_0, R_shows_edge_size_0, R_shows_edge_size_1, addD_ii, addD_ss, addD_ll, addD_tt, subD_ii, mulD_ii, mulD_si, mulD_li, fdivD_ii, modD_ii, powD_ii, eqD_ii, eqD_ss, eqD_bb, neD_ii, neD_ss, neD_bb, ltD_ii, ltD_ss, leD_ii, gtD_ii, geD_ii, isD_n, isD_bb, isnotD_n, isnotD_bb, inD_ss, inD_l, inD_t, notinD_ss, notinD_l, notinD_t, ixD_l, ixD_t, ixD_s, slD_t, slD_s, slD_l, lenD_s, lenD_l, lenD_t, tupD_l, tupD_t, listD_l, listD_t, allD_l, anyD_l, sumD_l, maxD_ii, minD_ii, maxD_l, minD_l, absD_i, gcdD_ii, intD_i, intD_b, intD_s, strD_i, strD_s, reprD_1, joinD_l, splitD_s, PB_0, PB_1, PB_2, gIte_t, gIte_f, gIte_d, gIte_n, eqD_xt, eqD_tx, neD_xt, neD_tx, eqD_tt, neD_tt]
    refine ⟨_, rfl, ?_⟩
    simp only [gSeq, gSet, gVar, gVarB, gC, gBin, gChain, gTB, gIf, gIfS, gRet, gCall, gCallF, gCo, gN, gTup, gLst, gL, gNotT, gNotV, gAndT, gOrT, gAndV, gOrV, gIsi, gSl, gPart, gNo, gM0, gM1, gFn, gAn, gAd, gAp, gAs, gAsg, gTo, gToT, gToC, gTo0, gNext, gNeg, gPs0, gTick, gPix, gLenS, gIxS, gSumS, gLRg, gPar, gDic0, gDic1, gYes, gSeqI, gRg1, gRg2, gRetN, gSetF, gApp, gExt, gDrop, gFrz, gLcC_x, gForC_x, gRev, revD, gPar3F, gOff, gOffS, gBreak, gCont, clr, startD, nth, List.set, true_or, or_true, true_and, and_true, R__law_pot_0, R__law_pot_1, R__law_pot_2, R_is_fraction_0, R_is_stretch_0, R_is_stretch_1, R_is_inside_0, R_is_inside_1, R_reduced_0, R_simplest_of_0, R_simplest_of_1, R_simplest_of_2, R_simplest_of_3, R_simplest_of_4, R_simplest_of_5, R_simplest_of_6, R_simplest_of_7, R_simplest_of_8, R_simplest_of_9, R_simplest_of_10, R_parents_of_0, R_parents_of_1, R_parents_of_2, R_parents_of_3, R_parents_of_4, R_parents_of_5, R_edge_told_0, R_edge_size_0, R__law_take_0, R__law_take_1, R__law_take_2, R__law_take_3, R__law_take_4, R__law_take_5, R__law_take_6, R__law_cut_0, R__law_cut_1, R__law_stretch_0, R__law_stretch_1, R__law_stretch_2, R__law_stretch_3, R__law_stretch_4, R__law_is_in_0, R__law_is_in_1, R__law_simplest_0, R__law_simplest_1, R_simplest_0, R__law_is_paper_0, R__law_is_paper_1, R__law_is_paper_2, R__law_is_paper_3, R__law_is_paper_4, R__law_is_paper_5, R__law_is_paper_6, R__law_is_paper_7, R__law_is_edge_0, R__law_odd_0, R__law_odd_1, R__law_bent_0, R__law_bent_1, R__law_bent_2, R__law_bent_3, R__law_bent_4, R__law_bent_5, R_are_parents_0, R_are_parents_1, R_is_simplest_0, R_is_simplest_1, R_is_simplest_2, R_is_simplest_3, R_is_simplest_4, R_is_simplest_5, R_shows_simplest_0, R_shows_edge_size_0, R_shows_edge_size_1, addD_ii, addD_ss, addD_ll, addD_tt, subD_ii, mulD_ii, mulD_si, mulD_li, fdivD_ii, modD_ii, powD_ii, eqD_ii, eqD_ss, eqD_bb, neD_ii, neD_ss, neD_bb, ltD_ii, ltD_ss, leD_ii, gtD_ii, geD_ii, isD_n, isD_bb, isnotD_n, isnotD_bb, inD_ss, inD_l, inD_t, notinD_ss, notinD_l, notinD_t, ixD_l, ixD_t, ixD_s, slD_t, slD_s, slD_l, lenD_s, lenD_l, lenD_t, tupD_l, tupD_t, listD_l, listD_t, allD_l, anyD_l, sumD_l, maxD_ii, minD_ii, maxD_l, minD_l, absD_i, gcdD_ii, intD_i, intD_b, intD_s, strD_i, strD_s, reprD_1, joinD_l, splitD_s, PB_0, PB_1, PB_2, gIte_t, gIte_f, gIte_d, gIte_n, eqD_xt, eqD_tx, neD_xt, neD_tx, eqD_tt, neD_tt]
    refine ⟨fun z => absurd z (by omega), fun _ => ⟨_, rfl, _, rfl, ?_⟩⟩
    refine isLess_ok (O.sa.le (by decide)) (O.sb.le (by decide)) (sc.le (by decide)) (sd.le (by decide)) ?_
    simp only [gSeq, gSet, gVar, gVarB, gC, gBin, gChain, gTB, gIf, gIfS, gRet, gCall, gCallF, gCo, gN, gTup, gLst, gL, gNotT, gNotV, gAndT, gOrT, gAndV, gOrV, gIsi, gSl, gPart, gNo, gM0, gM1, gFn, gAn, gAd, gAp, gAs, gAsg, gTo, gToT, gToC, gTo0, gNext, gNeg, gPs0, gTick, gPix, gLenS, gIxS, gSumS, gLRg, gPar, gDic0, gDic1, gYes, gSeqI, gRg1, gRg2, gRetN, gSetF, gApp, gExt, gDrop, gFrz, gLcC_x, gForC_x, gRev, revD, gPar3F, gOff, gOffS, gBreak, gCont, clr, startD, nth, List.set, true_or, or_true, true_and, and_true, R__law_pot_0, R__law_pot_1, R__law_pot_2, R_is_fraction_0, R_is_stretch_0, R_is_stretch_1, R_is_inside_0, R_is_inside_1, R_reduced_0, R_simplest_of_0, R_simplest_of_1, R_simplest_of_2, R_simplest_of_3, R_simplest_of_4, R_simplest_of_5, R_simplest_of_6, R_simplest_of_7, R_simplest_of_8, R_simplest_of_9, R_simplest_of_10, R_parents_of_0, R_parents_of_1, R_parents_of_2, R_parents_of_3, R_parents_of_4, R_parents_of_5, R_edge_told_0, R_edge_size_0, R__law_take_0, R__law_take_1, R__law_take_2, R__law_take_3, R__law_take_4, R__law_take_5, R__law_take_6, R__law_cut_0, R__law_cut_1, R__law_stretch_0, R__law_stretch_1, R__law_stretch_2, R__law_stretch_3, R__law_stretch_4, R__law_is_in_0, R__law_is_in_1, R__law_simplest_0, R__law_simplest_1, R_simplest_0, R__law_is_paper_0, R__law_is_paper_1, R__law_is_paper_2, R__law_is_paper_3, R__law_is_paper_4, R__law_is_paper_5, R__law_is_paper_6, R__law_is_paper_7, R__law_is_edge_0, R__law_odd_0, R__law_odd_1, R__law_bent_0, R__law_bent_1, R__law_bent_2, R__law_bent_3, R__law_bent_4, R__law_bent_5, R_are_parents_0, R_are_parents_1, R_is_simplest_0, R_is_simplest_1, R_is_simplest_2, R_is_simplest_3, R_is_simplest_4, R_is_simplest_5, R_shows_simplest_0, R_shows_edge_size_0, R_shows_edge_size_1, addD_ii, addD_ss, addD_ll, addD_tt, subD_ii, mulD_ii, mulD_si, mulD_li, fdivD_ii, modD_ii, powD_ii, eqD_ii, eqD_ss, eqD_bb, neD_ii, neD_ss, neD_bb, ltD_ii, ltD_ss, leD_ii, gtD_ii, geD_ii, isD_n, isD_bb, isnotD_n, isnotD_bb, inD_ss, inD_l, inD_t, notinD_ss, notinD_l, notinD_t, ixD_l, ixD_t, ixD_s, slD_t, slD_s, slD_l, lenD_s, lenD_l, lenD_t, tupD_l, tupD_t, listD_l, listD_t, allD_l, anyD_l, sumD_l, maxD_ii, minD_ii, maxD_l, minD_l, absD_i, gcdD_ii, intD_i, intD_b, intD_s, strD_i, strD_s, reprD_1, joinD_l, splitD_s, PB_0, PB_1, PB_2, gIte_t, gIte_f, gIte_d, gIte_n, eqD_xt, eqD_tx, neD_xt, neD_tx, eqD_tt, neD_tt]
    refine ⟨fun _ => h, fun z => ⟨_, rfl, _, rfl, ?_⟩⟩
    rcases F.ne with w | ⟨w1, w2, w3, w4⟩
    · exact absurd w z
    · simp only [gSeq, gSet, gVar, gVarB, gC, gBin, gChain, gTB, gIf, gIfS, gRet, gCall, gCallF, gCo, gN, gTup, gLst, gL, gNotT, gNotV, gAndT, gOrT, gAndV, gOrV, gIsi, gSl, gPart, gNo, gM0, gM1, gFn, gAn, gAd, gAp, gAs, gAsg, gTo, gToT, gToC, gTo0, gNext, gNeg, gPs0, gTick, gPix, gLenS, gIxS, gSumS, gLRg, gPar, gDic0, gDic1, gYes, gSeqI, gRg1, gRg2, gRetN, gSetF, gApp, gExt, gDrop, gFrz, gLcC_x, gForC_x, gRev, revD, gPar3F, gOff, gOffS, gBreak, gCont, clr, startD, nth, List.set, true_or, or_true, true_and, and_true, R__law_pot_0, R__law_pot_1, R__law_pot_2, R_is_fraction_0, R_is_stretch_0, R_is_stretch_1, R_is_inside_0, R_is_inside_1, R_reduced_0, R_simplest_of_0, R_simplest_of_1, R_simplest_of_2, R_simplest_of_3, R_simplest_of_4, R_simplest_of_5, R_simplest_of_6, R_simplest_of_7, R_simplest_of_8, R_simplest_of_9, R_simplest_of_10, R_parents_of_0, R_parents_of_1, R_parents_of_2, R_parents_of_3, R_parents_of_4, R_parents_of_5, R_edge_told_0, R_edge_size_0, R__law_take_0, R__law_take_1, R__law_take_2, R__law_take_3, R__law_take_4, R__law_take_5, R__law_take_6, R__law_cut_0, R__law_cut_1, R__law_stretch_0, R__law_stretch_1, R__law_stretch_2, R__law_stretch_3, R__law_stretch_4, R__law_is_in_0, R__law_is_in_1, R__law_simplest_0, R__law_simplest_1, R_simplest_0, R__law_is_paper_0, R__law_is_paper_1, R__law_is_paper_2, R__law_is_paper_3, R__law_is_paper_4, R__law_is_paper_5, R__law_is_paper_6, R__law_is_paper_7, R__law_is_edge_0, R__law_odd_0, R__law_odd_1, R__law_bent_0, R__law_bent_1, R__law_bent_2, R__law_bent_3, R__law_bent_4, R__law_bent_5, R_are_parents_0, R_are_parents_1, R_is_simplest_0, R_is_simplest_1, R_is_simplest_2, R_is_simplest_3, R_is_simplest_4, R_is_simplest_5, R_shows_simplest_0, R_shows_edge_size_0, R_shows_edge_size_1, addD_ii, addD_ss, addD_ll, addD_tt, subD_ii, mulD_ii, mulD_si, mulD_li, fdivD_ii, modD_ii, powD_ii, eqD_ii, eqD_ss, eqD_bb, neD_ii, neD_ss, neD_bb, ltD_ii, ltD_ss, leD_ii, gtD_ii, geD_ii, isD_n, isD_bb, isnotD_n, isnotD_bb, inD_ss, inD_l, inD_t, notinD_ss, notinD_l, notinD_t, ixD_l, ixD_t, ixD_s, slD_t, slD_s, slD_l, lenD_s, lenD_l, lenD_t, tupD_l, tupD_t, listD_l, listD_t, allD_l, anyD_l, sumD_l, maxD_ii, minD_ii, maxD_l, minD_l, absD_i, gcdD_ii, intD_i, intD_b, intD_s, strD_i, strD_s, reprD_1, joinD_l, splitD_s, PB_0, PB_1, PB_2, gIte_t, gIte_f, gIte_d, gIte_n, eqD_xt, eqD_tx, neD_xt, neD_tx, eqD_tt, neD_tt, eqv_pair]
      refine ⟨shaped_pair, shaped_pair, ?_⟩
      rw [decide_eq_true w1, decide_eq_true w2]
      refine ⟨fun _ => ⟨_, rfl, ?_⟩, fun z => nomatch z⟩
      rw [w3]
      simp only [gSeq, gSet, gVar, gVarB, gC, gBin, gChain, gTB, gIf, gIfS, gRet, gCall, gCallF, gCo, gN, gTup, gLst, gL, gNotT, gNotV, gAndT, gOrT, gAndV, gOrV, gIsi, gSl, gPart, gNo, gM0, gM1, gFn, gAn, gAd, gAp, gAs, gAsg, gTo, gToT, gToC, gTo0, gNext, gNeg, gPs0, gTick, gPix, gLenS, gIxS, gSumS, gLRg, gPar, gDic0, gDic1, gYes, gSeqI, gRg1, gRg2, gRetN, gSetF, gApp, gExt, gDrop, gFrz, gLcC_x, gForC_x, gRev, revD, gPar3F, gOff, gOffS, gBreak, gCont, clr, startD, nth, List.set, true_or, or_true, true_and, and_true, R__law_pot_0, R__law_pot_1, R__law_pot_2, R_is_fraction_0, R_is_stretch_0, R_is_stretch_1, R_is_inside_0, R_is_inside_1, R_reduced_0, R_simplest_of_0, R_simplest_of_1, R_simplest_of_2, R_simplest_of_3, R_simplest_of_4, R_simplest_of_5, R_simplest_of_6, R_simplest_of_7, R_simplest_of_8, R_simplest_of_9, R_simplest_of_10, R_parents_of_0, R_parents_of_1, R_parents_of_2, R_parents_of_3, R_parents_of_4, R_parents_of_5, R_edge_told_0, R_edge_size_0, R__law_take_0, R__law_take_1, R__law_take_2, R__law_take_3, R__law_take_4, R__law_take_5, R__law_take_6, R__law_cut_0, R__law_cut_1, R__law_stretch_0, R__law_stretch_1, R__law_stretch_2, R__law_stretch_3, R__law_stretch_4, R__law_is_in_0, R__law_is_in_1, R__law_simplest_0, R__law_simplest_1, R_simplest_0, R__law_is_paper_0, R__law_is_paper_1, R__law_is_paper_2, R__law_is_paper_3, R__law_is_paper_4, R__law_is_paper_5, R__law_is_paper_6, R__law_is_paper_7, R__law_is_edge_0, R__law_odd_0, R__law_odd_1, R__law_bent_0, R__law_bent_1, R__law_bent_2, R__law_bent_3, R__law_bent_4, R__law_bent_5, R_are_parents_0, R_are_parents_1, R_is_simplest_0, R_is_simplest_1, R_is_simplest_2, R_is_simplest_3, R_is_simplest_4, R_is_simplest_5, R_shows_simplest_0, R_shows_edge_size_0, R_shows_edge_size_1, addD_ii, addD_ss, addD_ll, addD_tt, subD_ii, mulD_ii, mulD_si, mulD_li, fdivD_ii, modD_ii, powD_ii, eqD_ii, eqD_ss, eqD_bb, neD_ii, neD_ss, neD_bb, ltD_ii, ltD_ss, leD_ii, gtD_ii, geD_ii, isD_n, isD_bb, isnotD_n, isnotD_bb, inD_ss, inD_l, inD_t, notinD_ss, notinD_l, notinD_t, ixD_l, ixD_t, ixD_s, slD_t, slD_s, slD_l, lenD_s, lenD_l, lenD_t, tupD_l, tupD_t, listD_l, listD_t, allD_l, anyD_l, sumD_l, maxD_ii, minD_ii, maxD_l, minD_l, absD_i, gcdD_ii, intD_i, intD_b, intD_s, strD_i, strD_s, reprD_1, joinD_l, splitD_s, PB_0, PB_1, PB_2, gIte_t, gIte_f, gIte_d, gIte_n, eqD_xt, eqD_tx, neD_xt, neD_tx, eqD_tt, neD_tt]
      refine ⟨_, rfl, ?_⟩
      rw [w4]
      exact h
theorem check_ok {S : Sp} {c d : Int} (O : Ok S) (F : Firm S c d) (h : K .none) : F_check_stretch [.dat S.D] K E := by
  unfold F_check_stretch specOf G_check_stretch N_check_stretch
  refine ⟨rfl, ?_⟩
  simp only [gSeq, gSet, gVar, gVarB, gC, gBin, gChain, gTB, gIf, gIfS, gRet, gCall, gCallF, gCo, gN, gTup, gLst, gL, gNotT, gNotV, gAndT, gOrT, gAndV, gOrV, gIsi, gSl, gPart, gNo, gM0, gM1, gFn, gAn, gAd, gAp, gAs, gAsg, gTo, gToT, gToC, gTo0, gNext, gNeg, gPs0, gTick, gPix, gLenS, gIxS, gSumS, gLRg, gPar, gDic0, gDic1, gYes, gSeqI, gRg1, gRg2, gRetN, gSetF, gApp, gExt, gDrop, gFrz, gLcC_x, gForC_x, gRev, revD, gPar3F, gOff, gOffS, gBreak, gCont, clr, startD, nth, List.set, true_or, or_true, true_and, and_true, R__law_pot_0, R__law_pot_1, R__law_pot_2, R_is_fraction_0, R_is_stretch_0, R_is_stretch_1, R_is_inside_0, R_is_inside_1, R_reduced_0, R_simplest_of_0, R_simplest_of_1, R_simplest_of_2, R_simplest_of_3, R_simplest_of_4, R_simplest_of_5, R_simplest_of_6, R_simplest_of_7, R_simplest_of_8, R_simplest_of_9, R_simplest_of_10, R_parents_of_0, R_parents_of_1, R_parents_of_2, R_parents_of_3, R_parents_of_4, R_parents_of_5, R_edge_told_0, R_edge_size_0, R__law_take_0, R__law_take_1, R__law_take_2, R__law_take_3, R__law_take_4, R__law_take_5, R__law_take_6, R__law_cut_0, R__law_cut_1, R__law_stretch_0, R__law_stretch_1, R__law_stretch_2, R__law_stretch_3, R__law_stretch_4, R__law_is_in_0, R__law_is_in_1, R__law_simplest_0, R__law_simplest_1, R_simplest_0, R__law_is_paper_0, R__law_is_paper_1, R__law_is_paper_2, R__law_is_paper_3, R__law_is_paper_4, R__law_is_paper_5, R__law_is_paper_6, R__law_is_paper_7, R__law_is_edge_0, R__law_odd_0, R__law_odd_1, R__law_bent_0, R__law_bent_1, R__law_bent_2, R__law_bent_3, R__law_bent_4, R__law_bent_5, R_are_parents_0, R_are_parents_1, R_is_simplest_0, R_is_simplest_1, R_is_simplest_2, R_is_simplest_3, R_is_simplest_4, R_is_simplest_5, R_shows_simplest_0, R_shows_edge_size_0, R_shows_edge_size_1, addD_ii, addD_ss, addD_ll, addD_tt, subD_ii, mulD_ii, mulD_si, mulD_li, fdivD_ii, modD_ii, powD_ii, eqD_ii, eqD_ss, eqD_bb, neD_ii, neD_ss, neD_bb, ltD_ii, ltD_ss, leD_ii, gtD_ii, geD_ii, isD_n, isD_bb, isnotD_n, isnotD_bb, inD_ss, inD_l, inD_t, notinD_ss, notinD_l, notinD_t, ixD_l, ixD_t, ixD_s, slD_t, slD_s, slD_l, lenD_s, lenD_l, lenD_t, tupD_l, tupD_t, listD_l, listD_t, allD_l, anyD_l, sumD_l, maxD_ii, minD_ii, maxD_l, minD_l, absD_i, gcdD_ii, intD_i, intD_b, intD_s, strD_i, strD_s, reprD_1, joinD_l, splitD_s, PB_0, PB_1, PB_2, gIte_t, gIte_f, gIte_d, gIte_n, eqD_xt, eqD_tx, neD_xt, neD_tx, eqD_tt, neD_tt, List.append_nil]
  refine isStretch_ok O F ?_
  simp only [gSeq, gSet, gVar, gVarB, gC, gBin, gChain, gTB, gIf, gIfS, gRet, gCall, gCallF, gCo, gN, gTup, gLst, gL, gNotT, gNotV, gAndT, gOrT, gAndV, gOrV, gIsi, gSl, gPart, gNo, gM0, gM1, gFn, gAn, gAd, gAp, gAs, gAsg, gTo, gToT, gToC, gTo0, gNext, gNeg, gPs0, gTick, gPix, gLenS, gIxS, gSumS, gLRg, gPar, gDic0, gDic1, gYes, gSeqI, gRg1, gRg2, gRetN, gSetF, gApp, gExt, gDrop, gFrz, gLcC_x, gForC_x, gRev, revD, gPar3F, gOff, gOffS, gBreak, gCont, clr, startD, nth, List.set, true_or, or_true, true_and, and_true, R__law_pot_0, R__law_pot_1, R__law_pot_2, R_is_fraction_0, R_is_stretch_0, R_is_stretch_1, R_is_inside_0, R_is_inside_1, R_reduced_0, R_simplest_of_0, R_simplest_of_1, R_simplest_of_2, R_simplest_of_3, R_simplest_of_4, R_simplest_of_5, R_simplest_of_6, R_simplest_of_7, R_simplest_of_8, R_simplest_of_9, R_simplest_of_10, R_parents_of_0, R_parents_of_1, R_parents_of_2, R_parents_of_3, R_parents_of_4, R_parents_of_5, R_edge_told_0, R_edge_size_0, R__law_take_0, R__law_take_1, R__law_take_2, R__law_take_3, R__law_take_4, R__law_take_5, R__law_take_6, R__law_cut_0, R__law_cut_1, R__law_stretch_0, R__law_stretch_1, R__law_stretch_2, R__law_stretch_3, R__law_stretch_4, R__law_is_in_0, R__law_is_in_1, R__law_simplest_0, R__law_simplest_1, R_simplest_0, R__law_is_paper_0, R__law_is_paper_1, R__law_is_paper_2, R__law_is_paper_3, R__law_is_paper_4, R__law_is_paper_5, R__law_is_paper_6, R__law_is_paper_7, R__law_is_edge_0, R__law_odd_0, R__law_odd_1, R__law_bent_0, R__law_bent_1, R__law_bent_2, R__law_bent_3, R__law_bent_4, R__law_bent_5, R_are_parents_0, R_are_parents_1, R_is_simplest_0, R_is_simplest_1, R_is_simplest_2, R_is_simplest_3, R_is_simplest_4, R_is_simplest_5, R_shows_simplest_0, R_shows_edge_size_0, R_shows_edge_size_1, addD_ii, addD_ss, addD_ll, addD_tt, subD_ii, mulD_ii, mulD_si, mulD_li, fdivD_ii, modD_ii, powD_ii, eqD_ii, eqD_ss, eqD_bb, neD_ii, neD_ss, neD_bb, ltD_ii, ltD_ss, leD_ii, gtD_ii, geD_ii, isD_n, isD_bb, isnotD_n, isnotD_bb, inD_ss, inD_l, inD_t, notinD_ss, notinD_l, notinD_t, ixD_l, ixD_t, ixD_s, slD_t, slD_s, slD_l, lenD_s, lenD_l, lenD_t, tupD_l, tupD_t, listD_l, listD_t, allD_l, anyD_l, sumD_l, maxD_ii, minD_ii, maxD_l, minD_l, absD_i, gcdD_ii, intD_i, intD_b, intD_s, strD_i, strD_s, reprD_1, joinD_l, splitD_s, PB_0, PB_1, PB_2, gIte_t, gIte_f, gIte_d, gIte_n, eqD_xt, eqD_tx, neD_xt, neD_tx, eqD_tt, neD_tt]
  exact h
/-! ### sums -/
theorem reduced_ok {x y : Int} (hy : 1 ≤ y) (sx : Sz 200 x) (sy : Sz 200 y) (g : Nat.gcd x.natAbs y.natAbs = 1) (h : K (frD x y)) : F_reduced [.dat (.int x), .dat (.int y)] K E := by
  unfold F_reduced specOf G_reduced N_reduced
  refine ⟨rfl, ?_⟩
  simp only [gSeq, gSet, gVar, gVarB, gC, gBin, gChain, gTB, gIf, gIfS, gRet, gCall, gCallF, gCo, gN, gTup, gLst, gL, gNotT, gNotV, gAndT, gOrT, gAndV, gOrV, gIsi, gSl, gPart, gNo, gM0, gM1, gFn, gAn, gAd, gAp, gAs, gAsg, gTo, gToT, gToC, gTo0, gNext, gNeg, gPs0, gTick, gPix, gLenS, gIxS, gSumS, gLRg, gPar, gDic0, gDic1, gYes, gSeqI, gRg1, gRg2, gRetN, gSetF, gApp, gExt, gDrop, gFrz, gLcC_x, gForC_x, gRev, revD, gPar3F, gOff, gOffS, gBreak, gCont, clr, startD, nth, List.set, true_or, or_true, true_and, and_true, R__law_pot_0, R__law_pot_1, R__law_pot_2, R_is_fraction_0, R_is_stretch_0, R_is_stretch_1, R_is_inside_0, R_is_inside_1, R_reduced_0, R_simplest_of_0, R_simplest_of_1, R_simplest_of_2, R_simplest_of_3, R_simplest_of_4, R_simplest_of_5, R_simplest_of_6, R_simplest_of_7, R_simplest_of_8, R_simplest_of_9, R_simplest_of_10, R_parents_of_0, R_parents_of_1, R_parents_of_2, R_parents_of_3, R_parents_of_4, R_parents_of_5, R_edge_told_0, R_edge_size_0, R__law_take_0, R__law_take_1, R__law_take_2, R__law_take_3, R__law_take_4, R__law_take_5, R__law_take_6, R__law_cut_0, R__law_cut_1, R__law_stretch_0, R__law_stretch_1, R__law_stretch_2, R__law_stretch_3, R__law_stretch_4, R__law_is_in_0, R__law_is_in_1, R__law_simplest_0, R__law_simplest_1, R_simplest_0, R__law_is_paper_0, R__law_is_paper_1, R__law_is_paper_2, R__law_is_paper_3, R__law_is_paper_4, R__law_is_paper_5, R__law_is_paper_6, R__law_is_paper_7, R__law_is_edge_0, R__law_odd_0, R__law_odd_1, R__law_bent_0, R__law_bent_1, R__law_bent_2, R__law_bent_3, R__law_bent_4, R__law_bent_5, R_are_parents_0, R_are_parents_1, R_is_simplest_0, R_is_simplest_1, R_is_simplest_2, R_is_simplest_3, R_is_simplest_4, R_is_simplest_5, R_shows_simplest_0, R_shows_edge_size_0, R_shows_edge_size_1, addD_ii, addD_ss, addD_ll, addD_tt, subD_ii, mulD_ii, mulD_si, mulD_li, fdivD_ii, modD_ii, powD_ii, eqD_ii, eqD_ss, eqD_bb, neD_ii, neD_ss, neD_bb, ltD_ii, ltD_ss, leD_ii, gtD_ii, geD_ii, isD_n, isD_bb, isnotD_n, isnotD_bb, inD_ss, inD_l, inD_t, notinD_ss, notinD_l, notinD_t, ixD_l, ixD_t, ixD_s, slD_t, slD_s, slD_l, lenD_s, lenD_l, lenD_t, tupD_l, tupD_t, listD_l, listD_t, allD_l, anyD_l, sumD_l, maxD_ii, minD_ii, maxD_l, minD_l, absD_i, gcdD_ii, intD_i, intD_b, intD_s, strD_i, strD_s, reprD_1, joinD_l, splitD_s, PB_0, PB_1, PB_2, gIte_t, gIte_f, gIte_d, gIte_n, eqD_xt, eqD_tx, neD_xt, neD_tx, eqD_tt, neD_tt, List.append_nil]
  refine ⟨fun _ => common_ok ?_, fun z => absurd hy z⟩
  rw [g]
  simp only [gSeq, gSet, gVar, gVarB, gC, gBin, gChain, gTB, gIf, gIfS, gRet, gCall, gCallF, gCo, gN, gTup, gLst, gL, gNotT, gNotV, gAndT, gOrT, gAndV, gOrV, gIsi, gSl, gPart, gNo, gM0, gM1, gFn, gAn, gAd, gAp, gAs, gAsg, gTo, gToT, gToC, gTo0, gNext, gNeg, gPs0, gTick, gPix, gLenS, gIxS, gSumS, gLRg, gPar, gDic0, gDic1, gYes, gSeqI, gRg1, gRg2, gRetN, gSetF, gApp, gExt, gDrop, gFrz, gLcC_x, gForC_x, gRev, revD, gPar3F, gOff, gOffS, gBreak, gCont, clr, startD, nth, List.set, true_or, or_true, true_and, and_true, R__law_pot_0, R__law_pot_1, R__law_pot_2, R_is_fraction_0, R_is_stretch_0, R_is_stretch_1, R_is_inside_0, R_is_inside_1, R_reduced_0, R_simplest_of_0, R_simplest_of_1, R_simplest_of_2, R_simplest_of_3, R_simplest_of_4, R_simplest_of_5, R_simplest_of_6, R_simplest_of_7, R_simplest_of_8, R_simplest_of_9, R_simplest_of_10, R_parents_of_0, R_parents_of_1, R_parents_of_2, R_parents_of_3, R_parents_of_4, R_parents_of_5, R_edge_told_0, R_edge_size_0, R__law_take_0, R__law_take_1, R__law_take_2, R__law_take_3, R__law_take_4, R__law_take_5, R__law_take_6, R__law_cut_0, R__law_cut_1, R__law_stretch_0, R__law_stretch_1, R__law_stretch_2, R__law_stretch_3, R__law_stretch_4, R__law_is_in_0, R__law_is_in_1, R__law_simplest_0, R__law_simplest_1, R_simplest_0, R__law_is_paper_0, R__law_is_paper_1, R__law_is_paper_2, R__law_is_paper_3, R__law_is_paper_4, R__law_is_paper_5, R__law_is_paper_6, R__law_is_paper_7, R__law_is_edge_0, R__law_odd_0, R__law_odd_1, R__law_bent_0, R__law_bent_1, R__law_bent_2, R__law_bent_3, R__law_bent_4, R__law_bent_5, R_are_parents_0, R_are_parents_1, R_is_simplest_0, R_is_simplest_1, R_is_simplest_2, R_is_simplest_3, R_is_simplest_4, R_is_simplest_5, R_shows_simplest_0, R_shows_edge_size_0, R_shows_edge_size_1, addD_ii, addD_ss, addD_ll, addD_tt, subD_ii, mulD_ii, mulD_si, mulD_li, fdivD_ii, modD_ii, powD_ii, eqD_ii, eqD_ss, eqD_bb, neD_ii, neD_ss, neD_bb, ltD_ii, ltD_ss, leD_ii, gtD_ii, geD_ii, isD_n, isD_bb, isnotD_n, isnotD_bb, inD_ss, inD_l, inD_t, notinD_ss, notinD_l, notinD_t, ixD_l, ixD_t, ixD_s, slD_t, slD_s, slD_l, lenD_s, lenD_l, lenD_t, tupD_l, tupD_t, listD_l, listD_t, allD_l, anyD_l, sumD_l, maxD_ii, minD_ii, maxD_l, minD_l, absD_i, gcdD_ii, intD_i, intD_b, intD_s, strD_i, strD_s, reprD_1, joinD_l, splitD_s, PB_0, PB_1, PB_2, gIte_t, gIte_f, gIte_d, gIte_n, eqD_xt, eqD_tx, neD_xt, neD_tx, eqD_tt, neD_tt]
  refine ⟨⟨by decide, by decide⟩, ⟨by decide, by decide⟩, sl (n := 2) (by decide), ?_⟩
  show K (.tuple [.int (x / 1), .int (y / 1)])
  rw [Int.ediv_one, Int.ediv_one]
  exact h
theorem diff_ok {a b w : Int} (hb : 1 ≤ b) (g : Nat.gcd a.natAbs b.natAbs = 1) (sa : Sz 60 a) (sb : Sz 60 b) (sw : Sz 60 w) (h : K (frD (a - w * b) b)) : F_difference [.dat (frD a b), .dat (frD w 1)] K E := by
  unfold F_difference specOf G_difference N_difference
  refine ⟨rfl, ?_⟩
  simp only [gSeq, gSet, gVar, gVarB, gC, gBin, gChain, gTB, gIf, gIfS, gRet, gCall, gCallF, gCo, gN, gTup, gLst, gL, gNotT, gNotV, gAndT, gOrT, gAndV, gOrV, gIsi, gSl, gPart, gNo, gM0, gM1, gFn, gAn, gAd, gAp, gAs, gAsg, gTo, gToT, gToC, gTo0, gNext, gNeg, gPs0, gTick, gPix, gLenS, gIxS, gSumS, gLRg, gPar, gDic0, gDic1, gYes, gSeqI, gRg1, gRg2, gRetN, gSetF, gApp, gExt, gDrop, gFrz, gLcC_x, gForC_x, gRev, revD, gPar3F, gOff, gOffS, gBreak, gCont, clr, startD, nth, List.set, true_or, or_true, true_and, and_true, R__law_pot_0, R__law_pot_1, R__law_pot_2, R_is_fraction_0, R_is_stretch_0, R_is_stretch_1, R_is_inside_0, R_is_inside_1, R_reduced_0, R_simplest_of_0, R_simplest_of_1, R_simplest_of_2, R_simplest_of_3, R_simplest_of_4, R_simplest_of_5, R_simplest_of_6, R_simplest_of_7, R_simplest_of_8, R_simplest_of_9, R_simplest_of_10, R_parents_of_0, R_parents_of_1, R_parents_of_2, R_parents_of_3, R_parents_of_4, R_parents_of_5, R_edge_told_0, R_edge_size_0, R__law_take_0, R__law_take_1, R__law_take_2, R__law_take_3, R__law_take_4, R__law_take_5, R__law_take_6, R__law_cut_0, R__law_cut_1, R__law_stretch_0, R__law_stretch_1, R__law_stretch_2, R__law_stretch_3, R__law_stretch_4, R__law_is_in_0, R__law_is_in_1, R__law_simplest_0, R__law_simplest_1, R_simplest_0, R__law_is_paper_0, R__law_is_paper_1, R__law_is_paper_2, R__law_is_paper_3, R__law_is_paper_4, R__law_is_paper_5, R__law_is_paper_6, R__law_is_paper_7, R__law_is_edge_0, R__law_odd_0, R__law_odd_1, R__law_bent_0, R__law_bent_1, R__law_bent_2, R__law_bent_3, R__law_bent_4, R__law_bent_5, R_are_parents_0, R_are_parents_1, R_is_simplest_0, R_is_simplest_1, R_is_simplest_2, R_is_simplest_3, R_is_simplest_4, R_is_simplest_5, R_shows_simplest_0, R_shows_edge_size_0, R_shows_edge_size_1, addD_ii, addD_ss, addD_ll, addD_tt, subD_ii, mulD_ii, mulD_si, mulD_li, fdivD_ii, modD_ii, powD_ii, eqD_ii, eqD_ss, eqD_bb, neD_ii, neD_ss, neD_bb, ltD_ii, ltD_ss, leD_ii, gtD_ii, geD_ii, isD_n, isD_bb, isnotD_n, isnotD_bb, inD_ss, inD_l, inD_t, notinD_ss, notinD_l, notinD_t, ixD_l, ixD_t, ixD_s, slD_t, slD_s, slD_l, lenD_s, lenD_l, lenD_t, tupD_l, tupD_t, listD_l, listD_t, allD_l, anyD_l, sumD_l, maxD_ii, minD_ii, maxD_l, minD_l, absD_i, gcdD_ii, intD_i, intD_b, intD_s, strD_i, strD_s, reprD_1, joinD_l, splitD_s, PB_0, PB_1, PB_2, gIte_t, gIte_f, gIte_d, gIte_n, eqD_xt, eqD_tx, neD_xt, neD_tx, eqD_tt, neD_tt, List.append_nil]
  have s1 : Sz 60 1 := lit
  refine ⟨_, rfl, _, rfl, ?_⟩
  simp only [gSeq, gSet, gVar, gVarB, gC, gBin, gChain, gTB, gIf, gIfS, gRet, gCall, gCallF, gCo, gN, gTup, gLst, gL, gNotT, gNotV, gAndT, gOrT, gAndV, gOrV, gIsi, gSl, gPart, gNo, gM0, gM1, gFn, gAn, gAd, gAp, gAs, gAsg, gTo, gToT, gToC, gTo0, gNext, gNeg, gPs0, gTick, gPix, gLenS, gIxS, gSumS, gLRg, gPar, gDic0, gDic1, gYes, gSeqI, gRg1, gRg2, gRetN, gSetF, gApp, gExt, gDrop, gFrz, gLcC_x, gForC_x, gRev, revD, gPar3F, gOff, gOffS, gBreak, gCont, clr, startD, nth, List.set, true_or, or_true, true_and, and_true, R__law_pot_0, R__law_pot_1, R__law_pot_2, R_is_fraction_0, R_is_stretch_0, R_is_stretch_1, R_is_inside_0, R_is_inside_1, R_reduced_0, R_simplest_of_0, R_simplest_of_1, R_simplest_of_2, R_simplest_of_3, R_simplest_of_4, R_simplest_of_5, R_simplest_of_6, R_simplest_of_7, R_simplest_of_8, R_simplest_of_9, R_simplest_of_10, R_parents_of_0, R_parents_of_1, R_parents_of_2, R_parents_of_3, R_parents_of_4, R_parents_of_5, R_edge_told_0, R_edge_size_0, R__law_take_0, R__law_take_1, R__law_take_2, R__law_take_3, R__law_take_4, R__law_take_5, R__law_take_6, R__law_cut_0, R__law_cut_1, R__law_stretch_0, R__law_stretch_1, R__law_stretch_2, R__law_stretch_3, R__law_stretch_4, R__law_is_in_0, R__law_is_in_1, R__law_simplest_0, R__law_simplest_1, R_simplest_0, R__law_is_paper_0, R__law_is_paper_1, R__law_is_paper_2, R__law_is_paper_3, R__law_is_paper_4, R__law_is_paper_5, R__law_is_paper_6, R__law_is_paper_7, R__law_is_edge_0, R__law_odd_0, R__law_odd_1, R__law_bent_0, R__law_bent_1, R__law_bent_2, R__law_bent_3, R__law_bent_4, R__law_bent_5, R_are_parents_0, R_are_parents_1, R_is_simplest_0, R_is_simplest_1, R_is_simplest_2, R_is_simplest_3, R_is_simplest_4, R_is_simplest_5, R_shows_simplest_0, R_shows_edge_size_0, R_shows_edge_size_1, addD_ii, addD_ss, addD_ll, addD_tt, subD_ii, mulD_ii, mulD_si, mulD_li, fdivD_ii, modD_ii, powD_ii, eqD_ii, eqD_ss, eqD_bb, neD_ii, neD_ss, neD_bb, ltD_ii, ltD_ss, leD_ii, gtD_ii, geD_ii, isD_n, isD_bb, isnotD_n, isnotD_bb, inD_ss, inD_l, inD_t, notinD_ss, notinD_l, notinD_t, ixD_l, ixD_t, ixD_s, slD_t, slD_s, slD_l, lenD_s, lenD_l, lenD_t, tupD_l, tupD_t, listD_l, listD_t, allD_l, anyD_l, sumD_l, maxD_ii, minD_ii, maxD_l, minD_l, absD_i, gcdD_ii, intD_i, intD_b, intD_s, strD_i, strD_s, reprD_1, joinD_l, splitD_s, PB_0, PB_1, PB_2, gIte_t, gIte_f, gIte_d, gIte_n, eqD_xt, eqD_tx, neD_xt, neD_tx, eqD_tt, neD_tt]
  refine ⟨Sz.mulOk sa s1, _, rfl, _, rfl, ?_⟩
  simp only [gSeq, gSet, gVar, gVarB, gC, gBin, gChain, gTB, gIf, gIfS, gRet, gCall, gCallF, gCo, gN, gTup, gLst, gL, gNotT, gNotV, gAndT, gOrT, gAndV, gOrV, gIsi, gSl, gPart, gNo, gM0, gM1, gFn, gAn, gAd, gAp, gAs, gAsg, gTo, gToT, gToC, gTo0, gNext, gNeg, gPs0, gTick, gPix, gLenS, gIxS, gSumS, gLRg, gPar, gDic0, gDic1, gYes, gSeqI, gRg1, gRg2, gRetN, gSetF, gApp, gExt, gDrop, gFrz, gLcC_x, gForC_x, gRev, revD, gPar3F, gOff, gOffS, gBreak, gCont, clr, startD, nth, List.set, true_or, or_true, true_and, and_true, R__law_pot_0, R__law_pot_1, R__law_pot_2, R_is_fraction_0, R_is_stretch_0, R_is_stretch_1, R_is_inside_0, R_is_inside_1, R_reduced_0, R_simplest_of_0, R_simplest_of_1, R_simplest_of_2, R_simplest_of_3, R_simplest_of_4, R_simplest_of_5, R_simplest_of_6, R_simplest_of_7, R_simplest_of_8, R_simplest_of_9, R_simplest_of_10, R_parents_of_0, R_parents_of_1, R_parents_of_2, R_parents_of_3, R_parents_of_4, R_parents_of_5, R_edge_told_0, R_edge_size_0, R__law_take_0, R__law_take_1, R__law_take_2, R__law_take_3, R__law_take_4, R__law_take_5, R__law_take_6, R__law_cut_0, R__law_cut_1, R__law_stretch_0, R__law_stretch_1, R__law_stretch_2, R__law_stretch_3, R__law_stretch_4, R__law_is_in_0, R__law_is_in_1, R__law_simplest_0, R__law_simplest_1, R_simplest_0, R__law_is_paper_0, R__law_is_paper_1, R__law_is_paper_2, R__law_is_paper_3, R__law_is_paper_4, R__law_is_paper_5, R__law_is_paper_6, R__law_is_paper_7, R__law_is_edge_0, R__law_odd_0, R__law_odd_1, R__law_bent_0, R__law_bent_1, R__law_bent_2, R__law_bent_3, R__law_bent_4, R__law_bent_5, R_are_parents_0, R_are_parents_1, R_is_simplest_0, R_is_simplest_1, R_is_simplest_2, R_is_simplest_3, R_is_simplest_4, R_is_simplest_5, R_shows_simplest_0, R_shows_edge_size_0, R_shows_edge_size_1, addD_ii, addD_ss, addD_ll, addD_tt, subD_ii, mulD_ii, mulD_si, mulD_li, fdivD_ii, modD_ii, powD_ii, eqD_ii, eqD_ss, eqD_bb, neD_ii, neD_ss, neD_bb, ltD_ii, ltD_ss, leD_ii, gtD_ii, geD_ii, isD_n, isD_bb, isnotD_n, isnotD_bb, inD_ss, inD_l, inD_t, notinD_ss, notinD_l, notinD_t, ixD_l, ixD_t, ixD_s, slD_t, slD_s, slD_l, lenD_s, lenD_l, lenD_t, tupD_l, tupD_t, listD_l, listD_t, allD_l, anyD_l, sumD_l, maxD_ii, minD_ii, maxD_l, minD_l, absD_i, gcdD_ii, intD_i, intD_b, intD_s, strD_i, strD_s, reprD_1, joinD_l, splitD_s, PB_0, PB_1, PB_2, gIte_t, gIte_f, gIte_d, gIte_n, eqD_xt, eqD_tx, neD_xt, neD_tx, eqD_tt, neD_tt]
  refine ⟨Sz.mulOk sw sb, _, rfl, _, rfl, ?_⟩
  simp only [gSeq, gSet, gVar, gVarB, gC, gBin, gChain, gTB, gIf, gIfS, gRet, gCall, gCallF, gCo, gN, gTup, gLst, gL, gNotT, gNotV, gAndT, gOrT, gAndV, gOrV, gIsi, gSl, gPart, gNo, gM0, gM1, gFn, gAn, gAd, gAp, gAs, gAsg, gTo, gToT, gToC, gTo0, gNext, gNeg, gPs0, gTick, gPix, gLenS, gIxS, gSumS, gLRg, gPar, gDic0, gDic1, gYes, gSeqI, gRg1, gRg2, gRetN, gSetF, gApp, gExt, gDrop, gFrz, gLcC_x, gForC_x, gRev, revD, gPar3F, gOff, gOffS, gBreak, gCont, clr, startD, nth, List.set, true_or, or_true, true_and, and_true, R__law_pot_0, R__law_pot_1, R__law_pot_2, R_is_fraction_0, R_is_stretch_0, R_is_stretch_1, R_is_inside_0, R_is_inside_1, R_reduced_0, R_simplest_of_0, R_simplest_of_1, R_simplest_of_2, R_simplest_of_3, R_simplest_of_4, R_simplest_of_5, R_simplest_of_6, R_simplest_of_7, R_simplest_of_8, R_simplest_of_9, R_simplest_of_10, R_parents_of_0, R_parents_of_1, R_parents_of_2, R_parents_of_3, R_parents_of_4, R_parents_of_5, R_edge_told_0, R_edge_size_0, R__law_take_0, R__law_take_1, R__law_take_2, R__law_take_3, R__law_take_4, R__law_take_5, R__law_take_6, R__law_cut_0, R__law_cut_1, R__law_stretch_0, R__law_stretch_1, R__law_stretch_2, R__law_stretch_3, R__law_stretch_4, R__law_is_in_0, R__law_is_in_1, R__law_simplest_0, R__law_simplest_1, R_simplest_0, R__law_is_paper_0, R__law_is_paper_1, R__law_is_paper_2, R__law_is_paper_3, R__law_is_paper_4, R__law_is_paper_5, R__law_is_paper_6, R__law_is_paper_7, R__law_is_edge_0, R__law_odd_0, R__law_odd_1, R__law_bent_0, R__law_bent_1, R__law_bent_2, R__law_bent_3, R__law_bent_4, R__law_bent_5, R_are_parents_0, R_are_parents_1, R_is_simplest_0, R_is_simplest_1, R_is_simplest_2, R_is_simplest_3, R_is_simplest_4, R_is_simplest_5, R_shows_simplest_0, R_shows_edge_size_0, R_shows_edge_size_1, addD_ii, addD_ss, addD_ll, addD_tt, subD_ii, mulD_ii, mulD_si, mulD_li, fdivD_ii, modD_ii, powD_ii, eqD_ii, eqD_ss, eqD_bb, neD_ii, neD_ss, neD_bb, ltD_ii, ltD_ss, leD_ii, gtD_ii, geD_ii, isD_n, isD_bb, isnotD_n, isnotD_bb, inD_ss, inD_l, inD_t, notinD_ss, notinD_l, notinD_t, ixD_l, ixD_t, ixD_s, slD_t, slD_s, slD_l, lenD_s, lenD_l, lenD_t, tupD_l, tupD_t, listD_l, listD_t, allD_l, anyD_l, sumD_l, maxD_ii, minD_ii, maxD_l, minD_l, absD_i, gcdD_ii, intD_i, intD_b, intD_s, strD_i, strD_s, reprD_1, joinD_l, splitD_s, PB_0, PB_1, PB_2, gIte_t, gIte_f, gIte_d, gIte_n, eqD_xt, eqD_tx, neD_xt, neD_tx, eqD_tt, neD_tt]
  refine ⟨Sz.mulOk sb s1, ?_⟩
  rw [Int.mul_one, Int.mul_one]
  have sd : Sz 200 (a - w * b) := by
    have := (sa.add (sw.mul sb).neg).le (show _ ≤ 200 by decide)
    rwa [← Int.sub_eq_add_neg] at this
  refine reduced_ok hb sd (sb.le (by decide)) ?_ h
  rw [Nat.gcd_comm]
  exact gcd_step a b w g
theorem quo_ok {x y : Int} (hx : 1 ≤ x) (g : Nat.gcd y.natAbs x.natAbs = 1) (sx : Sz 60 x) (sy : Sz 60 y) (h : K (frD y x)) : F_quotient [.dat d_ONE, .dat (frD x y)] K E := by
  unfold F_quotient specOf G_quotient N_quotient d_ONE
  refine ⟨rfl, ?_⟩
  simp only [gSeq, gSet, gVar, gVarB, gC, gBin, gChain, gTB, gIf, gIfS, gRet, gCall, gCallF, gCo, gN, gTup, gLst, gL, gNotT, gNotV, gAndT, gOrT, gAndV, gOrV, gIsi, gSl, gPart, gNo, gM0, gM1, gFn, gAn, gAd, gAp, gAs, gAsg, gTo, gToT, gToC, gTo0, gNext, gNeg, gPs0, gTick, gPix, gLenS, gIxS, gSumS, gLRg, gPar, gDic0, gDic1, gYes, gSeqI, gRg1, gRg2, gRetN, gSetF, gApp, gExt, gDrop, gFrz, gLcC_x, gForC_x, gRev, revD, gPar3F, gOff, gOffS, gBreak, gCont, clr, startD, nth, List.set, true_or, or_true, true_and, and_true, R__law_pot_0, R__law_pot_1, R__law_pot_2, R_is_fraction_0, R_is_stretch_0, R_is_stretch_1, R_is_inside_0, R_is_inside_1, R_reduced_0, R_simplest_of_0, R_simplest_of_1, R_simplest_of_2, R_simplest_of_3, R_simplest_of_4, R_simplest_of_5, R_simplest_of_6, R_simplest_of_7, R_simplest_of_8, R_simplest_of_9, R_simplest_of_10, R_parents_of_0, R_parents_of_1, R_parents_of_2, R_parents_of_3, R_parents_of_4, R_parents_of_5, R_edge_told_0, R_edge_size_0, R__law_take_0, R__law_take_1, R__law_take_2, R__law_take_3, R__law_take_4, R__law_take_5, R__law_take_6, R__law_cut_0, R__law_cut_1, R__law_stretch_0, R__law_stretch_1, R__law_stretch_2, R__law_stretch_3, R__law_stretch_4, R__law_is_in_0, R__law_is_in_1, R__law_simplest_0, R__law_simplest_1, R_simplest_0, R__law_is_paper_0, R__law_is_paper_1, R__law_is_paper_2, R__law_is_paper_3, R__law_is_paper_4, R__law_is_paper_5, R__law_is_paper_6, R__law_is_paper_7, R__law_is_edge_0, R__law_odd_0, R__law_odd_1, R__law_bent_0, R__law_bent_1, R__law_bent_2, R__law_bent_3, R__law_bent_4, R__law_bent_5, R_are_parents_0, R_are_parents_1, R_is_simplest_0, R_is_simplest_1, R_is_simplest_2, R_is_simplest_3, R_is_simplest_4, R_is_simplest_5, R_shows_simplest_0, R_shows_edge_size_0, R_shows_edge_size_1, addD_ii, addD_ss, addD_ll, addD_tt, subD_ii, mulD_ii, mulD_si, mulD_li, fdivD_ii, modD_ii, powD_ii, eqD_ii, eqD_ss, eqD_bb, neD_ii, neD_ss, neD_bb, ltD_ii, ltD_ss, leD_ii, gtD_ii, geD_ii, isD_n, isD_bb, isnotD_n, isnotD_bb, inD_ss, inD_l, inD_t, notinD_ss, notinD_l, notinD_t, ixD_l, ixD_t, ixD_s, slD_t, slD_s, slD_l, lenD_s, lenD_l, lenD_t, tupD_l, tupD_t, listD_l, listD_t, allD_l, anyD_l, sumD_l, maxD_ii, minD_ii, maxD_l, minD_l, absD_i, gcdD_ii, intD_i, intD_b, intD_s, strD_i, strD_s, reprD_1, joinD_l, splitD_s, PB_0, PB_1, PB_2, gIte_t, gIte_f, gIte_d, gIte_n, eqD_xt, eqD_tx, neD_xt, neD_tx, eqD_tt, neD_tt, List.append_nil]
  have s1 : Sz 60 1 := lit
  refine ⟨_, rfl, _, rfl, ?_⟩
  simp only [gSeq, gSet, gVar, gVarB, gC, gBin, gChain, gTB, gIf, gIfS, gRet, gCall, gCallF, gCo, gN, gTup, gLst, gL, gNotT, gNotV, gAndT, gOrT, gAndV, gOrV, gIsi, gSl, gPart, gNo, gM0, gM1, gFn, gAn, gAd, gAp, gAs, gAsg, gTo, gToT, gToC, gTo0, gNext, gNeg, gPs0, gTick, gPix, gLenS, gIxS, gSumS, gLRg, gPar, gDic0, gDic1, gYes, gSeqI, gRg1, gRg2, gRetN, gSetF, gApp, gExt, gDrop, gFrz, gLcC_x, gForC_x, gRev, revD, gPar3F, gOff, gOffS, gBreak, gCont, clr, startD, nth, List.set, true_or, or_true, true_and, and_true, R__law_pot_0, R__law_pot_1, R__law_pot_2, R_is_fraction_0, R_is_stretch_0, R_is_stretch_1, R_is_inside_0, R_is_inside_1, R_reduced_0, R_simplest_of_0, R_simplest_of_1, R_simplest_of_2, R_simplest_of_3, R_simplest_of_4, R_simplest_of_5, R_simplest_of_6, R_simplest_of_7, R_simplest_of_8, R_simplest_of_9, R_simplest_of_10, R_parents_of_0, R_parents_of_1, R_parents_of_2, R_parents_of_3, R_parents_of_4, R_parents_of_5, R_edge_told_0, R_edge_size_0, R__law_take_0, R__law_take_1, R__law_take_2, R__law_take_3, R__law_take_4, R__law_take_5, R__law_take_6, R__law_cut_0, R__law_cut_1, R__law_stretch_0, R__law_stretch_1, R__law_stretch_2, R__law_stretch_3, R__law_stretch_4, R__law_is_in_0, R__law_is_in_1, R__law_simplest_0, R__law_simplest_1, R_simplest_0, R__law_is_paper_0, R__law_is_paper_1, R__law_is_paper_2, R__law_is_paper_3, R__law_is_paper_4, R__law_is_paper_5, R__law_is_paper_6, R__law_is_paper_7, R__law_is_edge_0, R__law_odd_0, R__law_odd_1, R__law_bent_0, R__law_bent_1, R__law_bent_2, R__law_bent_3, R__law_bent_4, R__law_bent_5, R_are_parents_0, R_are_parents_1, R_is_simplest_0, R_is_simplest_1, R_is_simplest_2, R_is_simplest_3, R_is_simplest_4, R_is_simplest_5, R_shows_simplest_0, R_shows_edge_size_0, R_shows_edge_size_1, addD_ii, addD_ss, addD_ll, addD_tt, subD_ii, mulD_ii, mulD_si, mulD_li, fdivD_ii, modD_ii, powD_ii, eqD_ii, eqD_ss, eqD_bb, neD_ii, neD_ss, neD_bb, ltD_ii, ltD_ss, leD_ii, gtD_ii, geD_ii, isD_n, isD_bb, isnotD_n, isnotD_bb, inD_ss, inD_l, inD_t, notinD_ss, notinD_l, notinD_t, ixD_l, ixD_t, ixD_s, slD_t, slD_s, slD_l, lenD_s, lenD_l, lenD_t, tupD_l, tupD_t, listD_l, listD_t, allD_l, anyD_l, sumD_l, maxD_ii, minD_ii, maxD_l, minD_l, absD_i, gcdD_ii, intD_i, intD_b, intD_s, strD_i, strD_s, reprD_1, joinD_l, splitD_s, PB_0, PB_1, PB_2, gIte_t, gIte_f, gIte_d, gIte_n, eqD_xt, eqD_tx, neD_xt, neD_tx, eqD_tt, neD_tt]
  refine ⟨Sz.mulOk s1 sy, _, rfl, _, rfl, ?_⟩
  simp only [gSeq, gSet, gVar, gVarB, gC, gBin, gChain, gTB, gIf, gIfS, gRet, gCall, gCallF, gCo, gN, gTup, gLst, gL, gNotT, gNotV, gAndT, gOrT, gAndV, gOrV, gIsi, gSl, gPart, gNo, gM0, gM1, gFn, gAn, gAd, gAp, gAs, gAsg, gTo, gToT, gToC, gTo0, gNext, gNeg, gPs0, gTick, gPix, gLenS, gIxS, gSumS, gLRg, gPar, gDic0, gDic1, gYes, gSeqI, gRg1, gRg2, gRetN, gSetF, gApp, gExt, gDrop, gFrz, gLcC_x, gForC_x, gRev, revD, gPar3F, gOff, gOffS, gBreak, gCont, clr, startD, nth, List.set, true_or, or_true, true_and, and_true, R__law_pot_0, R__law_pot_1, R__law_pot_2, R_is_fraction_0, R_is_stretch_0, R_is_stretch_1, R_is_inside_0, R_is_inside_1, R_reduced_0, R_simplest_of_0, R_simplest_of_1, R_simplest_of_2, R_simplest_of_3, R_simplest_of_4, R_simplest_of_5, R_simplest_of_6, R_simplest_of_7, R_simplest_of_8, R_simplest_of_9, R_simplest_of_10, R_parents_of_0, R_parents_of_1, R_parents_of_2, R_parents_of_3, R_parents_of_4, R_parents_of_5, R_edge_told_0, R_edge_size_0, R__law_take_0, R__law_take_1, R__law_take_2, R__law_take_3, R__law_take_4, R__law_take_5, R__law_take_6, R__law_cut_0, R__law_cut_1, R__law_stretch_0, R__law_stretch_1, R__law_stretch_2, R__law_stretch_3, R__law_stretch_4, R__law_is_in_0, R__law_is_in_1, R__law_simplest_0, R__law_simplest_1, R_simplest_0, R__law_is_paper_0, R__law_is_paper_1, R__law_is_paper_2, R__law_is_paper_3, R__law_is_paper_4, R__law_is_paper_5, R__law_is_paper_6, R__law_is_paper_7, R__law_is_edge_0, R__law_odd_0, R__law_odd_1, R__law_bent_0, R__law_bent_1, R__law_bent_2, R__law_bent_3, R__law_bent_4, R__law_bent_5, R_are_parents_0, R_are_parents_1, R_is_simplest_0, R_is_simplest_1, R_is_simplest_2, R_is_simplest_3, R_is_simplest_4, R_is_simplest_5, R_shows_simplest_0, R_shows_edge_size_0, R_shows_edge_size_1, addD_ii, addD_ss, addD_ll, addD_tt, subD_ii, mulD_ii, mulD_si, mulD_li, fdivD_ii, modD_ii, powD_ii, eqD_ii, eqD_ss, eqD_bb, neD_ii, neD_ss, neD_bb, ltD_ii, ltD_ss, leD_ii, gtD_ii, geD_ii, isD_n, isD_bb, isnotD_n, isnotD_bb, inD_ss, inD_l, inD_t, notinD_ss, notinD_l, notinD_t, ixD_l, ixD_t, ixD_s, slD_t, slD_s, slD_l, lenD_s, lenD_l, lenD_t, tupD_l, tupD_t, listD_l, listD_t, allD_l, anyD_l, sumD_l, maxD_ii, minD_ii, maxD_l, minD_l, absD_i, gcdD_ii, intD_i, intD_b, intD_s, strD_i, strD_s, reprD_1, joinD_l, splitD_s, PB_0, PB_1, PB_2, gIte_t, gIte_f, gIte_d, gIte_n, eqD_xt, eqD_tx, neD_xt, neD_tx, eqD_tt, neD_tt]
  refine ⟨Sz.mulOk s1 sx, ?_⟩
  rw [Int.one_mul, Int.one_mul]
  exact reduced_ok hx (sy.le (by decide)) (sx.le (by decide)) g h
theorem floor_ok {a b : Int} (hb : 1 ≤ b) (sb : Sz 60 b) (h : K (.int (a / b))) : F_floor_of [.dat (frD a b)] K E := by
  unfold F_floor_of specOf G_floor_of N_floor_of
  refine ⟨rfl, ?_⟩
  simp only [gSeq, gSet, gVar, gVarB, gC, gBin, gChain, gTB, gIf, gIfS, gRet, gCall, gCallF, gCo, gN, gTup, gLst, gL, gNotT, gNotV, gAndT, gOrT, gAndV, gOrV, gIsi, gSl, gPart, gNo, gM0, gM1, gFn, gAn, gAd, gAp, gAs, gAsg, gTo, gToT, gToC, gTo0, gNext, gNeg, gPs0, gTick, gPix, gLenS, gIxS, gSumS, gLRg, gPar, gDic0, gDic1, gYes, gSeqI, gRg1, gRg2, gRetN, gSetF, gApp, gExt, gDrop, gFrz, gLcC_x, gForC_x, gRev, revD, gPar3F, gOff, gOffS, gBreak, gCont, clr, startD, nth, List.set, true_or, or_true, true_and, and_true, R__law_pot_0, R__law_pot_1, R__law_pot_2, R_is_fraction_0, R_is_stretch_0, R_is_stretch_1, R_is_inside_0, R_is_inside_1, R_reduced_0, R_simplest_of_0, R_simplest_of_1, R_simplest_of_2, R_simplest_of_3, R_simplest_of_4, R_simplest_of_5, R_simplest_of_6, R_simplest_of_7, R_simplest_of_8, R_simplest_of_9, R_simplest_of_10, R_parents_of_0, R_parents_of_1, R_parents_of_2, R_parents_of_3, R_parents_of_4, R_parents_of_5, R_edge_told_0, R_edge_size_0, R__law_take_0, R__law_take_1, R__law_take_2, R__law_take_3, R__law_take_4, R__law_take_5, R__law_take_6, R__law_cut_0, R__law_cut_1, R__law_stretch_0, R__law_stretch_1, R__law_stretch_2, R__law_stretch_3, R__law_stretch_4, R__law_is_in_0, R__law_is_in_1, R__law_simplest_0, R__law_simplest_1, R_simplest_0, R__law_is_paper_0, R__law_is_paper_1, R__law_is_paper_2, R__law_is_paper_3, R__law_is_paper_4, R__law_is_paper_5, R__law_is_paper_6, R__law_is_paper_7, R__law_is_edge_0, R__law_odd_0, R__law_odd_1, R__law_bent_0, R__law_bent_1, R__law_bent_2, R__law_bent_3, R__law_bent_4, R__law_bent_5, R_are_parents_0, R_are_parents_1, R_is_simplest_0, R_is_simplest_1, R_is_simplest_2, R_is_simplest_3, R_is_simplest_4, R_is_simplest_5, R_shows_simplest_0, R_shows_edge_size_0, R_shows_edge_size_1, addD_ii, addD_ss, addD_ll, addD_tt, subD_ii, mulD_ii, mulD_si, mulD_li, fdivD_ii, modD_ii, powD_ii, eqD_ii, eqD_ss, eqD_bb, neD_ii, neD_ss, neD_bb, ltD_ii, ltD_ss, leD_ii, gtD_ii, geD_ii, isD_n, isD_bb, isnotD_n, isnotD_bb, inD_ss, inD_l, inD_t, notinD_ss, notinD_l, notinD_t, ixD_l, ixD_t, ixD_s, slD_t, slD_s, slD_l, lenD_s, lenD_l, lenD_t, tupD_l, tupD_t, listD_l, listD_t, allD_l, anyD_l, sumD_l, maxD_ii, minD_ii, maxD_l, minD_l, absD_i, gcdD_ii, intD_i, intD_b, intD_s, strD_i, strD_s, reprD_1, joinD_l, splitD_s, PB_0, PB_1, PB_2, gIte_t, gIte_f, gIte_d, gIte_n, eqD_xt, eqD_tx, neD_xt, neD_tx, eqD_tt, neD_tt]
  refine ⟨_, rfl, _, rfl, ?_⟩
  simp only [gSeq, gSet, gVar, gVarB, gC, gBin, gChain, gTB, gIf, gIfS, gRet, gCall, gCallF, gCo, gN, gTup, gLst, gL, gNotT, gNotV, gAndT, gOrT, gAndV, gOrV, gIsi, gSl, gPart, gNo, gM0, gM1, gFn, gAn, gAd, gAp, gAs, gAsg, gTo, gToT, gToC, gTo0, gNext, gNeg, gPs0, gTick, gPix, gLenS, gIxS, gSumS, gLRg, gPar, gDic0, gDic1, gYes, gSeqI, gRg1, gRg2, gRetN, gSetF, gApp, gExt, gDrop, gFrz, gLcC_x, gForC_x, gRev, revD, gPar3F, gOff, gOffS, gBreak, gCont, clr, startD, nth, List.set, true_or, or_true, true_and, and_true, R__law_pot_0, R__law_pot_1, R__law_pot_2, R_is_fraction_0, R_is_stretch_0, R_is_stretch_1, R_is_inside_0, R_is_inside_1, R_reduced_0, R_simplest_of_0, R_simplest_of_1, R_simplest_of_2, R_simplest_of_3, R_simplest_of_4, R_simplest_of_5, R_simplest_of_6, R_simplest_of_7, R_simplest_of_8, R_simplest_of_9, R_simplest_of_10, R_parents_of_0, R_parents_of_1, R_parents_of_2, R_parents_of_3, R_parents_of_4, R_parents_of_5, R_edge_told_0, R_edge_size_0, R__law_take_0, R__law_take_1, R__law_take_2, R__law_take_3, R__law_take_4, R__law_take_5, R__law_take_6, R__law_cut_0, R__law_cut_1, R__law_stretch_0, R__law_stretch_1, R__law_stretch_2, R__law_stretch_3, R__law_stretch_4, R__law_is_in_0, R__law_is_in_1, R__law_simplest_0, R__law_simplest_1, R_simplest_0, R__law_is_paper_0, R__law_is_paper_1, R__law_is_paper_2, R__law_is_paper_3, R__law_is_paper_4, R__law_is_paper_5, R__law_is_paper_6, R__law_is_paper_7, R__law_is_edge_0, R__law_odd_0, R__law_odd_1, R__law_bent_0, R__law_bent_1, R__law_bent_2, R__law_bent_3, R__law_bent_4, R__law_bent_5, R_are_parents_0, R_are_parents_1, R_is_simplest_0, R_is_simplest_1, R_is_simplest_2, R_is_simplest_3, R_is_simplest_4, R_is_simplest_5, R_shows_simplest_0, R_shows_edge_size_0, R_shows_edge_size_1, addD_ii, addD_ss, addD_ll, addD_tt, subD_ii, mulD_ii, mulD_si, mulD_li, fdivD_ii, modD_ii, powD_ii, eqD_ii, eqD_ss, eqD_bb, neD_ii, neD_ss, neD_bb, ltD_ii, ltD_ss, leD_ii, gtD_ii, geD_ii, isD_n, isD_bb, isnotD_n, isnotD_bb, inD_ss, inD_l, inD_t, notinD_ss, notinD_l, notinD_t, ixD_l, ixD_t, ixD_s, slD_t, slD_s, slD_l, lenD_s, lenD_l, lenD_t, tupD_l, tupD_t, listD_l, listD_t, allD_l, anyD_l, sumD_l, maxD_ii, minD_ii, maxD_l, minD_l, absD_i, gcdD_ii, intD_i, intD_b, intD_s, strD_i, strD_s, reprD_1, joinD_l, splitD_s, PB_0, PB_1, PB_2, gIte_t, gIte_f, gIte_d, gIte_n, eqD_xt, eqD_tx, neD_xt, neD_tx, eqD_tt, neD_tt]
  exact ⟨cdiv_of hb sb (by decide), h⟩
/-! ### the simplest one -/
theorem sz_of {i M : Int} (h0 : 0 ≤ i) (h : i ≤ M) (hM : M < 2 ^ 40) : Sz 60 i := Sz.of_range h0 (by omega)
theorem ok_of {S : Sp} {P Q M : Int} (G : Good S P Q) (B : Bd S M) (hM : M < 2 ^ 40) : Ok S :=
  ⟨G.b0, G.g, fun c d e => by
    have ⟨h1, h2⟩ := G.hi c d e
    have ⟨h3, h4, h5⟩ := B.hi c d e
    exact ⟨h1, h2, sz_of h3 h4 hM, sz_of (by omega) h5 hM⟩, sz_of G.a0 B.a hM, sz_of (by have := G.b0; omega) B.b hM⟩
theorem drop_back {ws : List Int} {i : Nat} {d : D} (h : ((ws.map PyData.int).reverse)[i]? = some d) : ∃ w, d = .int w ∧ w ∈ ws ∧ i < ws.length ∧ ws.drop (ws.length - (i + 1)) = w :: ws.drop (ws.length - i) := by
  have hi : i < ws.length := by
    obtain ⟨hl, _⟩ := List.getElem?_eq_some_iff.mp h
    rwa [List.length_reverse, List.length_map] at hl
  rw [List.getElem?_reverse (by rw [List.length_map]; exact hi), List.length_map, List.getElem?_map] at h
  have hj : ws.length - 1 - i < ws.length := by omega
  rw [List.getElem?_eq_getElem hj] at h
  refine ⟨ws[ws.length - 1 - i], by cases h; rfl, List.getElem_mem hj, hi, ?_⟩
  have e : ws.length - (i + 1) = ws.length - 1 - i := by omega
  rw [e, List.drop_eq_getElem_cons hj]
  congr 2
  omega
theorem back_ok {s0 s2 s3 s4 s5 s6 s7 s8 s9 s10 s11 : Sv} {ws : List Int} {f B M : Int} (hB : B < 2 ^ 40) (hM : M < 2 ^ 40) (hs : ∀ k ≤ ws.length, 0 ≤ (val (ws.drop k) f).1 ∧ (val (ws.drop k) f).1 ≤ B ∧ 0 ≤ (val (ws.drop k) f).2 ∧ (val (ws.drop k) f).2 ≤ B) (hw : ∀ w ∈ ws, 0 ≤ w ∧ w ≤ M)
    (h : K (frD (val ws f).1 (val ws f).2)) : R_simplest_of_8 E { nx := fun _ => K .none, rt := K } [s0, .own (ws.map PyData.int), s2, s3, s4, s5, s6, s7, s8, s9, s10, s11, .dat (frD f 1)] := by
  unfold R_simplest_of_8
  simp only [gSeq, gSet, gVar, gVarB, gC, gBin, gChain, gTB, gIf, gIfS, gRet, gCall, gCallF, gCo, gN, gTup, gLst, gL, gNotT, gNotV, gAndT, gOrT, gAndV, gOrV, gIsi, gSl, gPart, gNo, gM0, gM1, gFn, gAn, gAd, gAp, gAs, gAsg, gTo, gToT, gToC, gTo0, gNext, gNeg, gPs0, gTick, gPix, gLenS, gIxS, gSumS, gLRg, gPar, gDic0, gDic1, gYes, gSeqI, gRg1, gRg2, gRetN, gSetF, gApp, gExt, gDrop, gFrz, gLcC_x, gForC_x, gRev, revD, gPar3F, gOff, gOffS, gBreak, gCont, clr, startD, nth, List.set, true_or, or_true, true_and, and_true, addD_ii, addD_ss, addD_ll, addD_tt, subD_ii, mulD_ii, mulD_si, mulD_li, fdivD_ii, modD_ii, powD_ii, eqD_ii, eqD_ss, eqD_bb, neD_ii, neD_ss, neD_bb, ltD_ii, ltD_ss, leD_ii, gtD_ii, geD_ii, isD_n, isD_bb, isnotD_n, isnotD_bb, inD_ss, inD_l, inD_t, notinD_ss, notinD_l, notinD_t, ixD_l, ixD_t, ixD_s, slD_t, slD_s, slD_l, lenD_s, lenD_l, lenD_t, tupD_l, tupD_t, listD_l, listD_t, allD_l, anyD_l, sumD_l, maxD_ii, minD_ii, maxD_l, minD_l, absD_i, gcdD_ii, intD_i, intD_b, intD_s, strD_i, strD_s, reprD_1, joinD_l, splitD_s, PB_0, PB_1, PB_2, gIte_t, gIte_f, gIte_d, gIte_n, eqD_xt, eqD_tx, neD_xt, neD_tx, eqD_tt, neD_tt]
  refine ⟨Nat.le_of_eq (Nat.mul_zero _), fun i Δ' => ∃ s9, Δ' = [s0, .own (ws.map PyData.int), s2, s3, s4, s5, s6, s7, s8, s9, s10, s11, .dat (frD (val (ws.drop (ws.length - i)) f).1 (val (ws.drop (ws.length - i)) f).2)], ⟨s9, ?_⟩, ?_, ?_⟩
  · rw [Nat.sub_zero, List.drop_length]
    rfl
  · rintro i d Δ' hd ⟨s9, rfl⟩
    obtain ⟨w, rfl, hmem, hi, e⟩ := drop_back hd
    have ⟨v1, v2, v3, v4⟩ := hs (ws.length - i) (by omega)
    have ⟨w1, w2⟩ := hw w hmem
    simp only [gSeq, gSet, gVar, gVarB, gC, gBin, gChain, gTB, gIf, gIfS, gRet, gCall, gCallF, gCo, gN, gTup, gLst, gL, gNotT, gNotV, gAndT, gOrT, gAndV, gOrV, gIsi, gSl, gPart, gNo, gM0, gM1, gFn, gAn, gAd, gAp, gAs, gAsg, gTo, gToT, gToC, gTo0, gNext, gNeg, gPs0, gTick, gPix, gLenS, gIxS, gSumS, gLRg, gPar, gDic0, gDic1, gYes, gSeqI, gRg1, gRg2, gRetN, gSetF, gApp, gExt, gDrop, gFrz, gLcC_x, gForC_x, gRev, revD, gPar3F, gOff, gOffS, gBreak, gCont, clr, startD, nth, List.set, true_or, or_true, true_and, and_true, addD_ii, addD_ss, addD_ll, addD_tt, subD_ii, mulD_ii, mulD_si, mulD_li, fdivD_ii, modD_ii, powD_ii, eqD_ii, eqD_ss, eqD_bb, neD_ii, neD_ss, neD_bb, ltD_ii, ltD_ss, leD_ii, gtD_ii, geD_ii, isD_n, isD_bb, isnotD_n, isnotD_bb, inD_ss, inD_l, inD_t, notinD_ss, notinD_l, notinD_t, ixD_l, ixD_t, ixD_s, slD_t, slD_s, slD_l, lenD_s, lenD_l, lenD_t, tupD_l, tupD_t, listD_l, listD_t, allD_l, anyD_l, sumD_l, maxD_ii, minD_ii, maxD_l, minD_l, absD_i, gcdD_ii, intD_i, intD_b, intD_s, strD_i, strD_s, reprD_1, joinD_l, splitD_s, PB_0, PB_1, PB_2, gIte_t, gIte_f, gIte_d, gIte_n, eqD_xt, eqD_tx, neD_xt, neD_tx, eqD_tt, neD_tt]
    refine ⟨_, rfl, ?_⟩
    simp only [gSeq, gSet, gVar, gVarB, gC, gBin, gChain, gTB, gIf, gIfS, gRet, gCall, gCallF, gCo, gN, gTup, gLst, gL, gNotT, gNotV, gAndT, gOrT, gAndV, gOrV, gIsi, gSl, gPart, gNo, gM0, gM1, gFn, gAn, gAd, gAp, gAs, gAsg, gTo, gToT, gToC, gTo0, gNext, gNeg, gPs0, gTick, gPix, gLenS, gIxS, gSumS, gLRg, gPar, gDic0, gDic1, gYes, gSeqI, gRg1, gRg2, gRetN, gSetF, gApp, gExt, gDrop, gFrz, gLcC_x, gForC_x, gRev, revD, gPar3F, gOff, gOffS, gBreak, gCont, clr, startD, nth, List.set, true_or, or_true, true_and, and_true, addD_ii, addD_ss, addD_ll, addD_tt, subD_ii, mulD_ii, mulD_si, mulD_li, fdivD_ii, modD_ii, powD_ii, eqD_ii, eqD_ss, eqD_bb, neD_ii, neD_ss, neD_bb, ltD_ii, ltD_ss, leD_ii, gtD_ii, geD_ii, isD_n, isD_bb, isnotD_n, isnotD_bb, inD_ss, inD_l, inD_t, notinD_ss, notinD_l, notinD_t, ixD_l, ixD_t, ixD_s, slD_t, slD_s, slD_l, lenD_s, lenD_l, lenD_t, tupD_l, tupD_t, listD_l, listD_t, allD_l, anyD_l, sumD_l, maxD_ii, minD_ii, maxD_l, minD_l, absD_i, gcdD_ii, intD_i, intD_b, intD_s, strD_i, strD_s, reprD_1, joinD_l, splitD_s, PB_0, PB_1, PB_2, gIte_t, gIte_f, gIte_d, gIte_n, eqD_xt, eqD_tx, neD_xt, neD_tx, eqD_tt, neD_tt]
    refine ⟨Sz.mulOk (sz_of w1 w2 hM) (sz_of v1 v2 hB), _, rfl, ?_⟩
    simp only [gSeq, gSet, gVar, gVarB, gC, gBin, gChain, gTB, gIf, gIfS, gRet, gCall, gCallF, gCo, gN, gTup, gLst, gL, gNotT, gNotV, gAndT, gOrT, gAndV, gOrV, gIsi, gSl, gPart, gNo, gM0, gM1, gFn, gAn, gAd, gAp, gAs, gAsg, gTo, gToT, gToC, gTo0, gNext, gNeg, gPs0, gTick, gPix, gLenS, gIxS, gSumS, gLRg, gPar, gDic0, gDic1, gYes, gSeqI, gRg1, gRg2, gRetN, gSetF, gApp, gExt, gDrop, gFrz, gLcC_x, gForC_x, gRev, revD, gPar3F, gOff, gOffS, gBreak, gCont, clr, startD, nth, List.set, true_or, or_true, true_and, and_true, addD_ii, addD_ss, addD_ll, addD_tt, subD_ii, mulD_ii, mulD_si, mulD_li, fdivD_ii, modD_ii, powD_ii, eqD_ii, eqD_ss, eqD_bb, neD_ii, neD_ss, neD_bb, ltD_ii, ltD_ss, leD_ii, gtD_ii, geD_ii, isD_n, isD_bb, isnotD_n, isnotD_bb, inD_ss, inD_l, inD_t, notinD_ss, notinD_l, notinD_t, ixD_l, ixD_t, ixD_s, slD_t, slD_s, slD_l, lenD_s, lenD_l, lenD_t, tupD_l, tupD_t, listD_l, listD_t, allD_l, anyD_l, sumD_l, maxD_ii, minD_ii, maxD_l, minD_l, absD_i, gcdD_ii, intD_i, intD_b, intD_s, strD_i, strD_s, reprD_1, joinD_l, splitD_s, PB_0, PB_1, PB_2, gIte_t, gIte_f, gIte_d, gIte_n, eqD_xt, eqD_tx, neD_xt, neD_tx, eqD_tt, neD_tt]
    refine ⟨_, rfl, sl (n := 2) (by decide), .dat (.int w), ?_⟩
    rw [e]
    rfl
  · rintro Δ' ⟨s9, rfl⟩
    unfold R_simplest_of_7
    rw [List.length_reverse, List.length_map, Nat.sub_self, List.drop_zero]
    exact h
theorem q5 {D' : DEnds} {s0 s1 s2 s3 s4 s7 s8 s10 s11 s12 : Sv} {a b w : Int} {il : Bool}
  (h1 : il = true → b = 1 → R_simplest_of_4 E D' [s0, s1, .dat (.int w), s3, s4, .dat (.tuple [.int a, .int b]), .dat (.bool il), s7, s8, .dat (.int w), s10, s11, s12])
  (h2 : ¬ (il = true ∧ b = 1) → R_simplest_of_4 E D' [s0, s1, .dat (.int (w + 1)), s3, s4, .dat (.tuple [.int a, .int b]), .dat (.bool il), s7, s8, .dat (.int w), s10, s11, s12]) :
  R_simplest_of_5 E D' [s0, s1, s2, s3, s4, .dat (.tuple [.int a, .int b]), .dat (.bool il), s7, s8, .dat (.int w), s10, s11, s12] := by
  unfold R_simplest_of_5
  dsimp only [gSeq, gSet, gVar, gVarB, gC, gBin, gChain, gTB, gIf, gIfS, gRet, gCall, gCallF, gCo, gN, gTup, gLst, gL, gNotT, gNotV, gAndT, gOrT, gAndV, gOrV, gIsi, gSl, gPart, gNo, gM0, gM1, gFn, gAn, gAd, gAp, gAs, gAsg, gTo, gToT, gToC, gTo0, gNext, gNeg, gPs0, gTick, gPix, gLenS, gIxS, gSumS, gLRg, gPar, gDic0, gDic1, gYes, gSeqI, gRg1, gRg2, gRetN, gSetF, gApp, gExt, gDrop, gFrz, gLcC_x, gForC_x, gRev, revD, gPar3F, gOff, gOffS, gBreak, gCont, clr, startD, nth, List.set, addD_ii, addD_ss, addD_ll, addD_tt, subD_ii, mulD_ii, mulD_si, mulD_li, fdivD_ii, modD_ii, powD_ii, eqD_ii, eqD_ss, eqD_bb, neD_ii, neD_ss, neD_bb, ltD_ii, ltD_ss, leD_ii, gtD_ii, geD_ii, isD_bb, isnotD_bb, inD_ss, notinD_ss, ixD_l, ixD_t, ixD_s, slD_t, slD_s, slD_l, lenD_s, lenD_l, lenD_t, tupD_l, tupD_t, listD_l, listD_t, allD_l, anyD_l, sumD_l, maxD_ii, minD_ii, maxD_l, minD_l, absD_i, gcdD_ii, intD_i, intD_b, intD_s, strD_i, strD_s, reprD_1, joinD_l, splitD_s, eqD_tt, neD_tt]
  refine ⟨fun z1 => ⟨.int b, rfl, ?_⟩, fun z1 => ⟨fun z => (nomatch z), fun _ => h2 fun y => by rw [y.1] at z1; cases z1⟩⟩
  exact ⟨fun z2 => h1 z1 (of_decide_eq_true z2), fun z2 => h2 fun y => of_decide_eq_false z2 y.2⟩
theorem q3 {D' : DEnds} {s0 s2 s3 s4 s10 s11 s12 : Sv} {ds : List D} {a b c d w : Int} {il ih : Bool} (hl : ds.length < sizeLine) (b1 : 1 ≤ b) (g1 : Nat.gcd a.natAbs b.natAbs = 1) (sa : Sz 60 a) (sb : Sz 60 b) (d1 : 1 ≤ d) (g2 : Nat.gcd c.natAbs d.natAbs = 1) (sc : Sz 60 c) (sd : Sz 60 d) (sw : Sz 60 w)
  (nb : 1 ≤ c - w * d) (g3 : Nat.gcd d.natAbs (c - w * d).natAbs = 1) (s3' : Sz 60 (c - w * d)) (r0 : 0 ≤ a - w * b) (sr : Sz 60 (a - w * b)) (rb : a - w * b = 0 → b = 1)
  (h : ∀ s2 s9 s10 s11 : Sv, D'.nx [s0, .own (ds ++ [.int w]), s2, .dat (.tuple [frD d (c - w * d), .bool ih, hiD (if a - w * b = 0 then none else some (b, a - w * b)), .bool il]), s4, .dat (frD a b), .dat (.bool il), .dat (frD c d), .dat (.bool ih), s9, s10, s11, s12]) :
  R_simplest_of_3 E D' [s0, .own ds, s2, s3, s4, .dat (frD a b), .dat (.bool il), .dat (frD c d), .dat (.bool ih), .dat (.int w), s10, s11, s12] := by
  unfold R_simplest_of_3 R_simplest_of_2 R_simplest_of_1 R_simplest_of_0
  dsimp only [gSeq, gSet, gVar, gVarB, gC, gBin, gChain, gTB, gIf, gIfS, gRet, gCall, gCallF, gCo, gN, gTup, gLst, gL, gNotT, gNotV, gAndT, gOrT, gAndV, gOrV, gIsi, gSl, gPart, gNo, gM0, gM1, gFn, gAn, gAd, gAp, gAs, gAsg, gTo, gToT, gToC, gTo0, gNext, gNeg, gPs0, gTick, gPix, gLenS, gIxS, gSumS, gLRg, gPar, gDic0, gDic1, gYes, gSeqI, gRg1, gRg2, gRetN, gSetF, gApp, gExt, gDrop, gFrz, gLcC_x, gForC_x, gRev, revD, gPar3F, gOff, gOffS, gBreak, gCont, clr, startD, nth, List.set, addD_ii, addD_ss, addD_ll, addD_tt, subD_ii, mulD_ii, mulD_si, mulD_li, fdivD_ii, modD_ii, powD_ii, eqD_ii, eqD_ss, eqD_bb, neD_ii, neD_ss, neD_bb, ltD_ii, ltD_ss, leD_ii, gtD_ii, geD_ii, isD_bb, isnotD_bb, inD_ss, notinD_ss, ixD_l, ixD_t, ixD_s, slD_t, slD_s, slD_l, lenD_s, lenD_l, lenD_t, tupD_l, tupD_t, listD_l, listD_t, allD_l, anyD_l, sumD_l, maxD_ii, minD_ii, maxD_l, minD_l, absD_i, gcdD_ii, intD_i, intD_b, intD_s, strD_i, strD_s, reprD_1, joinD_l, splitD_s, eqD_tt, neD_tt]
  refine ⟨hl, sl (n := 2) (by decide), diff_ok b1 g1 sa sb sw ⟨sl (n := 2) (by decide), diff_ok d1 g2 sc sd sw ?_⟩⟩
  refine quo_ok nb g3 s3' sd ?_
  unfold d_NOTHING
  dsimp only [eqD_tt]
  refine ⟨shaped_pair, shaped_pair, ?_⟩
  rw [eqv_pair]
  by_cases z0 : a - w * b = 0
  · rw [decide_eq_true z0, decide_eq_true (rb z0)]
    rw [if_pos z0] at h
    exact ⟨fun _ => ⟨sl (n := 4) (by decide), h _ _ _ _⟩, fun z => (nomatch z)⟩
  · rw [decide_eq_false z0]
    rw [if_neg z0] at h
    refine ⟨fun z => (nomatch z), fun _ => quo_ok (by omega) ?_ sr sb ⟨sl (n := 4) (by decide), h _ _ _ _⟩⟩
    exact gcd_step a b w g1
theorem q4 {S : Sp} {D' : DEnds} {s0 s1 s4 s5 s6 s7 s8 s9 s10 s11 s12 : Sv} {v : Int} (O : Ok S) (sv : Sz 100 v)
  (h1 : In S v 1 → D'.bk [s0, s1, .dat (.int v), .dat S.D, s4, s5, s6, s7, s8, s9, s10, s11, s12])
  (h2 : ¬ In S v 1 → R_simplest_of_3 E D' [s0, s1, .dat (.int v), .dat S.D, s4, s5, s6, s7, s8, s9, s10, s11, s12]) :
  R_simplest_of_4 E D' [s0, s1, .dat (.int v), .dat S.D, s4, s5, s6, s7, s8, s9, s10, s11, s12] := by
  unfold R_simplest_of_4
  dsimp only [gSeq, gSet, gVar, gVarB, gC, gBin, gChain, gTB, gIf, gIfS, gRet, gCall, gCallF, gCo, gN, gTup, gLst, gL, gNotT, gNotV, gAndT, gOrT, gAndV, gOrV, gIsi, gSl, gPart, gNo, gM0, gM1, gFn, gAn, gAd, gAp, gAs, gAsg, gTo, gToT, gToC, gTo0, gNext, gNeg, gPs0, gTick, gPix, gLenS, gIxS, gSumS, gLRg, gPar, gDic0, gDic1, gYes, gSeqI, gRg1, gRg2, gRetN, gSetF, gApp, gExt, gDrop, gFrz, gLcC_x, gForC_x, gRev, revD, gPar3F, gOff, gOffS, gBreak, gCont, clr, startD, nth, List.set, addD_ii, addD_ss, addD_ll, addD_tt, subD_ii, mulD_ii, mulD_si, mulD_li, fdivD_ii, modD_ii, powD_ii, eqD_ii, eqD_ss, eqD_bb, neD_ii, neD_ss, neD_bb, ltD_ii, ltD_ss, leD_ii, gtD_ii, geD_ii, isD_bb, isnotD_bb, inD_ss, notinD_ss, ixD_l, ixD_t, ixD_s, slD_t, slD_s, slD_l, lenD_s, lenD_l, lenD_t, tupD_l, tupD_t, listD_l, listD_t, allD_l, anyD_l, sumD_l, maxD_ii, minD_ii, maxD_l, minD_l, absD_i, gcdD_ii, intD_i, intD_b, intD_s, strD_i, strD_s, reprD_1, joinD_l, splitD_s, eqD_tt, neD_tt]
  have s1' : Sz 100 1 := lit
  refine ⟨sl (n := 2) (by decide), isInside_ok O (Int.le_refl 1) (Nat.gcd_one_right _) sv s1' ⟨fun z => h1 (inB_iff.mp z), fun z => h2 fun y => ?_⟩⟩
  rw [inB_iff.mpr y] at z
  cases z
theorem q6 {D' : DEnds} {s0 s1 s2 s3 s4 s6 s7 s8 s9 s10 s11 s12 : Sv} {a b : Int} (b1 : 1 ≤ b) (sb : Sz 60 b) (h : R_simplest_of_5 E D' [s0, s1, s2, s3, s4, .dat (frD a b), s6, s7, s8, .dat (.int (a / b)), s10, s11, s12]) :
  R_simplest_of_6 E D' [s0, s1, s2, s3, s4, .dat (frD a b), s6, s7, s8, s9, s10, s11, s12] := by
  unfold R_simplest_of_6
  dsimp only [gSeq, gSet, gVar, gVarB, gC, gBin, gChain, gTB, gIf, gIfS, gRet, gCall, gCallF, gCo, gN, gTup, gLst, gL, gNotT, gNotV, gAndT, gOrT, gAndV, gOrV, gIsi, gSl, gPart, gNo, gM0, gM1, gFn, gAn, gAd, gAp, gAs, gAsg, gTo, gToT, gToC, gTo0, gNext, gNeg, gPs0, gTick, gPix, gLenS, gIxS, gSumS, gLRg, gPar, gDic0, gDic1, gYes, gSeqI, gRg1, gRg2, gRetN, gSetF, gApp, gExt, gDrop, gFrz, gLcC_x, gForC_x, gRev, revD, gPar3F, gOff, gOffS, gBreak, gCont, clr, startD, nth, List.set, addD_ii, addD_ss, addD_ll, addD_tt, subD_ii, mulD_ii, mulD_si, mulD_li, fdivD_ii, modD_ii, powD_ii, eqD_ii, eqD_ss, eqD_bb, neD_ii, neD_ss, neD_bb, ltD_ii, ltD_ss, leD_ii, gtD_ii, geD_ii, isD_bb, isnotD_bb, inD_ss, notinD_ss, ixD_l, ixD_t, ixD_s, slD_t, slD_s, slD_l, lenD_s, lenD_l, lenD_t, tupD_l, tupD_t, listD_l, listD_t, allD_l, anyD_l, sumD_l, maxD_ii, minD_ii, maxD_l, minD_l, absD_i, gcdD_ii, intD_i, intD_b, intD_s, strD_i, strD_s, reprD_1, joinD_l, splitD_s, eqD_tt, neD_tt]
  exact floor_ok b1 sb h
theorem fi_pos {S : Sp} (h : S.il = true ∧ S.b = 1) : fi S = wh S := by
  unfold fi wh
  rw [if_pos h]
theorem fi_neg {S : Sp} (h : ¬ (S.il = true ∧ S.b = 1)) : fi S = wh S + 1 := by
  unfold fi wh
  rw [if_neg h]
/-- one state of the way down -/
theorem step_ok {S : Sp} {P Q M : Int} {D' : DEnds} {s0 s2 s4 s9 s10 s11 s12 : Sv} {ds : List D} (G : Good S P Q) (bd : Bd S M) (hM : M < 2 ^ 40) (hl : ds.length < sizeLine)
    (stop : In S (fi S) 1 → ∀ s9 : Sv, D'.bk [s0, .own ds, .dat (.int (fi S)), .dat S.D, s4, .dat (frD S.a S.b), .dat (.bool S.il), .dat (hiD S.hi), .dat (.bool S.ih), s9, s10, s11, s12])
    (go : ¬ In S (fi S) 1 → ∀ c d, S.hi = some (c, d) → ∀ s2 s9 s10 s11 : Sv, D'.nx [s0, .own (ds ++ [.int (wh S)]), s2, .dat (nx S c d).D, s4, .dat (frD S.a S.b), .dat (.bool S.il), .dat (hiD S.hi), .dat (.bool S.ih), s9, s10, s11, s12]) :
    R_simplest_of_6 E D' [s0, .own ds, s2, .dat S.D, s4, .dat (frD S.a S.b), .dat (.bool S.il), .dat (hiD S.hi), .dat (.bool S.ih), s9, s10, s11, s12] := by
  have O := ok_of G bd hM
  have w0 := wh0 G
  have wM := wh_le G bd
  have swh : Sz 60 (wh S) := sz_of w0 wM hM
  refine q6 O.b1 O.sb ?_
  have four : ∀ v : Int, fi S = v → R_simplest_of_4 E D' [s0, .own ds, .dat (.int v), .dat S.D, s4, .dat (frD S.a S.b), .dat (.bool S.il), .dat (hiD S.hi), .dat (.bool S.ih), .dat (.int (wh S)), s10, s11, s12] := fun v hv => by
    subst hv
    have v0 : 0 ≤ fi S ∧ fi S ≤ wh S + 1 := by
      have : fi S = wh S ∨ fi S = wh S + 1 := by
        by_cases z : S.il = true ∧ S.b = 1
        · exact .inl (fi_pos z)
        · exact .inr (fi_neg z)
      omega
    refine q4 O (Sz.of_range v0.1 (by omega)) (fun z => stop z _) fun nin => ?_
    obtain ⟨_, c, d, e, _⟩ := fi_out G nin
    obtain ⟨d1, g2, sc, sd⟩ := O.hi c d e
    have nb := nx_b G nin e
    have O2 := ok_of (good_nx G nin e) (bd_nx G bd nin e) hM
    have ew := rem_eq S
    have ⟨r0, r1⟩ := rem0 G.b0
    have GO := go nin c d e
    have nxD : (nx S c d).D = .tuple [frD d (c - wh S * d), .bool S.ih, hiD (if S.a % S.b = 0 then none else some (S.b, S.a % S.b)), .bool S.il] := rfl
    rw [nxD, ew] at GO
    rw [e] at GO
    rw [e]
    have sr : Sz 60 (S.a - wh S * S.b) := by
      rw [← ew]
      exact Sz.of_range r0 (by have := O.sb; unfold Sz at this; omega)
    exact q3 hl O.b1 O.g O.sa O.sb d1 g2 sc sd swh nb O2.g O2.sb (by omega) sr (fun z => b_one G (by omega)) GO
  exact q5 (fun h1 h2 => four _ (fi_pos ⟨h1, h2⟩)) fun h => four _ (fi_neg h)
theorem simplestOf_ok {S : Sp} {P Q M B : Int} (G : Good S P Q) (bd : Bd S M) (hM : M < 2 ^ 40) (hP : P ≤ B) (hQ : Q ≤ B) (hB : B < 2 ^ 40) (hm : ms S ≤ 100000) (h : ∀ p q, Best S p q → p ≤ B → q ≤ B → K (frD p q)) : F_simplest_of [.dat S.D] K E := by
  have ms0 : ∀ {S : Sp} {P Q : Int}, Good S P Q → 1 ≤ ms S := fun {S P Q} G => by
    unfold ms
    have := G.b0
    cases e : S.hi with
    | none => exact (show 1 ≤ S.b + 0 by omega)
    | some cd =>
      obtain ⟨c, d⟩ := cd
      have := (G.hi c d e).1
      exact (show 1 ≤ S.b + d by omega)
  unfold F_simplest_of specOf G_simplest_of N_simplest_of
  refine ⟨rfl, ?_⟩
  unfold R_simplest_of_10
  dsimp only [gSeq, gSet, gVar, gVarB, gC, gBin, gChain, gTB, gIf, gIfS, gRet, gCall, gCallF, gCo, gN, gTup, gLst, gL, gNotT, gNotV, gAndT, gOrT, gAndV, gOrV, gIsi, gSl, gPart, gNo, gM0, gM1, gFn, gAn, gAd, gAp, gAs, gAsg, gTo, gToT, gToC, gTo0, gNext, gNeg, gPs0, gTick, gPix, gLenS, gIxS, gSumS, gLRg, gPar, gDic0, gDic1, gYes, gSeqI, gRg1, gRg2, gRetN, gSetF, gApp, gExt, gDrop, gFrz, gLcC_x, gForC_x, gRev, revD, gPar3F, gOff, gOffS, gBreak, gCont, clr, startD, nth, List.set, addD_ii, addD_ss, addD_ll, addD_tt, subD_ii, mulD_ii, mulD_si, mulD_li, fdivD_ii, modD_ii, powD_ii, eqD_ii, eqD_ss, eqD_bb, neD_ii, neD_ss, neD_bb, ltD_ii, ltD_ss, leD_ii, gtD_ii, geD_ii, isD_bb, isnotD_bb, inD_ss, notinD_ss, ixD_l, ixD_t, ixD_s, slD_t, slD_s, slD_l, lenD_s, lenD_l, lenD_t, tupD_l, tupD_t, listD_l, listD_t, allD_l, anyD_l, sumD_l, maxD_ii, minD_ii, maxD_l, minD_l, absD_i, gcdD_ii, intD_i, intD_b, intD_s, strD_i, strD_s, reprD_1, joinD_l, splitD_s, eqD_tt, neD_tt, d_MOST_PARTS]
  have hlen : (rangeD 0 1000000).length = 1000000 := by
    unfold rangeD
    rw [List.length_map, List.length_range]
    rfl
  refine ⟨sl (n := 0) (by decide), (show 1 < 13 by decide), by decide, by rw [sizeLine_eq]; decide, Nat.le_of_eq (Nat.mul_zero _), fun j Δ' => ∃ (ws : List Int) (S' : Sp) (P' Q' : Int) (s2 s4 s5 s6 s7 s8 s9 s10 s11 s12 : Sv), Δ' = [.dat S.D, .own (ws.map PyData.int), s2, .dat S'.D, s4, s5, s6, s7, s8, s9, s10, s11, s12] ∧ Path S ws S' ∧ Good S' P' Q' ∧ P' ≤ B ∧ Q' ≤ B ∧ Bd S' M ∧ (j : Int) + ms S' ≤ 100000 ∧ ws.length ≤ j,
    ⟨[], S, P, Q, _, _, _, _, _, _, _, _, _, _, rfl, .nil, G, hP, hQ, bd, by omega, Nat.le_refl _⟩, ?_, ?_⟩
  · rintro j d Δ' hd ⟨ws, S', P', Q', s2, s4, s5, s6, s7, s8, s9, s10, s11, s12, rfl, path, G', hP', hQ', bd', hms, hl⟩
    have m1 := ms0 G'
    refine ⟨rfl, step_ok G' bd' hM (by rw [List.length_map, sizeLine_eq]; omega) (fun hin s9 => ?_) fun hout c d' e s2 s9 s10 s11 => ?_⟩
    · have run : Run S ws (fi S') := by
        have := path.run (.stop hin)
        rwa [List.append_nil] at this
      have best := best_run run G
      have least := best.least P Q G.w G.q0
      unfold R_simplest_of_9
      dsimp only [gSeq, gSet, gVar, gVarB, gC, gBin, gChain, gTB, gIf, gIfS, gRet, gCall, gCallF, gCo, gN, gTup, gLst, gL, gNotT, gNotV, gAndT, gOrT, gAndV, gOrV, gIsi, gSl, gPart, gNo, gM0, gM1, gFn, gAn, gAd, gAp, gAs, gAsg, gTo, gToT, gToC, gTo0, gNext, gNeg, gPs0, gTick, gPix, gLenS, gIxS, gSumS, gLRg, gPar, gDic0, gDic1, gYes, gSeqI, gRg1, gRg2, gRetN, gSetF, gApp, gExt, gDrop, gFrz, gLcC_x, gForC_x, gRev, revD, gPar3F, gOff, gOffS, gBreak, gCont, clr, startD, nth, List.set, addD_ii, addD_ss, addD_ll, addD_tt, subD_ii, mulD_ii, mulD_si, mulD_li, fdivD_ii, modD_ii, powD_ii, eqD_ii, eqD_ss, eqD_bb, neD_ii, neD_ss, neD_bb, ltD_ii, ltD_ss, leD_ii, gtD_ii, geD_ii, isD_bb, isnotD_bb, inD_ss, notinD_ss, ixD_l, ixD_t, ixD_s, slD_t, slD_s, slD_l, lenD_s, lenD_l, lenD_t, tupD_l, tupD_t, listD_l, listD_t, allD_l, anyD_l, sumD_l, maxD_ii, minD_ii, maxD_l, minD_l, absD_i, gcdD_ii, intD_i, intD_b, intD_s, strD_i, strD_s, reprD_1, joinD_l, splitD_s, eqD_tt, neD_tt]
      exact ⟨sl (n := 2) (by decide), back_ok hB hM (run_sizes run G hP hQ bd) (run_whs run G bd) (h _ _ best (by omega) (by omega))⟩
    · have m2 := ms_nx G' hout e
      have m := Int.mul_nonneg (wh0 G') (show 0 ≤ Q' by have := G'.q0; omega)
      exact ⟨ws ++ [wh S'], nx S' c d', Q', P' - wh S' * Q', _, _, _, _, _, _, _, _, _, _, by rw [List.map_append]; rfl, .snoc path hout e, good_nx G' hout e, hQ', by omega, bd_nx G' bd' hout e, by omega, by rw [List.length_append]; show _ + 1 ≤ _; omega⟩
  · rintro Δ' ⟨ws, S', P', Q', s2, s4, s5, s6, s7, s8, s9, s10, s11, s12, rfl, path, G', hP', hQ', bd', hms, hl⟩
    rw [hlen] at hms
    have := ms0 G'
    omega
end K83
/-! K83y: parents; low by low; what simplest and edge_size tell. -/
namespace K83
open PySem DL
variable {K : D → Prop} {E : Value → D → Prop}
section
variable {D' : DEnds} {s0 s1 s2 s3 s4 s5 s6 s7 : Sv}
theorem p0_ok {r l x y t : Int} {b : Bool} (h : D'.nx [s0, s1, s2, .dat (frD y t), .dat (.bool (!b)), s5, .dat (.int t), s7]) : R_parents_of_0 E D' [s0, s1, s2, .dat (frD x y), .dat (.bool b), s5, .dat (.int t), s7] := by
  unfold R_parents_of_0
  dsimp only [gSeq, gSet, gVar, gVarB, gC, gBin, gChain, gTB, gIf, gIfS, gRet, gCall, gCallF, gCo, gN, gTup, gLst, gL, gNotT, gNotV, gAndT, gOrT, gAndV, gOrV, gIsi, gSl, gPart, gNo, gM0, gM1, gFn, gAn, gAd, gAp, gAs, gAsg, gTo, gToT, gToC, gTo0, gNext, gNeg, gPs0, gTick, gPix, gLenS, gIxS, gSumS, gLRg, gPar, gDic0, gDic1, gYes, gSeqI, gRg1, gRg2, gRetN, gSetF, gApp, gExt, gDrop, gFrz, gLcC_x, gForC_x, gRev, revD, gPar3F, gOff, gOffS, gBreak, gCont, clr, startD, nth, List.set, addD_ii, addD_ss, addD_ll, addD_tt, subD_ii, mulD_ii, mulD_si, mulD_li, fdivD_ii, modD_ii, powD_ii, eqD_ii, eqD_ss, eqD_bb, neD_ii, neD_ss, neD_bb, ltD_ii, ltD_ss, leD_ii, gtD_ii, geD_ii, isD_bb, isnotD_bb, inD_ss, notinD_ss, ixD_l, ixD_t, ixD_s, slD_t, slD_s, slD_l, lenD_s, lenD_l, lenD_t, tupD_l, tupD_t, listD_l, listD_t, allD_l, anyD_l, sumD_l, maxD_ii, minD_ii, maxD_l, minD_l, absD_i, gcdD_ii, intD_i, intD_b, intD_s, strD_i, strD_s, reprD_1, joinD_l, splitD_s, eqD_tt, neD_tt]
  exact ⟨.int y, rfl, sl (n := 2) (by decide), h⟩
theorem p1_ok {l0 l1 r0 r1 n : Int} {b : Bool} (m1 : DL.MulOk n r0) (m2 : DL.MulOk n r1) (m3 : DL.MulOk n l0) (m4 : DL.MulOk n l1)
    (h1 : b = true → R_parents_of_0 E D' [s0, .dat (frD (l0 + n * r0) (l1 + n * r1)), .dat (frD r0 r1), s3, .dat (.bool b), s5, s6, .dat (.int n)])
    (h2 : b = false → R_parents_of_0 E D' [s0, .dat (frD l0 l1), .dat (frD (r0 + n * l0) (r1 + n * l1)), s3, .dat (.bool b), s5, s6, .dat (.int n)]) :
    R_parents_of_1 E D' [s0, .dat (frD l0 l1), .dat (frD r0 r1), s3, .dat (.bool b), s5, s6, .dat (.int n)] := by
  unfold R_parents_of_1
  dsimp only [gSeq, gSet, gVar, gVarB, gC, gBin, gChain, gTB, gIf, gIfS, gRet, gCall, gCallF, gCo, gN, gTup, gLst, gL, gNotT, gNotV, gAndT, gOrT, gAndV, gOrV, gIsi, gSl, gPart, gNo, gM0, gM1, gFn, gAn, gAd, gAp, gAs, gAsg, gTo, gToT, gToC, gTo0, gNext, gNeg, gPs0, gTick, gPix, gLenS, gIxS, gSumS, gLRg, gPar, gDic0, gDic1, gYes, gSeqI, gRg1, gRg2, gRetN, gSetF, gApp, gExt, gDrop, gFrz, gLcC_x, gForC_x, gRev, revD, gPar3F, gOff, gOffS, gBreak, gCont, clr, startD, nth, List.set, addD_ii, addD_ss, addD_ll, addD_tt, subD_ii, mulD_ii, mulD_si, mulD_li, fdivD_ii, modD_ii, powD_ii, eqD_ii, eqD_ss, eqD_bb, neD_ii, neD_ss, neD_bb, ltD_ii, ltD_ss, leD_ii, gtD_ii, geD_ii, isD_bb, isnotD_bb, inD_ss, notinD_ss, ixD_l, ixD_t, ixD_s, slD_t, slD_s, slD_l, lenD_s, lenD_l, lenD_t, tupD_l, tupD_t, listD_l, listD_t, allD_l, anyD_l, sumD_l, maxD_ii, minD_ii, maxD_l, minD_l, absD_i, gcdD_ii, intD_i, intD_b, intD_s, strD_i, strD_s, reprD_1, joinD_l, splitD_s, eqD_tt, neD_tt]
  exact ⟨fun z => ⟨_, rfl, _, rfl, m1, _, rfl, _, rfl, m2, sl (n := 2) (by decide), h1 z⟩, fun z => ⟨_, rfl, _, rfl, m3, _, rfl, _, rfl, m4, sl (n := 2) (by decide), h2 z⟩⟩
theorem p2_ok {w t : Int} (h : R_parents_of_1 E D' [s0, s1, s2, s3, s4, .dat (.int w), .dat (.int t), .dat (.int (if t ≠ 0 then w else w - 1))]) : R_parents_of_2 E D' [s0, s1, s2, s3, s4, .dat (.int w), .dat (.int t), s7] := by
  unfold R_parents_of_2
  dsimp only [gSeq, gSet, gVar, gVarB, gC, gBin, gChain, gTB, gIf, gIfS, gRet, gCall, gCallF, gCo, gN, gTup, gLst, gL, gNotT, gNotV, gAndT, gOrT, gAndV, gOrV, gIsi, gSl, gPart, gNo, gM0, gM1, gFn, gAn, gAd, gAp, gAs, gAsg, gTo, gToT, gToC, gTo0, gNext, gNeg, gPs0, gTick, gPix, gLenS, gIxS, gSumS, gLRg, gPar, gDic0, gDic1, gYes, gSeqI, gRg1, gRg2, gRetN, gSetF, gApp, gExt, gDrop, gFrz, gLcC_x, gForC_x, gRev, revD, gPar3F, gOff, gOffS, gBreak, gCont, clr, startD, nth, List.set, addD_ii, addD_ss, addD_ll, addD_tt, subD_ii, mulD_ii, mulD_si, mulD_li, fdivD_ii, modD_ii, powD_ii, eqD_ii, eqD_ss, eqD_bb, neD_ii, neD_ss, neD_bb, ltD_ii, ltD_ss, leD_ii, gtD_ii, geD_ii, isD_bb, isnotD_bb, inD_ss, notinD_ss, ixD_l, ixD_t, ixD_s, slD_t, slD_s, slD_l, lenD_s, lenD_l, lenD_t, tupD_l, tupD_t, listD_l, listD_t, allD_l, anyD_l, sumD_l, maxD_ii, minD_ii, maxD_l, minD_l, absD_i, gcdD_ii, intD_i, intD_b, intD_s, strD_i, strD_s, reprD_1, joinD_l, splitD_s, eqD_tt, neD_tt]
  by_cases z : t = 0
  · rw [if_neg (fun q => q z)] at h
    rw [decide_eq_true z]
    exact ⟨fun q => (nomatch q), fun _ => h⟩
  · rw [if_pos z] at h
    rw [decide_eq_false z]
    exact ⟨fun _ => h, fun q => (nomatch q)⟩
end
theorem parents_ok {p q B : Int} (hp0 : 0 ≤ p) (hp : p ≤ B) (hq1 : 1 ≤ q) (hq : q ≤ B) (hB : B < 2 ^ 40) (g : Nat.gcd p.natAbs q.natAbs = 1) (h1 : q = 1 → K (.tuple []))
    (h2 : q ≠ 1 → ∀ l0 l1 r0 r1 : Int, 0 ≤ l0 → 1 ≤ l1 → 1 ≤ r0 → 0 ≤ r1 → r0 * l1 - l0 * r1 = 1 → l0 + r0 = p → l1 + r1 = q → K (.tuple [frD l0 l1, frD r0 r1])) : F_parents_of [.dat (frD p q)] K E := by
  unfold F_parents_of specOf G_parents_of N_parents_of
  refine ⟨rfl, ?_⟩
  unfold R_parents_of_5
  dsimp only [gSeq, gSet, gVar, gVarB, gC, gBin, gChain, gTB, gIf, gIfS, gRet, gCall, gCallF, gCo, gN, gTup, gLst, gL, gNotT, gNotV, gAndT, gOrT, gAndV, gOrV, gIsi, gSl, gPart, gNo, gM0, gM1, gFn, gAn, gAd, gAp, gAs, gAsg, gTo, gToT, gToC, gTo0, gNext, gNeg, gPs0, gTick, gPix, gLenS, gIxS, gSumS, gLRg, gPar, gDic0, gDic1, gYes, gSeqI, gRg1, gRg2, gRetN, gSetF, gApp, gExt, gDrop, gFrz, gLcC_x, gForC_x, gRev, revD, gPar3F, gOff, gOffS, gBreak, gCont, clr, startD, nth, List.set, addD_ii, addD_ss, addD_ll, addD_tt, subD_ii, mulD_ii, mulD_si, mulD_li, fdivD_ii, modD_ii, powD_ii, eqD_ii, eqD_ss, eqD_bb, neD_ii, neD_ss, neD_bb, ltD_ii, ltD_ss, leD_ii, gtD_ii, geD_ii, isD_bb, isnotD_bb, inD_ss, notinD_ss, ixD_l, ixD_t, ixD_s, slD_t, slD_s, slD_l, lenD_s, lenD_l, lenD_t, tupD_l, tupD_t, listD_l, listD_t, allD_l, anyD_l, sumD_l, maxD_ii, minD_ii, maxD_l, minD_l, absD_i, gcdD_ii, intD_i, intD_b, intD_s, strD_i, strD_s, reprD_1, joinD_l, splitD_s, eqD_tt, neD_tt]
  refine ⟨.int q, rfl, fun z => ⟨sl (n := 0) (by decide), h1 (of_decide_eq_true z)⟩, fun z => ?_⟩
  have z := of_decide_eq_false z
  have hp1 : 1 ≤ p := by
    by_cases e : p = 0
    · rw [e] at g
      have : Nat.gcd 0 q.natAbs = 1 := g
      rw [Nat.gcd_zero_left] at this
      omega
    · omega
  refine ⟨sl (n := 2) (by decide), sl (n := 2) (by decide), sl (n := 4) (by decide), rfl, ?_⟩
  unfold R_parents_of_4
  dsimp only [gSeq, gSet, gVar, gVarB, gC, gBin, gChain, gTB, gIf, gIfS, gRet, gCall, gCallF, gCo, gN, gTup, gLst, gL, gNotT, gNotV, gAndT, gOrT, gAndV, gOrV, gIsi, gSl, gPart, gNo, gM0, gM1, gFn, gAn, gAd, gAp, gAs, gAsg, gTo, gToT, gToC, gTo0, gNext, gNeg, gPs0, gTick, gPix, gLenS, gIxS, gSumS, gLRg, gPar, gDic0, gDic1, gYes, gSeqI, gRg1, gRg2, gRetN, gSetF, gApp, gExt, gDrop, gFrz, gLcC_x, gForC_x, gRev, revD, gPar3F, gOff, gOffS, gBreak, gCont, clr, startD, nth, List.set, addD_ii, addD_ss, addD_ll, addD_tt, subD_ii, mulD_ii, mulD_si, mulD_li, fdivD_ii, modD_ii, powD_ii, eqD_ii, eqD_ss, eqD_bb, neD_ii, neD_ss, neD_bb, ltD_ii, ltD_ss, leD_ii, gtD_ii, geD_ii, isD_bb, isnotD_bb, inD_ss, notinD_ss, ixD_l, ixD_t, ixD_s, slD_t, slD_s, slD_l, lenD_s, lenD_l, lenD_t, tupD_l, tupD_t, listD_l, listD_t, allD_l, anyD_l, sumD_l, maxD_ii, minD_ii, maxD_l, minD_l, absD_i, gcdD_ii, intD_i, intD_b, intD_s, strD_i, strD_s, reprD_1, joinD_l, splitD_s, eqD_tt, neD_tt]
  refine ⟨fun n Δ' => ∃ (l0 l1 r0 r1 x y : Int) (t : Bool) (s5 s6 s7 : Sv), Δ' = [.dat (frD p q), .dat (frD l0 l1), .dat (frD r0 r1), .dat (frD x y), .dat (.bool t), s5, s6, s7] ∧ PI p q l0 l1 r0 r1 x y t ∧ y ≤ n ∧ 0 ≤ x ∧ x ≤ B ∧ y ≤ B,
    ⟨q.toNat, Nat.le_of_eq (Nat.mul_zero _), 0, 1, 1, 0, p, q, true, _, _, _, rfl, pi_first hp1 (by omega) g, by omega, hp0, hp, hq⟩, ?_⟩
  rintro n Δ' ⟨l0, l1, r0, r1, x, y, t, s5, s6, s7, rfl, I, hn, x0, hx, hy⟩
  refine ⟨.int y, rfl, fun e => ?_, fun e => ?_⟩
  · have e : ¬ y = 0 := fun w => by
      have e : (!decide (y = 0)) = true := e
      rw [decide_eq_true w] at e
      cases e
    have y1 : 1 ≤ y := by have := I.yn; omega
    have sy : Sz 60 y := sz_of I.yn hy hB
    have sx : Sz 60 x := sz_of x0 hx hB
    refine ⟨n - 1, by omega, ?_⟩
    dsimp only [gSeq, gSet, gVar, gVarB, gC, gBin, gChain, gTB, gIf, gIfS, gRet, gCall, gCallF, gCo, gN, gTup, gLst, gL, gNotT, gNotV, gAndT, gOrT, gAndV, gOrV, gIsi, gSl, gPart, gNo, gM0, gM1, gFn, gAn, gAd, gAp, gAs, gAsg, gTo, gToT, gToC, gTo0, gNext, gNeg, gPs0, gTick, gPix, gLenS, gIxS, gSumS, gLRg, gPar, gDic0, gDic1, gYes, gSeqI, gRg1, gRg2, gRetN, gSetF, gApp, gExt, gDrop, gFrz, gLcC_x, gForC_x, gRev, revD, gPar3F, gOff, gOffS, gBreak, gCont, clr, startD, nth, List.set, addD_ii, addD_ss, addD_ll, addD_tt, subD_ii, mulD_ii, mulD_si, mulD_li, fdivD_ii, modD_ii, powD_ii, eqD_ii, eqD_ss, eqD_bb, neD_ii, neD_ss, neD_bb, ltD_ii, ltD_ss, leD_ii, gtD_ii, geD_ii, isD_bb, isnotD_bb, inD_ss, notinD_ss, ixD_l, ixD_t, ixD_s, slD_t, slD_s, slD_l, lenD_s, lenD_l, lenD_t, tupD_l, tupD_t, listD_l, listD_t, allD_l, anyD_l, sumD_l, maxD_ii, minD_ii, maxD_l, minD_l, absD_i, gcdD_ii, intD_i, intD_b, intD_s, strD_i, strD_s, reprD_1, joinD_l, splitD_s, eqD_tt, neD_tt]
    refine ⟨_, rfl, _, rfl, cdiv_of y1 sy (by decide), _, rfl, _, rfl, by omega, ?_⟩
    have ⟨n0, st⟩ := pi_step I y1
    have ⟨b1, b2, b3, b4, c1, c2, c3, c4⟩ := pi_size I y1 hp hq
    have t0 := Int.emod_nonneg x (show y ≠ 0 by omega)
    have t1 := Int.emod_lt_of_pos x (show 0 < y by omega)
    have wx : x / y ≤ x := Int.ediv_le_self _ x0
    refine p2_ok ?_
    generalize hnn : (if x % y ≠ 0 then x / y else x / y - 1) = m at *
    have mB : m ≤ B := by
      rw [← hnn]
      split <;> omega
    have sm : Sz 60 m := sz_of n0 mB hB
    have mu : ∀ {v : Int}, 0 ≤ v → v ≤ B → DL.MulOk m v := fun h0 h1 => Sz.mulOk sm (sz_of h0 h1 hB)
    refine p1_ok (mu c3 b3) (mu c4 b4) (mu c1 b1) (mu c2 b2) (fun z => p0_ok (r := 0) (l := 0) ?_) fun z => p0_ok (r := 0) (l := 0) ?_
    · rw [if_pos z] at st
      exact ⟨_, _, _, _, y, x % y, _, _, _, _, rfl, st, by omega, by omega, hy, by omega⟩
    · rw [if_neg (by rw [z]; decide)] at st
      exact ⟨_, _, _, _, y, x % y, _, _, _, _, rfl, st, by omega, by omega, hy, by omega⟩
  · have e : y = 0 := by
      have e : (!decide (y = 0)) = false := e
      rw [Bool.not_eq_false'] at e
      exact of_decide_eq_true e
    have ⟨f1, f2⟩ := I.fin e
    unfold R_parents_of_3
    dsimp only [gSeq, gSet, gVar, gVarB, gC, gBin, gChain, gTB, gIf, gIfS, gRet, gCall, gCallF, gCo, gN, gTup, gLst, gL, gNotT, gNotV, gAndT, gOrT, gAndV, gOrV, gIsi, gSl, gPart, gNo, gM0, gM1, gFn, gAn, gAd, gAp, gAs, gAsg, gTo, gToT, gToC, gTo0, gNext, gNeg, gPs0, gTick, gPix, gLenS, gIxS, gSumS, gLRg, gPar, gDic0, gDic1, gYes, gSeqI, gRg1, gRg2, gRetN, gSetF, gApp, gExt, gDrop, gFrz, gLcC_x, gForC_x, gRev, revD, gPar3F, gOff, gOffS, gBreak, gCont, clr, startD, nth, List.set, addD_ii, addD_ss, addD_ll, addD_tt, subD_ii, mulD_ii, mulD_si, mulD_li, fdivD_ii, modD_ii, powD_ii, eqD_ii, eqD_ss, eqD_bb, neD_ii, neD_ss, neD_bb, ltD_ii, ltD_ss, leD_ii, gtD_ii, geD_ii, isD_bb, isnotD_bb, inD_ss, notinD_ss, ixD_l, ixD_t, ixD_s, slD_t, slD_s, slD_l, lenD_s, lenD_l, lenD_t, tupD_l, tupD_t, listD_l, listD_t, allD_l, anyD_l, sumD_l, maxD_ii, minD_ii, maxD_l, minD_l, absD_i, gcdD_ii, intD_i, intD_b, intD_s, strD_i, strD_s, reprD_1, joinD_l, splitD_s, eqD_tt, neD_tt]
    exact ⟨sl (n := 2) (by decide), h2 z l0 l1 r0 r1 I.l0n I.l1n I.r0n I.r1n I.det f1 f2⟩
/-! ### low by low -/
theorem inner_ok {S : Sp} {c d low f : Int} {D' : DEnds} {s3 : Sv} (O : Ok S) (e : S.hi = some (c, d)) (sl' : Sz 90 low) (sf : Sz 90 f)
    (h1 : inB S f low = true → D'.rt (frD f low)) (h2 : inB S f low = false → inB S (f + 1) low = true → D'.rt (frD (f + 1) low)) (h3 : inB S f low = false → inB S (f + 1) low = false → ∀ s3 : Sv, D'.nx [.dat S.D, .dat (.int low), .dat (.int f), s3]) :
    R__law_simplest_0 E D' [.dat S.D, .dat (.int low), .dat (.int f), s3] := by
  have sf1 : Sz 100 (f + 1) := (sf.add (lit (b := 90) (i := 1))).le (by decide)
  unfold R__law_simplest_0
  dsimp only [gSeq, gSet, gVar, gVarB, gC, gBin, gChain, gTB, gIf, gIfS, gRet, gCall, gCallF, gCo, gN, gTup, gLst, gL, gNotT, gNotV, gAndT, gOrT, gAndV, gOrV, gIsi, gSl, gPart, gNo, gM0, gM1, gFn, gAn, gAd, gAp, gAs, gAsg, gTo, gToT, gToC, gTo0, gNext, gNeg, gPs0, gTick, gPix, gLenS, gIxS, gSumS, gLRg, gPar, gDic0, gDic1, gYes, gSeqI, gRg1, gRg2, gRetN, gSetF, gApp, gExt, gDrop, gFrz, gLcC_x, gForC_x, gRev, revD, gPar3F, gOff, gOffS, gBreak, gCont, clr, startD, nth, List.set, addD_ii, addD_ss, addD_ll, addD_tt, subD_ii, mulD_ii, mulD_si, mulD_li, fdivD_ii, modD_ii, powD_ii, eqD_ii, eqD_ss, eqD_bb, neD_ii, neD_ss, neD_bb, ltD_ii, ltD_ss, leD_ii, gtD_ii, geD_ii, isD_bb, isnotD_bb, inD_ss, notinD_ss, ixD_l, ixD_t, ixD_s, slD_t, slD_s, slD_l, lenD_s, lenD_l, lenD_t, tupD_l, tupD_t, listD_l, listD_t, allD_l, anyD_l, sumD_l, maxD_ii, minD_ii, maxD_l, minD_l, absD_i, gcdD_ii, intD_i, intD_b, intD_s, strD_i, strD_s, reprD_1, joinD_l, splitD_s, eqD_tt, neD_tt]
  refine ⟨sl (n := 2) (by decide), Nat.le_of_eq (Nat.mul_zero _), fun i Δ' => ∃ s3 : Sv, Δ' = [.dat S.D, .dat (.int low), .dat (.int f), s3] ∧ (1 ≤ i → inB S f low = false) ∧ (2 ≤ i → inB S (f + 1) low = false), ⟨_, rfl, by omega, by omega⟩, ?_, ?_⟩
  · rintro i x Δ' hx ⟨s3, rfl, i1, i2⟩
    match i, hx with
    | 0, hx =>
      cases hx
      dsimp only [gSeq, gSet, gVar, gVarB, gC, gBin, gChain, gTB, gIf, gIfS, gRet, gCall, gCallF, gCo, gN, gTup, gLst, gL, gNotT, gNotV, gAndT, gOrT, gAndV, gOrV, gIsi, gSl, gPart, gNo, gM0, gM1, gFn, gAn, gAd, gAp, gAs, gAsg, gTo, gToT, gToC, gTo0, gNext, gNeg, gPs0, gTick, gPix, gLenS, gIxS, gSumS, gLRg, gPar, gDic0, gDic1, gYes, gSeqI, gRg1, gRg2, gRetN, gSetF, gApp, gExt, gDrop, gFrz, gLcC_x, gForC_x, gRev, revD, gPar3F, gOff, gOffS, gBreak, gCont, clr, startD, nth, List.set, addD_ii, addD_ss, addD_ll, addD_tt, subD_ii, mulD_ii, mulD_si, mulD_li, fdivD_ii, modD_ii, powD_ii, eqD_ii, eqD_ss, eqD_bb, neD_ii, neD_ss, neD_bb, ltD_ii, ltD_ss, leD_ii, gtD_ii, geD_ii, isD_bb, isnotD_bb, inD_ss, notinD_ss, ixD_l, ixD_t, ixD_s, slD_t, slD_s, slD_l, lenD_s, lenD_l, lenD_t, tupD_l, tupD_t, listD_l, listD_t, allD_l, anyD_l, sumD_l, maxD_ii, minD_ii, maxD_l, minD_l, absD_i, gcdD_ii, intD_i, intD_b, intD_s, strD_i, strD_s, reprD_1, joinD_l, splitD_s, eqD_tt, neD_tt]
      refine isIn_ok O e (sf.le (by decide)) (sl'.le (by decide)) ⟨fun z => ⟨sl (n := 2) (by decide), h1 z⟩, fun z => ⟨_, rfl, fun _ => z, by omega⟩⟩
    | 1, hx =>
      cases hx
      dsimp only [gSeq, gSet, gVar, gVarB, gC, gBin, gChain, gTB, gIf, gIfS, gRet, gCall, gCallF, gCo, gN, gTup, gLst, gL, gNotT, gNotV, gAndT, gOrT, gAndV, gOrV, gIsi, gSl, gPart, gNo, gM0, gM1, gFn, gAn, gAd, gAp, gAs, gAsg, gTo, gToT, gToC, gTo0, gNext, gNeg, gPs0, gTick, gPix, gLenS, gIxS, gSumS, gLRg, gPar, gDic0, gDic1, gYes, gSeqI, gRg1, gRg2, gRetN, gSetF, gApp, gExt, gDrop, gFrz, gLcC_x, gForC_x, gRev, revD, gPar3F, gOff, gOffS, gBreak, gCont, clr, startD, nth, List.set, addD_ii, addD_ss, addD_ll, addD_tt, subD_ii, mulD_ii, mulD_si, mulD_li, fdivD_ii, modD_ii, powD_ii, eqD_ii, eqD_ss, eqD_bb, neD_ii, neD_ss, neD_bb, ltD_ii, ltD_ss, leD_ii, gtD_ii, geD_ii, isD_bb, isnotD_bb, inD_ss, notinD_ss, ixD_l, ixD_t, ixD_s, slD_t, slD_s, slD_l, lenD_s, lenD_l, lenD_t, tupD_l, tupD_t, listD_l, listD_t, allD_l, anyD_l, sumD_l, maxD_ii, minD_ii, maxD_l, minD_l, absD_i, gcdD_ii, intD_i, intD_b, intD_s, strD_i, strD_s, reprD_1, joinD_l, splitD_s, eqD_tt, neD_tt]
      refine isIn_ok O e sf1 (sl'.le (by decide)) ⟨fun z => ⟨sl (n := 2) (by decide), h2 (i1 (by omega)) z⟩, fun z => ⟨_, rfl, fun _ => i1 (by omega), fun _ => z⟩⟩
    | n + 2, hx => cases hx
  · rintro Δ' ⟨s3, rfl, i1, i2⟩
    exact h3 (i1 (show 1 ≤ 2 by decide)) (i2 (show 2 ≤ 2 by decide)) _
theorem lawSimplest_ok {S : Sp} {P Q M c d p q : Int} (G : Good S P Q) (bd : Bd S M) (hM : M < 2 ^ 40) (e : S.hi = some (c, d)) (b : Best S p q) (hq : q < 4000) (h : K (frD p q)) : F__law_simplest [.dat S.D] K E := by
  have O := ok_of G bd hM
  unfold F__law_simplest specOf G__law_simplest N__law_simplest
  refine ⟨rfl, ?_⟩
  dsimp only [gSeq, gSet, gVar, gVarB, gC, gBin, gChain, gTB, gIf, gIfS, gRet, gCall, gCallF, gCo, gN, gTup, gLst, gL, gNotT, gNotV, gAndT, gOrT, gAndV, gOrV, gIsi, gSl, gPart, gNo, gM0, gM1, gFn, gAn, gAd, gAp, gAs, gAsg, gTo, gToT, gToC, gTo0, gNext, gNeg, gPs0, gTick, gPix, gLenS, gIxS, gSumS, gLRg, gPar, gDic0, gDic1, gYes, gSeqI, gRg1, gRg2, gRetN, gSetF, gApp, gExt, gDrop, gFrz, gLcC_x, gForC_x, gRev, revD, gPar3F, gOff, gOffS, gBreak, gCont, clr, startD, nth, List.set, addD_ii, addD_ss, addD_ll, addD_tt, subD_ii, mulD_ii, mulD_si, mulD_li, fdivD_ii, modD_ii, powD_ii, eqD_ii, eqD_ss, eqD_bb, neD_ii, neD_ss, neD_bb, ltD_ii, ltD_ss, leD_ii, gtD_ii, geD_ii, isD_bb, isnotD_bb, inD_ss, notinD_ss, ixD_l, ixD_t, ixD_s, slD_t, slD_s, slD_l, lenD_s, lenD_l, lenD_t, tupD_l, tupD_t, listD_l, listD_t, allD_l, anyD_l, sumD_l, maxD_ii, minD_ii, maxD_l, minD_l, absD_i, gcdD_ii, intD_i, intD_b, intD_s, strD_i, strD_s, reprD_1, joinD_l, splitD_s, eqD_tt, neD_tt]
  have hlen : (rangeD 1 4000).length = 3999 := by
    unfold rangeD
    rw [List.length_map, List.length_range]
    rfl
  refine ⟨by decide, by decide, by decide, by decide, by rw [sizeLine_eq]; decide, Nat.le_of_eq (Nat.mul_zero _), fun i Δ' => ∃ s1 s2 s3 : Sv, Δ' = [.dat S.D, s1, s2, s3] ∧ (i : Int) < q, ⟨_, _, _, rfl, by have := b.q1; omega⟩, ?_, ?_⟩
  · rintro i x Δ' hx ⟨s1, s2, s3, rfl, hi⟩
    have hi4 : i < 3999 := by
      obtain ⟨hl, _⟩ := List.getElem?_eq_some_iff.mp hx
      rwa [hlen] at hl
    have ex : x = .int (1 + (i : Int)) := by
      unfold rangeD at hx
      rw [List.getElem?_map, List.getElem?_range (show i < (4000 - 1 : Int).toNat from hi4)] at hx
      cases hx
      rfl
    subst ex
    have sL : Sz 90 (1 + (i : Int)) := Sz.of_range (by omega) (by omega)
    have hL : (1 : Int) ≤ 1 + (i : Int) := by omega
    have hLq : 1 + (i : Int) ≤ q := by omega
    have hL4 : 1 + (i : Int) ≤ 4000 := by omega
    generalize hLi : 1 + (i : Int) = L at *
    dsimp only [Sp.D, gSeq, gSet, gVar, gVarB, gC, gBin, gChain, gTB, gIf, gIfS, gRet, gCall, gCallF, gCo, gN, gTup, gLst, gL, gNotT, gNotV, gAndT, gOrT, gAndV, gOrV, gIsi, gSl, gPart, gNo, gM0, gM1, gFn, gAn, gAd, gAp, gAs, gAsg, gTo, gToT, gToC, gTo0, gNext, gNeg, gPs0, gTick, gPix, gLenS, gIxS, gSumS, gLRg, gPar, gDic0, gDic1, gYes, gSeqI, gRg1, gRg2, gRetN, gSetF, gApp, gExt, gDrop, gFrz, gLcC_x, gForC_x, gRev, revD, gPar3F, gOff, gOffS, gBreak, gCont, clr, startD, nth, List.set, addD_ii, addD_ss, addD_ll, addD_tt, subD_ii, mulD_ii, mulD_si, mulD_li, fdivD_ii, modD_ii, powD_ii, eqD_ii, eqD_ss, eqD_bb, neD_ii, neD_ss, neD_bb, ltD_ii, ltD_ss, leD_ii, gtD_ii, geD_ii, isD_bb, isnotD_bb, inD_ss, notinD_ss, ixD_l, ixD_t, ixD_s, slD_t, slD_s, slD_l, lenD_s, lenD_l, lenD_t, tupD_l, tupD_t, listD_l, listD_t, allD_l, anyD_l, sumD_l, maxD_ii, minD_ii, maxD_l, minD_l, absD_i, gcdD_ii, intD_i, intD_b, intD_s, strD_i, strD_s, reprD_1, joinD_l, splitD_s, eqD_tt, neD_tt]
    refine ⟨_, rfl, _, rfl, Sz.mulOk O.sa sL, _, rfl, _, rfl, cdiv_of O.b1 O.sb (by decide), ?_⟩
    have ff := first_hit G b
    have f0 : 0 ≤ S.a * L / S.b := Int.ediv_nonneg (Int.mul_nonneg G.a0 (by omega)) (by have := G.b0; omega)
    have f1 : S.a * L / S.b ≤ S.a * L := Int.ediv_le_self _ (Int.mul_nonneg G.a0 (by omega))
    have f2 : Sz 90 (S.a * L / S.b) := by
      have h1 : S.a * L ≤ S.a * 4000 := Int.mul_le_mul_of_nonneg_left hL4 G.a0
      have h3 : S.a * 4000 ≤ M * 4000 := Int.mul_le_mul_of_nonneg_right bd.a (by decide)
      exact Sz.of_range f0 (Int.lt_of_le_of_lt (Int.le_trans f1 (Int.le_trans h1 h3)) (by omega))
    refine inner_ok O e sL f2 (fun z => ?_) (fun z1 z2 => ?_) fun z1 z2 s3 => ?_
    · have hin := inB_iff.mp z
      by_cases w : L = q
      · subst w
        rw [ff.1 hin]
        exact h
      · exact absurd hin (not_before b hL (by omega))
    · have hin := inB_iff.mp z2
      by_cases w : L = q
      · subst w
        rw [ff.2 fun y => by rw [inB_iff.mpr y] at z1; cases z1]
        exact h
      · exact absurd hin (not_before b hL (by omega))
    · refine ⟨_, _, _, rfl, ?_⟩
      by_cases w : L = q
      · exfalso
        subst w
        have e1 := ff.2 fun y => by rw [inB_iff.mpr y] at z1; cases z1
        rw [e1, inB_iff.mpr b.inn] at z2
        cases z2
      · omega
  · rintro Δ' ⟨s1, s2, s3, rfl, hi⟩
    rw [hlen] at hi
    omega
end K83
/-! K83z: both judges tell the same of any value. -/
namespace K83
open PySem DL
variable {K : D → Prop} {E : Value → D → Prop}
def elV : D → Bool
  | .int i => decide (0 ≤ i)
  | _ => false
def elP (d : D) : D := .bool (elV d)
def elB : D → Bool
  | .tuple [a, b] => elV a && elV b
  | _ => false
theorem el_map (xs : List D) : xs.map elP = (xs.map elV).map PyData.bool := by
  rw [List.map_map]
  rfl
theorem el_len : ∀ {xs : List D}, ¬ (xs.length : Int) = 2 → elB (.tuple xs) = false
  | [], _ => rfl
  | [_], _ => rfl
  | [_, _], h => absurd rfl h
  | _ :: _ :: _ :: _, _ => rfl
theorem el_ints {x : D} (h : elB x = true) : ∃ a b : Int, x = frD a b ∧ 0 ≤ a ∧ 0 ≤ b := by
  match x, h with
  | .tuple [a, b], h =>
    have h : (elV a && elV b) = true := h
    rw [Bool.and_eq_true] at h
    cases a <;> simp [elV] at h
    cases b <;> simp [elV] at h
    exact ⟨_, _, rfl, h.1, h.2⟩
def fourB (S : Sp) (p q : Int) : D → D → Bool
  | .tuple [.int o, .int b], .tuple [.int t, .int i] => decide (0 < b) && (decide (o + t = p) && decide (b + i = q) && (decide (t * b - o * i = 1) && (!inB S o b && (decide (i = 0) || !inB S t i))))
  | _, _ => false
def pairB (S : Sp) (p q : Int) : D → Bool
  | .tuple [x, y] => elB x && (elB y && fourB S p q x y)
  | _ => false
def restB (S : Sp) (p q : Int) (paper : D) : Bool := if q = 1 then isUnit paper && !inB S (p - 1) 1 else pairB S p q paper
def paperB (S : Sp) (f paper : D) : Bool := match f with
  | .tuple [.int p, .int q] => decide (1 ≤ q) && decide (Nat.gcd p.natAbs q.natAbs = 1) && (inB S p q && restB S p q paper)
  | _ => false
def shownB (S : Sp) : D → Bool
  | .tuple [f, paper] => paperB S f paper
  | _ => false
theorem paperB_no {S : Sp} {f paper : D} (h : fracB f = false) : paperB S f paper = false := by
  unfold paperB
  split
  · rename_i p q
    have h : (decide (1 ≤ q) && decide (Nat.gcd p.natAbs q.natAbs = 1)) = false := h
    rw [h, Bool.false_and]
  · rfl
theorem frac_of {f : D} (h : fracB f = true) : ∃ p q : Int, f = frD p q ∧ 1 ≤ q ∧ Nat.gcd p.natAbs q.natAbs = 1 := by
  unfold fracB at h
  split at h
  · rw [Bool.and_eq_true, decide_eq_true_eq, decide_eq_true_eq] at h
    exact ⟨_, _, rfl, h.1, h.2⟩
  · cases h
theorem gcd_det {o b t i : Int} (h : t * b - o * i = 1) : Nat.gcd o.natAbs b.natAbs = 1 := by
  have h1 : ((Int.gcd o b : Nat) : Int) ∣ o := Int.gcd_dvd_left ..
  have h2 : ((Int.gcd o b : Nat) : Int) ∣ b := Int.gcd_dvd_right ..
  have h3 : ((Int.gcd o b : Nat) : Int) ∣ 1 := by
    rw [← h]
    exact Int.dvd_sub (Int.dvd_mul_of_dvd_right h2) (Int.dvd_mul_of_dvd_left h1)
  have h4 : Int.gcd o b ∣ 1 := Int.natCast_dvd_natCast.mp h3
  exact Nat.dvd_one.mp h4
theorem gcd_det2 {o b t i : Int} (h : t * b - o * i = 1) : Nat.gcd t.natAbs i.natAbs = 1 := gcd_det (o := t) (b := i) (t := -o) (i := -b) (by grind)
/-- what is asked of a value's numbers -/
structure Fit (f paper : D) : Prop where
  f : ∀ p q, f = frD p q → Sz 60 p ∧ Sz 60 q
  sh : SeqAt.shaped paper = true
  pap : ∀ o b t i, paper = .tuple [frD o b, frD t i] → Sz 60 o ∧ Sz 60 b ∧ Sz 60 t ∧ Sz 60 i
/-! ### the program's judge -/
theorem apEl_ok {D' : DEnds} {s0 : Sv} {x : D} (h1 : elB x = true → D'.nx [s0, .dat x, .un]) (h2 : elB x = false → D'.rt (.bool false)) :
    (gIfS (gOrT (gNotT (gTB (gIsi isTupD (gVar 1)))) (gOrT (gTB (gBin neD (gCall lenD (gCo (gVar 1) gN)) (gC (.int 2)))) (gNotT (gTB (gCall allD (gCo (gL (gLcC (0 + 0) 0 [2] (gSeqI (gVar 1)) (gTo 2) gYes (gAndV (gFn F_is_integer NoE [] (gAd (gVar 2) gAn)) (gBin geD (gVar 2) (gC (.int 0)))))) gN)))))) (gRet (gC (.bool false))) gNext) D' [s0, .dat x, .un] := by
  cases x with
  | tuple xs =>
    simp only [gSeq, gSet, gVar, gVarB, gC, gBin, gChain, gTB, gIf, gIfS, gRet, gCall, gCallF, gCo, gN, gTup, gLst, gL, gNotT, gNotV, gAndT, gOrT, gAndV, gOrV, gIsi, gSl, gPart, gNo, gM0, gM1, gFn, gAn, gAd, gAp, gAs, gAsg, gTo, gToT, gToC, gTo0, gNext, gNeg, gPs0, gTick, gPix, gLenS, gIxS, gSumS, gLRg, gPar, gDic0, gDic1, gYes, gSeqI, gRg1, gRg2, gRetN, gSetF, gApp, gExt, gDrop, gFrz, gLcC_x, gForC_x, gRev, revD, gPar3F, gOff, gOffS, gBreak, gCont, clr, startD, nth, List.set, true_or, or_true, true_and, and_true, addD_ii, addD_ss, addD_ll, addD_tt, subD_ii, mulD_ii, mulD_si, mulD_li, fdivD_ii, modD_ii, powD_ii, eqD_ii, eqD_ss, eqD_bb, neD_ii, neD_ss, neD_bb, ltD_ii, ltD_ss, leD_ii, gtD_ii, geD_ii, isD_n, isD_bb, isnotD_n, isnotD_bb, inD_ss, inD_l, inD_t, notinD_ss, notinD_l, notinD_t, ixD_l, ixD_t, ixD_s, slD_t, slD_s, slD_l, lenD_s, lenD_l, lenD_t, tupD_l, tupD_t, listD_l, listD_t, allD_l, anyD_l, sumD_l, maxD_ii, minD_ii, maxD_l, minD_l, absD_i, gcdD_ii, intD_i, intD_b, intD_s, strD_i, strD_s, reprD_1, joinD_l, splitD_s, PB_0, PB_1, PB_2, gIte_t, gIte_f, gIte_d, gIte_n, eqD_xt, eqD_tx, neD_xt, neD_tx, eqD_tt, neD_tt, isTupD, Bool.not_true]
    refine ⟨fun hl => ?_, fun hl => h2 (el_len hl)⟩
    match xs, hl, h1, h2 with
    | [a, b], _, h1, h2 =>
      refine lc_to elP rfl (Nat.le_refl _) (fun d hd P hP => ?_) ⟨_, el_map _, ?_⟩
      · refine isInteger_ok ?_
        cases d <;> first | exact ⟨fun _ => hP, fun z => (nomatch z)⟩ | exact ⟨fun z => (nomatch z), fun _ => hP⟩
      · have e : ([a, b].map elV).all id = (elV a && elV b) := by simp
        rw [e]
        exact ⟨h1, h2⟩
  | _ =>
    simp only [gSeq, gSet, gVar, gVarB, gC, gBin, gChain, gTB, gIf, gIfS, gRet, gCall, gCallF, gCo, gN, gTup, gLst, gL, gNotT, gNotV, gAndT, gOrT, gAndV, gOrV, gIsi, gSl, gPart, gNo, gM0, gM1, gFn, gAn, gAd, gAp, gAs, gAsg, gTo, gToT, gToC, gTo0, gNext, gNeg, gPs0, gTick, gPix, gLenS, gIxS, gSumS, gLRg, gPar, gDic0, gDic1, gYes, gSeqI, gRg1, gRg2, gRetN, gSetF, gApp, gExt, gDrop, gFrz, gLcC_x, gForC_x, gRev, revD, gPar3F, gOff, gOffS, gBreak, gCont, clr, startD, nth, List.set, true_or, or_true, true_and, and_true, addD_ii, addD_ss, addD_ll, addD_tt, subD_ii, mulD_ii, mulD_si, mulD_li, fdivD_ii, modD_ii, powD_ii, eqD_ii, eqD_ss, eqD_bb, neD_ii, neD_ss, neD_bb, ltD_ii, ltD_ss, leD_ii, gtD_ii, geD_ii, isD_n, isD_bb, isnotD_n, isnotD_bb, inD_ss, inD_l, inD_t, notinD_ss, notinD_l, notinD_t, ixD_l, ixD_t, ixD_s, slD_t, slD_s, slD_l, lenD_s, lenD_l, lenD_t, tupD_l, tupD_t, listD_l, listD_t, allD_l, anyD_l, sumD_l, maxD_ii, minD_ii, maxD_l, minD_l, absD_i, gcdD_ii, intD_i, intD_b, intD_s, strD_i, strD_s, reprD_1, joinD_l, splitD_s, PB_0, PB_1, PB_2, gIte_t, gIte_f, gIte_d, gIte_n, eqD_xt, eqD_tx, neD_xt, neD_tx, eqD_tt, neD_tt, isTupD, Bool.not_false]
    exact h2 rfl
def lowB : D → Bool
  | .tuple [_, .int b] => decide (0 < b)
  | _ => false
def parB : D → Bool
  | .tuple [x, y] => elB x && (elB y && lowB x)
  | _ => false
theorem par_len : ∀ {xs : List D}, ¬ (xs.length : Int) = 2 → parB (.tuple xs) = false
  | [], _ => rfl
  | [_], _ => rfl
  | [_, _], h => absurd rfl h
  | _ :: _ :: _ :: _, _ => rfl
theorem areParents_ok {d : D} (h : K (.bool (parB d))) : F_are_parents [.dat d] K E := by
  unfold F_are_parents specOf G_are_parents N_are_parents
  refine ⟨rfl, ?_⟩
  cases d with
  | tuple xs =>
    simp only [gSeq, gSet, gVar, gVarB, gC, gBin, gChain, gTB, gIf, gIfS, gRet, gCall, gCallF, gCo, gN, gTup, gLst, gL, gNotT, gNotV, gAndT, gOrT, gAndV, gOrV, gIsi, gSl, gPart, gNo, gM0, gM1, gFn, gAn, gAd, gAp, gAs, gAsg, gTo, gToT, gToC, gTo0, gNext, gNeg, gPs0, gTick, gPix, gLenS, gIxS, gSumS, gLRg, gPar, gDic0, gDic1, gYes, gSeqI, gRg1, gRg2, gRetN, gSetF, gApp, gExt, gDrop, gFrz, gLcC_x, gForC_x, gRev, revD, gPar3F, gOff, gOffS, gBreak, gCont, clr, startD, nth, List.set, true_or, or_true, true_and, and_true, addD_ii, addD_ss, addD_ll, addD_tt, subD_ii, mulD_ii, mulD_si, mulD_li, fdivD_ii, modD_ii, powD_ii, eqD_ii, eqD_ss, eqD_bb, neD_ii, neD_ss, neD_bb, ltD_ii, ltD_ss, leD_ii, gtD_ii, geD_ii, isD_n, isD_bb, isnotD_n, isnotD_bb, inD_ss, inD_l, inD_t, notinD_ss, notinD_l, notinD_t, ixD_l, ixD_t, ixD_s, slD_t, slD_s, slD_l, lenD_s, lenD_l, lenD_t, tupD_l, tupD_t, listD_l, listD_t, allD_l, anyD_l, sumD_l, maxD_ii, minD_ii, maxD_l, minD_l, absD_i, gcdD_ii, intD_i, intD_b, intD_s, strD_i, strD_s, reprD_1, joinD_l, splitD_s, PB_0, PB_1, PB_2, gIte_t, gIte_f, gIte_d, gIte_n, eqD_xt, eqD_tx, neD_xt, neD_tx, eqD_tt, neD_tt, isTupD, Bool.not_true]
    refine ⟨fun hl => ?_, fun hl => by rwa [par_len hl] at h⟩
    match xs, hl, h with
    | [x, y], _, h =>
      have h : K (.bool (elB x && (elB y && lowB x))) := h
      unfold R_are_parents_1
      dsimp only [gSeq, gSet, gVar, gVarB, gC, gBin, gChain, gTB, gIf, gIfS, gRet, gCall, gCallF, gCo, gN, gTup, gLst, gL, gNotT, gNotV, gAndT, gOrT, gAndV, gOrV, gIsi, gSl, gPart, gNo, gM0, gM1, gFn, gAn, gAd, gAp, gAs, gAsg, gTo, gToT, gToC, gTo0, gNext, gNeg, gPs0, gTick, gPix, gLenS, gIxS, gSumS, gLRg, gPar, gDic0, gDic1, gYes, gSeqI, gRg1, gRg2, gRetN, gSetF, gApp, gExt, gDrop, gFrz, gLcC_x, gForC_x, gRev, revD, gPar3F, gOff, gOffS, gBreak, gCont, clr, startD, nth, List.set, addD_ii, addD_ss, addD_ll, addD_tt, subD_ii, mulD_ii, mulD_si, mulD_li, fdivD_ii, modD_ii, powD_ii, eqD_ii, eqD_ss, eqD_bb, neD_ii, neD_ss, neD_bb, ltD_ii, ltD_ss, leD_ii, gtD_ii, geD_ii, isD_bb, isnotD_bb, inD_ss, notinD_ss, ixD_l, ixD_t, ixD_s, slD_t, slD_s, slD_l, lenD_s, lenD_l, lenD_t, tupD_l, tupD_t, listD_l, listD_t, allD_l, anyD_l, sumD_l, maxD_ii, minD_ii, maxD_l, minD_l, absD_i, gcdD_ii, intD_i, intD_b, intD_s, strD_i, strD_s, reprD_1, joinD_l, splitD_s, eqD_tt, neD_tt]
      refine ⟨Nat.le_of_eq (Nat.mul_zero _), fun i Δ' => ∃ s1 : Sv, Δ' = [.dat (.tuple [x, y]), s1, .un] ∧ (1 ≤ i → elB x = true) ∧ (2 ≤ i → elB y = true), ⟨_, rfl, by omega, by omega⟩, ?_, ?_⟩
      · rintro i z Δ' hx ⟨s1, rfl, i1, i2⟩
        match i, hx with
        | 0, hx =>
          cases hx
          exact apEl_ok (fun w => ⟨_, rfl, fun _ => w, by omega⟩) fun w => by rwa [w, Bool.false_and] at h
        | 1, hx =>
          cases hx
          have e1 := i1 (by omega)
          exact apEl_ok (fun w => ⟨_, rfl, fun _ => e1, fun _ => w⟩) fun w => by rwa [e1, w, Bool.true_and, Bool.false_and] at h
        | n + 2, hx => cases hx
      · rintro Δ' ⟨s1, rfl, i1, i2⟩
        have e1 := i1 (show 1 ≤ 2 by decide)
        have e2 := i2 (show 2 ≤ 2 by decide)
        obtain ⟨a, b, rfl, _, _⟩ := el_ints e1
        rw [e1, e2, Bool.true_and, Bool.true_and] at h
        unfold R_are_parents_0
        exact ⟨_, rfl, _, rfl, h⟩
  | _ =>
    simp only [gSeq, gSet, gVar, gVarB, gC, gBin, gChain, gTB, gIf, gIfS, gRet, gCall, gCallF, gCo, gN, gTup, gLst, gL, gNotT, gNotV, gAndT, gOrT, gAndV, gOrV, gIsi, gSl, gPart, gNo, gM0, gM1, gFn, gAn, gAd, gAp, gAs, gAsg, gTo, gToT, gToC, gTo0, gNext, gNeg, gPs0, gTick, gPix, gLenS, gIxS, gSumS, gLRg, gPar, gDic0, gDic1, gYes, gSeqI, gRg1, gRg2, gRetN, gSetF, gApp, gExt, gDrop, gFrz, gLcC_x, gForC_x, gRev, revD, gPar3F, gOff, gOffS, gBreak, gCont, clr, startD, nth, List.set, true_or, or_true, true_and, and_true, addD_ii, addD_ss, addD_ll, addD_tt, subD_ii, mulD_ii, mulD_si, mulD_li, fdivD_ii, modD_ii, powD_ii, eqD_ii, eqD_ss, eqD_bb, neD_ii, neD_ss, neD_bb, ltD_ii, ltD_ss, leD_ii, gtD_ii, geD_ii, isD_n, isD_bb, isnotD_n, isnotD_bb, inD_ss, inD_l, inD_t, notinD_ss, notinD_l, notinD_t, ixD_l, ixD_t, ixD_s, slD_t, slD_s, slD_l, lenD_s, lenD_l, lenD_t, tupD_l, tupD_t, listD_l, listD_t, allD_l, anyD_l, sumD_l, maxD_ii, minD_ii, maxD_l, minD_l, absD_i, gcdD_ii, intD_i, intD_b, intD_s, strD_i, strD_s, reprD_1, joinD_l, splitD_s, PB_0, PB_1, PB_2, gIte_t, gIte_f, gIte_d, gIte_n, eqD_xt, eqD_tx, neD_xt, neD_tx, eqD_tt, neD_tt, isTupD, Bool.not_false]
    exact h
end K83
/-! K83u: the program's judge. -/
namespace K83
open PySem DL
variable {K : D → Prop} {E : Value → D → Prop}
section
variable {S : Sp} {p q o b t i : Int} {s1 s2 s3 s4 s5 s6 s7 s8 : Sv} {paper : D}
abbrev EK (K : D → Prop) : DEnds := { nx := fun _ => K .none, rt := K }
theorem is0_ok (O : Ok S) (b1 : 1 ≤ b) (i0 : 0 ≤ i) (det : t * b - o * i = 1) (so : Sz 60 o) (sb : Sz 60 b) (st : Sz 60 t) (si : Sz 60 i) (h : K (.bool (!inB S o b && (decide (i = 0) || !inB S t i)))) :
    R_is_simplest_0 E (EK K) [.dat S.D, s1, s2, s3, s4, .dat (.int o), .dat (.int b), .dat (.int t), .dat (.int i)] := by
  unfold R_is_simplest_0
  dsimp only [gSeq, gSet, gVar, gVarB, gC, gBin, gChain, gTB, gIf, gIfS, gRet, gCall, gCallF, gCo, gN, gTup, gLst, gL, gNotT, gNotV, gAndT, gOrT, gAndV, gOrV, gIsi, gSl, gPart, gNo, gM0, gM1, gFn, gAn, gAd, gAp, gAs, gAsg, gTo, gToT, gToC, gTo0, gNext, gNeg, gPs0, gTick, gPix, gLenS, gIxS, gSumS, gLRg, gPar, gDic0, gDic1, gYes, gSeqI, gRg1, gRg2, gRetN, gSetF, gApp, gExt, gDrop, gFrz, gLcC_x, gForC_x, gRev, revD, gPar3F, gOff, gOffS, gBreak, gCont, clr, startD, nth, List.set, addD_ii, addD_ss, addD_ll, addD_tt, subD_ii, mulD_ii, mulD_si, mulD_li, fdivD_ii, modD_ii, powD_ii, eqD_ii, eqD_ss, eqD_bb, neD_ii, neD_ss, neD_bb, ltD_ii, ltD_ss, leD_ii, gtD_ii, geD_ii, isD_bb, isnotD_bb, inD_ss, notinD_ss, ixD_l, ixD_t, ixD_s, slD_t, slD_s, slD_l, lenD_s, lenD_l, lenD_t, tupD_l, tupD_t, listD_l, listD_t, allD_l, anyD_l, sumD_l, maxD_ii, minD_ii, maxD_l, minD_l, absD_i, gcdD_ii, intD_i, intD_b, intD_s, strD_i, strD_s, reprD_1, joinD_l, splitD_s, eqD_tt, neD_tt]
  refine ⟨sl (n := 2) (by decide), isInside_ok O b1 (gcd_det det) (so.le (by decide)) (sb.le (by decide)) ?_⟩
  show gIte (!inB S o b) _ _
  cases e : inB S o b with
  | true =>
    rw [e] at h
    exact ⟨fun z => (nomatch z), fun _ => h⟩
  | false =>
    rw [e] at h
    refine ⟨fun _ => ?_, fun z => (nomatch z)⟩
    refine ⟨fun z => ?_, fun z => ?_⟩
    · rw [show decide (i = 0) = true from z] at h
      exact h
    · have z : decide (i = 0) = false := z
      have := of_decide_eq_false z
      rw [z] at h
      exact ⟨sl (n := 2) (by decide), isInside_ok O (by omega) (gcd_det2 det) (st.le (by decide)) (si.le (by decide)) h⟩
theorem is1_gen {D' : DEnds} {s0 : Sv} (m1 : DL.MulOk t b) (m2 : DL.MulOk o i) (h0 : o + t = p ∧ b + i = q → t * b - o * i = 1 → R_is_simplest_0 E D' [s0, s1, .dat (.int p), .dat (.int q), s4, .dat (.int o), .dat (.int b), .dat (.int t), .dat (.int i)])
    (hf : ¬ ((o + t = p ∧ b + i = q) ∧ t * b - o * i = 1) → D'.rt (.bool false)) :
    R_is_simplest_1 E D' [s0, s1, .dat (.int p), .dat (.int q), s4, .dat (.int o), .dat (.int b), .dat (.int t), .dat (.int i)] := by
  unfold R_is_simplest_1
  dsimp only [gSeq, gSet, gVar, gVarB, gC, gBin, gChain, gTB, gIf, gIfS, gRet, gCall, gCallF, gCo, gN, gTup, gLst, gL, gNotT, gNotV, gAndT, gOrT, gAndV, gOrV, gIsi, gSl, gPart, gNo, gM0, gM1, gFn, gAn, gAd, gAp, gAs, gAsg, gTo, gToT, gToC, gTo0, gNext, gNeg, gPs0, gTick, gPix, gLenS, gIxS, gSumS, gLRg, gPar, gDic0, gDic1, gYes, gSeqI, gRg1, gRg2, gRetN, gSetF, gApp, gExt, gDrop, gFrz, gLcC_x, gForC_x, gRev, revD, gPar3F, gOff, gOffS, gBreak, gCont, clr, startD, nth, List.set, addD_ii, addD_ss, addD_ll, addD_tt, subD_ii, mulD_ii, mulD_si, mulD_li, fdivD_ii, modD_ii, powD_ii, eqD_ii, eqD_ss, eqD_bb, neD_ii, neD_ss, neD_bb, ltD_ii, ltD_ss, leD_ii, gtD_ii, geD_ii, isD_bb, isnotD_bb, inD_ss, notinD_ss, ixD_l, ixD_t, ixD_s, slD_t, slD_s, slD_l, lenD_s, lenD_l, lenD_t, tupD_l, tupD_t, listD_l, listD_t, allD_l, anyD_l, sumD_l, maxD_ii, minD_ii, maxD_l, minD_l, absD_i, gcdD_ii, intD_i, intD_b, intD_s, strD_i, strD_s, reprD_1, joinD_l, splitD_s, eqD_tt, neD_tt]
  refine ⟨sl (n := 2) (by decide), sl (n := 2) (by decide), shaped_pair, shaped_pair, ?_⟩
  rw [eqv_pair]
  by_cases z1 : o + t = p ∧ b + i = q
  · rw [decide_eq_true z1.1, decide_eq_true z1.2]
    refine ⟨fun z => (nomatch z), fun _ => ⟨m1, m2, ?_⟩⟩
    by_cases z2 : t * b - o * i = 1
    · rw [decide_eq_true z2]
      exact ⟨fun z => (nomatch z), fun _ => h0 z1 z2⟩
    · rw [decide_eq_false z2]
      exact ⟨fun _ => hf fun y => z2 y.2, fun z => (nomatch z)⟩
  · have : (decide (o + t = p) && decide (b + i = q)) = false := by
      rw [← Bool.not_eq_true, Bool.and_eq_true, decide_eq_true_eq, decide_eq_true_eq]
      exact z1
    rw [this]
    exact ⟨fun _ => ⟨fun _ => hf fun y => z1 y.1, fun z => (nomatch z)⟩, fun z => (nomatch z)⟩
theorem is1_ok (O : Ok S) (b1 : 1 ≤ b) (i0 : 0 ≤ i) (so : Sz 60 o) (sb : Sz 60 b) (st : Sz 60 t) (si : Sz 60 i) (h : K (.bool (decide (o + t = p) && decide (b + i = q) && (decide (t * b - o * i = 1) && (!inB S o b && (decide (i = 0) || !inB S t i)))))) :
    R_is_simplest_1 E (EK K) [.dat S.D, s1, .dat (.int p), .dat (.int q), s4, .dat (.int o), .dat (.int b), .dat (.int t), .dat (.int i)] := by
  refine is1_gen (Sz.mulOk st sb) (Sz.mulOk so si) (fun z1 z2 => ?_) fun z => ?_
  · rw [decide_eq_true z1.1, decide_eq_true z1.2, decide_eq_true z2] at h
    exact is0_ok O b1 i0 z2 so sb st si h
  · show K (.bool false)
    have : (decide (o + t = p) && decide (b + i = q) && (decide (t * b - o * i = 1) && (!inB S o b && (decide (i = 0) || !inB S t i)))) = false := by
      rw [← Bool.not_eq_true]
      intro y
      rw [Bool.and_eq_true, Bool.and_eq_true, Bool.and_eq_true, decide_eq_true_eq, decide_eq_true_eq, decide_eq_true_eq] at y
      exact z ⟨y.1, y.2.1⟩
    rwa [this] at h
theorem is3_ok (O : Ok S) (hf : ∀ o b t i, paper = .tuple [frD o b, frD t i] → Sz 60 o ∧ Sz 60 b ∧ Sz 60 t ∧ Sz 60 i)
    (h : K (.bool (pairB S p q paper))) :
    R_is_simplest_3 E (EK K) [.dat S.D, s1, .dat (.int p), .dat (.int q), .dat paper, s5, s6, s7, s8] := by
  unfold R_is_simplest_3
  dsimp only [gSeq, gSet, gVar, gVarB, gC, gBin, gChain, gTB, gIf, gIfS, gRet, gCall, gCallF, gCo, gN, gTup, gLst, gL, gNotT, gNotV, gAndT, gOrT, gAndV, gOrV, gIsi, gSl, gPart, gNo, gM0, gM1, gFn, gAn, gAd, gAp, gAs, gAsg, gTo, gToT, gToC, gTo0, gNext, gNeg, gPs0, gTick, gPix, gLenS, gIxS, gSumS, gLRg, gPar, gDic0, gDic1, gYes, gSeqI, gRg1, gRg2, gRetN, gSetF, gApp, gExt, gDrop, gFrz, gLcC_x, gForC_x, gRev, revD, gPar3F, gOff, gOffS, gBreak, gCont, clr, startD, nth, List.set, addD_ii, addD_ss, addD_ll, addD_tt, subD_ii, mulD_ii, mulD_si, mulD_li, fdivD_ii, modD_ii, powD_ii, eqD_ii, eqD_ss, eqD_bb, neD_ii, neD_ss, neD_bb, ltD_ii, ltD_ss, leD_ii, gtD_ii, geD_ii, isD_bb, isnotD_bb, inD_ss, notinD_ss, ixD_l, ixD_t, ixD_s, slD_t, slD_s, slD_l, lenD_s, lenD_l, lenD_t, tupD_l, tupD_t, listD_l, listD_t, allD_l, anyD_l, sumD_l, maxD_ii, minD_ii, maxD_l, minD_l, absD_i, gcdD_ii, intD_i, intD_b, intD_s, strD_i, strD_s, reprD_1, joinD_l, splitD_s, eqD_tt, neD_tt]
  refine areParents_ok ?_
  show gIte (!parB paper) _ _
  cases e : parB paper with
  | false =>
    refine ⟨fun _ => ?_, fun z => (nomatch z)⟩
    have : pairB S p q paper = false := by
      unfold pairB
      split
      · rename_i x y
        have e : (elB x && (elB y && lowB x)) = false := e
        cases e1 : elB x with
        | false => rfl
        | true =>
          cases e2 : elB y with
          | false => rfl
          | true =>
            obtain ⟨o, b, rfl, _, _⟩ := el_ints e1
            obtain ⟨t, i, rfl, _, _⟩ := el_ints e2
            rw [e1, e2, Bool.true_and, Bool.true_and] at e
            have e : decide (0 < b) = false := e
            show (decide (0 < b) && _) = false
            rw [e, Bool.false_and]
      · rfl
    rwa [this] at h
  | true =>
    refine ⟨fun z => (nomatch z), fun _ => ?_⟩
    match paper, e, h, hf with
    | .tuple [x, y], e, h, hf =>
      have e : (elB x && (elB y && lowB x)) = true := e
      rw [Bool.and_eq_true, Bool.and_eq_true] at e
      obtain ⟨e1, e2, e3⟩ := e
      have h : K (.bool (elB x && (elB y && fourB S p q x y))) := h
      rw [e1, e2, Bool.true_and, Bool.true_and] at h
      obtain ⟨o, b, rfl, o0, b0⟩ := el_ints e1
      obtain ⟨t, i, rfl, t0, i0⟩ := el_ints e2
      have e3 : decide (0 < b) = true := e3
      have b1 := of_decide_eq_true e3
      obtain ⟨so, sb, st, si⟩ := hf o b t i rfl
      have h : K (.bool (decide (0 < b) && (decide (o + t = p) && decide (b + i = q) && (decide (t * b - o * i = 1) && (!inB S o b && (decide (i = 0) || !inB S t i)))))) := h
      rw [e3, Bool.true_and] at h
      unfold R_is_simplest_2
      dsimp only [gSeq, gSet, gVar, gVarB, gC, gBin, gChain, gTB, gIf, gIfS, gRet, gCall, gCallF, gCo, gN, gTup, gLst, gL, gNotT, gNotV, gAndT, gOrT, gAndV, gOrV, gIsi, gSl, gPart, gNo, gM0, gM1, gFn, gAn, gAd, gAp, gAs, gAsg, gTo, gToT, gToC, gTo0, gNext, gNeg, gPs0, gTick, gPix, gLenS, gIxS, gSumS, gLRg, gPar, gDic0, gDic1, gYes, gSeqI, gRg1, gRg2, gRetN, gSetF, gApp, gExt, gDrop, gFrz, gLcC_x, gForC_x, gRev, revD, gPar3F, gOff, gOffS, gBreak, gCont, clr, startD, nth, List.set, addD_ii, addD_ss, addD_ll, addD_tt, subD_ii, mulD_ii, mulD_si, mulD_li, fdivD_ii, modD_ii, powD_ii, eqD_ii, eqD_ss, eqD_bb, neD_ii, neD_ss, neD_bb, ltD_ii, ltD_ss, leD_ii, gtD_ii, geD_ii, isD_bb, isnotD_bb, inD_ss, notinD_ss, ixD_l, ixD_t, ixD_s, slD_t, slD_s, slD_l, lenD_s, lenD_l, lenD_t, tupD_l, tupD_t, listD_l, listD_t, allD_l, anyD_l, sumD_l, maxD_ii, minD_ii, maxD_l, minD_l, absD_i, gcdD_ii, intD_i, intD_b, intD_s, strD_i, strD_s, reprD_1, joinD_l, splitD_s, eqD_tt, neD_tt]
      exact ⟨rfl, rfl, rfl, is1_ok O (by omega) i0 so sb st si h⟩
theorem is4_ok (O : Ok S) (F : Fit (frD p q) paper) (h : K (.bool (restB S p q paper))) : R_is_simplest_4 E (EK K) [.dat S.D, s1, .dat (.int p), .dat (.int q), .dat paper, s5, s6, s7, s8] := by
  obtain ⟨sp, sq⟩ := F.f p q rfl
  unfold R_is_simplest_4
  dsimp only [gSeq, gSet, gVar, gVarB, gC, gBin, gChain, gTB, gIf, gIfS, gRet, gCall, gCallF, gCo, gN, gTup, gLst, gL, gNotT, gNotV, gAndT, gOrT, gAndV, gOrV, gIsi, gSl, gPart, gNo, gM0, gM1, gFn, gAn, gAd, gAp, gAs, gAsg, gTo, gToT, gToC, gTo0, gNext, gNeg, gPs0, gTick, gPix, gLenS, gIxS, gSumS, gLRg, gPar, gDic0, gDic1, gYes, gSeqI, gRg1, gRg2, gRetN, gSetF, gApp, gExt, gDrop, gFrz, gLcC_x, gForC_x, gRev, revD, gPar3F, gOff, gOffS, gBreak, gCont, clr, startD, nth, List.set, addD_ii, addD_ss, addD_ll, addD_tt, subD_ii, mulD_ii, mulD_si, mulD_li, fdivD_ii, modD_ii, powD_ii, eqD_ii, eqD_ss, eqD_bb, neD_ii, neD_ss, neD_bb, ltD_ii, ltD_ss, leD_ii, gtD_ii, geD_ii, isD_bb, isnotD_bb, inD_ss, notinD_ss, ixD_l, ixD_t, ixD_s, slD_t, slD_s, slD_l, lenD_s, lenD_l, lenD_t, tupD_l, tupD_t, listD_l, listD_t, allD_l, anyD_l, sumD_l, maxD_ii, minD_ii, maxD_l, minD_l, absD_i, gcdD_ii, intD_i, intD_b, intD_s, strD_i, strD_s, reprD_1, joinD_l, splitD_s, eqD_tt, neD_tt]
  refine ⟨fun z => ?_, fun z => ?_⟩
  · have z := of_decide_eq_true z
    unfold restB at h
    rw [if_pos z] at h
    rw [eqD_xt, eqv_unit]
    refine ⟨sl (n := 0) (by decide), F.sh, rfl, ?_⟩
    cases hu : isUnit paper with
    | true =>
      rw [hu, Bool.true_and] at h
      have sp1 : Sz 100 (p - 1) := by
        have := (sp.add (lit (b := 60) (i := -1))).le (show _ ≤ 100 by decide)
        rwa [← Int.sub_eq_add_neg] at this
      have ht : isTupD paper = true := by
        unfold isUnit at hu
        split at hu
        · rfl
        · cases hu
      rw [ht]
      exact ⟨fun _ => ⟨fun _ => ⟨sl (n := 2) (by decide), isInside_ok O (Int.le_refl 1) (Nat.gcd_one_right _) sp1 (lit (b := 100)) h⟩, fun z => (nomatch z)⟩, fun z => (nomatch z)⟩
    | false =>
      rw [hu, Bool.false_and] at h
      exact ⟨fun z => (nomatch z), fun _ => h⟩
  · have z := of_decide_eq_false z
    unfold restB at h
    rw [if_neg z] at h
    exact is3_ok O F.pap h
end
theorem shown_len {S : Sp} : ∀ {xs : List D}, ¬ (xs.length : Int) = 2 → shownB S (.tuple xs) = false
  | [], _ => rfl
  | [_], _ => rfl
  | [_, _], h => absurd rfl h
  | _ :: _ :: _ :: _, _ => rfl
theorem isSimplest_ok {S : Sp} {d : D} (O : Ok S) (F : ∀ f paper, d = .tuple [f, paper] → Fit f paper) (h : K (.bool (shownB S d))) : F_is_simplest [.dat S.D, .dat d] K E := by
  unfold F_is_simplest specOf G_is_simplest N_is_simplest
  refine ⟨rfl, ?_⟩
  cases d with
  | tuple xs =>
    simp only [gSeq, gSet, gVar, gVarB, gC, gBin, gChain, gTB, gIf, gIfS, gRet, gCall, gCallF, gCo, gN, gTup, gLst, gL, gNotT, gNotV, gAndT, gOrT, gAndV, gOrV, gIsi, gSl, gPart, gNo, gM0, gM1, gFn, gAn, gAd, gAp, gAs, gAsg, gTo, gToT, gToC, gTo0, gNext, gNeg, gPs0, gTick, gPix, gLenS, gIxS, gSumS, gLRg, gPar, gDic0, gDic1, gYes, gSeqI, gRg1, gRg2, gRetN, gSetF, gApp, gExt, gDrop, gFrz, gLcC_x, gForC_x, gRev, revD, gPar3F, gOff, gOffS, gBreak, gCont, clr, startD, nth, List.set, true_or, or_true, true_and, and_true, addD_ii, addD_ss, addD_ll, addD_tt, subD_ii, mulD_ii, mulD_si, mulD_li, fdivD_ii, modD_ii, powD_ii, eqD_ii, eqD_ss, eqD_bb, neD_ii, neD_ss, neD_bb, ltD_ii, ltD_ss, leD_ii, gtD_ii, geD_ii, isD_n, isD_bb, isnotD_n, isnotD_bb, inD_ss, inD_l, inD_t, notinD_ss, notinD_l, notinD_t, ixD_l, ixD_t, ixD_s, slD_t, slD_s, slD_l, lenD_s, lenD_l, lenD_t, tupD_l, tupD_t, listD_l, listD_t, allD_l, anyD_l, sumD_l, maxD_ii, minD_ii, maxD_l, minD_l, absD_i, gcdD_ii, intD_i, intD_b, intD_s, strD_i, strD_s, reprD_1, joinD_l, splitD_s, PB_0, PB_1, PB_2, gIte_t, gIte_f, gIte_d, gIte_n, eqD_xt, eqD_tx, neD_xt, neD_tx, eqD_tt, neD_tt, isTupD, Bool.not_true, List.append_nil]
    refine ⟨fun hl => ?_, fun hl => by rwa [shown_len hl] at h⟩
    match xs, hl, h, F with
    | [f, paper], _, h, F =>
      have F := F f paper rfl
      have h : K (.bool (paperB S f paper)) := h
      refine ⟨_, rfl, isFraction_ok ?_⟩
      show gIte (fracB f) _ _
      cases e : fracB f with
      | false =>
        rw [paperB_no e] at h
        exact ⟨fun z => (nomatch z), fun _ => h⟩
      | true =>
        refine ⟨fun _ => ⟨_, rfl, ?_⟩, fun z => (nomatch z)⟩
        obtain ⟨p, q, rfl, q1, g⟩ := frac_of e
        obtain ⟨sp, sq⟩ := F.f p q rfl
        have h : K (.bool (decide (1 ≤ q) && decide (Nat.gcd p.natAbs q.natAbs = 1) && (inB S p q && restB S p q paper))) := h
        rw [decide_eq_true q1, decide_eq_true g, Bool.true_and, Bool.true_and] at h
        refine isInside_ok O q1 g (sp.le (by decide)) (sq.le (by decide)) ?_
        show gIte (inB S p q) _ _
        cases e2 : inB S p q with
        | false =>
          rw [e2] at h
          exact ⟨fun z => (nomatch z), fun _ => h⟩
        | true =>
          rw [e2, Bool.true_and] at h
          refine ⟨fun _ => ?_, fun z => (nomatch z)⟩
          unfold R_is_simplest_5
          dsimp only [gSeq, gSet, gVar, gVarB, gC, gBin, gChain, gTB, gIf, gIfS, gRet, gCall, gCallF, gCo, gN, gTup, gLst, gL, gNotT, gNotV, gAndT, gOrT, gAndV, gOrV, gIsi, gSl, gPart, gNo, gM0, gM1, gFn, gAn, gAd, gAp, gAs, gAsg, gTo, gToT, gToC, gTo0, gNext, gNeg, gPs0, gTick, gPix, gLenS, gIxS, gSumS, gLRg, gPar, gDic0, gDic1, gYes, gSeqI, gRg1, gRg2, gRetN, gSetF, gApp, gExt, gDrop, gFrz, gLcC_x, gForC_x, gRev, revD, gPar3F, gOff, gOffS, gBreak, gCont, clr, startD, nth, List.set, addD_ii, addD_ss, addD_ll, addD_tt, subD_ii, mulD_ii, mulD_si, mulD_li, fdivD_ii, modD_ii, powD_ii, eqD_ii, eqD_ss, eqD_bb, neD_ii, neD_ss, neD_bb, ltD_ii, ltD_ss, leD_ii, gtD_ii, geD_ii, isD_bb, isnotD_bb, inD_ss, notinD_ss, ixD_l, ixD_t, ixD_s, slD_t, slD_s, slD_l, lenD_s, lenD_l, lenD_t, tupD_l, tupD_t, listD_l, listD_t, allD_l, anyD_l, sumD_l, maxD_ii, minD_ii, maxD_l, minD_l, absD_i, gcdD_ii, intD_i, intD_b, intD_s, strD_i, strD_s, reprD_1, joinD_l, splitD_s, eqD_tt, neD_tt]
          exact ⟨rfl, rfl, is4_ok O F h⟩
  | _ =>
    simp only [gSeq, gSet, gVar, gVarB, gC, gBin, gChain, gTB, gIf, gIfS, gRet, gCall, gCallF, gCo, gN, gTup, gLst, gL, gNotT, gNotV, gAndT, gOrT, gAndV, gOrV, gIsi, gSl, gPart, gNo, gM0, gM1, gFn, gAn, gAd, gAp, gAs, gAsg, gTo, gToT, gToC, gTo0, gNext, gNeg, gPs0, gTick, gPix, gLenS, gIxS, gSumS, gLRg, gPar, gDic0, gDic1, gYes, gSeqI, gRg1, gRg2, gRetN, gSetF, gApp, gExt, gDrop, gFrz, gLcC_x, gForC_x, gRev, revD, gPar3F, gOff, gOffS, gBreak, gCont, clr, startD, nth, List.set, true_or, or_true, true_and, and_true, addD_ii, addD_ss, addD_ll, addD_tt, subD_ii, mulD_ii, mulD_si, mulD_li, fdivD_ii, modD_ii, powD_ii, eqD_ii, eqD_ss, eqD_bb, neD_ii, neD_ss, neD_bb, ltD_ii, ltD_ss, leD_ii, gtD_ii, geD_ii, isD_n, isD_bb, isnotD_n, isnotD_bb, inD_ss, inD_l, inD_t, notinD_ss, notinD_l, notinD_t, ixD_l, ixD_t, ixD_s, slD_t, slD_s, slD_l, lenD_s, lenD_l, lenD_t, tupD_l, tupD_t, listD_l, listD_t, allD_l, anyD_l, sumD_l, maxD_ii, minD_ii, maxD_l, minD_l, absD_i, gcdD_ii, intD_i, intD_b, intD_s, strD_i, strD_s, reprD_1, joinD_l, splitD_s, PB_0, PB_1, PB_2, gIte_t, gIte_f, gIte_d, gIte_n, eqD_xt, eqD_tx, neD_xt, neD_tx, eqD_tt, neD_tt, isTupD, Bool.not_false]
    exact h
end K83
/-! K83v: the law's judge. -/
namespace K83
open PySem DL
variable {K : D → Prop} {E : Value → D → Prop}
theorem isWhole_ok {d : D} (h : K (.bool (intB d))) : F__law_is_whole [.dat d] K E := by
  unfold F__law_is_whole specOf G__law_is_whole N__law_is_whole
  refine ⟨rfl, ?_⟩
  simp only [gSeq, gSet, gVar, gVarB, gC, gBin, gChain, gTB, gIf, gIfS, gRet, gCall, gCallF, gCo, gN, gTup, gLst, gL, gNotT, gNotV, gAndT, gOrT, gAndV, gOrV, gIsi, gSl, gPart, gNo, gM0, gM1, gFn, gAn, gAd, gAp, gAs, gAsg, gTo, gToT, gToC, gTo0, gNext, gNeg, gPs0, gTick, gPix, gLenS, gIxS, gSumS, gLRg, gPar, gDic0, gDic1, gYes, gSeqI, gRg1, gRg2, gRetN, gSetF, gApp, gExt, gDrop, gFrz, gLcC_x, gForC_x, gRev, revD, gPar3F, gOff, gOffS, gBreak, gCont, clr, startD, nth, List.set, true_or, or_true, true_and, and_true, addD_ii, addD_ss, addD_ll, addD_tt, subD_ii, mulD_ii, mulD_si, mulD_li, fdivD_ii, modD_ii, powD_ii, eqD_ii, eqD_ss, eqD_bb, neD_ii, neD_ss, neD_bb, ltD_ii, ltD_ss, leD_ii, gtD_ii, geD_ii, isD_n, isD_bb, isnotD_n, isnotD_bb, inD_ss, inD_l, inD_t, notinD_ss, notinD_l, notinD_t, ixD_l, ixD_t, ixD_s, slD_t, slD_s, slD_l, lenD_s, lenD_l, lenD_t, tupD_l, tupD_t, listD_l, listD_t, allD_l, anyD_l, sumD_l, maxD_ii, minD_ii, maxD_l, minD_l, absD_i, gcdD_ii, intD_i, intD_b, intD_s, strD_i, strD_s, reprD_1, joinD_l, splitD_s, PB_0, PB_1, PB_2, gIte_t, gIte_f, gIte_d, gIte_n, eqD_xt, eqD_tx, neD_xt, neD_tx, eqD_tt, neD_tt]
  cases d <;> simp only [gIte, isIntD, isBoolD, intB] at h ⊢ <;> simp <;> exact h
section
variable {S : Sp} {D' : DEnds} {p q o b t i c d : Int} {s0 s1 s2 s3 s4 s5 s6 s7 s8 : Sv} {paper f x y : D}
theorem lp0_ok (O : Ok S) (e : S.hi = some (c, d)) (so : Sz 60 o) (sb : Sz 60 b) (st : Sz 60 t) (si : Sz 60 i) (h : K (.bool (!inB S o b && (decide (i = 0) || !inB S t i)))) :
    R__law_is_paper_0 E (EK K) [.dat S.D, s1, s2, s3, s4, .dat (.int o), .dat (.int b), .dat (.int t), .dat (.int i), .un] := by
  unfold R__law_is_paper_0
  dsimp only [gSeq, gSet, gVar, gVarB, gC, gBin, gChain, gTB, gIf, gIfS, gRet, gCall, gCallF, gCo, gN, gTup, gLst, gL, gNotT, gNotV, gAndT, gOrT, gAndV, gOrV, gIsi, gSl, gPart, gNo, gM0, gM1, gFn, gAn, gAd, gAp, gAs, gAsg, gTo, gToT, gToC, gTo0, gNext, gNeg, gPs0, gTick, gPix, gLenS, gIxS, gSumS, gLRg, gPar, gDic0, gDic1, gYes, gSeqI, gRg1, gRg2, gRetN, gSetF, gApp, gExt, gDrop, gFrz, gLcC_x, gForC_x, gRev, revD, gPar3F, gOff, gOffS, gBreak, gCont, clr, startD, nth, List.set, addD_ii, addD_ss, addD_ll, addD_tt, subD_ii, mulD_ii, mulD_si, mulD_li, fdivD_ii, modD_ii, powD_ii, eqD_ii, eqD_ss, eqD_bb, neD_ii, neD_ss, neD_bb, ltD_ii, ltD_ss, leD_ii, gtD_ii, geD_ii, isD_bb, isnotD_bb, inD_ss, notinD_ss, ixD_l, ixD_t, ixD_s, slD_t, slD_s, slD_l, lenD_s, lenD_l, lenD_t, tupD_l, tupD_t, listD_l, listD_t, allD_l, anyD_l, sumD_l, maxD_ii, minD_ii, maxD_l, minD_l, absD_i, gcdD_ii, intD_i, intD_b, intD_s, strD_i, strD_s, reprD_1, joinD_l, splitD_s, eqD_tt, neD_tt]
  refine isIn_ok O e (so.le (by decide)) (sb.le (by decide)) ?_
  show gIte (!inB S o b) _ _
  cases e1 : inB S o b with
  | true =>
    rw [e1] at h
    exact ⟨fun z => (nomatch z), fun _ => h⟩
  | false =>
    rw [e1] at h
    refine ⟨fun _ => ?_, fun z => (nomatch z)⟩
    refine ⟨fun z => ?_, fun z => ?_⟩
    · rw [show decide (i = 0) = true from z] at h
      exact h
    · have z : decide (i = 0) = false := z
      rw [z] at h
      exact isIn_ok O e (st.le (by decide)) (si.le (by decide)) h
theorem lp1_gen (m1 : DL.MulOk t b) (m2 : DL.MulOk o i) (h0 : 1 ≤ b → o + t = p ∧ b + i = q → t * b - o * i = 1 → R__law_is_paper_0 E D' [s0, .dat (frD p q), s2, s3, s4, .dat (.int o), .dat (.int b), .dat (.int t), .dat (.int i), .un])
    (hf : ¬ (1 ≤ b ∧ (o + t = p ∧ b + i = q) ∧ t * b - o * i = 1) → D'.rt (.bool false)) :
    R__law_is_paper_1 E D' [s0, .dat (frD p q), s2, s3, s4, .dat (.int o), .dat (.int b), .dat (.int t), .dat (.int i), .un] := by
  unfold R__law_is_paper_1
  dsimp only [gSeq, gSet, gVar, gVarB, gC, gBin, gChain, gTB, gIf, gIfS, gRet, gCall, gCallF, gCo, gN, gTup, gLst, gL, gNotT, gNotV, gAndT, gOrT, gAndV, gOrV, gIsi, gSl, gPart, gNo, gM0, gM1, gFn, gAn, gAd, gAp, gAs, gAsg, gTo, gToT, gToC, gTo0, gNext, gNeg, gPs0, gTick, gPix, gLenS, gIxS, gSumS, gLRg, gPar, gDic0, gDic1, gYes, gSeqI, gRg1, gRg2, gRetN, gSetF, gApp, gExt, gDrop, gFrz, gLcC_x, gForC_x, gRev, revD, gPar3F, gOff, gOffS, gBreak, gCont, clr, startD, nth, List.set, addD_ii, addD_ss, addD_ll, addD_tt, subD_ii, mulD_ii, mulD_si, mulD_li, fdivD_ii, modD_ii, powD_ii, eqD_ii, eqD_ss, eqD_bb, neD_ii, neD_ss, neD_bb, ltD_ii, ltD_ss, leD_ii, gtD_ii, geD_ii, isD_bb, isnotD_bb, inD_ss, notinD_ss, ixD_l, ixD_t, ixD_s, slD_t, slD_s, slD_l, lenD_s, lenD_l, lenD_t, tupD_l, tupD_t, listD_l, listD_t, allD_l, anyD_l, sumD_l, maxD_ii, minD_ii, maxD_l, minD_l, absD_i, gcdD_ii, intD_i, intD_b, intD_s, strD_i, strD_s, reprD_1, joinD_l, splitD_s, eqD_tt, neD_tt]
  by_cases z0 : b < 1
  · rw [decide_eq_true z0]
    exact ⟨fun _ => ⟨fun _ => hf fun y => by omega, fun z => (nomatch z)⟩, fun z => (nomatch z)⟩
  rw [decide_eq_false z0]
  refine ⟨fun z => (nomatch z), fun _ => ⟨sl (n := 2) (by decide), shaped_pair, shaped_pair, ?_⟩⟩
  rw [eqv_pair]
  by_cases z1 : o + t = p ∧ b + i = q
  · rw [decide_eq_true z1.1, decide_eq_true z1.2]
    refine ⟨fun z => (nomatch z), fun _ => ⟨m1, m2, ?_⟩⟩
    by_cases z2 : t * b - o * i = 1
    · rw [decide_eq_true z2]
      exact ⟨fun z => (nomatch z), fun _ => h0 (by omega) z1 z2⟩
    · rw [decide_eq_false z2]
      exact ⟨fun _ => hf fun y => z2 y.2.2, fun z => (nomatch z)⟩
  · have : (decide (o + t = p) && decide (b + i = q)) = false := by
      rw [← Bool.not_eq_true, Bool.and_eq_true, decide_eq_true_eq, decide_eq_true_eq]
      exact z1
    rw [this]
    exact ⟨fun _ => ⟨fun _ => hf fun y => z1 y.2.1, fun z => (nomatch z)⟩, fun z => (nomatch z)⟩
theorem lpEl_ok {x : D} (h1 : elB x = true → D'.nx [s0, s1, s2, s3, s4, .dat x, s6, s7, s8, .un]) (h2 : elB x = false → D'.rt (.bool false)) :
    (gIfS (gOrT (gNotT (gTB (gIsi isTupD (gVar 5)))) (gOrT (gTB (gBin neD (gCall lenD (gCo (gVar 5) gN)) (gC (.int 2)))) (gNotT (gTB (gCall allD (gCo (gL (gLcC (0 + 0) 0 [9] (gSeqI (gVar 5)) (gTo 9) gYes (gAndV (gFn F__law_is_whole NoE [] (gAd (gVar 9) gAn)) (gBin geD (gVar 9) (gC (.int 0)))))) gN)))))) (gRet (gC (.bool false))) gNext) D' [s0, s1, s2, s3, s4, .dat x, s6, s7, s8, .un] := by
  cases x with
  | tuple xs =>
    simp only [gSeq, gSet, gVar, gVarB, gC, gBin, gChain, gTB, gIf, gIfS, gRet, gCall, gCallF, gCo, gN, gTup, gLst, gL, gNotT, gNotV, gAndT, gOrT, gAndV, gOrV, gIsi, gSl, gPart, gNo, gM0, gM1, gFn, gAn, gAd, gAp, gAs, gAsg, gTo, gToT, gToC, gTo0, gNext, gNeg, gPs0, gTick, gPix, gLenS, gIxS, gSumS, gLRg, gPar, gDic0, gDic1, gYes, gSeqI, gRg1, gRg2, gRetN, gSetF, gApp, gExt, gDrop, gFrz, gLcC_x, gForC_x, gRev, revD, gPar3F, gOff, gOffS, gBreak, gCont, clr, startD, nth, List.set, true_or, or_true, true_and, and_true, addD_ii, addD_ss, addD_ll, addD_tt, subD_ii, mulD_ii, mulD_si, mulD_li, fdivD_ii, modD_ii, powD_ii, eqD_ii, eqD_ss, eqD_bb, neD_ii, neD_ss, neD_bb, ltD_ii, ltD_ss, leD_ii, gtD_ii, geD_ii, isD_n, isD_bb, isnotD_n, isnotD_bb, inD_ss, inD_l, inD_t, notinD_ss, notinD_l, notinD_t, ixD_l, ixD_t, ixD_s, slD_t, slD_s, slD_l, lenD_s, lenD_l, lenD_t, tupD_l, tupD_t, listD_l, listD_t, allD_l, anyD_l, sumD_l, maxD_ii, minD_ii, maxD_l, minD_l, absD_i, gcdD_ii, intD_i, intD_b, intD_s, strD_i, strD_s, reprD_1, joinD_l, splitD_s, PB_0, PB_1, PB_2, gIte_t, gIte_f, gIte_d, gIte_n, eqD_xt, eqD_tx, neD_xt, neD_tx, eqD_tt, neD_tt, isTupD, Bool.not_true]
    refine ⟨fun hl => ?_, fun hl => h2 (el_len hl)⟩
    match xs, hl, h1, h2 with
    | [a, b], _, h1, h2 =>
      refine lc_to elP rfl (Nat.le_refl _) (fun d hd P hP => ?_) ⟨_, el_map _, ?_⟩
      · refine isWhole_ok ?_
        cases d <;> first | exact ⟨fun _ => hP, fun z => (nomatch z)⟩ | exact ⟨fun z => (nomatch z), fun _ => hP⟩
      · have e : ([a, b].map elV).all id = (elV a && elV b) := by simp
        rw [e]
        exact ⟨h1, h2⟩
  | _ =>
    simp only [gSeq, gSet, gVar, gVarB, gC, gBin, gChain, gTB, gIf, gIfS, gRet, gCall, gCallF, gCo, gN, gTup, gLst, gL, gNotT, gNotV, gAndT, gOrT, gAndV, gOrV, gIsi, gSl, gPart, gNo, gM0, gM1, gFn, gAn, gAd, gAp, gAs, gAsg, gTo, gToT, gToC, gTo0, gNext, gNeg, gPs0, gTick, gPix, gLenS, gIxS, gSumS, gLRg, gPar, gDic0, gDic1, gYes, gSeqI, gRg1, gRg2, gRetN, gSetF, gApp, gExt, gDrop, gFrz, gLcC_x, gForC_x, gRev, revD, gPar3F, gOff, gOffS, gBreak, gCont, clr, startD, nth, List.set, true_or, or_true, true_and, and_true, addD_ii, addD_ss, addD_ll, addD_tt, subD_ii, mulD_ii, mulD_si, mulD_li, fdivD_ii, modD_ii, powD_ii, eqD_ii, eqD_ss, eqD_bb, neD_ii, neD_ss, neD_bb, ltD_ii, ltD_ss, leD_ii, gtD_ii, geD_ii, isD_n, isD_bb, isnotD_n, isnotD_bb, inD_ss, inD_l, inD_t, notinD_ss, notinD_l, notinD_t, ixD_l, ixD_t, ixD_s, slD_t, slD_s, slD_l, lenD_s, lenD_l, lenD_t, tupD_l, tupD_t, listD_l, listD_t, allD_l, anyD_l, sumD_l, maxD_ii, minD_ii, maxD_l, minD_l, absD_i, gcdD_ii, intD_i, intD_b, intD_s, strD_i, strD_s, reprD_1, joinD_l, splitD_s, PB_0, PB_1, PB_2, gIte_t, gIte_f, gIte_d, gIte_n, eqD_xt, eqD_tx, neD_xt, neD_tx, eqD_tt, neD_tt, isTupD, Bool.not_false]
    exact h2 rfl
theorem lp3_gen (h0 : elB x = true → elB y = true → ∀ s5 : Sv, R__law_is_paper_2 E D' [s0, s1, .dat (.tuple [x, y]), s3, s4, s5, s6, s7, s8, .un]) (hf : ¬ (elB x = true ∧ elB y = true) → D'.rt (.bool false)) :
    R__law_is_paper_3 E D' [s0, s1, .dat (.tuple [x, y]), s3, s4, s5, s6, s7, s8, .un] := by
  unfold R__law_is_paper_3
  dsimp only [gSeq, gSet, gVar, gVarB, gC, gBin, gChain, gTB, gIf, gIfS, gRet, gCall, gCallF, gCo, gN, gTup, gLst, gL, gNotT, gNotV, gAndT, gOrT, gAndV, gOrV, gIsi, gSl, gPart, gNo, gM0, gM1, gFn, gAn, gAd, gAp, gAs, gAsg, gTo, gToT, gToC, gTo0, gNext, gNeg, gPs0, gTick, gPix, gLenS, gIxS, gSumS, gLRg, gPar, gDic0, gDic1, gYes, gSeqI, gRg1, gRg2, gRetN, gSetF, gApp, gExt, gDrop, gFrz, gLcC_x, gForC_x, gRev, revD, gPar3F, gOff, gOffS, gBreak, gCont, clr, startD, nth, List.set, addD_ii, addD_ss, addD_ll, addD_tt, subD_ii, mulD_ii, mulD_si, mulD_li, fdivD_ii, modD_ii, powD_ii, eqD_ii, eqD_ss, eqD_bb, neD_ii, neD_ss, neD_bb, ltD_ii, ltD_ss, leD_ii, gtD_ii, geD_ii, isD_bb, isnotD_bb, inD_ss, notinD_ss, ixD_l, ixD_t, ixD_s, slD_t, slD_s, slD_l, lenD_s, lenD_l, lenD_t, tupD_l, tupD_t, listD_l, listD_t, allD_l, anyD_l, sumD_l, maxD_ii, minD_ii, maxD_l, minD_l, absD_i, gcdD_ii, intD_i, intD_b, intD_s, strD_i, strD_s, reprD_1, joinD_l, splitD_s, eqD_tt, neD_tt]
  refine ⟨Nat.le_of_eq (Nat.mul_zero _), fun i Δ' => ∃ s5 : Sv, Δ' = [s0, s1, .dat (.tuple [x, y]), s3, s4, s5, s6, s7, s8, .un] ∧ (1 ≤ i → elB x = true) ∧ (2 ≤ i → elB y = true), ⟨_, rfl, by omega, by omega⟩, ?_, ?_⟩
  · rintro i z Δ' hx ⟨s1, rfl, i1, i2⟩
    match i, hx with
    | 0, hx =>
      cases hx
      exact lpEl_ok (fun w => ⟨_, rfl, fun _ => w, by omega⟩) fun w => hf fun y => by rw [y.1] at w; cases w
    | 1, hx =>
      cases hx
      have e1 := i1 (by omega)
      exact lpEl_ok (fun w => ⟨_, rfl, fun _ => e1, fun _ => w⟩) fun w => hf fun y => by rw [y.2] at w; cases w
    | n + 2, hx => cases hx
  · rintro Δ' ⟨s5, rfl, i1, i2⟩
    exact h0 (i1 (show 1 ≤ 2 by decide)) (i2 (show 2 ≤ 2 by decide)) _
theorem lp4_ok (O : Ok S) (e : S.hi = some (c, d)) (hf : ∀ o b t i, paper = .tuple [frD o b, frD t i] → Sz 60 o ∧ Sz 60 b ∧ Sz 60 t ∧ Sz 60 i) (h : K (.bool (pairB S p q paper))) :
    R__law_is_paper_4 E (EK K) [.dat S.D, .dat (frD p q), .dat paper, s3, s4, s5, s6, s7, s8, .un] := by
  unfold R__law_is_paper_4
  cases paper with
  | tuple xs =>
    simp only [gSeq, gSet, gVar, gVarB, gC, gBin, gChain, gTB, gIf, gIfS, gRet, gCall, gCallF, gCo, gN, gTup, gLst, gL, gNotT, gNotV, gAndT, gOrT, gAndV, gOrV, gIsi, gSl, gPart, gNo, gM0, gM1, gFn, gAn, gAd, gAp, gAs, gAsg, gTo, gToT, gToC, gTo0, gNext, gNeg, gPs0, gTick, gPix, gLenS, gIxS, gSumS, gLRg, gPar, gDic0, gDic1, gYes, gSeqI, gRg1, gRg2, gRetN, gSetF, gApp, gExt, gDrop, gFrz, gLcC_x, gForC_x, gRev, revD, gPar3F, gOff, gOffS, gBreak, gCont, clr, startD, nth, List.set, true_or, or_true, true_and, and_true, addD_ii, addD_ss, addD_ll, addD_tt, subD_ii, mulD_ii, mulD_si, mulD_li, fdivD_ii, modD_ii, powD_ii, eqD_ii, eqD_ss, eqD_bb, neD_ii, neD_ss, neD_bb, ltD_ii, ltD_ss, leD_ii, gtD_ii, geD_ii, isD_n, isD_bb, isnotD_n, isnotD_bb, inD_ss, inD_l, inD_t, notinD_ss, notinD_l, notinD_t, ixD_l, ixD_t, ixD_s, slD_t, slD_s, slD_l, lenD_s, lenD_l, lenD_t, tupD_l, tupD_t, listD_l, listD_t, allD_l, anyD_l, sumD_l, maxD_ii, minD_ii, maxD_l, minD_l, absD_i, gcdD_ii, intD_i, intD_b, intD_s, strD_i, strD_s, reprD_1, joinD_l, splitD_s, PB_0, PB_1, PB_2, gIte_t, gIte_f, gIte_d, gIte_n, eqD_xt, eqD_tx, neD_xt, neD_tx, eqD_tt, neD_tt, isTupD, Bool.not_true]
    refine ⟨fun hl => ?_, fun hl => ?_⟩
    · match xs, hl, h, hf with
      | [x, y], _, h, hf =>
        have h : K (.bool (elB x && (elB y && fourB S p q x y))) := h
        refine lp3_gen (fun e1 e2 s5 => ?_) fun w => ?_
        · rw [e1, e2, Bool.true_and, Bool.true_and] at h
          obtain ⟨o, b, rfl, o0, b0⟩ := el_ints e1
          obtain ⟨t, i, rfl, t0, i0⟩ := el_ints e2
          obtain ⟨so, sb, st, si⟩ := hf o b t i rfl
          have h : K (.bool (decide (0 < b) && (decide (o + t = p) && decide (b + i = q) && (decide (t * b - o * i = 1) && (!inB S o b && (decide (i = 0) || !inB S t i)))))) := h
          unfold R__law_is_paper_2
          dsimp only [gSeq, gSet, gVar, gVarB, gC, gBin, gChain, gTB, gIf, gIfS, gRet, gCall, gCallF, gCo, gN, gTup, gLst, gL, gNotT, gNotV, gAndT, gOrT, gAndV, gOrV, gIsi, gSl, gPart, gNo, gM0, gM1, gFn, gAn, gAd, gAp, gAs, gAsg, gTo, gToT, gToC, gTo0, gNext, gNeg, gPs0, gTick, gPix, gLenS, gIxS, gSumS, gLRg, gPar, gDic0, gDic1, gYes, gSeqI, gRg1, gRg2, gRetN, gSetF, gApp, gExt, gDrop, gFrz, gLcC_x, gForC_x, gRev, revD, gPar3F, gOff, gOffS, gBreak, gCont, clr, startD, nth, List.set, addD_ii, addD_ss, addD_ll, addD_tt, subD_ii, mulD_ii, mulD_si, mulD_li, fdivD_ii, modD_ii, powD_ii, eqD_ii, eqD_ss, eqD_bb, neD_ii, neD_ss, neD_bb, ltD_ii, ltD_ss, leD_ii, gtD_ii, geD_ii, isD_bb, isnotD_bb, inD_ss, notinD_ss, ixD_l, ixD_t, ixD_s, slD_t, slD_s, slD_l, lenD_s, lenD_l, lenD_t, tupD_l, tupD_t, listD_l, listD_t, allD_l, anyD_l, sumD_l, maxD_ii, minD_ii, maxD_l, minD_l, absD_i, gcdD_ii, intD_i, intD_b, intD_s, strD_i, strD_s, reprD_1, joinD_l, splitD_s, eqD_tt, neD_tt]
          refine ⟨rfl, rfl, rfl, lp1_gen (Sz.mulOk st sb) (Sz.mulOk so si) (fun z0 z1 z2 => ?_) fun z => ?_⟩
          · rw [decide_eq_true (show 0 < b by omega), decide_eq_true z1.1, decide_eq_true z1.2, decide_eq_true z2] at h
            exact lp0_ok O e so sb st si h
          · show K (.bool false)
            have : (decide (0 < b) && (decide (o + t = p) && decide (b + i = q) && (decide (t * b - o * i = 1) && (!inB S o b && (decide (i = 0) || !inB S t i))))) = false := by
              rw [← Bool.not_eq_true]
              intro y
              rw [Bool.and_eq_true, Bool.and_eq_true, Bool.and_eq_true, Bool.and_eq_true, decide_eq_true_eq, decide_eq_true_eq, decide_eq_true_eq, decide_eq_true_eq] at y
              exact z ⟨by omega, y.2.1, y.2.2.1⟩
            rwa [this] at h
        · show K (.bool false)
          have : (elB x && (elB y && fourB S p q x y)) = false := by
            rw [← Bool.not_eq_true]
            intro y
            rw [Bool.and_eq_true, Bool.and_eq_true] at y
            exact w ⟨y.1, y.2.1⟩
          rwa [this] at h
    · have : pairB S p q (.tuple xs) = false := by
        match xs, hl with
        | [], _ => rfl
        | [_], _ => rfl
        | [_, _], hl => exact absurd rfl hl
        | _ :: _ :: _ :: _, _ => rfl
      rwa [this] at h
  | _ =>
    simp only [gSeq, gSet, gVar, gVarB, gC, gBin, gChain, gTB, gIf, gIfS, gRet, gCall, gCallF, gCo, gN, gTup, gLst, gL, gNotT, gNotV, gAndT, gOrT, gAndV, gOrV, gIsi, gSl, gPart, gNo, gM0, gM1, gFn, gAn, gAd, gAp, gAs, gAsg, gTo, gToT, gToC, gTo0, gNext, gNeg, gPs0, gTick, gPix, gLenS, gIxS, gSumS, gLRg, gPar, gDic0, gDic1, gYes, gSeqI, gRg1, gRg2, gRetN, gSetF, gApp, gExt, gDrop, gFrz, gLcC_x, gForC_x, gRev, revD, gPar3F, gOff, gOffS, gBreak, gCont, clr, startD, nth, List.set, true_or, or_true, true_and, and_true, addD_ii, addD_ss, addD_ll, addD_tt, subD_ii, mulD_ii, mulD_si, mulD_li, fdivD_ii, modD_ii, powD_ii, eqD_ii, eqD_ss, eqD_bb, neD_ii, neD_ss, neD_bb, ltD_ii, ltD_ss, leD_ii, gtD_ii, geD_ii, isD_n, isD_bb, isnotD_n, isnotD_bb, inD_ss, inD_l, inD_t, notinD_ss, notinD_l, notinD_t, ixD_l, ixD_t, ixD_s, slD_t, slD_s, slD_l, lenD_s, lenD_l, lenD_t, tupD_l, tupD_t, listD_l, listD_t, allD_l, anyD_l, sumD_l, maxD_ii, minD_ii, maxD_l, minD_l, absD_i, gcdD_ii, intD_i, intD_b, intD_s, strD_i, strD_s, reprD_1, joinD_l, splitD_s, PB_0, PB_1, PB_2, gIte_t, gIte_f, gIte_d, gIte_n, eqD_xt, eqD_tx, neD_xt, neD_tx, eqD_tt, neD_tt, isTupD, Bool.not_false]
    exact h
theorem lp5_ok (O : Ok S) (e : S.hi = some (c, d)) (F : Fit (frD p q) paper) (h : K (.bool (restB S p q paper))) : R__law_is_paper_5 E (EK K) [.dat S.D, .dat (frD p q), .dat paper, .dat (.int p), .dat (.int q), s5, s6, s7, s8, .un] := by
  obtain ⟨sp, sq⟩ := F.f p q rfl
  unfold R__law_is_paper_5
  dsimp only [gSeq, gSet, gVar, gVarB, gC, gBin, gChain, gTB, gIf, gIfS, gRet, gCall, gCallF, gCo, gN, gTup, gLst, gL, gNotT, gNotV, gAndT, gOrT, gAndV, gOrV, gIsi, gSl, gPart, gNo, gM0, gM1, gFn, gAn, gAd, gAp, gAs, gAsg, gTo, gToT, gToC, gTo0, gNext, gNeg, gPs0, gTick, gPix, gLenS, gIxS, gSumS, gLRg, gPar, gDic0, gDic1, gYes, gSeqI, gRg1, gRg2, gRetN, gSetF, gApp, gExt, gDrop, gFrz, gLcC_x, gForC_x, gRev, revD, gPar3F, gOff, gOffS, gBreak, gCont, clr, startD, nth, List.set, addD_ii, addD_ss, addD_ll, addD_tt, subD_ii, mulD_ii, mulD_si, mulD_li, fdivD_ii, modD_ii, powD_ii, eqD_ii, eqD_ss, eqD_bb, neD_ii, neD_ss, neD_bb, ltD_ii, ltD_ss, leD_ii, gtD_ii, geD_ii, isD_bb, isnotD_bb, inD_ss, notinD_ss, ixD_l, ixD_t, ixD_s, slD_t, slD_s, slD_l, lenD_s, lenD_l, lenD_t, tupD_l, tupD_t, listD_l, listD_t, allD_l, anyD_l, sumD_l, maxD_ii, minD_ii, maxD_l, minD_l, absD_i, gcdD_ii, intD_i, intD_b, intD_s, strD_i, strD_s, reprD_1, joinD_l, splitD_s, eqD_tt, neD_tt]
  refine ⟨fun z => ?_, fun z => ?_⟩
  · have z := of_decide_eq_true z
    unfold restB at h
    rw [if_pos z] at h
    rw [eqD_xt, eqv_unit]
    refine ⟨sl (n := 0) (by decide), F.sh, rfl, ?_⟩
    cases hu : isUnit paper with
    | true =>
      rw [hu, Bool.true_and] at h
      have sp1 : Sz 100 (p - 1) := by
        have := (sp.add (lit (b := 60) (i := -1))).le (show _ ≤ 100 by decide)
        rwa [← Int.sub_eq_add_neg] at this
      have ht : isTupD paper = true := by
        unfold isUnit at hu
        split at hu
        · rfl
        · cases hu
      rw [ht]
      exact ⟨fun _ => ⟨fun _ => isIn_ok O e sp1 (lit (b := 100)) h, fun z => (nomatch z)⟩, fun z => (nomatch z)⟩
    | false =>
      rw [hu, Bool.false_and] at h
      exact ⟨fun z => (nomatch z), fun _ => h⟩
  · have z := of_decide_eq_false z
    unfold restB at h
    rw [if_neg z] at h
    exact lp4_ok O e F.pap h
theorem cut_one {p q : Int} (hq : 1 ≤ q) : (p / ((Nat.gcd p.natAbs q.natAbs : Nat) : Int) = p ∧ q / ((Nat.gcd p.natAbs q.natAbs : Nat) : Int) = q) ↔ Nat.gcd p.natAbs q.natAbs = 1 := by
  have g1 : 0 < Nat.gcd p.natAbs q.natAbs := Nat.gcd_pos_of_pos_right _ (by omega)
  refine ⟨fun h => ?_, fun h => by rw [h]; exact ⟨Int.ediv_one _, Int.ediv_one _⟩⟩
  generalize Nat.gcd p.natAbs q.natAbs = g at *
  by_cases z : g = 1
  · exact z
  · exfalso
    have h2 := h.2
    have h3 := Int.ediv_lt_self_of_pos_of_ne_one (x := q) (y := (g : Int)) (by omega) (by omega)
    omega
theorem lp6_gen (sp : Sz 60 p) (sq : Sz 60 q) (hin : 1 ≤ q → Nat.gcd p.natAbs q.natAbs = 1 → F__law_is_in [.dat S.D, .dat (.int p), .dat (.int q)] (fun d => match d with | .bool z => gIte (!z) (D'.rt (.bool false)) (R__law_is_paper_5 E D' [.dat S.D, .dat (frD p q), s2, .dat (.int p), .dat (.int q), s5, s6, s7, s8, .un]) | _ => False) E)
    (hf : ¬ (1 ≤ q ∧ Nat.gcd p.natAbs q.natAbs = 1) → D'.rt (.bool false)) :
    R__law_is_paper_6 E D' [.dat S.D, .dat (frD p q), s2, .dat (.int p), .dat (.int q), s5, s6, s7, s8, .un] := by
  unfold R__law_is_paper_6
  dsimp only [gSeq, gSet, gVar, gVarB, gC, gBin, gChain, gTB, gIf, gIfS, gRet, gCall, gCallF, gCo, gN, gTup, gLst, gL, gNotT, gNotV, gAndT, gOrT, gAndV, gOrV, gIsi, gSl, gPart, gNo, gM0, gM1, gFn, gAn, gAd, gAp, gAs, gAsg, gTo, gToT, gToC, gTo0, gNext, gNeg, gPs0, gTick, gPix, gLenS, gIxS, gSumS, gLRg, gPar, gDic0, gDic1, gYes, gSeqI, gRg1, gRg2, gRetN, gSetF, gApp, gExt, gDrop, gFrz, gLcC_x, gForC_x, gRev, revD, gPar3F, gOff, gOffS, gBreak, gCont, clr, startD, nth, List.set, addD_ii, addD_ss, addD_ll, addD_tt, subD_ii, mulD_ii, mulD_si, mulD_li, fdivD_ii, modD_ii, powD_ii, eqD_ii, eqD_ss, eqD_bb, neD_ii, neD_ss, neD_bb, ltD_ii, ltD_ss, leD_ii, gtD_ii, geD_ii, isD_bb, isnotD_bb, inD_ss, notinD_ss, ixD_l, ixD_t, ixD_s, slD_t, slD_s, slD_l, lenD_s, lenD_l, lenD_t, tupD_l, tupD_t, listD_l, listD_t, allD_l, anyD_l, sumD_l, maxD_ii, minD_ii, maxD_l, minD_l, absD_i, gcdD_ii, intD_i, intD_b, intD_s, strD_i, strD_s, reprD_1, joinD_l, splitD_s, eqD_tt, neD_tt]
  by_cases z0 : q < 1
  · rw [decide_eq_true z0]
    exact ⟨fun _ => ⟨fun _ => hf fun y => by omega, fun z => (nomatch z)⟩, fun z => (nomatch z)⟩
  rw [decide_eq_false z0]
  refine ⟨fun z => (nomatch z), fun _ => cut_ok (by omega) (sp.le (by decide)) (sq.le (by decide)) ⟨shaped_pair, shaped_pair, ?_⟩⟩
  rw [eqv_pair]
  have co := cut_one (p := p) (q := q) (by omega)
  by_cases z1 : Nat.gcd p.natAbs q.natAbs = 1
  · rw [decide_eq_true (co.mpr z1).1, decide_eq_true (co.mpr z1).2]
    exact ⟨fun z => (nomatch z), fun _ => hin (by omega) z1⟩
  · have : (decide (p / ((Nat.gcd p.natAbs q.natAbs : Nat) : Int) = p) && decide (q / ((Nat.gcd p.natAbs q.natAbs : Nat) : Int) = q)) = false := by
      rw [← Bool.not_eq_true, Bool.and_eq_true, decide_eq_true_eq, decide_eq_true_eq]
      exact fun y => z1 (co.mp y)
    rw [this]
    exact ⟨fun _ => ⟨fun _ => hf fun y => z1 y.2, fun z => (nomatch z)⟩, fun z => (nomatch z)⟩
end
end K83
/-! K83r: papers, edges; what is told is shown. -/
namespace K83
open PySem DL
variable {K : D → Prop} {E : Value → D → Prop} {S : Sp} {c d : Int}
theorem isPaper_ok {f paper : D} (O : Ok S) (e : S.hi = some (c, d)) (F : Fit f paper) (h : K (.bool (paperB S f paper))) : F__law_is_paper [.dat S.D, .dat f, .dat paper] K E := by
  have no : fracB f = false → K (.bool false) := fun z => by rwa [paperB_no z] at h
  unfold F__law_is_paper specOf G__law_is_paper N__law_is_paper
  refine ⟨rfl, ?_⟩
  cases f with
  | tuple xs =>
    simp only [gSeq, gSet, gVar, gVarB, gC, gBin, gChain, gTB, gIf, gIfS, gRet, gCall, gCallF, gCo, gN, gTup, gLst, gL, gNotT, gNotV, gAndT, gOrT, gAndV, gOrV, gIsi, gSl, gPart, gNo, gM0, gM1, gFn, gAn, gAd, gAp, gAs, gAsg, gTo, gToT, gToC, gTo0, gNext, gNeg, gPs0, gTick, gPix, gLenS, gIxS, gSumS, gLRg, gPar, gDic0, gDic1, gYes, gSeqI, gRg1, gRg2, gRetN, gSetF, gApp, gExt, gDrop, gFrz, gLcC_x, gForC_x, gRev, revD, gPar3F, gOff, gOffS, gBreak, gCont, clr, startD, nth, List.set, true_or, or_true, true_and, and_true, addD_ii, addD_ss, addD_ll, addD_tt, subD_ii, mulD_ii, mulD_si, mulD_li, fdivD_ii, modD_ii, powD_ii, eqD_ii, eqD_ss, eqD_bb, neD_ii, neD_ss, neD_bb, ltD_ii, ltD_ss, leD_ii, gtD_ii, geD_ii, isD_n, isD_bb, isnotD_n, isnotD_bb, inD_ss, inD_l, inD_t, notinD_ss, notinD_l, notinD_t, ixD_l, ixD_t, ixD_s, slD_t, slD_s, slD_l, lenD_s, lenD_l, lenD_t, tupD_l, tupD_t, listD_l, listD_t, allD_l, anyD_l, sumD_l, maxD_ii, minD_ii, maxD_l, minD_l, absD_i, gcdD_ii, intD_i, intD_b, intD_s, strD_i, strD_s, reprD_1, joinD_l, splitD_s, PB_0, PB_1, PB_2, gIte_t, gIte_f, gIte_d, gIte_n, eqD_xt, eqD_tx, neD_xt, neD_tx, eqD_tt, neD_tt, isTupD, Bool.not_true, List.append_nil]
    refine ⟨fun hl => ?_, fun hl => no (frac_len hl)⟩
    match xs, hl, no, F, h with
    | [x, y], _, no, F, h =>
      refine lc_to intP rfl (Nat.le_refl _) (fun d hd P hP => isWhole_ok hP) ⟨_, ints_map _, ?_⟩
      have e3 : ([x, y].map intB).all id = (intB x && intB y) := by simp
      rw [e3]
      refine ⟨fun z => ?_, fun z => no (frac_ints z)⟩
      rw [Bool.and_eq_true] at z
      obtain ⟨p, rfl⟩ := intB_int z.1
      obtain ⟨q, rfl⟩ := intB_int z.2
      obtain ⟨sp, sq⟩ := F.f p q rfl
      have h : K (.bool (decide (1 ≤ q) && decide (Nat.gcd p.natAbs q.natAbs = 1) && (inB S p q && restB S p q paper))) := h
      unfold R__law_is_paper_7
      dsimp only [gSeq, gSet, gVar, gVarB, gC, gBin, gChain, gTB, gIf, gIfS, gRet, gCall, gCallF, gCo, gN, gTup, gLst, gL, gNotT, gNotV, gAndT, gOrT, gAndV, gOrV, gIsi, gSl, gPart, gNo, gM0, gM1, gFn, gAn, gAd, gAp, gAs, gAsg, gTo, gToT, gToC, gTo0, gNext, gNeg, gPs0, gTick, gPix, gLenS, gIxS, gSumS, gLRg, gPar, gDic0, gDic1, gYes, gSeqI, gRg1, gRg2, gRetN, gSetF, gApp, gExt, gDrop, gFrz, gLcC_x, gForC_x, gRev, revD, gPar3F, gOff, gOffS, gBreak, gCont, clr, startD, nth, List.set, addD_ii, addD_ss, addD_ll, addD_tt, subD_ii, mulD_ii, mulD_si, mulD_li, fdivD_ii, modD_ii, powD_ii, eqD_ii, eqD_ss, eqD_bb, neD_ii, neD_ss, neD_bb, ltD_ii, ltD_ss, leD_ii, gtD_ii, geD_ii, isD_bb, isnotD_bb, inD_ss, notinD_ss, ixD_l, ixD_t, ixD_s, slD_t, slD_s, slD_l, lenD_s, lenD_l, lenD_t, tupD_l, tupD_t, listD_l, listD_t, allD_l, anyD_l, sumD_l, maxD_ii, minD_ii, maxD_l, minD_l, absD_i, gcdD_ii, intD_i, intD_b, intD_s, strD_i, strD_s, reprD_1, joinD_l, splitD_s, eqD_tt, neD_tt]
      refine ⟨rfl, lp6_gen sp sq (fun q1 g => ?_) fun w => ?_⟩
      · rw [decide_eq_true q1, decide_eq_true g, Bool.true_and, Bool.true_and] at h
        refine isIn_ok O e (sp.le (by decide)) (sq.le (by decide)) ?_
        show gIte (!inB S p q) _ _
        cases e2 : inB S p q with
        | false =>
          rw [e2] at h
          exact ⟨fun _ => h, fun z => (nomatch z)⟩
        | true =>
          rw [e2, Bool.true_and] at h
          exact ⟨fun z => (nomatch z), fun _ => lp5_ok O e F h⟩
      · have : (decide (1 ≤ q) && decide (Nat.gcd p.natAbs q.natAbs = 1)) = false := by
          rw [← Bool.not_eq_true, Bool.and_eq_true, decide_eq_true_eq, decide_eq_true_eq]
          exact w
        rw [this] at h
        exact h
  | _ =>
    simp only [gSeq, gSet, gVar, gVarB, gC, gBin, gChain, gTB, gIf, gIfS, gRet, gCall, gCallF, gCo, gN, gTup, gLst, gL, gNotT, gNotV, gAndT, gOrT, gAndV, gOrV, gIsi, gSl, gPart, gNo, gM0, gM1, gFn, gAn, gAd, gAp, gAs, gAsg, gTo, gToT, gToC, gTo0, gNext, gNeg, gPs0, gTick, gPix, gLenS, gIxS, gSumS, gLRg, gPar, gDic0, gDic1, gYes, gSeqI, gRg1, gRg2, gRetN, gSetF, gApp, gExt, gDrop, gFrz, gLcC_x, gForC_x, gRev, revD, gPar3F, gOff, gOffS, gBreak, gCont, clr, startD, nth, List.set, true_or, or_true, true_and, and_true, addD_ii, addD_ss, addD_ll, addD_tt, subD_ii, mulD_ii, mulD_si, mulD_li, fdivD_ii, modD_ii, powD_ii, eqD_ii, eqD_ss, eqD_bb, neD_ii, neD_ss, neD_bb, ltD_ii, ltD_ss, leD_ii, gtD_ii, geD_ii, isD_n, isD_bb, isnotD_n, isnotD_bb, inD_ss, inD_l, inD_t, notinD_ss, notinD_l, notinD_t, ixD_l, ixD_t, ixD_s, slD_t, slD_s, slD_l, lenD_s, lenD_l, lenD_t, tupD_l, tupD_t, listD_l, listD_t, allD_l, anyD_l, sumD_l, maxD_ii, minD_ii, maxD_l, minD_l, absD_i, gcdD_ii, intD_i, intD_b, intD_s, strD_i, strD_s, reprD_1, joinD_l, splitD_s, PB_0, PB_1, PB_2, gIte_t, gIte_f, gIte_d, gIte_n, eqD_xt, eqD_tx, neD_xt, neD_tx, eqD_tt, neD_tt, isTupD, Bool.not_false]
    exact no rfl
theorem isShown_ok {v : D} (O : Ok S) (e : S.hi = some (c, d)) (F : ∀ f paper, v = .tuple [f, paper] → Fit f paper) (h : K (.bool (shownB S v))) : F__law_is_shown [.dat S.D, .dat v] K E := by
  unfold F__law_is_shown specOf G__law_is_shown N__law_is_shown
  refine ⟨rfl, ?_⟩
  cases v with
  | tuple xs =>
    simp only [gSeq, gSet, gVar, gVarB, gC, gBin, gChain, gTB, gIf, gIfS, gRet, gCall, gCallF, gCo, gN, gTup, gLst, gL, gNotT, gNotV, gAndT, gOrT, gAndV, gOrV, gIsi, gSl, gPart, gNo, gM0, gM1, gFn, gAn, gAd, gAp, gAs, gAsg, gTo, gToT, gToC, gTo0, gNext, gNeg, gPs0, gTick, gPix, gLenS, gIxS, gSumS, gLRg, gPar, gDic0, gDic1, gYes, gSeqI, gRg1, gRg2, gRetN, gSetF, gApp, gExt, gDrop, gFrz, gLcC_x, gForC_x, gRev, revD, gPar3F, gOff, gOffS, gBreak, gCont, clr, startD, nth, List.set, true_or, or_true, true_and, and_true, addD_ii, addD_ss, addD_ll, addD_tt, subD_ii, mulD_ii, mulD_si, mulD_li, fdivD_ii, modD_ii, powD_ii, eqD_ii, eqD_ss, eqD_bb, neD_ii, neD_ss, neD_bb, ltD_ii, ltD_ss, leD_ii, gtD_ii, geD_ii, isD_n, isD_bb, isnotD_n, isnotD_bb, inD_ss, inD_l, inD_t, notinD_ss, notinD_l, notinD_t, ixD_l, ixD_t, ixD_s, slD_t, slD_s, slD_l, lenD_s, lenD_l, lenD_t, tupD_l, tupD_t, listD_l, listD_t, allD_l, anyD_l, sumD_l, maxD_ii, minD_ii, maxD_l, minD_l, absD_i, gcdD_ii, intD_i, intD_b, intD_s, strD_i, strD_s, reprD_1, joinD_l, splitD_s, PB_0, PB_1, PB_2, gIte_t, gIte_f, gIte_d, gIte_n, eqD_xt, eqD_tx, neD_xt, neD_tx, eqD_tt, neD_tt, isTupD, List.append_nil]
    refine ⟨fun hl => ?_, fun hl => by rwa [shown_len hl] at h⟩
    match xs, hl, h, F with
    | [f, paper], _, h, F => exact ⟨_, rfl, _, rfl, isPaper_ok O e (F f paper rfl) h⟩
  | _ =>
    simp only [gSeq, gSet, gVar, gVarB, gC, gBin, gChain, gTB, gIf, gIfS, gRet, gCall, gCallF, gCo, gN, gTup, gLst, gL, gNotT, gNotV, gAndT, gOrT, gAndV, gOrV, gIsi, gSl, gPart, gNo, gM0, gM1, gFn, gAn, gAd, gAp, gAs, gAsg, gTo, gToT, gToC, gTo0, gNext, gNeg, gPs0, gTick, gPix, gLenS, gIxS, gSumS, gLRg, gPar, gDic0, gDic1, gYes, gSeqI, gRg1, gRg2, gRetN, gSetF, gApp, gExt, gDrop, gFrz, gLcC_x, gForC_x, gRev, revD, gPar3F, gOff, gOffS, gBreak, gCont, clr, startD, nth, List.set, true_or, or_true, true_and, and_true, addD_ii, addD_ss, addD_ll, addD_tt, subD_ii, mulD_ii, mulD_si, mulD_li, fdivD_ii, modD_ii, powD_ii, eqD_ii, eqD_ss, eqD_bb, neD_ii, neD_ss, neD_bb, ltD_ii, ltD_ss, leD_ii, gtD_ii, geD_ii, isD_n, isD_bb, isnotD_n, isnotD_bb, inD_ss, inD_l, inD_t, notinD_ss, notinD_l, notinD_t, ixD_l, ixD_t, ixD_s, slD_t, slD_s, slD_l, lenD_s, lenD_l, lenD_t, tupD_l, tupD_t, listD_l, listD_t, allD_l, anyD_l, sumD_l, maxD_ii, minD_ii, maxD_l, minD_l, absD_i, gcdD_ii, intD_i, intD_b, intD_s, strD_i, strD_s, reprD_1, joinD_l, splitD_s, PB_0, PB_1, PB_2, gIte_t, gIte_f, gIte_d, gIte_n, eqD_xt, eqD_tx, neD_xt, neD_tx, eqD_tt, neD_tt, isTupD]
    exact h
def edgeB (S : Sp) : D → Bool
  | .tuple [.int q, .int p, paper] => paperB S (frD p q) paper
  | _ => false
theorem paperB_low {p q : Int} {paper : D} (h : ¬ 0 < q) : paperB S (frD p q) paper = false := by
  show (decide (1 ≤ q) && decide (Nat.gcd p.natAbs q.natAbs = 1) && (inB S p q && restB S p q paper)) = false
  rw [decide_eq_false (show ¬ 1 ≤ q by omega), Bool.false_and, Bool.false_and]
theorem edge_len : ∀ {xs : List D}, ¬ (xs.length : Int) = 3 → edgeB S (.tuple xs) = false
  | [], _ => rfl
  | [x], _ => by cases x <;> rfl
  | [x, y], _ => by cases x <;> cases y <;> rfl
  | [_, _, _], h => absurd rfl h
  | x :: y :: _ :: _ :: _, _ => by cases x <;> cases y <;> rfl
theorem edge_ints {x y z : D} (h : (intB x && intB y) = false) : edgeB S (.tuple [x, y, z]) = false := by
  cases x <;> cases y <;> simp [intB] at h <;> rfl
theorem isEdge_ok {v : D} (O : Ok S) (e : S.hi = some (c, d)) (F : ∀ q p paper, v = .tuple [.int q, .int p, paper] → Fit (frD p q) paper) (h : K (.bool (edgeB S v))) : F__law_is_edge [.dat S.D, .dat v] K E := by
  unfold F__law_is_edge specOf G__law_is_edge N__law_is_edge
  refine ⟨rfl, ?_⟩
  cases v with
  | tuple xs =>
    simp only [gSeq, gSet, gVar, gVarB, gC, gBin, gChain, gTB, gIf, gIfS, gRet, gCall, gCallF, gCo, gN, gTup, gLst, gL, gNotT, gNotV, gAndT, gOrT, gAndV, gOrV, gIsi, gSl, gPart, gNo, gM0, gM1, gFn, gAn, gAd, gAp, gAs, gAsg, gTo, gToT, gToC, gTo0, gNext, gNeg, gPs0, gTick, gPix, gLenS, gIxS, gSumS, gLRg, gPar, gDic0, gDic1, gYes, gSeqI, gRg1, gRg2, gRetN, gSetF, gApp, gExt, gDrop, gFrz, gLcC_x, gForC_x, gRev, revD, gPar3F, gOff, gOffS, gBreak, gCont, clr, startD, nth, List.set, true_or, or_true, true_and, and_true, addD_ii, addD_ss, addD_ll, addD_tt, subD_ii, mulD_ii, mulD_si, mulD_li, fdivD_ii, modD_ii, powD_ii, eqD_ii, eqD_ss, eqD_bb, neD_ii, neD_ss, neD_bb, ltD_ii, ltD_ss, leD_ii, gtD_ii, geD_ii, isD_n, isD_bb, isnotD_n, isnotD_bb, inD_ss, inD_l, inD_t, notinD_ss, notinD_l, notinD_t, ixD_l, ixD_t, ixD_s, slD_t, slD_s, slD_l, lenD_s, lenD_l, lenD_t, tupD_l, tupD_t, listD_l, listD_t, allD_l, anyD_l, sumD_l, maxD_ii, minD_ii, maxD_l, minD_l, absD_i, gcdD_ii, intD_i, intD_b, intD_s, strD_i, strD_s, reprD_1, joinD_l, splitD_s, PB_0, PB_1, PB_2, gIte_t, gIte_f, gIte_d, gIte_n, eqD_xt, eqD_tx, neD_xt, neD_tx, eqD_tt, neD_tt, isTupD, Bool.not_true, List.append_nil]
    refine ⟨fun hl => ?_, fun hl => by rwa [edge_len hl] at h⟩
    match xs, hl, h, F with
    | [x, y, w], _, h, F =>
      have ec : cutL [x, y, w] none (some 2) = [x, y] := rfl
      rw [ec]
      refine lc_to intP rfl (Nat.le_refl _) (fun d hd P hP => isWhole_ok hP) ⟨_, ints_map _, ?_⟩
      have e3 : ([x, y].map intB).all id = (intB x && intB y) := by simp
      rw [e3]
      refine ⟨fun z => ?_, fun z => by rwa [edge_ints z] at h⟩
      rw [Bool.and_eq_true] at z
      obtain ⟨q, rfl⟩ := intB_int z.1
      obtain ⟨p, rfl⟩ := intB_int z.2
      have h : K (.bool (paperB S (frD p q) w)) := h
      unfold R__law_is_edge_0
      dsimp only [gSeq, gSet, gVar, gVarB, gC, gBin, gChain, gTB, gIf, gIfS, gRet, gCall, gCallF, gCo, gN, gTup, gLst, gL, gNotT, gNotV, gAndT, gOrT, gAndV, gOrV, gIsi, gSl, gPart, gNo, gM0, gM1, gFn, gAn, gAd, gAp, gAs, gAsg, gTo, gToT, gToC, gTo0, gNext, gNeg, gPs0, gTick, gPix, gLenS, gIxS, gSumS, gLRg, gPar, gDic0, gDic1, gYes, gSeqI, gRg1, gRg2, gRetN, gSetF, gApp, gExt, gDrop, gFrz, gLcC_x, gForC_x, gRev, revD, gPar3F, gOff, gOffS, gBreak, gCont, clr, startD, nth, List.set, addD_ii, addD_ss, addD_ll, addD_tt, subD_ii, mulD_ii, mulD_si, mulD_li, fdivD_ii, modD_ii, powD_ii, eqD_ii, eqD_ss, eqD_bb, neD_ii, neD_ss, neD_bb, ltD_ii, ltD_ss, leD_ii, gtD_ii, geD_ii, isD_bb, isnotD_bb, inD_ss, notinD_ss, ixD_l, ixD_t, ixD_s, slD_t, slD_s, slD_l, lenD_s, lenD_l, lenD_t, tupD_l, tupD_t, listD_l, listD_t, allD_l, anyD_l, sumD_l, maxD_ii, minD_ii, maxD_l, minD_l, absD_i, gcdD_ii, intD_i, intD_b, intD_s, strD_i, strD_s, reprD_1, joinD_l, splitD_s, eqD_tt, neD_tt]
      refine ⟨_, rfl, fun z => ⟨_, rfl, _, rfl, sl (n := 2) (by decide), _, rfl, isPaper_ok O e (F q p w rfl) h⟩, fun z => ?_⟩
      rwa [paperB_low (of_decide_eq_false z)] at h
  | _ =>
    simp only [gSeq, gSet, gVar, gVarB, gC, gBin, gChain, gTB, gIf, gIfS, gRet, gCall, gCallF, gCo, gN, gTup, gLst, gL, gNotT, gNotV, gAndT, gOrT, gAndV, gOrV, gIsi, gSl, gPart, gNo, gM0, gM1, gFn, gAn, gAd, gAp, gAs, gAsg, gTo, gToT, gToC, gTo0, gNext, gNeg, gPs0, gTick, gPix, gLenS, gIxS, gSumS, gLRg, gPar, gDic0, gDic1, gYes, gSeqI, gRg1, gRg2, gRetN, gSetF, gApp, gExt, gDrop, gFrz, gLcC_x, gForC_x, gRev, revD, gPar3F, gOff, gOffS, gBreak, gCont, clr, startD, nth, List.set, true_or, or_true, true_and, and_true, addD_ii, addD_ss, addD_ll, addD_tt, subD_ii, mulD_ii, mulD_si, mulD_li, fdivD_ii, modD_ii, powD_ii, eqD_ii, eqD_ss, eqD_bb, neD_ii, neD_ss, neD_bb, ltD_ii, ltD_ss, leD_ii, gtD_ii, geD_ii, isD_n, isD_bb, isnotD_n, isnotD_bb, inD_ss, inD_l, inD_t, notinD_ss, notinD_l, notinD_t, ixD_l, ixD_t, ixD_s, slD_t, slD_s, slD_l, lenD_s, lenD_l, lenD_t, tupD_l, tupD_t, listD_l, listD_t, allD_l, anyD_l, sumD_l, maxD_ii, minD_ii, maxD_l, minD_l, absD_i, gcdD_ii, intD_i, intD_b, intD_s, strD_i, strD_s, reprD_1, joinD_l, splitD_s, PB_0, PB_1, PB_2, gIte_t, gIte_f, gIte_d, gIte_n, eqD_xt, eqD_tx, neD_xt, neD_tx, eqD_tt, neD_tt, isTupD, Bool.not_false]
    exact h
theorem showsSimplest_ok {v : D} (O : Ok S) (f : Firm S c d) (F : ∀ f paper, v = .tuple [f, paper] → Fit f paper) (h : K (.bool (shownB S v))) : F_shows_simplest [.dat S.D, .dat v] K E := by
  unfold F_shows_simplest specOf G_shows_simplest N_shows_simplest
  refine ⟨rfl, ?_⟩
  unfold R_shows_simplest_0
  dsimp only [gSeq, gSet, gVar, gVarB, gC, gBin, gChain, gTB, gIf, gIfS, gRet, gCall, gCallF, gCo, gN, gTup, gLst, gL, gNotT, gNotV, gAndT, gOrT, gAndV, gOrV, gIsi, gSl, gPart, gNo, gM0, gM1, gFn, gAn, gAd, gAp, gAs, gAsg, gTo, gToT, gToC, gTo0, gNext, gNeg, gPs0, gTick, gPix, gLenS, gIxS, gSumS, gLRg, gPar, gDic0, gDic1, gYes, gSeqI, gRg1, gRg2, gRetN, gSetF, gApp, gExt, gDrop, gFrz, gLcC_x, gForC_x, gRev, revD, gPar3F, gOff, gOffS, gBreak, gCont, clr, startD, nth, List.set, addD_ii, addD_ss, addD_ll, addD_tt, subD_ii, mulD_ii, mulD_si, mulD_li, fdivD_ii, modD_ii, powD_ii, eqD_ii, eqD_ss, eqD_bb, neD_ii, neD_ss, neD_bb, ltD_ii, ltD_ss, leD_ii, gtD_ii, geD_ii, isD_bb, isnotD_bb, inD_ss, notinD_ss, ixD_l, ixD_t, ixD_s, slD_t, slD_s, slD_l, lenD_s, lenD_l, lenD_t, tupD_l, tupD_t, listD_l, listD_t, allD_l, anyD_l, sumD_l, maxD_ii, minD_ii, maxD_l, minD_l, absD_i, gcdD_ii, intD_i, intD_b, intD_s, strD_i, strD_s, reprD_1, joinD_l, splitD_s, eqD_tt, neD_tt]
  exact check_ok O f (isSimplest_ok O F h)
theorem showsEdge_ok {v : D} (O : Ok S) (f : Firm S c d) (F : ∀ q p paper, v = .tuple [.int q, .int p, paper] → Fit (frD p q) paper) (h : K (.bool (edgeB S v))) : F_shows_edge_size [.dat S.D, .dat v] K E := by
  unfold F_shows_edge_size specOf G_shows_edge_size N_shows_edge_size
  refine ⟨rfl, ?_⟩
  have key : R_shows_edge_size_1 E (EK K) [.dat S.D, .dat v] := by
    unfold R_shows_edge_size_1
    cases v with
    | tuple xs =>
      simp only [gSeq, gSet, gVar, gVarB, gC, gBin, gChain, gTB, gIf, gIfS, gRet, gCall, gCallF, gCo, gN, gTup, gLst, gL, gNotT, gNotV, gAndT, gOrT, gAndV, gOrV, gIsi, gSl, gPart, gNo, gM0, gM1, gFn, gAn, gAd, gAp, gAs, gAsg, gTo, gToT, gToC, gTo0, gNext, gNeg, gPs0, gTick, gPix, gLenS, gIxS, gSumS, gLRg, gPar, gDic0, gDic1, gYes, gSeqI, gRg1, gRg2, gRetN, gSetF, gApp, gExt, gDrop, gFrz, gLcC_x, gForC_x, gRev, revD, gPar3F, gOff, gOffS, gBreak, gCont, clr, startD, nth, List.set, true_or, or_true, true_and, and_true, addD_ii, addD_ss, addD_ll, addD_tt, subD_ii, mulD_ii, mulD_si, mulD_li, fdivD_ii, modD_ii, powD_ii, eqD_ii, eqD_ss, eqD_bb, neD_ii, neD_ss, neD_bb, ltD_ii, ltD_ss, leD_ii, gtD_ii, geD_ii, isD_n, isD_bb, isnotD_n, isnotD_bb, inD_ss, inD_l, inD_t, notinD_ss, notinD_l, notinD_t, ixD_l, ixD_t, ixD_s, slD_t, slD_s, slD_l, lenD_s, lenD_l, lenD_t, tupD_l, tupD_t, listD_l, listD_t, allD_l, anyD_l, sumD_l, maxD_ii, minD_ii, maxD_l, minD_l, absD_i, gcdD_ii, intD_i, intD_b, intD_s, strD_i, strD_s, reprD_1, joinD_l, splitD_s, PB_0, PB_1, PB_2, gIte_t, gIte_f, gIte_d, gIte_n, eqD_xt, eqD_tx, neD_xt, neD_tx, eqD_tt, neD_tt, isTupD, Bool.not_true, List.append_nil]
      refine ⟨fun hl => ?_, fun hl => by rwa [edge_len hl] at h⟩
      match xs, hl, h, F with
      | [x, y, w], _, h, F =>
        have h2 : (intB x && intB y) = false → K (.bool false) := fun z => by rwa [edge_ints z] at h
        refine ⟨_, rfl, isInteger_ok ?_⟩
        show gIte (intB x) _ _
        cases e1 : intB x with
        | false => exact ⟨fun z => (nomatch z), fun _ => h2 (by rw [e1]; rfl)⟩
        | true =>
          refine ⟨fun _ => ⟨_, rfl, isInteger_ok ?_⟩, fun z => (nomatch z)⟩
          show gIte (intB y) _ _
          cases e2 : intB y with
          | false => exact ⟨fun z => (nomatch z), fun _ => h2 (by rw [e1, e2]; rfl)⟩
          | true =>
            obtain ⟨q, rfl⟩ := intB_int e1
            obtain ⟨p, rfl⟩ := intB_int e2
            refine ⟨fun _ => ?_, fun z => (nomatch z)⟩
            have Fi := F q p w rfl
            have h : K (.bool (shownB S (.tuple [frD p q, w]))) := h
            unfold R_shows_edge_size_0
            dsimp only [gSeq, gSet, gVar, gVarB, gC, gBin, gChain, gTB, gIf, gIfS, gRet, gCall, gCallF, gCo, gN, gTup, gLst, gL, gNotT, gNotV, gAndT, gOrT, gAndV, gOrV, gIsi, gSl, gPart, gNo, gM0, gM1, gFn, gAn, gAd, gAp, gAs, gAsg, gTo, gToT, gToC, gTo0, gNext, gNeg, gPs0, gTick, gPix, gLenS, gIxS, gSumS, gLRg, gPar, gDic0, gDic1, gYes, gSeqI, gRg1, gRg2, gRetN, gSetF, gApp, gExt, gDrop, gFrz, gLcC_x, gForC_x, gRev, revD, gPar3F, gOff, gOffS, gBreak, gCont, clr, startD, nth, List.set, addD_ii, addD_ss, addD_ll, addD_tt, subD_ii, mulD_ii, mulD_si, mulD_li, fdivD_ii, modD_ii, powD_ii, eqD_ii, eqD_ss, eqD_bb, neD_ii, neD_ss, neD_bb, ltD_ii, ltD_ss, leD_ii, gtD_ii, geD_ii, isD_bb, isnotD_bb, inD_ss, notinD_ss, ixD_l, ixD_t, ixD_s, slD_t, slD_s, slD_l, lenD_s, lenD_l, lenD_t, tupD_l, tupD_t, listD_l, listD_t, allD_l, anyD_l, sumD_l, maxD_ii, minD_ii, maxD_l, minD_l, absD_i, gcdD_ii, intD_i, intD_b, intD_s, strD_i, strD_s, reprD_1, joinD_l, splitD_s, eqD_tt, neD_tt]
            exact ⟨_, rfl, _, rfl, sl (n := 2) (by decide), _, rfl, sl (n := 2) (by decide), isSimplest_ok O (fun f paper z => by cases z; exact Fi) h⟩
    | _ =>
      simp only [gSeq, gSet, gVar, gVarB, gC, gBin, gChain, gTB, gIf, gIfS, gRet, gCall, gCallF, gCo, gN, gTup, gLst, gL, gNotT, gNotV, gAndT, gOrT, gAndV, gOrV, gIsi, gSl, gPart, gNo, gM0, gM1, gFn, gAn, gAd, gAp, gAs, gAsg, gTo, gToT, gToC, gTo0, gNext, gNeg, gPs0, gTick, gPix, gLenS, gIxS, gSumS, gLRg, gPar, gDic0, gDic1, gYes, gSeqI, gRg1, gRg2, gRetN, gSetF, gApp, gExt, gDrop, gFrz, gLcC_x, gForC_x, gRev, revD, gPar3F, gOff, gOffS, gBreak, gCont, clr, startD, nth, List.set, true_or, or_true, true_and, and_true, addD_ii, addD_ss, addD_ll, addD_tt, subD_ii, mulD_ii, mulD_si, mulD_li, fdivD_ii, modD_ii, powD_ii, eqD_ii, eqD_ss, eqD_bb, neD_ii, neD_ss, neD_bb, ltD_ii, ltD_ss, leD_ii, gtD_ii, geD_ii, isD_n, isD_bb, isnotD_n, isnotD_bb, inD_ss, inD_l, inD_t, notinD_ss, notinD_l, notinD_t, ixD_l, ixD_t, ixD_s, slD_t, slD_s, slD_l, lenD_s, lenD_l, lenD_t, tupD_l, tupD_t, listD_l, listD_t, allD_l, anyD_l, sumD_l, maxD_ii, minD_ii, maxD_l, minD_l, absD_i, gcdD_ii, intD_i, intD_b, intD_s, strD_i, strD_s, reprD_1, joinD_l, splitD_s, PB_0, PB_1, PB_2, gIte_t, gIte_f, gIte_d, gIte_n, eqD_xt, eqD_tx, neD_xt, neD_tx, eqD_tt, neD_tt, isTupD, Bool.not_false]
      exact h
  dsimp only [gSeq, gSet, gVar, gVarB, gC, gBin, gChain, gTB, gIf, gIfS, gRet, gCall, gCallF, gCo, gN, gTup, gLst, gL, gNotT, gNotV, gAndT, gOrT, gAndV, gOrV, gIsi, gSl, gPart, gNo, gM0, gM1, gFn, gAn, gAd, gAp, gAs, gAsg, gTo, gToT, gToC, gTo0, gNext, gNeg, gPs0, gTick, gPix, gLenS, gIxS, gSumS, gLRg, gPar, gDic0, gDic1, gYes, gSeqI, gRg1, gRg2, gRetN, gSetF, gApp, gExt, gDrop, gFrz, gLcC_x, gForC_x, gRev, revD, gPar3F, gOff, gOffS, gBreak, gCont, clr, startD, nth, List.set, addD_ii, addD_ss, addD_ll, addD_tt, subD_ii, mulD_ii, mulD_si, mulD_li, fdivD_ii, modD_ii, powD_ii, eqD_ii, eqD_ss, eqD_bb, neD_ii, neD_ss, neD_bb, ltD_ii, ltD_ss, leD_ii, gtD_ii, geD_ii, isD_bb, isnotD_bb, inD_ss, notinD_ss, ixD_l, ixD_t, ixD_s, slD_t, slD_s, slD_l, lenD_s, lenD_l, lenD_t, tupD_l, tupD_t, listD_l, listD_t, allD_l, anyD_l, sumD_l, maxD_ii, minD_ii, maxD_l, minD_l, absD_i, gcdD_ii, intD_i, intD_b, intD_s, strD_i, strD_s, reprD_1, joinD_l, splitD_s, eqD_tt, neD_tt]
  exact check_ok O f key
/-! ### what is told -/
inductive Par (p q : Int) : D → Prop
  | one : q = 1 → Par p q (.tuple [])
  | two {l0 l1 r0 r1 : Int} : q ≠ 1 → 0 ≤ l0 → 1 ≤ l1 → 1 ≤ r0 → 0 ≤ r1 → r0 * l1 - l0 * r1 = 1 → l0 + r0 = p → l1 + r1 = q → Par p q (.tuple [frD l0 l1, frD r0 r1])
theorem told_shown {p q : Int} {par : D} (B : Best S p q) (P : Par p q par) : paperB S (frD p q) par = true := by
  have q1 := B.q1
  show (decide (1 ≤ q) && decide (Nat.gcd p.natAbs q.natAbs = 1) && (inB S p q && restB S p q par)) = true
  rw [decide_eq_true q1, decide_eq_true B.g, inB_iff.mpr B.inn, Bool.true_and, Bool.true_and, Bool.true_and]
  have nin : ∀ x y, 1 ≤ y → (y < q ∨ (y = q ∧ x < p)) → inB S x y = false := fun x y hy hlt => by
    rw [← Bool.not_eq_true, inB_iff]
    intro w
    have := B.least x y w hy
    omega
  unfold restB
  cases P with
  | one h =>
    rw [if_pos h, nin (p - 1) 1 (by decide) (.inr ⟨h.symm, by omega⟩)]
    rfl
  | two h l0n l1n r0n r1n det h1 h2 =>
    rename_i l0 l1 r0 r1
    rw [if_neg h]
    have r1p : 1 ≤ r1 := by
      by_cases z : r1 = 0
      · exfalso
        rw [z, Int.mul_zero, Int.sub_zero] at det
        have := le_mul (show 0 ≤ l1 by omega) r0n
        rw [Int.mul_comm] at this
        omega
      · omega
    show (elB (frD l0 l1) && (elB (frD r0 r1) && (decide (0 < l1) && (decide (l0 + r0 = p) && decide (l1 + r1 = q) && (decide (r0 * l1 - l0 * r1 = 1) && (!inB S l0 l1 && (decide (r1 = 0) || !inB S r0 r1))))))) = true
    rw [nin l0 l1 l1n (.inl (by omega)), nin r0 r1 r1p (.inl (by omega)), decide_eq_true (show 0 < l1 by omega), decide_eq_true h1, decide_eq_true h2, decide_eq_true det, Bool.not_false, Bool.or_true]
    show ((decide (0 ≤ l0) && decide (0 ≤ l1)) && ((decide (0 ≤ r0) && decide (0 ≤ r1)) && true)) = true
    rw [decide_eq_true l0n, decide_eq_true (show 0 ≤ l1 by omega), decide_eq_true (show 0 ≤ r0 by omega), decide_eq_true r1n]
    rfl
structure Stre (S : Sp) (c d P Q : Int) : Prop where
  f : Firm S c d
  g : Good S P Q
  bd : Bd S 10000
  m : ms S ≤ 100000
  p : P ≤ 20000
  q : Q < 4000
section
variable {P Q : Int}
theorem Stre.ok (T : Stre S c d P Q) : Ok S := ok_of T.g T.bd (by decide)
theorem withParents_ok {p q : Int} (B : Best S p q) (hp : p ≤ 20000) (hq : q ≤ 20000) (h : ∀ par, Par p q par → K par) : F_parents_of [.dat (frD p q)] K E :=
  parents_ok (B := 20000) B.p0 hp B.q1 hq (by decide) B.g (fun z => h _ (.one z)) fun z l0 l1 r0 r1 a1 a2 a3 a4 a5 a6 a7 => h _ (.two z a1 a2 a3 a4 a5 a6 a7)
theorem simplest_ok (T : Stre S c d P Q) (h : ∀ p q par, Best S p q → p ≤ 20000 → q ≤ 20000 → Par p q par → K (.tuple [frD p q, par])) : F_simplest [.dat S.D] K E := by
  have tq := T.q
  unfold F_simplest specOf G_simplest N_simplest
  refine ⟨rfl, ?_⟩
  unfold R_simplest_0
  dsimp only [gSeq, gSet, gVar, gVarB, gC, gBin, gChain, gTB, gIf, gIfS, gRet, gCall, gCallF, gCo, gN, gTup, gLst, gL, gNotT, gNotV, gAndT, gOrT, gAndV, gOrV, gIsi, gSl, gPart, gNo, gM0, gM1, gFn, gAn, gAd, gAp, gAs, gAsg, gTo, gToT, gToC, gTo0, gNext, gNeg, gPs0, gTick, gPix, gLenS, gIxS, gSumS, gLRg, gPar, gDic0, gDic1, gYes, gSeqI, gRg1, gRg2, gRetN, gSetF, gApp, gExt, gDrop, gFrz, gLcC_x, gForC_x, gRev, revD, gPar3F, gOff, gOffS, gBreak, gCont, clr, startD, nth, List.set, addD_ii, addD_ss, addD_ll, addD_tt, subD_ii, mulD_ii, mulD_si, mulD_li, fdivD_ii, modD_ii, powD_ii, eqD_ii, eqD_ss, eqD_bb, neD_ii, neD_ss, neD_bb, ltD_ii, ltD_ss, leD_ii, gtD_ii, geD_ii, isD_bb, isnotD_bb, inD_ss, notinD_ss, ixD_l, ixD_t, ixD_s, slD_t, slD_s, slD_l, lenD_s, lenD_l, lenD_t, tupD_l, tupD_t, listD_l, listD_t, allD_l, anyD_l, sumD_l, maxD_ii, minD_ii, maxD_l, minD_l, absD_i, gcdD_ii, intD_i, intD_b, intD_s, strD_i, strD_s, reprD_1, joinD_l, splitD_s, eqD_tt, neD_tt]
  refine check_ok T.ok T.f (simplestOf_ok (B := 20000) T.g T.bd (by decide) T.p (by omega) (by decide) T.m fun p q b hp hq => ?_)
  unfold F_with_parents specOf G_with_parents N_with_parents
  refine ⟨rfl, ?_⟩
  dsimp only [gSeq, gSet, gVar, gVarB, gC, gBin, gChain, gTB, gIf, gIfS, gRet, gCall, gCallF, gCo, gN, gTup, gLst, gL, gNotT, gNotV, gAndT, gOrT, gAndV, gOrV, gIsi, gSl, gPart, gNo, gM0, gM1, gFn, gAn, gAd, gAp, gAs, gAsg, gTo, gToT, gToC, gTo0, gNext, gNeg, gPs0, gTick, gPix, gLenS, gIxS, gSumS, gLRg, gPar, gDic0, gDic1, gYes, gSeqI, gRg1, gRg2, gRetN, gSetF, gApp, gExt, gDrop, gFrz, gLcC_x, gForC_x, gRev, revD, gPar3F, gOff, gOffS, gBreak, gCont, clr, startD, nth, List.set, addD_ii, addD_ss, addD_ll, addD_tt, subD_ii, mulD_ii, mulD_si, mulD_li, fdivD_ii, modD_ii, powD_ii, eqD_ii, eqD_ss, eqD_bb, neD_ii, neD_ss, neD_bb, ltD_ii, ltD_ss, leD_ii, gtD_ii, geD_ii, isD_bb, isnotD_bb, inD_ss, notinD_ss, ixD_l, ixD_t, ixD_s, slD_t, slD_s, slD_l, lenD_s, lenD_l, lenD_t, tupD_l, tupD_t, listD_l, listD_t, allD_l, anyD_l, sumD_l, maxD_ii, minD_ii, maxD_l, minD_l, absD_i, gcdD_ii, intD_i, intD_b, intD_s, strD_i, strD_s, reprD_1, joinD_l, splitD_s, eqD_tt, neD_tt]
  exact withParents_ok b hp hq fun par hpar => ⟨sl (n := 2) (by decide), h p q par b hp hq hpar⟩
theorem edge_ok (T : Stre S c d P Q) (h : ∀ p q par, Best S p q → p ≤ 20000 → q ≤ 20000 → Par p q par → K (.tuple [.int q, .int p, par])) : F_edge_size [.dat S.D] K E := by
  have tq := T.q
  unfold F_edge_size specOf G_edge_size N_edge_size
  refine ⟨rfl, ?_⟩
  unfold R_edge_size_0
  dsimp only [gSeq, gSet, gVar, gVarB, gC, gBin, gChain, gTB, gIf, gIfS, gRet, gCall, gCallF, gCo, gN, gTup, gLst, gL, gNotT, gNotV, gAndT, gOrT, gAndV, gOrV, gIsi, gSl, gPart, gNo, gM0, gM1, gFn, gAn, gAd, gAp, gAs, gAsg, gTo, gToT, gToC, gTo0, gNext, gNeg, gPs0, gTick, gPix, gLenS, gIxS, gSumS, gLRg, gPar, gDic0, gDic1, gYes, gSeqI, gRg1, gRg2, gRetN, gSetF, gApp, gExt, gDrop, gFrz, gLcC_x, gForC_x, gRev, revD, gPar3F, gOff, gOffS, gBreak, gCont, clr, startD, nth, List.set, addD_ii, addD_ss, addD_ll, addD_tt, subD_ii, mulD_ii, mulD_si, mulD_li, fdivD_ii, modD_ii, powD_ii, eqD_ii, eqD_ss, eqD_bb, neD_ii, neD_ss, neD_bb, ltD_ii, ltD_ss, leD_ii, gtD_ii, geD_ii, isD_bb, isnotD_bb, inD_ss, notinD_ss, ixD_l, ixD_t, ixD_s, slD_t, slD_s, slD_l, lenD_s, lenD_l, lenD_t, tupD_l, tupD_t, listD_l, listD_t, allD_l, anyD_l, sumD_l, maxD_ii, minD_ii, maxD_l, minD_l, absD_i, gcdD_ii, intD_i, intD_b, intD_s, strD_i, strD_s, reprD_1, joinD_l, splitD_s, eqD_tt, neD_tt]
  refine check_ok T.ok T.f ?_
  unfold F_edge_told specOf G_edge_told N_edge_told
  refine ⟨rfl, ?_⟩
  unfold R_edge_told_0
  dsimp only [gSeq, gSet, gVar, gVarB, gC, gBin, gChain, gTB, gIf, gIfS, gRet, gCall, gCallF, gCo, gN, gTup, gLst, gL, gNotT, gNotV, gAndT, gOrT, gAndV, gOrV, gIsi, gSl, gPart, gNo, gM0, gM1, gFn, gAn, gAd, gAp, gAs, gAsg, gTo, gToT, gToC, gTo0, gNext, gNeg, gPs0, gTick, gPix, gLenS, gIxS, gSumS, gLRg, gPar, gDic0, gDic1, gYes, gSeqI, gRg1, gRg2, gRetN, gSetF, gApp, gExt, gDrop, gFrz, gLcC_x, gForC_x, gRev, revD, gPar3F, gOff, gOffS, gBreak, gCont, clr, startD, nth, List.set, addD_ii, addD_ss, addD_ll, addD_tt, subD_ii, mulD_ii, mulD_si, mulD_li, fdivD_ii, modD_ii, powD_ii, eqD_ii, eqD_ss, eqD_bb, neD_ii, neD_ss, neD_bb, ltD_ii, ltD_ss, leD_ii, gtD_ii, geD_ii, isD_bb, isnotD_bb, inD_ss, notinD_ss, ixD_l, ixD_t, ixD_s, slD_t, slD_s, slD_l, lenD_s, lenD_l, lenD_t, tupD_l, tupD_t, listD_l, listD_t, allD_l, anyD_l, sumD_l, maxD_ii, minD_ii, maxD_l, minD_l, absD_i, gcdD_ii, intD_i, intD_b, intD_s, strD_i, strD_s, reprD_1, joinD_l, splitD_s, eqD_tt, neD_tt]
  exact simplestOf_ok (B := 20000) T.g T.bd (by decide) T.p (by omega) (by decide) T.m fun p q b hp hq => ⟨_, rfl, _, rfl, withParents_ok b hp hq fun par hpar => ⟨sl (n := 3) (by decide), h p q par b hp hq hpar⟩⟩
end
end K83
/-! K83s: stretches drawn; values bent; values of any kind. -/
namespace K83
open PySem DL
variable {K : D → Prop} {E : Value → D → Prop}
/-! ### stretches -/
theorem cut_facts {x y : Int} (hx : 0 ≤ x) (hy : 1 ≤ y) : ∃ a b g : Int, x / ((Nat.gcd x.natAbs y.natAbs : Nat) : Int) = a ∧ y / ((Nat.gcd x.natAbs y.natAbs : Nat) : Int) = b ∧ 1 ≤ g ∧ x = a * g ∧ y = b * g ∧ 0 ≤ a ∧ a ≤ x ∧ 1 ≤ b ∧ b ≤ y ∧ Nat.gcd a.natAbs b.natAbs = 1 := by
  obtain ⟨X, rfl⟩ := Int.eq_ofNat_of_zero_le hx
  obtain ⟨Y, rfl⟩ := Int.eq_ofNat_of_zero_le (show 0 ≤ y by omega)
  have hY : 0 < Y := by omega
  have g1 : 0 < Nat.gcd X Y := Nat.gcd_pos_of_pos_right _ hY
  refine ⟨((X / Nat.gcd X Y : Nat) : Int), ((Y / Nat.gcd X Y : Nat) : Int), (Nat.gcd X Y : Nat), by rw [Int.natCast_ediv]; rfl, by rw [Int.natCast_ediv]; rfl, by omega, ?_, ?_, Int.natCast_nonneg _, ?_, ?_, ?_, ?_⟩
  · rw [← Int.natCast_mul, Nat.div_mul_cancel (Nat.gcd_dvd_left X Y)]
  · rw [← Int.natCast_mul, Nat.div_mul_cancel (Nat.gcd_dvd_right X Y)]
  · exact Int.ofNat_le.mpr (Nat.div_le_self X (Nat.gcd X Y))
  · exact Int.ofNat_le.mpr (Nat.div_pos (Nat.gcd_le_right X hY) g1)
  · exact Int.ofNat_le.mpr (Nat.div_le_self Y (Nat.gcd X Y))
  · show Nat.gcd (X / Nat.gcd X Y) (Y / Nat.gcd X Y) = 1
    exact Nat.gcd_div_gcd_div_gcd_of_pos_right hY
theorem str_of {a b c d : Int} {il ih : Bool} (a0 : 0 ≤ a) (b1 : 1 ≤ b) (g1 : Nat.gcd a.natAbs b.natAbs = 1) (d1 : 1 ≤ d) (g2 : Nat.gcd c.natAbs d.natAbs = 1) (h : a * d < c * b) (ha : a ≤ 100) (hb : b ≤ 40) (hc : c ≤ 5000) (c0 : 0 ≤ c) (hd : d ≤ 2400) :
    Stre ⟨a, b, il, some (c, d), ih⟩ c d (a + c) (b + d) := by
  refine ⟨⟨rfl, a0, .inl h⟩, ⟨a0, b1, g1, fun c' d' z => ?_, by omega, mediant b1 d1 h⟩, ⟨by show a ≤ _; omega, by show b ≤ _; omega, fun c' d' z => ?_⟩, ?_, by omega, by omega⟩
  · cases z
    exact ⟨d1, g2⟩
  · cases z
    exact ⟨c0, by omega, by omega⟩
  · show b + d ≤ 100000
    omega
theorem str_one {a b : Int} (a0 : 0 ≤ a) (b1 : 1 ≤ b) (g1 : Nat.gcd a.natAbs b.natAbs = 1) (ha : a ≤ 100) (hb : b ≤ 40) : Stre ⟨a, b, true, some (a, b), true⟩ a b a b := by
  refine ⟨⟨rfl, a0, .inr ⟨rfl, rfl, rfl, rfl⟩⟩, ⟨a0, b1, g1, fun c' d' z => ?_, b1, .inr ⟨rfl, rfl⟩, fun c' d' z => ?_⟩, ⟨by show a ≤ _; omega, by show b ≤ _; omega, fun c' d' z => ?_⟩, ?_, by omega, by omega⟩
  · cases z
    exact ⟨b1, g1⟩
  · cases z
    exact .inr ⟨rfl, rfl⟩
  · cases z
    exact ⟨a0, by omega, by omega⟩
  · show b + b ≤ 100000
    omega
section
variable {D' : DEnds} {s1 s2 s3 s4 s5 s6 : Sv} {a b c d : Int}
theorem st1_ok (h1 : D'.rt (.tuple [frD a b, .bool true, frD a b, .bool true])) (h2 : ∀ x y : Bool, D'.rt (.tuple [frD a b, .bool x, frD c d, .bool y])) : R__law_stretch_1 E D' [.pot, s1, s2, s3, s4, .dat (frD a b), .dat (frD c d)] := by
  unfold R__law_stretch_1 R__law_stretch_0
  dsimp only [gSeq, gSet, gVar, gVarB, gC, gBin, gChain, gTB, gIf, gIfS, gRet, gCall, gCallF, gCo, gN, gTup, gLst, gL, gNotT, gNotV, gAndT, gOrT, gAndV, gOrV, gIsi, gSl, gPart, gNo, gM0, gM1, gFn, gAn, gAd, gAp, gAs, gAsg, gTo, gToT, gToC, gTo0, gNext, gNeg, gPs0, gTick, gPix, gLenS, gIxS, gSumS, gLRg, gPar, gDic0, gDic1, gYes, gSeqI, gRg1, gRg2, gRetN, gSetF, gApp, gExt, gDrop, gFrz, gLcC_x, gForC_x, gRev, revD, gPar3F, gOff, gOffS, gBreak, gCont, clr, startD, nth, List.set, addD_ii, addD_ss, addD_ll, addD_tt, subD_ii, mulD_ii, mulD_si, mulD_li, fdivD_ii, modD_ii, powD_ii, eqD_ii, eqD_ss, eqD_bb, neD_ii, neD_ss, neD_bb, ltD_ii, ltD_ss, leD_ii, gtD_ii, geD_ii, isD_bb, isnotD_bb, inD_ss, notinD_ss, ixD_l, ixD_t, ixD_s, slD_t, slD_s, slD_l, lenD_s, lenD_l, lenD_t, tupD_l, tupD_t, listD_l, listD_t, allD_l, anyD_l, sumD_l, maxD_ii, minD_ii, maxD_l, minD_l, absD_i, gcdD_ii, intD_i, intD_b, intD_s, strD_i, strD_s, reprD_1, joinD_l, splitD_s, eqD_tt, neD_tt]
  refine take_ok (by decide) (by decide) fun i i0 i1 => ?_
  refine ⟨fun _ => ⟨sl (n := 4) (by decide), h1⟩, fun _ => take_ok (by decide) (by decide) fun x x0 x1 => take_ok (by decide) (by decide) fun y y0 y1 => ⟨sl (n := 4) (by decide), h2 _ _⟩⟩
end
theorem stretch_ok {m : Int} (h0 : 1 ≤ m) (h1 : m ≤ 40) (h : ∀ S c d P Q, Stre S c d P Q → K S.D) : F__law_stretch [.pot, .dat (.int m)] K E := by
  unfold F__law_stretch specOf G__law_stretch N__law_stretch
  refine ⟨rfl, ?_⟩
  unfold R__law_stretch_4 R__law_stretch_3 R__law_stretch_2
  dsimp only [gSeq, gSet, gVar, gVarB, gC, gBin, gChain, gTB, gIf, gIfS, gRet, gCall, gCallF, gCo, gN, gTup, gLst, gL, gNotT, gNotV, gAndT, gOrT, gAndV, gOrV, gIsi, gSl, gPart, gNo, gM0, gM1, gFn, gAn, gAd, gAp, gAs, gAsg, gTo, gToT, gToC, gTo0, gNext, gNeg, gPs0, gTick, gPix, gLenS, gIxS, gSumS, gLRg, gPar, gDic0, gDic1, gYes, gSeqI, gRg1, gRg2, gRetN, gSetF, gApp, gExt, gDrop, gFrz, gLcC_x, gForC_x, gRev, revD, gPar3F, gOff, gOffS, gBreak, gCont, clr, startD, nth, List.set, addD_ii, addD_ss, addD_ll, addD_tt, subD_ii, mulD_ii, mulD_si, mulD_li, fdivD_ii, modD_ii, powD_ii, eqD_ii, eqD_ss, eqD_bb, neD_ii, neD_ss, neD_bb, ltD_ii, ltD_ss, leD_ii, gtD_ii, geD_ii, isD_bb, isnotD_bb, inD_ss, notinD_ss, ixD_l, ixD_t, ixD_s, slD_t, slD_s, slD_l, lenD_s, lenD_l, lenD_t, tupD_l, tupD_t, listD_l, listD_t, allD_l, anyD_l, sumD_l, maxD_ii, minD_ii, maxD_l, minD_l, absD_i, gcdD_ii, intD_i, intD_b, intD_s, strD_i, strD_s, reprD_1, joinD_l, splitD_s, eqD_tt, neD_tt]
  refine take_ok (by omega) (by omega) fun i i0 i1 => ?_
  dsimp only [gSeq, gSet, gVar, gVarB, gC, gBin, gChain, gTB, gIf, gIfS, gRet, gCall, gCallF, gCo, gN, gTup, gLst, gL, gNotT, gNotV, gAndT, gOrT, gAndV, gOrV, gIsi, gSl, gPart, gNo, gM0, gM1, gFn, gAn, gAd, gAp, gAs, gAsg, gTo, gToT, gToC, gTo0, gNext, gNeg, gPs0, gTick, gPix, gLenS, gIxS, gSumS, gLRg, gPar, gDic0, gDic1, gYes, gSeqI, gRg1, gRg2, gRetN, gSetF, gApp, gExt, gDrop, gFrz, gLcC_x, gForC_x, gRev, revD, gPar3F, gOff, gOffS, gBreak, gCont, clr, startD, nth, List.set, addD_ii, addD_ss, addD_ll, addD_tt, subD_ii, mulD_ii, mulD_si, mulD_li, fdivD_ii, modD_ii, powD_ii, eqD_ii, eqD_ss, eqD_bb, neD_ii, neD_ss, neD_bb, ltD_ii, ltD_ss, leD_ii, gtD_ii, geD_ii, isD_bb, isnotD_bb, inD_ss, notinD_ss, ixD_l, ixD_t, ixD_s, slD_t, slD_s, slD_l, lenD_s, lenD_l, lenD_t, tupD_l, tupD_t, listD_l, listD_t, allD_l, anyD_l, sumD_l, maxD_ii, minD_ii, maxD_l, minD_l, absD_i, gcdD_ii, intD_i, intD_b, intD_s, strD_i, strD_s, reprD_1, joinD_l, splitD_s, eqD_tt, neD_tt]
  have hL : 1 ≤ 1 + i ∧ 1 + i ≤ 40 := by omega
  generalize hl : 1 + i = low at *
  have s2 : Sz 60 2 := lit
  have sLo : Sz 60 low := Sz.of_range (by omega) (by omega)
  refine ⟨Sz.mulOk s2 sLo, take_ok (by omega) (by omega) fun top t0 t1 => ?_⟩
  refine take_ok (by decide) (by decide) fun j j0 j1 => ?_
  refine ⟨sl (n := 3) (by decide), of_ok (by simp) (show 3 < 2 ^ 24 by decide) fun z hz => ?_⟩
  obtain ⟨n, rfl, n0, n1⟩ : ∃ n : Int, z = .int n ∧ 1 ≤ n ∧ n ≤ 60 := by
    simp only [List.mem_cons, List.not_mem_nil, or_false] at hz
    rcases hz with rfl | rfl | rfl <;> exact ⟨_, rfl, by decide, by decide⟩
  refine take_ok (by omega) (by omega) fun k k0 k1 => ⟨sl (n := 2) (by decide), ?_⟩
  have hw0 : 1 ≤ 1 + j ∧ 1 + j ≤ 3 := by omega
  have hw1 : 1 ≤ 1 + k ∧ 1 + k ≤ 60 := by omega
  generalize 1 + j = w0 at *
  generalize 1 + k = w1 at *
  have sT : Sz 60 top := Sz.of_range t0 (by omega)
  have sw0 : Sz 60 w0 := Sz.of_range (by omega) (by omega)
  have sw1 : Sz 60 w1 := Sz.of_range (by omega) (by omega)
  obtain ⟨a, b, g, ea, eb, g0, xa, yb, a0, a1, b0, b1, gab⟩ := cut_facts t0 hL.1
  refine cut_ok hL.1 (sT.le (by decide)) (sLo.le (by decide)) ?_
  rw [ea, eb]
  have m1 := Int.mul_nonneg t0 (show 0 ≤ w1 by omega)
  have m2 := Int.mul_pos (show 0 < w0 by omega) (show 0 < low by omega)
  have m3 := Int.mul_pos (show 0 < low by omega) (show 0 < w1 by omega)
  have u1 : top * w1 ≤ 80 * 60 := Int.le_trans (Int.mul_le_mul_of_nonneg_left hw1.2 t0) (Int.mul_le_mul_of_nonneg_right (by omega) (by decide))
  have u2 : w0 * low ≤ 3 * 40 := Int.le_trans (Int.mul_le_mul_of_nonneg_left hL.2 (by omega)) (Int.mul_le_mul_of_nonneg_right (by omega) (by decide))
  have u3 : low * w1 ≤ 40 * 60 := Int.le_trans (Int.mul_le_mul_of_nonneg_left hw1.2 (by omega)) (Int.mul_le_mul_of_nonneg_right (by omega) (by decide))
  obtain ⟨c, d, h', ec, ed, h0', xc, yd, c0, c1, d0, d1, gcd⟩ := cut_facts (x := top * w1 + w0 * low) (y := low * w1) (by omega) (by omega)
  refine ⟨_, rfl, Sz.mulOk sT sw1, _, rfl, Sz.mulOk sw0 sLo, _, rfl, Sz.mulOk sLo sw1, cut_ok (by omega) (Sz.of_range (by omega) (by omega)) (Sz.of_range (by omega) (by omega)) ?_⟩
  rw [ec, ed]
  have hlt : a * d < c * b := by
    have e : (c * b - a * d) * (g * h') = w0 * low * low := by
      have e1 : (c * h') * (b * g) - (a * g) * (d * h') = (top * w1 + w0 * low) * low - top * (low * w1) := by rw [← xc, ← yd, ← xa, ← yb]
      grind
    have p1 := Int.mul_pos m2 (show 0 < low by omega)
    have p2 := Int.mul_pos (show 0 < g by omega) (show 0 < h' by omega)
    rw [← e, Int.mul_comm] at p1
    have := pos_of p2 p1
    omega
  refine st1_ok ?_ fun x y => ?_
  · exact h ⟨a, b, true, some (a, b), true⟩ _ _ _ _ (str_one a0 b0 gab (by omega) (by omega))
  · exact h ⟨a, b, x, some (c, d), y⟩ _ _ _ _ (str_of a0 b0 gab d0 gcd hlt (by omega) (by omega) (by omega) c0 (by omega))
end K83
/-! K83t: values bent; values of any kind. -/
namespace K83
open PySem DL
variable {K : D → Prop} {E : Value → D → Prop}
/-- values without dicts, of numbers that are not great, of at most so many levels -/
inductive Pl : Nat → D → Prop
  | non {n : Nat} : Pl n .none
  | bl {n : Nat} {b : Bool} : Pl n (.bool b)
  | int {n : Nat} {i : Int} : Sz 60 i → Pl n (.int i)
  | str {n : Nat} {x : Str} : PyData.strOk x = true → Pl n (.str x)
  | tup {n : Nat} {xs : List D} : (∀ x ∈ xs, Pl n x) → Pl (n + 1) (.tuple xs)
  | lst {n : Nat} {xs : List D} : (∀ x ∈ xs, Pl n x) → Pl (n + 1) (.list xs)
theorem Pl.up {n : Nat} {d : D} (h : Pl n d) : Pl (n + 1) d := by
  induction h with
  | non => exact .non
  | bl => exact .bl
  | int h => exact .int h
  | str h => exact .str h
  | tup _ ih => exact .tup ih
  | lst _ ih => exact .lst ih
theorem lay_all {n : Nat} : ∀ {xs : List D}, (∀ x ∈ xs, x.canLay0 = true ∧ x.depth ≤ n) → PyData.canLayAll0 xs = true ∧ PyData.depthAll xs ≤ n
  | [], _ => ⟨rfl, Nat.zero_le _⟩
  | x :: xs, h => by
    have ⟨h1, h2⟩ := h x List.mem_cons_self
    have ⟨h3, h4⟩ := lay_all fun y hy => h y (List.mem_cons_of_mem _ hy)
    exact ⟨by rw [PyData.canLayAll0, h1, h3]; rfl, by rw [PyData.depthAll]; exact Nat.max_le.mpr ⟨h2, h4⟩⟩
theorem Pl.lay {n : Nat} {d : D} (h : Pl n d) : d.canLay0 = true ∧ d.depth ≤ n := by
  induction h with
  | non => exact ⟨rfl, Nat.zero_le _⟩
  | bl => exact ⟨rfl, Nat.zero_le _⟩
  | int h => exact ⟨rfl, Nat.zero_le _⟩
  | str h => exact ⟨by rw [PyData.canLay0]; exact h, Nat.zero_le _⟩
  | tup _ ih =>
    have ⟨h1, h2⟩ := lay_all ih
    exact ⟨by rw [PyData.canLay0]; exact h1, by rw [PyData.depth]; omega⟩
  | lst _ ih =>
    have ⟨h1, h2⟩ := lay_all ih
    exact ⟨by rw [PyData.canLay0]; exact h1, by rw [PyData.depth]; omega⟩
theorem Pl.shaped {n : Nat} {d : D} (h : Pl n d) (hn : n ≤ 60) : SeqAt.shaped d = true := by
  have ⟨h1, h2⟩ := h.lay
  show (d.canLay0 && decide (d.depth ≤ 64)) = true
  rw [h1, decide_eq_true (show d.depth ≤ 64 by omega)]
  rfl
theorem Pl.items {n : Nat} {xs : List D} (h : Pl n (.tuple xs)) : ∃ m, m + 1 = n ∧ ∀ x ∈ xs, Pl m x := by
  cases h with
  | tup h => exact ⟨_, rfl, h⟩
theorem Pl.sz {n : Nat} {i : Int} (h : Pl n (.int i)) : Sz 60 i := by
  cases h with
  | int h => exact h
theorem Pl.pair {n : Nat} {p q : Int} (h : Pl n (frD p q)) : Sz 60 p ∧ Sz 60 q := by
  obtain ⟨m, _, h⟩ := h.items
  exact ⟨(h (.int p) (by simp)).sz, (h (.int q) (by simp)).sz⟩
theorem fit_of {n m : Nat} {f paper : D} (hf : ∀ p q, f = frD p q → Sz 60 p ∧ Sz 60 q) (hp : Pl m paper) (hm : m ≤ 60) : Fit f paper :=
  ⟨hf, hp.shaped hm, fun o b t i z => by
    subst z
    obtain ⟨k, _, h⟩ := hp.items
    have h1 := (h (frD o b) (by simp)).pair
    have h2 := (h (frD t i) (by simp)).pair
    exact ⟨h1.1, h1.2, h2.1, h2.2⟩⟩
theorem fit_tup {n : Nat} {f paper : D} (h : Pl n (.tuple [f, paper])) (hn : n ≤ 60) : Fit f paper := by
  obtain ⟨m, e, h⟩ := h.items
  refine fit_of (n := 0) (fun p q z => ?_) (h paper (by simp)) (by omega)
  subst z
  exact (h (frD p q) (by simp)).pair
theorem fit_edge {n : Nat} {q p : Int} {paper : D} (h : Pl n (.tuple [.int q, .int p, paper])) (hn : n ≤ 60) : Fit (frD p q) paper := by
  obtain ⟨m, e, h⟩ := h.items
  refine fit_of (n := 0) (fun p' q' z => ?_) (h paper (by simp)) (by omega)
  cases z
  exact ⟨(h (.int p) (by simp)).sz, (h (.int q) (by simp)).sz⟩
/-- tuples of numbers -/
inductive Tl : Nat → D → Prop
  | int {n : Nat} {i : Int} : Sz 50 i → Tl n (.int i)
  | tup {n : Nat} {xs : List D} : (∀ x ∈ xs, Tl n x) → xs.length ≤ 10 → Tl (n + 1) (.tuple xs)
theorem Tl.pl {n : Nat} {d : D} (h : Tl n d) : Pl n d := by
  induction h with
  | int h => exact .int (h.le (by decide))
  | tup _ _ ih => exact .tup ih
theorem cut_mem {xs : List D} {lo hi : Option Int} {x : D} (h : x ∈ cutL xs lo hi) : x ∈ xs := by
  unfold cutL at h
  exact List.mem_of_mem_drop (List.mem_of_mem_take h)
theorem str_int (v : Int) : PyData.strOk (toString v : Str) = true := by
  have key : ∀ c ∈ (toString v : Str).cps.toList, c < 0x110000 := by
    by_cases z : 0 ≤ v
    · obtain ⟨n, rfl⟩ := Int.eq_ofNat_of_zero_le z
      intro c hc
      rw [show (Str.ofString (toString ((n : Nat) : Int))).cps.toList = TL.numL n from TL.tl_num n] at hc
      have := TL.numL_digits n c hc
      omega
    · obtain ⟨n, rfl, hn0⟩ : ∃ n : Nat, v = -(n : Int) ∧ 0 < n := ⟨v.natAbs, by omega, by omega⟩
      obtain ⟨m, rfl⟩ : ∃ m, n = m + 1 := ⟨n - 1, by omega⟩
      have e : (Str.ofString (toString (-((m + 1 : Nat) : Int)))).cps.toList = 45 :: TL.numL (m + 1) := by
        have e : toString (-((m + 1 : Nat) : Int)) = "-" ++ Nat.repr (m + 1) := rfl
        rw [e, PyProof.Rows.signs_ofString]
        simp [TL.numL, Nat.toList_repr]
      intro c hc
      rw [e] at hc
      rcases List.mem_cons.mp hc with h | h
      · omega
      · have := TL.numL_digits (m + 1) c h
        omega
  unfold PyData.strOk
  rw [← Array.all_toList, List.all_eq_true]
  exact fun c hc => decide_eq_true (key c hc)
section
variable {s1 s2 s3 : Sv} {Fr : FSp} {D' : DEnds} {v : Int} {xs : List D} {n : Nat}
theorem bentI_gen (lg : v.natAbs.log2 < 1920) (h : ∀ x ∈ [PyData.int (v + 1), PyData.int (v - 1), PyData.bool (decide (v = 1)), PyData.str (Str.ofString (toString v)), PyData.none, PyData.int 0, PyData.int (-v), PyData.int (v + 3)], D'.rt x) : R__law_bent_4 Fr E D' [.pot, .dat (.int v), .un, .un] := by
  unfold R__law_bent_4
  exact ⟨fun _ => ⟨fun _ => ⟨lg, sl (n := 8) (by decide), of_ok (by simp) (show 8 < 2 ^ 24 by decide) h⟩, fun z => (nomatch z)⟩, fun z => (nomatch z)⟩
theorem bentI_ok (hv : Sz 50 v) (h : ∀ d, Pl 1 d → D'.rt d) : R__law_bent_4 Fr E D' [.pot, .dat (.int v), .un, .un] := by
  have s1 : Sz 50 1 := lit
  have s3 : Sz 50 3 := lit
  have a1 := (hv.add s1).le (show _ ≤ 60 by decide)
  have a2 : Sz 60 (v - 1) := by
    have := (hv.add (lit (b := 50) (i := -1))).le (show _ ≤ 60 by decide)
    rwa [← Int.sub_eq_add_neg] at this
  have a3 := (hv.add s3).le (show _ ≤ 60 by decide)
  have a4 := hv.neg.le (show _ ≤ 60 by decide)
  have lg := hv.log
  refine bentI_gen (by omega) fun x hx => h x ?_
  simp only [List.mem_cons, List.not_mem_nil, or_false] at hx
  rcases hx with rfl | rfl | rfl | rfl | rfl | rfl | rfl | rfl
  · exact .int a1
  · exact .int a2
  · exact .bl
  · exact .str (str_int v)
  · exact .non
  · exact .int (lit (b := 60))
  · exact .int a4
  · exact .int a3
theorem bentT_gen (z1 : xs.length + (cutL xs (some (-1)) none).length ≤ sizeLine) (z2 : xs.length + 1 ≤ sizeLine) (h : ∀ x ∈ [PyData.list xs, .tuple (cutL xs (some 1) none), .tuple (cutL xs none (some (-1))), .tuple (xs ++ cutL xs (some (-1)) none), .tuple xs.reverse, .tuple [], .none, .tuple (xs ++ [.int 0])], D'.rt x) : R__law_bent_5 Fr E D' [.pot, .dat (.tuple xs), .un, .un] := by
  unfold R__law_bent_5 R__law_bent_1
  exact ⟨fun _ => ⟨z1, sl (n := 0) (by decide), sl (n := 1) (by decide), z2, sl (n := 8) (by decide), of_ok (by simp) (show 8 < 2 ^ 24 by decide) h⟩, fun z => (nomatch z)⟩
theorem bentT_ok (hx : ∀ x ∈ xs, Pl n x) (hl : xs.length ≤ 10) (h : ∀ d, Pl (n + 2) d → D'.rt d) : R__law_bent_5 Fr E D' [.pot, .dat (.tuple xs), .un, .un] := by
  have t : ∀ {ys : List D}, (∀ y ∈ ys, y ∈ xs) → Pl (n + 2) (.tuple ys) := fun hy => .tup fun y z => (hx y (hy y z)).up
  have l1 := cutL_len xs (some (-1)) none
  refine bentT_gen (by rw [sizeLine_eq]; omega) (by rw [sizeLine_eq]; omega) fun x hm => h x ?_
  simp only [List.mem_cons, List.not_mem_nil, or_false] at hm
  rcases hm with rfl | rfl | rfl | rfl | rfl | rfl | rfl | rfl
  · exact .lst fun y z => (hx y z).up
  · exact t fun y z => cut_mem z
  · exact t fun y z => cut_mem z
  · exact t fun y z => (List.mem_append.mp z).elim id cut_mem
  · exact t fun y z => List.mem_reverse.mp z
  · exact .tup fun y z => by cases z
  · exact .non
  · refine .tup fun y z => (List.mem_append.mp z).elim (fun w => (hx y w).up) fun w => ?_
    rw [List.mem_singleton.mp w]
    exact .int (lit (b := 60))
theorem eqv_len : ∀ {xs : List D}, xs ≠ [] → PyData.eqv (.tuple xs) (.tuple []) = false
  | [], h => absurd rfl h
  | x :: xs, _ => by rw [eqv_unit]; rfl
end
theorem bent_ok : ∀ (n : Nat) (d : D), Tl n d → n ≤ 40 → ∀ {K : D → Prop}, (∀ d', Pl (n + 2) d' → K d') → V__law_bent (n + 1) [.pot, .dat d] K E := by
  intro n d hd
  induction hd with
  | int hi =>
    rename_i n i
    intro hn K h
    show specOf 2 N__law_bent (G__law_bent (V__law_bent n)) _ K E
    unfold specOf G__law_bent N__law_bent
    refine ⟨rfl, ?_⟩
    have four : R__law_bent_4 (V__law_bent n) E { nx := fun _ => K .none, rt := K } [.pot, .dat (.int i), .un, .un] := bentI_ok hi fun d hd => h d ?_
    · have five : R__law_bent_5 (V__law_bent n) E { nx := fun _ => K .none, rt := K } [.pot, .dat (.int i), .un, .un] := by
        unfold R__law_bent_5
        exact ⟨fun z => (nomatch z), fun _ => four⟩
      exact ⟨fun z => (nomatch z), fun _ => ⟨fun z => (nomatch z), fun _ => five⟩⟩
    clear h
    have : ∀ m, Pl (m + 1) d := fun m => by
      induction m with
      | zero => exact hd
      | succ m ih => exact ih.up
    exact this (n + 1)
  | tup hx hl ih =>
    rename_i n xs
    intro hn K h
    have hp : ∀ x ∈ xs, Pl n x := fun x m => (hx x m).pl
    have fall : R__law_bent_5 (V__law_bent (n + 1)) E { nx := fun _ => K .none, rt := K } [.pot, .dat (.tuple xs), .un, .un] := bentT_ok hp hl fun d hd => h d hd.up
    show specOf 2 N__law_bent (G__law_bent (V__law_bent (n + 1))) _ K E
    unfold specOf G__law_bent N__law_bent
    refine ⟨rfl, ?_⟩
    dsimp only [gSeq, gSet, gVar, gVarB, gC, gBin, gChain, gTB, gIf, gIfS, gRet, gCall, gCallF, gCo, gN, gTup, gLst, gL, gNotT, gNotV, gAndT, gOrT, gAndV, gOrV, gIsi, gSl, gPart, gNo, gM0, gM1, gFn, gAn, gAd, gAp, gAs, gAsg, gTo, gToT, gToC, gTo0, gNext, gNeg, gPs0, gTick, gPix, gLenS, gIxS, gSumS, gLRg, gPar, gDic0, gDic1, gYes, gSeqI, gRg1, gRg2, gRetN, gSetF, gApp, gExt, gDrop, gFrz, gLcC_x, gForC_x, gRev, revD, gPar3F, gOff, gOffS, gBreak, gCont, clr, startD, nth, List.set, addD_ii, addD_ss, addD_ll, addD_tt, subD_ii, mulD_ii, mulD_si, mulD_li, fdivD_ii, modD_ii, powD_ii, eqD_ii, eqD_ss, eqD_bb, neD_ii, neD_ss, neD_bb, ltD_ii, ltD_ss, leD_ii, gtD_ii, geD_ii, isD_bb, isnotD_bb, inD_ss, notinD_ss, ixD_l, ixD_t, ixD_s, slD_t, slD_s, slD_l, lenD_s, lenD_l, lenD_t, tupD_l, tupD_t, listD_l, listD_t, allD_l, anyD_l, sumD_l, maxD_ii, minD_ii, maxD_l, minD_l, absD_i, gcdD_ii, intD_i, intD_b, intD_s, strD_i, strD_s, reprD_1, joinD_l, splitD_s, eqD_tt, neD_tt, isTupD]
    have sh : SeqAt.shaped (.tuple xs) = true := (Pl.tup hp).shaped (n := n + 1) (by omega)
    refine ⟨fun _ => ⟨sl (n := 0) (by decide), sh, rfl, ?_⟩, fun z => (nomatch z)⟩
    by_cases z : xs = []
    · subst z
      exact ⟨fun w => (nomatch w), fun _ => ⟨fun w => (nomatch w), fun _ => fall⟩⟩
    · rw [eqv_len z]
      refine ⟨fun _ => take_ok (by decide) (by decide) fun i i0 i1 => ?_, fun w => (nomatch w)⟩
      refine ⟨fun _ => ?_, fun _ => fall⟩
      have hlen : 0 < xs.length := List.length_pos_iff.mpr z
      refine take_ok (by omega) (by omega) fun j j0 j1 => ?_
      unfold R__law_bent_0
      dsimp only [gSeq, gSet, gVar, gVarB, gC, gBin, gChain, gTB, gIf, gIfS, gRet, gCall, gCallF, gCo, gN, gTup, gLst, gL, gNotT, gNotV, gAndT, gOrT, gAndV, gOrV, gIsi, gSl, gPart, gNo, gM0, gM1, gFn, gAn, gAd, gAp, gAs, gAsg, gTo, gToT, gToC, gTo0, gNext, gNeg, gPs0, gTick, gPix, gLenS, gIxS, gSumS, gLRg, gPar, gDic0, gDic1, gYes, gSeqI, gRg1, gRg2, gRetN, gSetF, gApp, gExt, gDrop, gFrz, gLcC_x, gForC_x, gRev, revD, gPar3F, gOff, gOffS, gBreak, gCont, clr, startD, nth, List.set, addD_ii, addD_ss, addD_ll, addD_tt, subD_ii, mulD_ii, mulD_si, mulD_li, fdivD_ii, modD_ii, powD_ii, eqD_ii, eqD_ss, eqD_bb, neD_ii, neD_ss, neD_bb, ltD_ii, ltD_ss, leD_ii, gtD_ii, geD_ii, isD_bb, isnotD_bb, inD_ss, notinD_ss, ixD_l, ixD_t, ixD_s, slD_t, slD_s, slD_l, lenD_s, lenD_l, lenD_t, tupD_l, tupD_t, listD_l, listD_t, allD_l, anyD_l, sumD_l, maxD_ii, minD_ii, maxD_l, minD_l, absD_i, gcdD_ii, intD_i, intD_b, intD_s, strD_i, strD_s, reprD_1, joinD_l, splitD_s, eqD_tt, neD_tt]
      have hj : j.toNat < xs.length := by omega
      have e := L2.atI_nat (List.getElem?_eq_getElem hj)
      rw [Int.toNat_of_nonneg j0] at e
      have c1 := cutL_len xs none (some j)
      have c2 := cutL_len xs (some (j + 1)) none
      refine ⟨_, e, ih _ (List.getElem_mem hj) (by omega) fun d' hd' => ⟨sl (n := 1) (by decide), by rw [sizeLine_eq]; show _ + 1 ≤ _; omega, by rw [sizeLine_eq, List.length_append]; show _ + 1 + _ ≤ _; omega, h _ (.tup fun y m => ?_)⟩⟩
      rcases List.mem_append.mp m with m | m
      · rcases List.mem_append.mp m with m | m
        · exact (hp y (cut_mem m)).up.up
        · rw [List.mem_singleton.mp m]
          exact hd'
      · exact (hp y (cut_mem m)).up.up
def Vl (d : D) : Prop := isTupD d = false ∨ ∃ n, n ≤ 20 ∧ Pl n d
theorem Vl.fit {d : D} (h : Vl d) : ∀ f paper, d = .tuple [f, paper] → Fit f paper := fun f paper z => by
  subst z
  rcases h with h | ⟨n, hn, h⟩
  · cases h
  · exact fit_tup h (by omega)
theorem Vl.fit3 {d : D} (h : Vl d) : ∀ q p paper, d = .tuple [.int q, .int p, paper] → Fit (frD p q) paper := fun q p paper z => by
  subst z
  rcases h with h | ⟨n, hn, h⟩
  · cases h
  · exact fit_edge h (by omega)
theorem pl_nil {n : Nat} : Pl (n + 1) (.tuple []) := .tup fun y z => by cases z
theorem pl_1 {n : Nat} {a : D} (h : Pl n a) : Pl (n + 1) (.tuple [a]) := .tup fun y z => by
  rw [List.mem_singleton.mp z]
  exact h
theorem pl_2 {n : Nat} {a b : D} (h : Pl n a) (k : Pl n b) : Pl (n + 1) (.tuple [a, b]) := .tup fun y z => by
  simp only [List.mem_cons, List.not_mem_nil, or_false] at z
  rcases z with rfl | rfl
  · exact h
  · exact k
theorem pl_3 {n : Nat} {a b c : D} (h : Pl n a) (k : Pl n b) (l : Pl n c) : Pl (n + 1) (.tuple [a, b, c]) := .tup fun y z => by
  simp only [List.mem_cons, List.not_mem_nil, or_false] at z
  rcases z with rfl | rfl | rfl
  · exact h
  · exact k
  · exact l
theorem odd_ok (h : ∀ d, Vl d → K d) : F__law_odd [.pot] K E := by
  unfold F__law_odd specOf G__law_odd N__law_odd
  refine ⟨rfl, ?_⟩
  unfold R__law_odd_1 R__law_odd_0
  dsimp only [gSeq, gSet, gVar, gVarB, gC, gBin, gChain, gTB, gIf, gIfS, gRet, gCall, gCallF, gCo, gN, gTup, gLst, gL, gNotT, gNotV, gAndT, gOrT, gAndV, gOrV, gIsi, gSl, gPart, gNo, gM0, gM1, gFn, gAn, gAd, gAp, gAs, gAsg, gTo, gToT, gToC, gTo0, gNext, gNeg, gPs0, gTick, gPix, gLenS, gIxS, gSumS, gLRg, gPar, gDic0, gDic1, gYes, gSeqI, gRg1, gRg2, gRetN, gSetF, gApp, gExt, gDrop, gFrz, gLcC_x, gForC_x, gRev, revD, gPar3F, gOff, gOffS, gBreak, gCont, clr, startD, nth, List.set, addD_ii, addD_ss, addD_ll, addD_tt, subD_ii, mulD_ii, mulD_si, mulD_li, fdivD_ii, modD_ii, powD_ii, eqD_ii, eqD_ss, eqD_bb, neD_ii, neD_ss, neD_bb, ltD_ii, ltD_ss, leD_ii, gtD_ii, geD_ii, isD_bb, isnotD_bb, inD_ss, notinD_ss, ixD_l, ixD_t, ixD_s, slD_t, slD_s, slD_l, lenD_s, lenD_l, lenD_t, tupD_l, tupD_t, listD_l, listD_t, allD_l, anyD_l, sumD_l, maxD_ii, minD_ii, maxD_l, minD_l, absD_i, gcdD_ii, intD_i, intD_b, intD_s, strD_i, strD_s, reprD_1, joinD_l, splitD_s, eqD_tt, neD_tt]
  refine ⟨sl (n := 0) (by decide), sl (n := 0) (by decide), sl (n := 1) (by decide), sl (n := 0) (by decide), sl (n := 1) (by decide), sl (n := 1) (by decide), sl (n := 20) (by decide), (show 1 < 2 by decide), sl (n := 1) (by decide), sl (n := 2) (by decide), sl (n := 2) (by decide), sl (n := 1) (by decide), sl (n := 3) (by decide), by decide, by decide +kernel, sl (n := 6) (by decide), sl (n := 26) (by decide), ?_⟩
  have sa : ∀ {n : Nat}, Pl n (.str (Str.ofString "a")) := .str (by decide +kernel)
  have sb : ∀ {n : Nat}, Pl n (.str (Str.ofString "b")) := .str (by decide +kernel)
  have nn : ∀ {n : Nat}, Pl n (.int 0) := .int (lit (b := 60))
  have n1 : ∀ {n : Nat}, Pl n (.int 1) := .int (lit (b := 60))
  have n2 : ∀ {n : Nat}, Pl n (.int 2) := .int (lit (b := 60))
  refine of_ok (by simp) (show 26 < 2 ^ 24 by decide) fun x hx => h x ?_
  simp only [List.mem_append, List.mem_cons, List.not_mem_nil, or_false] at hx
  rcases hx with (rfl | rfl | rfl | rfl | rfl | rfl | rfl | rfl | rfl | rfl | rfl | rfl | rfl | rfl | rfl | rfl | rfl | rfl | rfl | rfl) | (rfl | rfl | rfl | rfl | rfl | rfl)
  · exact .inl rfl
  · exact .inl rfl
  · exact .inl rfl
  · exact .inl rfl
  · exact .inl rfl
  · exact .inl rfl
  · exact .inl rfl
  · exact .inl rfl
  · exact .inl rfl
  · exact .inl rfl
  · exact .inl rfl
  · exact .inl rfl
  · exact .inl rfl
  · exact .inl rfl
  · exact .inr ⟨1, by decide, pl_nil⟩
  · exact .inl rfl
  · exact .inl rfl
  · exact .inr ⟨1, by decide, pl_1 nn⟩
  · exact .inr ⟨2, by decide, pl_1 pl_nil⟩
  · exact .inl rfl
  · exact .inr ⟨1, by decide, pl_1 sa⟩
  · exact .inr ⟨1, by decide, pl_2 sa sb⟩
  · exact .inr ⟨1, by decide, pl_2 n1 n2⟩
  · exact .inr ⟨1, by decide, pl_1 .non⟩
  · exact .inr ⟨1, by decide, pl_3 sa sb n1⟩
  · exact .inl rfl
end K83
/-! K83m: the plain law: the law. -/
namespace K83
open PySem DL
variable {K : D → Prop} {E : Value → D → Prop}
theorem run_ex : ∀ (n : Nat) (S : Sp) (P Q : Int), Good S P Q → ms S ≤ n → ∃ ws f, Run S ws f
  | 0, S, P, Q, G, h => by
    exfalso
    unfold ms at h
    have := G.b0
    split at h
    · omega
    · rename_i c d e
      have := (G.hi c d e).1
      omega
  | n + 1, S, P, Q, G, h => by
    by_cases z : In S (fi S) 1
    · exact ⟨[], _, .stop z⟩
    · obtain ⟨_, c, d, e, _⟩ := fi_out G z
      have ⟨m1, _, _⟩ := ms_nx G z e
      obtain ⟨ws, f, r⟩ := run_ex n (nx S c d) Q _ (good_nx G z e) (by omega)
      exact ⟨wh S :: ws, f, .step z e r⟩
theorem best_ex {S : Sp} {c d P Q : Int} (T : Stre S c d P Q) : ∃ p q, Best S p q ∧ p ≤ 20000 ∧ q < 4000 := by
  obtain ⟨ws, f, r⟩ := run_ex 100000 S P Q T.g T.m
  have b := best_run r T.g
  have := b.least P Q T.g.w T.g.q0
  have := T.p
  have := T.q
  exact ⟨_, _, b, by omega, by omega⟩
theorem best_one {S : Sp} {p q x y : Int} (b : Best S p q) (b2 : Best S x y) : x = p ∧ y = q := by
  have h1 := b.least x y b2.inn b2.q1
  have h2 := b2.least p q b.inn b.q1
  exact ⟨by omega, by omega⟩
/-! ### shown -/
structure Sho (d : D) (n : Nat) : Prop where
  l : d.canLay0 = true
  s : d.showable = true
  dp : d.depth ≤ 90
  z : d.shown.length ≤ n
theorem Sho.big {d : D} {n : Nat} (h : Sho d n) (hn : n ≤ 100000) : d.shown.length ≤ sizeLine := by
  have := h.z
  rw [sizeLine_eq]
  omega
theorem log_sz {a : Int} (h : Sz 60 a) : a.natAbs.log2 < 1900 := by
  have := h.log
  omega
theorem int_len {a : Int} (h : Sz 60 a) : (toString a : Str).length ≤ 1902 := by
  have l1 := PySem.int_text_length_le (a := a) (k := 1900) (by decide) (log_sz h)
  have m1 : (toString a : Str).length = (toString a : String).length := PySem.ofString_length _
  omega
theorem fr_sho {p q : Int} (sp : Sz 60 p) (sq : Sz 60 q) : Sho (frD p q) 4000 := by
  have l1 := log_sz sp
  have l2 := log_sz sq
  refine ⟨rfl, ?_, (show 1 ≤ 90 by decide), ?_⟩
  · simp only [PyData.showable, PyData.showableAll, Bool.and_true, Bool.and_eq_true, decide_eq_true_eq]
    omega
  · have i1 := int_len sp
    have i2 := int_len sq
    simp only [PyData.shown, PyData.shownAll]
    have := PySem.tupleText_len_le [(toString p : Str), (toString q : Str)]
    simp only [List.map_cons, List.map_nil, List.sum_cons, List.sum_nil, List.length_cons, List.length_nil] at this
    omega
theorem shown_2 {a b : D} {n m : Nat} (h : a.shown.length ≤ n) (k : b.shown.length ≤ m) : (PyData.tuple [a, b]).shown.length ≤ n + m + 20 := by
  simp only [PyData.shown, PyData.shownAll]
  have := PySem.tupleText_len_le [a.shown, b.shown]
  simp only [List.map_cons, List.map_nil, List.sum_cons, List.sum_nil, List.length_cons, List.length_nil] at this
  omega
theorem shown_3 {a b c : D} {n m l : Nat} (h : a.shown.length ≤ n) (k : b.shown.length ≤ m) (j : c.shown.length ≤ l) : (PyData.tuple [a, b, c]).shown.length ≤ n + m + l + 20 := by
  simp only [PyData.shown, PyData.shownAll]
  have := PySem.tupleText_len_le [a.shown, b.shown, c.shown]
  simp only [List.map_cons, List.map_nil, List.sum_cons, List.sum_nil, List.length_cons, List.length_nil] at this
  omega
theorem sz_small {i : Int} (h0 : 0 ≤ i) (h : i ≤ 30000) : Sz 50 i := Sz.of_range h0 (by omega)
theorem par_sz {p q l0 l1 r0 r1 : Int} (hp : p ≤ 20000) (hq : q ≤ 20000) (a1 : 0 ≤ l0) (a2 : 1 ≤ l1) (a3 : 1 ≤ r0) (a4 : 0 ≤ r1) (a6 : l0 + r0 = p) (a7 : l1 + r1 = q) : Sz 50 l0 ∧ Sz 50 l1 ∧ Sz 50 r0 ∧ Sz 50 r1 :=
  ⟨sz_small a1 (by omega), sz_small (by omega) (by omega), sz_small (by omega) (by omega), sz_small a4 (by omega)⟩
theorem tl_fr {n : Nat} {p q : Int} (sp : Sz 50 p) (sq : Sz 50 q) : Tl (n + 1) (frD p q) := .tup (fun x hx => by
  simp only [List.mem_cons, List.not_mem_nil, or_false] at hx
  rcases hx with rfl | rfl
  · exact .int sp
  · exact .int sq) (show 2 ≤ 10 by decide)
theorem par_tl {p q : Int} {par : D} (hp : p ≤ 20000) (hq : q ≤ 20000) (P : Par p q par) : Tl 2 par := by
  cases P with
  | one h => exact .tup (fun x hx => by cases hx) (show 0 ≤ 10 by decide)
  | two h a1 a2 a3 a4 a5 a6 a7 =>
    obtain ⟨z1, z2, z3, z4⟩ := par_sz hp hq a1 a2 a3 a4 a6 a7
    exact .tup (fun x hx => by
      simp only [List.mem_cons, List.not_mem_nil, or_false] at hx
      rcases hx with rfl | rfl
      · exact tl_fr z1 z2
      · exact tl_fr z3 z4) (show 2 ≤ 10 by decide)
theorem par_tup {p q : Int} {par : D} (P : Par p q par) : ∃ xs, par = .tuple xs := by
  cases P with
  | one h => exact ⟨_, rfl⟩
  | two h a1 a2 a3 a4 a5 a6 a7 => exact ⟨_, rfl⟩
theorem par_sho {p q : Int} {par : D} (hp : p ≤ 20000) (hq : q ≤ 20000) (P : Par p q par) : Sho par 9000 ∧ par.depth ≤ 2 := by
  cases P with
  | one h => exact ⟨⟨rfl, rfl, (show 1 ≤ 90 by decide), by decide +kernel⟩, (show 1 ≤ 2 by decide)⟩
  | two h a1 a2 a3 a4 a5 a6 a7 =>
    rename_i l0 l1 r0 r1
    obtain ⟨z1, z2, z3, z4⟩ := par_sz hp hq a1 a2 a3 a4 a6 a7
    have f1 := fr_sho (z1.le (show 50 ≤ 60 by decide)) (z2.le (show 50 ≤ 60 by decide))
    have f2 := fr_sho (z3.le (show 50 ≤ 60 by decide)) (z4.le (show 50 ≤ 60 by decide))
    refine ⟨⟨rfl, ?_, (show 2 ≤ 90 by decide), ?_⟩, (show 2 ≤ 2 by decide)⟩
    · have h1 := f1.s
      have h2 := f2.s
      show PyData.showable (.tuple [frD l0 l1, frD r0 r1]) = true
      rw [PyData.showable, PyData.showableAll, PyData.showableAll, PyData.showableAll, h1, h2]
      rfl
    · exact Nat.le_trans (shown_2 f1.z f2.z) (by decide)
theorem edge_sho {p q : Int} {par : D} (sp : Sz 60 p) (sq : Sz 60 q) (h : Sho par 9000) (hd : par.depth ≤ 2) : Sho (.tuple [.int q, .int p, par]) 20000 := by
  refine ⟨?_, ?_, ?_, ?_⟩
  · rw [PyData.canLay0, PyData.canLayAll0, PyData.canLayAll0, PyData.canLayAll0, PyData.canLayAll0, h.l]
    rfl
  · rw [PyData.showable, PyData.showableAll, PyData.showableAll, PyData.showableAll, PyData.showableAll, h.s]
    have l1 := log_sz sp
    have l2 := log_sz sq
    simp only [PyData.showable, Bool.and_true, Bool.and_eq_true, decide_eq_true_eq]
    omega
  · rw [PyData.depth, PyData.depthAll, PyData.depthAll, PyData.depthAll, PyData.depthAll, PyData.depth, PyData.depth]
    omega
  · have i1 : (PyData.int q).shown.length ≤ 1902 := by
      simp only [PyData.shown]
      exact int_len sq
    have i2 : (PyData.int p).shown.length ≤ 1902 := by
      simp only [PyData.shown]
      exact int_len sp
    exact Nat.le_trans (shown_3 i1 i2 h.z) (by decide)
theorem bool_sho (b : Bool) : Sho (.bool b) 10 := by
  cases b <;> exact ⟨rfl, rfl, Nat.zero_le _, by decide +kernel⟩
theorem same {x : Str} {P Q : Prop} (h : Q) : gIte (!decide (x = x)) P Q := by
  rw [decide_eq_true rfl]
  exact ⟨fun z => (nomatch z), fun _ => h⟩
end K83
/-! K83l: the plain law: right, law. -/
namespace K83
open PySem DL
variable {K : D → Prop} {E : Value → D → Prop}
section
variable {S S2 : Sp} {c d P Q c2 d2 P2 Q2 p q p' q' : Int} {par par' x y w : D} {ds : List D} {s1 s2 s3 s4 s5 s6 s7 s8 : Sv} {D' : DEnds}
/-- what both loops ask of one value -/
theorem le_ok (T : Stre S c d P Q) {v : D} (hv : Vl v) (h : D'.nx [.pot, .dat S.D, s2, s3, s4, s5, s6, .dat v, s8]) :
    (gIfS (gTB (gBin neD (gCall reprD (gCo (gFn F_shows_edge_size E [] (gAd (gVar 1) (gAd (gVar 7) gAn))) gN)) (gCall reprD (gCo (gFn F__law_is_edge E [] (gAd (gVar 1) (gAd (gVar 7) gAn))) gN)))) (gRet (gC (.bool false))) gNext) D' [.pot, .dat S.D, s2, s3, s4, s5, s6, .dat v, s8] := by
  have b := bool_sho (edgeB S v)
  dsimp only [gSeq, gSet, gVar, gVarB, gC, gBin, gChain, gTB, gIf, gIfS, gRet, gCall, gCallF, gCo, gN, gTup, gLst, gL, gNotT, gNotV, gAndT, gOrT, gAndV, gOrV, gIsi, gSl, gPart, gNo, gM0, gM1, gFn, gAn, gAd, gAp, gAs, gAsg, gTo, gToT, gToC, gTo0, gNext, gNeg, gPs0, gTick, gPix, gLenS, gIxS, gSumS, gLRg, gPar, gDic0, gDic1, gYes, gSeqI, gRg1, gRg2, gRetN, gSetF, gApp, gExt, gDrop, gFrz, gLcC_x, gForC_x, gRev, revD, gPar3F, gOff, gOffS, gBreak, gCont, clr, startD, nth, List.set, addD_ii, addD_ss, addD_ll, addD_tt, subD_ii, mulD_ii, mulD_si, mulD_li, fdivD_ii, modD_ii, powD_ii, eqD_ii, eqD_ss, eqD_bb, neD_ii, neD_ss, neD_bb, ltD_ii, ltD_ss, leD_ii, gtD_ii, geD_ii, isD_bb, isnotD_bb, inD_ss, notinD_ss, ixD_l, ixD_t, ixD_s, slD_t, slD_s, slD_l, lenD_s, lenD_l, lenD_t, tupD_l, tupD_t, listD_l, listD_t, allD_l, anyD_l, sumD_l, maxD_ii, minD_ii, maxD_l, minD_l, absD_i, gcdD_ii, intD_i, intD_b, intD_s, strD_i, strD_s, reprD_1, joinD_l, splitD_s, eqD_tt, neD_tt]
  exact showsEdge_ok T.ok T.f hv.fit3 ⟨b.l, b.s, b.dp, b.big (by decide), isEdge_ok T.ok T.f.e hv.fit3 ⟨b.l, b.s, b.dp, b.big (by decide), same h⟩⟩
theorem ls_ok (T : Stre S c d P Q) {v : D} (hv : Vl v) (h : D'.nx [.pot, .dat S.D, s2, s3, s4, s5, s6, .dat v, s8]) :
    (gIfS (gTB (gBin neD (gCall reprD (gCo (gFn F_shows_simplest E [] (gAd (gVar 1) (gAd (gVar 7) gAn))) gN)) (gCall reprD (gCo (gFn F__law_is_shown E [] (gAd (gVar 1) (gAd (gVar 7) gAn))) gN)))) (gRet (gC (.bool false))) gNext) D' [.pot, .dat S.D, s2, s3, s4, s5, s6, .dat v, s8] := by
  have b := bool_sho (shownB S v)
  dsimp only [gSeq, gSet, gVar, gVarB, gC, gBin, gChain, gTB, gIf, gIfS, gRet, gCall, gCallF, gCo, gN, gTup, gLst, gL, gNotT, gNotV, gAndT, gOrT, gAndV, gOrV, gIsi, gSl, gPart, gNo, gM0, gM1, gFn, gAn, gAd, gAp, gAs, gAsg, gTo, gToT, gToC, gTo0, gNext, gNeg, gPs0, gTick, gPix, gLenS, gIxS, gSumS, gLRg, gPar, gDic0, gDic1, gYes, gSeqI, gRg1, gRg2, gRetN, gSetF, gApp, gExt, gDrop, gFrz, gLcC_x, gForC_x, gRev, revD, gPar3F, gOff, gOffS, gBreak, gCont, clr, startD, nth, List.set, addD_ii, addD_ss, addD_ll, addD_tt, subD_ii, mulD_ii, mulD_si, mulD_li, fdivD_ii, modD_ii, powD_ii, eqD_ii, eqD_ss, eqD_bb, neD_ii, neD_ss, neD_bb, ltD_ii, ltD_ss, leD_ii, gtD_ii, geD_ii, isD_bb, isnotD_bb, inD_ss, notinD_ss, ixD_l, ixD_t, ixD_s, slD_t, slD_s, slD_l, lenD_s, lenD_l, lenD_t, tupD_l, tupD_t, listD_l, listD_t, allD_l, anyD_l, sumD_l, maxD_ii, minD_ii, maxD_l, minD_l, absD_i, gcdD_ii, intD_i, intD_b, intD_s, strD_i, strD_s, reprD_1, joinD_l, splitD_s, eqD_tt, neD_tt]
  exact showsSimplest_ok T.ok T.f hv.fit ⟨b.l, b.s, b.dp, b.big (by decide), isShown_ok T.ok T.f.e hv.fit ⟨b.l, b.s, b.dp, b.big (by decide), same h⟩⟩
theorem bentF_ok {v : D} (hv : Tl 3 v) (h : ∀ d, Vl d → K d) : F__law_bent [.pot, .dat v] K E := by
  unfold F__law_bent
  exact bent_ok 3 v hv (by decide) fun d hd => h d (.inr ⟨5, by decide, hd⟩)
theorem r1_ok (T : Stre S c d P Q) {v : D} (hv : Tl 3 v) (hl : ds.length ≤ 40) (hd : ∀ x ∈ ds, Vl x) (h : K (.bool true)) : R__law_right_1 E (EK K) [.pot, .dat S.D, s2, s3, s4, .dat v, .own ds, s7, .un] := by
  unfold R__law_right_1
  dsimp only [gSeq, gSet, gVar, gVarB, gC, gBin, gChain, gTB, gIf, gIfS, gRet, gCall, gCallF, gCo, gN, gTup, gLst, gL, gNotT, gNotV, gAndT, gOrT, gAndV, gOrV, gIsi, gSl, gPart, gNo, gM0, gM1, gFn, gAn, gAd, gAp, gAs, gAsg, gTo, gToT, gToC, gTo0, gNext, gNeg, gPs0, gTick, gPix, gLenS, gIxS, gSumS, gLRg, gPar, gDic0, gDic1, gYes, gSeqI, gRg1, gRg2, gRetN, gSetF, gApp, gExt, gDrop, gFrz, gLcC_x, gForC_x, gRev, revD, gPar3F, gOff, gOffS, gBreak, gCont, clr, startD, nth, List.set, addD_ii, addD_ss, addD_ll, addD_tt, subD_ii, mulD_ii, mulD_si, mulD_li, fdivD_ii, modD_ii, powD_ii, eqD_ii, eqD_ss, eqD_bb, neD_ii, neD_ss, neD_bb, ltD_ii, ltD_ss, leD_ii, gtD_ii, geD_ii, isD_bb, isnotD_bb, inD_ss, notinD_ss, ixD_l, ixD_t, ixD_s, slD_t, slD_s, slD_l, lenD_s, lenD_l, lenD_t, tupD_l, tupD_t, listD_l, listD_t, allD_l, anyD_l, sumD_l, maxD_ii, minD_ii, maxD_l, minD_l, absD_i, gcdD_ii, intD_i, intD_b, intD_s, strD_i, strD_s, reprD_1, joinD_l, splitD_s, eqD_tt, neD_tt]
  refine ⟨by decide, by rw [sizeLine_eq]; decide, lc_any Vl rfl (by decide) (fun d hd P hP => bentF_ok hv hP) fun ys hy hys => ⟨by rw [sizeLine_eq, hy]; show _ + 5 ≤ _; omega, Nat.le_of_eq (Nat.mul_zero _), fun i Δ' => ∃ s7 : Sv, Δ' = [.pot, .dat S.D, s2, s3, s4, .dat v, .own ds, s7, .un], ⟨_, rfl⟩, ?_, ?_⟩⟩
  · rintro i z Δ' hz ⟨s7, rfl⟩
    have hm : Vl z := (List.mem_append.mp (List.mem_of_getElem? hz)).elim (hd z) (hys z)
    exact le_ok T hm ⟨_, rfl⟩
  · rintro Δ' ⟨s7, rfl⟩
    unfold R__law_right_0
    exact h
theorem r2_ok (T : Stre S c d P Q) (T2 : Stre S2 c2 d2 P2 Q2) (hv : Tl 3 (.tuple [.int q, .int p, par])) (hp : Pl 5 par) (sp : Sz 50 p) (sq : Sz 50 q) (hl : ds.length ≤ 20) (hd : ∀ x ∈ ds, Vl x) (h : K (.bool true)) :
    R__law_right_2 E (EK K) [.pot, .dat S.D, .dat S2.D, s3, s4, .dat (.tuple [.int q, .int p, par]), .own ds, s7, .un] := by
  have sp' := sp.le (show 50 ≤ 60 by decide)
  have sq' := sq.le (show 50 ≤ 60 by decide)
  have sq1 := (sq.add (lit (b := 50) (i := 1))).le (show _ ≤ 60 by decide)
  unfold R__law_right_2
  dsimp only [gSeq, gSet, gVar, gVarB, gC, gBin, gChain, gTB, gIf, gIfS, gRet, gCall, gCallF, gCo, gN, gTup, gLst, gL, gNotT, gNotV, gAndT, gOrT, gAndV, gOrV, gIsi, gSl, gPart, gNo, gM0, gM1, gFn, gAn, gAd, gAp, gAs, gAsg, gTo, gToT, gToC, gTo0, gNext, gNeg, gPs0, gTick, gPix, gLenS, gIxS, gSumS, gLRg, gPar, gDic0, gDic1, gYes, gSeqI, gRg1, gRg2, gRetN, gSetF, gApp, gExt, gDrop, gFrz, gLcC_x, gForC_x, gRev, revD, gPar3F, gOff, gOffS, gBreak, gCont, clr, startD, nth, List.set, addD_ii, addD_ss, addD_ll, addD_tt, subD_ii, mulD_ii, mulD_si, mulD_li, fdivD_ii, modD_ii, powD_ii, eqD_ii, eqD_ss, eqD_bb, neD_ii, neD_ss, neD_bb, ltD_ii, ltD_ss, leD_ii, gtD_ii, geD_ii, isD_bb, isnotD_bb, inD_ss, notinD_ss, ixD_l, ixD_t, ixD_s, slD_t, slD_s, slD_l, lenD_s, lenD_l, lenD_t, tupD_l, tupD_t, listD_l, listD_t, allD_l, anyD_l, sumD_l, maxD_ii, minD_ii, maxD_l, minD_l, absD_i, gcdD_ii, intD_i, intD_b, intD_s, strD_i, strD_s, reprD_1, joinD_l, splitD_s, eqD_tt, neD_tt]
  refine ⟨_, rfl, _, rfl, sl (n := 0) (by decide), sl (n := 3) (by decide), _, rfl, sl (n := 1) (by decide), sl (n := 3) (by decide), edge_ok T2 fun x y par2 b2 hx hy hpar => ⟨sl (n := 4) (by decide), by rw [sizeLine_eq]; show _ + 4 ≤ _; omega, r1_ok T hv (by rw [List.length_append]; show _ + 4 ≤ _; omega) (fun z hz => ?_) h⟩⟩
  rcases List.mem_append.mp hz with hz | hz
  · exact hd z hz
  · simp only [List.mem_cons, List.not_mem_nil, or_false] at hz
    rcases hz with rfl | rfl | rfl | rfl
    · exact .inr ⟨2, by decide, pl_3 (.int sq') (.int sp') pl_nil⟩
    · exact .inr ⟨6, by decide, pl_3 (.int sq1) (.int sp') hp⟩
    · have t := (par_tl hx hy hpar).pl
      exact .inr ⟨3, by decide, pl_3 (.int ((sz_small (by have := b2.q1; omega) (by omega)).le (by decide))) (.int ((sz_small b2.p0 (by omega)).le (by decide))) t⟩
    · exact .inl rfl
theorem r3_ok' (T : Stre S c d P Q) (T2 : Stre S2 c2 d2 P2 Q2) (hv : Tl 3 (.tuple [.int q, .int p, par])) (hp : Pl 5 par) (sp : Sz 50 p) (sq : Sz 50 q) (h : K (.bool true)) :
    R__law_right_3 E (EK K) [.pot, .dat S.D, .dat S2.D, s3, s4, .dat (.tuple [.int q, .int p, par]), s6, s7, .un] := by
  have sp' := sp.le (show 50 ≤ 60 by decide)
  have sq' := sq.le (show 50 ≤ 60 by decide)
  unfold R__law_right_3
  dsimp only [gSeq, gSet, gVar, gVarB, gC, gBin, gChain, gTB, gIf, gIfS, gRet, gCall, gCallF, gCo, gN, gTup, gLst, gL, gNotT, gNotV, gAndT, gOrT, gAndV, gOrV, gIsi, gSl, gPart, gNo, gM0, gM1, gFn, gAn, gAd, gAp, gAs, gAsg, gTo, gToT, gToC, gTo0, gNext, gNeg, gPs0, gTick, gPix, gLenS, gIxS, gSumS, gLRg, gPar, gDic0, gDic1, gYes, gSeqI, gRg1, gRg2, gRetN, gSetF, gApp, gExt, gDrop, gFrz, gLcC_x, gForC_x, gRev, revD, gPar3F, gOff, gOffS, gBreak, gCont, clr, startD, nth, List.set, addD_ii, addD_ss, addD_ll, addD_tt, subD_ii, mulD_ii, mulD_si, mulD_li, fdivD_ii, modD_ii, powD_ii, eqD_ii, eqD_ss, eqD_bb, neD_ii, neD_ss, neD_bb, ltD_ii, ltD_ss, leD_ii, gtD_ii, geD_ii, isD_bb, isnotD_bb, inD_ss, notinD_ss, ixD_l, ixD_t, ixD_s, slD_t, slD_s, slD_l, lenD_s, lenD_l, lenD_t, tupD_l, tupD_t, listD_l, listD_t, allD_l, anyD_l, sumD_l, maxD_ii, minD_ii, maxD_l, minD_l, absD_i, gcdD_ii, intD_i, intD_b, intD_s, strD_i, strD_s, reprD_1, joinD_l, splitD_s, eqD_tt, neD_tt]
  refine ⟨sl (n := 4) (by decide), (show 6 < 9 by decide), r2_ok T T2 hv hp sp sq (show 4 ≤ 20 by decide) (fun z hz => ?_) h⟩
  have e1 : cutL [PyData.int q, PyData.int p, par] none (some 2) = [PyData.int q, PyData.int p] := rfl
  simp only [List.mem_cons, List.not_mem_nil, or_false, e1] at hz
  rcases hz with rfl | rfl | rfl | rfl
  · exact .inr ⟨3, by decide, hv.pl⟩
  · exact .inr ⟨6, by decide, pl_3 hp (.int sp') (.int sq')⟩
  · exact .inl rfl
  · exact .inr ⟨1, by decide, pl_2 (.int sq') (.int sp')⟩
theorem r4_ok (T : Stre S c d P Q) (hl : ds.length ≤ 60) (hd : ∀ x ∈ ds, Vl x) (h : ∀ s6 s7 : Sv, R__law_right_3 E D' [.pot, .dat S.D, s2, s3, s4, s5, s6, s7, .un]) : R__law_right_4 E D' [.pot, .dat S.D, s2, s3, s4, s5, .own ds, s7, .un] := by
  unfold R__law_right_4
  refine ⟨Nat.le_of_eq (Nat.mul_zero _), fun i Δ' => ∃ s7 : Sv, Δ' = [.pot, .dat S.D, s2, s3, s4, s5, .dat (.list ds), s7, .un], ⟨_, rfl⟩, ?_, ?_⟩
  · rintro i z Δ' hz ⟨s7, rfl⟩
    exact ls_ok T (hd z (List.mem_of_getElem? hz)) ⟨_, rfl⟩
  · rintro Δ' ⟨s7, rfl⟩
    exact h _ _
theorem r5_ok {xs : List D} {t0 : D} (hv : Tl 3 (.tuple [t0, .tuple xs])) (hdue : Pl 5 x) (hp : Pl 5 (.tuple xs)) (hl : ds.length ≤ 40) (hd : ∀ x ∈ ds, Vl x)
    (h : ∀ ds : List D, ds.length ≤ 60 → (∀ x ∈ ds, Vl x) → R__law_right_4 E D' [.pot, s1, s2, .dat x, .dat (.tuple [t0, .tuple xs]), s5, .own ds, s7, .un]) :
    R__law_right_5 E D' [.pot, s1, s2, .dat x, .dat (.tuple [t0, .tuple xs]), s5, .own ds, s7, .un] := by
  unfold R__law_right_5
  dsimp only [gSeq, gSet, gVar, gVarB, gC, gBin, gChain, gTB, gIf, gIfS, gRet, gCall, gCallF, gCo, gN, gTup, gLst, gL, gNotT, gNotV, gAndT, gOrT, gAndV, gOrV, gIsi, gSl, gPart, gNo, gM0, gM1, gFn, gAn, gAd, gAp, gAs, gAsg, gTo, gToT, gToC, gTo0, gNext, gNeg, gPs0, gTick, gPix, gLenS, gIxS, gSumS, gLRg, gPar, gDic0, gDic1, gYes, gSeqI, gRg1, gRg2, gRetN, gSetF, gApp, gExt, gDrop, gFrz, gLcC_x, gForC_x, gRev, revD, gPar3F, gOff, gOffS, gBreak, gCont, clr, startD, nth, List.set, addD_ii, addD_ss, addD_ll, addD_tt, subD_ii, mulD_ii, mulD_si, mulD_li, fdivD_ii, modD_ii, powD_ii, eqD_ii, eqD_ss, eqD_bb, neD_ii, neD_ss, neD_bb, ltD_ii, ltD_ss, leD_ii, gtD_ii, geD_ii, isD_bb, isnotD_bb, inD_ss, notinD_ss, ixD_l, ixD_t, ixD_s, slD_t, slD_s, slD_l, lenD_s, lenD_l, lenD_t, tupD_l, tupD_t, listD_l, listD_t, allD_l, anyD_l, sumD_l, maxD_ii, minD_ii, maxD_l, minD_l, absD_i, gcdD_ii, intD_i, intD_b, intD_s, strD_i, strD_s, reprD_1, joinD_l, splitD_s, eqD_tt, neD_tt]
  refine ⟨by decide, by rw [sizeLine_eq]; decide, lc_any Vl rfl (by decide) (fun d hd P hP => bentF_ok hv hP) fun ys hy hys => ⟨_, rfl, sl (n := 2) (by decide), sl (n := 1) (by decide), ?_⟩⟩
  have hy6 : ys.length = 6 := hy
  refine ⟨by rw [sizeLine_eq, hy6]; show 6 + 1 ≤ 16777216; decide, by rw [List.length_append, sizeLine_eq, hy6]; show _ + (6 + 1) ≤ _; omega, h _ (by rw [List.length_append, List.length_append, hy6]; show _ + (6 + 1) ≤ _; omega) fun z hz => ?_⟩
  rcases List.mem_append.mp hz with hz | hz
  · exact hd z hz
  · rcases List.mem_append.mp hz with hz | hz
    · exact hys z hz
    · rw [List.mem_singleton.mp hz]
      obtain ⟨m, e, hi⟩ := hp.items
      have : Pl 5 (.tuple xs.reverse) := by
        cases e
        exact .tup fun y hy => hi y (List.mem_reverse.mp hy)
      exact .inr ⟨6, by decide, pl_2 hdue this⟩
theorem r6_ok {xs : List D} {t0 : D} (sp : Sz 50 p) (sq : Sz 50 q) (hp : Pl 5 (.tuple xs)) (hl : ds.length ≤ 20) (hd : ∀ x ∈ ds, Vl x)
    (h : ∀ ds : List D, ds.length ≤ 40 → (∀ x ∈ ds, Vl x) → R__law_right_5 E D' [.pot, s1, s2, .dat (frD p q), .dat (.tuple [t0, .tuple xs]), s5, .own ds, s7, .un]) :
    R__law_right_6 E D' [.pot, s1, s2, .dat (frD p q), .dat (.tuple [t0, .tuple xs]), s5, .own ds, s7, .un] := by
  have s2' : Sz 50 2 := lit
  have sp1 := (sp.add (lit (b := 50) (i := 1))).le (show _ ≤ 60 by decide)
  have sq' := sq.le (show 50 ≤ 60 by decide)
  have u1 : Sz 9 2 := lit
  have hp2 : Sz 60 (2 * p) := ((lit (b := 2) (i := 2)).mul sp).le (by decide)
  have hq2 : Sz 60 (2 * q) := ((lit (b := 2) (i := 2)).mul sq).le (by decide)
  unfold R__law_right_6
  dsimp only [gSeq, gSet, gVar, gVarB, gC, gBin, gChain, gTB, gIf, gIfS, gRet, gCall, gCallF, gCo, gN, gTup, gLst, gL, gNotT, gNotV, gAndT, gOrT, gAndV, gOrV, gIsi, gSl, gPart, gNo, gM0, gM1, gFn, gAn, gAd, gAp, gAs, gAsg, gTo, gToT, gToC, gTo0, gNext, gNeg, gPs0, gTick, gPix, gLenS, gIxS, gSumS, gLRg, gPar, gDic0, gDic1, gYes, gSeqI, gRg1, gRg2, gRetN, gSetF, gApp, gExt, gDrop, gFrz, gLcC_x, gForC_x, gRev, revD, gPar3F, gOff, gOffS, gBreak, gCont, clr, startD, nth, List.set, addD_ii, addD_ss, addD_ll, addD_tt, subD_ii, mulD_ii, mulD_si, mulD_li, fdivD_ii, modD_ii, powD_ii, eqD_ii, eqD_ss, eqD_bb, neD_ii, neD_ss, neD_bb, ltD_ii, ltD_ss, leD_ii, gtD_ii, geD_ii, isD_bb, isnotD_bb, inD_ss, notinD_ss, ixD_l, ixD_t, ixD_s, slD_t, slD_s, slD_l, lenD_s, lenD_l, lenD_t, tupD_l, tupD_t, listD_l, listD_t, allD_l, anyD_l, sumD_l, maxD_ii, minD_ii, maxD_l, minD_l, absD_i, gcdD_ii, intD_i, intD_b, intD_s, strD_i, strD_s, reprD_1, joinD_l, splitD_s, eqD_tt, neD_tt]
  refine ⟨_, rfl, _, rfl, sl (n := 2) (by decide), _, rfl, sl (n := 2) (by decide), _, rfl, Sz.mulOk u1 sp, _, rfl, Sz.mulOk u1 sq, sl (n := 2) (by decide), _, rfl, sl (n := 2) (by decide), odd_ok fun v hv => ⟨sl (n := 3) (by decide), by rw [sizeLine_eq]; show _ + 3 ≤ _; omega, h _ (by rw [List.length_append]; show _ + 3 ≤ _; omega) fun z hz => ?_⟩⟩
  rcases List.mem_append.mp hz with hz | hz
  · exact hd z hz
  · simp only [List.mem_cons, List.not_mem_nil, or_false] at hz
    rcases hz with rfl | rfl | rfl
    · exact .inr ⟨6, by decide, pl_2 (pl_2 (.int sp1) (.int sq')) hp⟩
    · exact .inr ⟨6, by decide, pl_2 (pl_2 (.int hp2) (.int hq2)) hp⟩
    · exact hv
theorem r7_ok {t1 : D} (T2 : Stre S2 c2 d2 P2 Q2) (sp : Sz 50 p) (sq : Sz 50 q) (hl : ds.length ≤ 10) (hd : ∀ x ∈ ds, Vl x)
    (h : ∀ ds : List D, ds.length ≤ 20 → (∀ x ∈ ds, Vl x) → R__law_right_6 E D' [.pot, s1, .dat S2.D, .dat (frD p q), .dat (.tuple [frD p q, t1]), s5, .own ds, s7, .un]) :
    R__law_right_7 E D' [.pot, s1, .dat S2.D, .dat (frD p q), .dat (.tuple [frD p q, t1]), s5, .own ds, s7, .un] := by
  have fr : ∀ {n : Nat}, Pl (n + 1) (frD p q) := pl_2 (.int (sp.le (by decide))) (.int (sq.le (by decide)))
  have n0 : ∀ {n : Nat}, Pl n (.int 0) := .int (lit (b := 60))
  have n1 : ∀ {n : Nat}, Pl n (.int 1) := .int (lit (b := 60))
  unfold R__law_right_7
  dsimp only [gSeq, gSet, gVar, gVarB, gC, gBin, gChain, gTB, gIf, gIfS, gRet, gCall, gCallF, gCo, gN, gTup, gLst, gL, gNotT, gNotV, gAndT, gOrT, gAndV, gOrV, gIsi, gSl, gPart, gNo, gM0, gM1, gFn, gAn, gAd, gAp, gAs, gAsg, gTo, gToT, gToC, gTo0, gNext, gNeg, gPs0, gTick, gPix, gLenS, gIxS, gSumS, gLRg, gPar, gDic0, gDic1, gYes, gSeqI, gRg1, gRg2, gRetN, gSetF, gApp, gExt, gDrop, gFrz, gLcC_x, gForC_x, gRev, revD, gPar3F, gOff, gOffS, gBreak, gCont, clr, startD, nth, List.set, addD_ii, addD_ss, addD_ll, addD_tt, subD_ii, mulD_ii, mulD_si, mulD_li, fdivD_ii, modD_ii, powD_ii, eqD_ii, eqD_ss, eqD_bb, neD_ii, neD_ss, neD_bb, ltD_ii, ltD_ss, leD_ii, gtD_ii, geD_ii, isD_bb, isnotD_bb, inD_ss, notinD_ss, ixD_l, ixD_t, ixD_s, slD_t, slD_s, slD_l, lenD_s, lenD_l, lenD_t, tupD_l, tupD_t, listD_l, listD_t, allD_l, anyD_l, sumD_l, maxD_ii, minD_ii, maxD_l, minD_l, absD_i, gcdD_ii, intD_i, intD_b, intD_s, strD_i, strD_s, reprD_1, joinD_l, splitD_s, eqD_tt, neD_tt]
  refine ⟨_, rfl, sl (n := 0) (by decide), sl (n := 2) (by decide), simplest_ok T2 fun x y par2 b2 hx hy hpar => ⟨sl (n := 2) (by decide), sl (n := 2) (by decide), sl (n := 2) (by decide), sl (n := 2) (by decide), sl (n := 4) (by decide), by rw [sizeLine_eq]; show _ + 4 ≤ _; omega, h _ (by rw [List.length_append]; show _ + 4 ≤ _; omega) fun z hz => ?_⟩⟩
  rcases List.mem_append.mp hz with hz | hz
  · exact hd z hz
  · simp only [List.mem_cons, List.not_mem_nil, or_false] at hz
    rcases hz with rfl | rfl | rfl | rfl
    · exact .inr ⟨2, by decide, pl_2 fr pl_nil⟩
    · have t := (par_tl hx hy hpar).pl
      exact .inr ⟨3, by decide, pl_2 (pl_2 (.int ((sz_small b2.p0 (by omega)).le (by decide))) (.int ((sz_small (by have := b2.q1; omega) (by omega)).le (by decide)))) t⟩
    · exact .inr ⟨3, by decide, pl_2 fr (pl_2 (pl_2 n0 n1) (pl_2 n1 n0))⟩
    · exact .inl rfl
theorem r8_ok {t1 : D} (sp : Sz 50 p) (sq : Sz 50 q) (ht : Pl 5 t1) (h : ∀ ds : List D, ds.length ≤ 10 → (∀ x ∈ ds, Vl x) → R__law_right_7 E D' [.pot, s1, s2, s3, .dat (.tuple [frD p q, t1]), s5, .own ds, s7, .un]) :
    R__law_right_8 E D' [.pot, s1, s2, s3, .dat (.tuple [frD p q, t1]), s5, s6, s7, .un] := by
  have fr : ∀ {n : Nat}, Pl (n + 1) (frD p q) := pl_2 (.int (sp.le (by decide))) (.int (sq.le (by decide)))
  unfold R__law_right_8
  dsimp only [gSeq, gSet, gVar, gVarB, gC, gBin, gChain, gTB, gIf, gIfS, gRet, gCall, gCallF, gCo, gN, gTup, gLst, gL, gNotT, gNotV, gAndT, gOrT, gAndV, gOrV, gIsi, gSl, gPart, gNo, gM0, gM1, gFn, gAn, gAd, gAp, gAs, gAsg, gTo, gToT, gToC, gTo0, gNext, gNeg, gPs0, gTick, gPix, gLenS, gIxS, gSumS, gLRg, gPar, gDic0, gDic1, gYes, gSeqI, gRg1, gRg2, gRetN, gSetF, gApp, gExt, gDrop, gFrz, gLcC_x, gForC_x, gRev, revD, gPar3F, gOff, gOffS, gBreak, gCont, clr, startD, nth, List.set, addD_ii, addD_ss, addD_ll, addD_tt, subD_ii, mulD_ii, mulD_si, mulD_li, fdivD_ii, modD_ii, powD_ii, eqD_ii, eqD_ss, eqD_bb, neD_ii, neD_ss, neD_bb, ltD_ii, ltD_ss, leD_ii, gtD_ii, geD_ii, isD_bb, isnotD_bb, inD_ss, notinD_ss, ixD_l, ixD_t, ixD_s, slD_t, slD_s, slD_l, lenD_s, lenD_l, lenD_t, tupD_l, tupD_t, listD_l, listD_t, allD_l, anyD_l, sumD_l, maxD_ii, minD_ii, maxD_l, minD_l, absD_i, gcdD_ii, intD_i, intD_b, intD_s, strD_i, strD_s, reprD_1, joinD_l, splitD_s, eqD_tt, neD_tt]
  refine ⟨sl (n := 0) (by decide), sl (n := 1) (by decide), sl (n := 3) (by decide), sl (n := 5) (by decide), (show 6 < 9 by decide), h _ (show 5 ≤ 10 by decide) fun z hz => ?_⟩
  have e1 : cutL [frD p q, t1] none (some 1) = [frD p q] := rfl
  simp only [List.mem_cons, List.not_mem_nil, or_false, e1] at hz
  rcases hz with rfl | rfl | rfl | rfl | rfl
  · exact .inr ⟨6, by decide, pl_2 fr ht⟩
  · exact .inr ⟨6, by decide, pl_2 ht fr⟩
  · exact .inl rfl
  · exact .inr ⟨2, by decide, pl_1 fr⟩
  · exact .inr ⟨6, by decide, pl_3 fr ht pl_nil⟩
theorem r9_ok (T : Stre S c d P Q) (b : Best S p q) (hp : p ≤ 20000) (hq : q ≤ 20000) (hpar : Par p q par) (h : R__law_right_8 E D' [.pot, .dat S.D, s2, .dat (frD p q), s4, .dat (.tuple [.int q, .int p, par]), s6, s7, .un]) :
    R__law_right_9 E D' [.pot, .dat S.D, s2, .dat (frD p q), s4, .dat (.tuple [.int q, .int p, par]), s6, s7, .un] := by
  have sp := (sz_small b.p0 (show p ≤ 30000 by omega)).le (show 50 ≤ 60 by decide)
  have sq := (sz_small (show 0 ≤ q by have := b.q1; omega) (show q ≤ 30000 by omega)).le (show 50 ≤ 60 by decide)
  have ⟨ps, pd⟩ := par_sho hp hq hpar
  have e := edge_sho sp sq ps pd
  have pt := (par_tl hp hq hpar).pl
  have ft : Fit (frD p q) par := fit_of (n := 0) (fun p' q' z => by cases z; exact ⟨sp, sq⟩) pt (by decide)
  unfold R__law_right_9
  refine ⟨e.l, e.s, e.dp, e.big (by decide), _, rfl, _, rfl, sl (n := 2) (by decide), sl (n := 3) (by decide), e.l, e.s, e.dp, e.big (by decide), same ?_⟩
  refine isEdge_ok T.ok T.f.e (fun q' p' paper z => by cases z; exact ft) ?_
  have es : edgeB S (.tuple [.int q, .int p, par]) = true := told_shown b hpar
  rw [es]
  exact ⟨fun z => (nomatch z), fun _ => h⟩
theorem r11_ok (T : Stre S c d P Q) (b : Best S p q) (hp : p ≤ 20000) (hq : q ≤ 20000) (hpar : Par p q par) (h : R__law_right_10 E D' [.pot, .dat S.D, s2, .dat (frD p q), .dat (.tuple [frD p q, par]), s5, s6, s7, .un]) :
    R__law_right_11 E D' [.pot, .dat S.D, s2, .dat (frD p q), .dat (.tuple [frD p q, par]), s5, s6, s7, .un] := by
  have sp := (sz_small b.p0 (show p ≤ 30000 by omega)).le (show 50 ≤ 60 by decide)
  have sq := (sz_small (show 0 ≤ q by have := b.q1; omega) (show q ≤ 30000 by omega)).le (show 50 ≤ 60 by decide)
  have e := fr_sho sp sq
  have pt := (par_tl hp hq hpar).pl
  have ft : Fit (frD p q) par := fit_of (n := 0) (fun p' q' z => by cases z; exact ⟨sp, sq⟩) pt (by decide)
  unfold R__law_right_11
  refine ⟨_, rfl, e.l, e.s, e.dp, e.big (by decide), e.l, e.s, e.dp, e.big (by decide), same ?_⟩
  refine isShown_ok T.ok T.f.e (fun f paper z => by cases z; exact ft) ?_
  have es : shownB S (.tuple [frD p q, par]) = true := told_shown b hpar
  rw [es]
  exact ⟨fun z => (nomatch z), fun _ => h⟩
theorem r12_ok (T : Stre S c d P Q) (T2 : Stre S2 c2 d2 P2 Q2) (h : K (.bool true)) : R__law_right_12 E (EK K) [.pot, .dat S.D, .dat S2.D, s3, s4, s5, s6, s7, .un] := by
  obtain ⟨p, q, b, hp, hq⟩ := best_ex T
  have sp := sz_small b.p0 (show p ≤ 30000 by omega)
  have sq := sz_small (show 0 ≤ q by have := b.q1; omega) (show q ≤ 30000 by omega)
  unfold R__law_right_12
  refine lawSimplest_ok T.g T.bd (by decide) T.f.e b hq (simplest_ok T fun x y par b2 hx hy hpar => ⟨sl (n := 2) (by decide), rfl, ?_⟩)
  obtain ⟨rfl, rfl⟩ := best_one b b2
  refine r11_ok T b hp (by omega) hpar ?_
  unfold R__law_right_10
  refine edge_ok T fun x y par2 b3 hx3 hy3 hpar2 => ?_
  obtain ⟨rfl, rfl⟩ := best_one b b3
  refine r9_ok T b hp (by omega) hpar2 ?_
  obtain ⟨xs, rfl⟩ := par_tup hpar
  have t1 := par_tl hp (show y ≤ 20000 by omega) hpar
  have t2 := par_tl hp (show y ≤ 20000 by omega) hpar2
  have p1 : Pl 5 (.tuple xs) := t1.pl.up.up.up
  have p2 : Pl 5 par2 := t2.pl.up.up.up
  have v1 : Tl 3 (.tuple [frD x y, .tuple xs]) := .tup (fun z hz => by
    simp only [List.mem_cons, List.not_mem_nil, or_false] at hz
    rcases hz with rfl | rfl
    · exact tl_fr sp sq
    · exact t1) (show 2 ≤ 10 by decide)
  have v2 : Tl 3 (.tuple [.int y, .int x, par2]) := .tup (fun z hz => by
    simp only [List.mem_cons, List.not_mem_nil, or_false] at hz
    rcases hz with rfl | rfl | rfl
    · exact .int sq
    · exact .int sp
    · exact t2) (show 3 ≤ 10 by decide)
  have fr : Pl 5 (frD x y) := pl_2 (.int (sp.le (by decide))) (.int (sq.le (by decide)))
  exact r8_ok sp sq p1 fun ds l1 d1 => r7_ok T2 sp sq l1 d1 fun ds l2 d2 => r6_ok sp sq p1 l2 d2 fun ds l3 d3 => r5_ok v1 fr p1 l3 d3 fun ds l4 d4 => r4_ok T l4 d4 fun s6 s7 => r3_ok' T T2 v2 p2 sp sq h
theorem right_ok (h : K (.bool true)) : F__law_right [.pot] K E := by
  unfold F__law_right specOf G__law_right N__law_right
  refine ⟨rfl, ?_⟩
  refine stretch_ok (by decide) (by decide) fun S c d P Q T => stretch_ok (by decide) (by decide) fun S2 c2 d2 P2 Q2 T2 => ?_
  exact r12_ok T T2 h
end
theorem all_true : ∀ {ys : List D}, (∀ y ∈ ys, y = .bool true) → ∃ bs : List Bool, ys = bs.map PyData.bool ∧ bs.all id = true
  | [], _ => ⟨[], rfl, rfl⟩
  | y :: ys, h => by
    obtain ⟨bs, rfl, e⟩ := all_true fun z hz => h z (List.mem_cons_of_mem _ hz)
    rw [h y List.mem_cons_self]
    exact ⟨true :: bs, rfl, by rw [List.all_cons, e]; rfl⟩
theorem law_true (ns : List Int) (Kd : D → Prop) (h0 : ns.length ≤ 63) (h1 : ∀ z ∈ ns, Builtin.Int.intBits z ≤ 1048576) (h : Kd (.bool true)) : F_law [.scr ns] Kd NoE := by
  unfold F_law specOf G_law N_law
  refine ⟨rfl, ?_⟩
  simp only [gSeq, gForC_x, gSeqI, gFn, gAs, gAd, gAn, gC, startD, nth, List.append_nil]
  refine cells_ok (by decide) (by decide) fun k k1 k3 => ?_
  refine ⟨Nat.le_of_eq (Nat.mul_zero _), fun i Δ' => ∃ s1 : Sv, plainSv s1 = true ∧ Δ' = [.scr ns, s1, .un, .un], ⟨_, rfl, rfl⟩, ?_, ?_⟩
  · rintro i d Δ' hd ⟨s1, hs, rfl⟩
    obtain ⟨m, rfl, m0, m1⟩ : ∃ m : Int, d = .int m ∧ 0 ≤ m ∧ m < 3 := by
      obtain ⟨j, hj, rfl⟩ := List.mem_map.mp (List.mem_of_getElem? hd)
      have := List.mem_range.mp hj
      exact ⟨_, rfl, by omega, by omega⟩
    refine ⟨rfl, (show 2 < 4 by decide), ?_⟩
    refine pot_ok m0 (by omega) fun x y x0 x1 y0 y1 => ⟨x, y, rfl, x0, x1, y0, y1, ?_⟩
    simp only [gIfS, gNotT, gTB, gCall, gCo, gL, gLcC_x, gRg1, gC, gN, List.set]
    refine ⟨by decide, by rw [sizeLine_eq]; decide, ?_⟩
    refine lc_any (fun y => y = .bool true) rfl (by decide) (fun d hd P hP => right_ok (hP _ rfl)) fun ys hl hys => ?_
    obtain ⟨bs, rfl, e⟩ := all_true hys
    refine ⟨bs, rfl, ?_⟩
    rw [e]
    exact ⟨fun z => (nomatch z), fun _ => ⟨_, rfl, rfl⟩⟩
  · rintro Δ' ⟨s1, hs, rfl⟩
    unfold R_law_0
    exact h
end K83
/-! K83: the defs by their bodies (printed by gen.py). -/
namespace K83
open PySem PySem.Spec PyProof.Rows L2 DL
def topS (i : Nat) : Stmt := PySem.Challenge.pw_whatthepicturesays_k83_whole_simplest_fr.main.body.getD i (.Pass ⟨0, 0, 0, 0⟩)
abbrev s__law_cells : Stmt := topS 36
theorem sc__law_cells : FnScope N__law_cells ["script", "limit"] (defScope s__law_cells) := ⟨rfl, rfl, rfl, by decide +kernel, rfl, by decide +kernel, by decide +kernel⟩
theorem ok__law_cells {P : Program} {w : World} {K : PySem.W.Frag} {mg : Str → Option Value} {base : Heap} {f : Addr} {od an : Option Addr} {osl : Array (Option Value)} {oc dV kV doc pm cdv ct : Value}
    (lk : K.lookup f = some ⟨oc, od, .func (PySem.W.fnOf "_law_cells" "_law_cells" (defArgs s__law_cells) (defBody s__law_cells) (defScope s__law_cells) dV kV doc pm an cdv ct), osl⟩) (cd : PySem.W.codeIn K cdv "_law_cells" = true)
    (m_max : mg "max" = none)
    (m_min : mg "min" = none)
    (m_len : mg "len" = none)
    (m_list : mg "list" = none)
    (m_range : mg "range" = none) :
    FnD P w K mg base 1 f (PySem.W.fnOf "_law_cells" "_law_cells" (defArgs s__law_cells) (defBody s__law_cells) (defScope s__law_cells) dV kV doc pm an cdv ct) ["script", "limit"] F__law_cells 0 := by
  unfold F__law_cells
  refine fnd_by lk cd sc__law_cells (g := G__law_cells) (by decide) (fun X W E hE h1 h2 h3 h4 h5 hfn C => ?_)
  subst h1 h2 h3 h4 h5
  have d : DSs X W (defBody s__law_cells) (G__law_cells E) _ := (dss_one (ds_ret C (DF.da C (df_lrg C (by decide +kernel) m_list (by decide +kernel) m_range (DE.bo (de_callB C (dc_max C.calm) (by decide +kernel) m_max boot_max (db_cons C (DE.bo de_int) (db_cons C (DE.bo (de_callB C (dc_min C.calm) (by decide +kernel) m_min boot_min (db_cons C (DE.bo (de_var C (i := 1) rfl (vis_by (by decide +kernel)))) (db_cons C (DE.bo (de_lenS C (by decide +kernel) m_len (i := 0) rfl (vis_by (by decide +kernel)))) db_nil)))) db_nil))))))))
  exact ⟨_, by decide +kernel, d⟩
abbrev s__law_pot : Stmt := topS 33
theorem sc__law_pot : FnScope N__law_pot ["script", "place"] (defScope s__law_pot) := ⟨rfl, rfl, rfl, by decide +kernel, rfl, by decide +kernel, by decide +kernel⟩
theorem ok__law_pot {P : Program} {w : World} {K : PySem.W.Frag} {mg : Str → Option Value} {base : Heap} {f : Addr} {od an : Option Addr} {osl : Array (Option Value)} {oc dV kV doc pm cdv ct : Value}
    (lk : K.lookup f = some ⟨oc, od, .func (PySem.W.fnOf "_law_pot" "_law_pot" (defArgs s__law_pot) (defBody s__law_pot) (defScope s__law_pot) dV kV doc pm an cdv ct), osl⟩) (cd : PySem.W.codeIn K cdv "_law_pot" = true)
    (m_len : mg "len" = none)
    (m_int : mg "int" = none)
    (m_abs : mg "abs" = none) :
    FnD P w K mg base 1 f (PySem.W.fnOf "_law_pot" "_law_pot" (defArgs s__law_pot) (defBody s__law_pot) (defScope s__law_pot) dV kV doc pm an cdv ct) ["script", "place"] F__law_pot 0 := by
  unfold F__law_pot
  refine fnd_by lk cd sc__law_pot (g := G__law_pot) (by decide) (fun X W E hE h1 h2 h3 h4 h5 hfn C => ?_)
  subst h1 h2 h3 h4 h5
  have d : DSs X W (defBody s__law_pot) (G__law_pot E) _ := (dss_cons (ds_set C (i := 2) rfl (loc_by (by decide +kernel)) (.inl (hfn _)) (de_if C (dt_cmp C dop_lt (DE.bo (de_var C (i := 1) rfl (vis_by (by decide +kernel)))) (DE.bo (de_lenS C (by decide +kernel) m_len (i := 0) rfl (vis_by (by decide +kernel))))) (de_ixS C (i := 0) rfl (vis_by (by decide +kernel)) (DE.bo (de_var C (i := 1) rfl (vis_by (by decide +kernel))))) (de_bin C dop_add (DE.bo (de_bin C dop_mul (DE.bo de_int) (DE.bo (de_var C (i := 1) rfl (vis_by (by decide +kernel)))))) (DE.bo de_int))))
    (dss_cons (ds_set C (i := 3) rfl (loc_by (by decide +kernel)) (.inl (hfn _)) (de_bin C dop_mul (DE.bo (de_bin C dop_mod (DE.bo (de_callT C dc_int (by decide +kernel) m_int boot_int (db_cons C (DE.bo (de_callB C dc_abs (by decide +kernel) m_abs boot_abs (db_cons C (DE.bo (de_var C (i := 2) rfl (vis_by (by decide +kernel)))) db_nil))) db_nil))) (DE.bo (de_bin C dop_pow (DE.bo (de_bin C dop_pow (DE.bo de_int) (DE.bo de_int))) (DE.bo de_int))))) (DE.bo (de_callT C dc_int (by decide +kernel) m_int boot_int (db_cons C (DE.bo (de_cmp C dop_ge (DE.bo (de_callB C dc_abs (by decide +kernel) m_abs boot_abs (db_cons C (DE.bo (de_var C (i := 2) rfl (vis_by (by decide +kernel)))) db_nil))) (DE.bo (de_bin C dop_pow (DE.bo de_int) (DE.bo de_int))))) db_nil)))))
    (dss_cons (ds_set C (i := 4) rfl (loc_by (by decide +kernel)) (.inl (hfn _)) (de_bin C dop_mod (DE.bo (de_callT C dc_int (by decide +kernel) m_int boot_int (db_cons C (DE.bo (de_var C (i := 2) rfl (vis_by (by decide +kernel)))) db_nil))) (DE.bo de_int)))
    (dss_one (ds_ret C (DF.da C (df_lst C (da_cons C (de_var C (i := 3) rfl (vis_by (by decide +kernel))) (da_cons C (de_bin C dop_mod (DE.bo (de_callT C dc_int (by decide +kernel) m_int boot_int (db_cons C (DE.bo (de_bin C dop_add (DE.bo (de_bin C dop_add (DE.bo (de_bin C dop_mul (DE.bo (de_var C (i := 4) rfl (vis_by (by decide +kernel)))) (DE.bo de_int))) (DE.bo (de_bin C dop_mul (DE.bo (de_bin C dop_mul (DE.bo de_int) (DE.bo (de_var C (i := 1) rfl (vis_by (by decide +kernel)))))) (DE.bo (de_var C (i := 1) rfl (vis_by (by decide +kernel)))))))) (DE.bo de_int))) db_nil))) (DE.bo de_int)) (da_cons C de_int da_nil))))))))))
  exact ⟨_, by decide +kernel, d⟩
abbrev s_is_less : Stmt := topS 15
theorem sc_is_less : FnScope N_is_less ["one", "other"] (defScope s_is_less) := ⟨rfl, rfl, rfl, by decide +kernel, rfl, by decide +kernel, by decide +kernel⟩
theorem ok_is_less {P : Program} {w : World} {K : PySem.W.Frag} {mg : Str → Option Value} {base : Heap} {f : Addr} {od an : Option Addr} {osl : Array (Option Value)} {oc dV kV doc pm cdv ct : Value}
    (lk : K.lookup f = some ⟨oc, od, .func (PySem.W.fnOf "is_less" "is_less" (defArgs s_is_less) (defBody s_is_less) (defScope s_is_less) dV kV doc pm an cdv ct), osl⟩) (cd : PySem.W.codeIn K cdv "is_less" = true)
     :
    FnD P w K mg base 1 f (PySem.W.fnOf "is_less" "is_less" (defArgs s_is_less) (defBody s_is_less) (defScope s_is_less) dV kV doc pm an cdv ct) ["one", "other"] F_is_less 0 := by
  unfold F_is_less
  refine fnd_by lk cd sc_is_less (g := G_is_less) (by decide) (fun X W E hE h1 h2 h3 h4 h5 hfn C => ?_)
  subst h1 h2 h3 h4 h5
  have d : DSs X W (defBody s_is_less) (G_is_less E) _ := (dss_one (ds_ret C (de_cmp C dop_lt (DE.bo (de_bin C dop_mul (DE.bo (de_ix C dix (DE.bo (de_var C (i := 0) rfl (vis_by (by decide +kernel)))) (DE.bo de_int))) (DE.bo (de_ix C dix (DE.bo (de_var C (i := 1) rfl (vis_by (by decide +kernel)))) (DE.bo de_int))))) (DE.bo (de_bin C dop_mul (DE.bo (de_ix C dix (DE.bo (de_var C (i := 1) rfl (vis_by (by decide +kernel)))) (DE.bo de_int))) (DE.bo (de_ix C dix (DE.bo (de_var C (i := 0) rfl (vis_by (by decide +kernel)))) (DE.bo de_int))))))))
  exact ⟨_, by decide +kernel, d⟩
abbrev s_common : Stmt := topS 9
theorem sc_common : FnScope N_common ["one", "other"] (defScope s_common) := ⟨rfl, rfl, rfl, by decide +kernel, rfl, by decide +kernel, by decide +kernel⟩
theorem ok_common {P : Program} {w : World} {K : PySem.W.Frag} {mg : Str → Option Value} {base : Heap} {f : Addr} {od an : Option Addr} {osl : Array (Option Value)} {oc dV kV doc pm cdv ct : Value}
    (lk : K.lookup f = some ⟨oc, od, .func (PySem.W.fnOf "common" "common" (defArgs s_common) (defBody s_common) (defScope s_common) dV kV doc pm an cdv ct), osl⟩) (cd : PySem.W.codeIn K cdv "common" = true)
    (m_gcd : mg "gcd" = some (.builtin "math.gcd")) :
    FnD P w K mg base 1 f (PySem.W.fnOf "common" "common" (defArgs s_common) (defBody s_common) (defScope s_common) dV kV doc pm an cdv ct) ["one", "other"] F_common 0 := by
  unfold F_common
  refine fnd_by lk cd sc_common (g := G_common) (by decide) (fun X W E hE h1 h2 h3 h4 h5 hfn C => ?_)
  subst h1 h2 h3 h4 h5
  have d : DSs X W (defBody s_common) (G_common E) _ := (dss_one (ds_ret C (de_callG C dc_gcd (by decide +kernel) m_gcd (db_cons C (DE.bo (de_var C (i := 0) rfl (vis_by (by decide +kernel)))) (db_cons C (DE.bo (de_var C (i := 1) rfl (vis_by (by decide +kernel)))) db_nil)))))
  exact ⟨_, by decide +kernel, d⟩
abbrev s_is_integer : Stmt := topS 8
theorem sc_is_integer : FnScope N_is_integer ["value"] (defScope s_is_integer) := ⟨rfl, rfl, rfl, by decide +kernel, rfl, by decide +kernel, by decide +kernel⟩
theorem ok_is_integer {P : Program} {w : World} {K : PySem.W.Frag} {mg : Str → Option Value} {base : Heap} {f : Addr} {od an : Option Addr} {osl : Array (Option Value)} {oc dV kV doc pm cdv ct : Value}
    (lk : K.lookup f = some ⟨oc, od, .func (PySem.W.fnOf "is_integer" "is_integer" (defArgs s_is_integer) (defBody s_is_integer) (defScope s_is_integer) dV kV doc pm an cdv ct), osl⟩) (cd : PySem.W.codeIn K cdv "is_integer" = true)
    (m_isinstance : mg "isinstance" = none)
    (m_bool : mg "bool" = none)
    (m_int : mg "int" = none) :
    FnD P w K mg base 1 f (PySem.W.fnOf "is_integer" "is_integer" (defArgs s_is_integer) (defBody s_is_integer) (defScope s_is_integer) dV kV doc pm an cdv ct) ["value"] F_is_integer 0 := by
  unfold F_is_integer
  refine fnd_by lk cd sc_is_integer (g := G_is_integer) (by decide) (fun X W E hE h1 h2 h3 h4 h5 hfn C => ?_)
  subst h1 h2 h3 h4 h5
  have d : DSs X W (defBody s_is_integer) (G_is_integer E) _ := (dss_one (ds_ret C (de_and C (de_isi C isi_int (by decide +kernel) m_isinstance (by decide +kernel) m_int boot_int (DE.bo (de_var C (i := 0) rfl (vis_by (by decide +kernel))))) (de_one (de_not (de_isi C isi_bool (by decide +kernel) m_isinstance (by decide +kernel) m_bool boot_bool (DE.bo (de_var C (i := 0) rfl (vis_by (by decide +kernel))))))))))
  exact ⟨_, by decide +kernel, d⟩
abbrev s_is_fraction : Stmt := topS 11
theorem sc_is_fraction : FnScope N_is_fraction ["value"] (defScope s_is_fraction) := ⟨rfl, rfl, rfl, by decide +kernel, rfl, by decide +kernel, by decide +kernel⟩
theorem ok_is_fraction {P : Program} {w : World} {K : PySem.W.Frag} {mg : Str → Option Value} {base : Heap} {f : Addr} {od an : Option Addr} {osl : Array (Option Value)} {oc dV kV doc pm cdv ct : Value}
    (lk : K.lookup f = some ⟨oc, od, .func (PySem.W.fnOf "is_fraction" "is_fraction" (defArgs s_is_fraction) (defBody s_is_fraction) (defScope s_is_fraction) dV kV doc pm an cdv ct), osl⟩) (cd : PySem.W.codeIn K cdv "is_fraction" = true)
    {f_is_integer : Addr} {fd_is_integer : FuncData} (M_is_integer : FnD P w K mg base 1 f_is_integer fd_is_integer ["value"] F_is_integer 0) (a_is_integer : mg "is_integer" = some (.ref f_is_integer)) (kp_is_integer : PySem.W.keepIn K (.ref f_is_integer) = true)
    {f_common : Addr} {fd_common : FuncData} (M_common : FnD P w K mg base 1 f_common fd_common ["one", "other"] F_common 0) (a_common : mg "common" = some (.ref f_common)) (kp_common : PySem.W.keepIn K (.ref f_common) = true)
    (b_is_integer_1 : BindG K fd_is_integer ["value"] 1 [] [])
    (b_common_2 : BindG K fd_common ["one", "other"] 2 [] [])
    (m_all : mg "all" = none)
    (m_len : mg "len" = none)
    (m_isinstance : mg "isinstance" = none)
    (m_tuple : mg "tuple" = none) :
    FnD P w K mg base 2 f (PySem.W.fnOf "is_fraction" "is_fraction" (defArgs s_is_fraction) (defBody s_is_fraction) (defScope s_is_fraction) dV kV doc pm an cdv ct) ["value"] F_is_fraction 0 := by
  unfold F_is_fraction
  refine fnd_by lk cd sc_is_fraction (g := G_is_fraction) (by decide) (fun X W E hE h1 h2 h3 h4 h5 hfn C => ?_)
  subst h1 h2 h3 h4 h5
  have d : DSs X W (defBody s_is_fraction) (G_is_fraction E) _ := (dss_cons (ds_if C (DW.t (dw_or C (dt_not (dt_val (DE.bo (de_isi C isi_tuple (by decide +kernel) m_isinstance (by decide +kernel) m_tuple boot_tuple (DE.bo (de_var C (i := 0) rfl (vis_by (by decide +kernel)))))))) (dw_or C (dt_cmp C (dop_ne C.units) (DE.bo (de_callB C dc_len (by decide +kernel) m_len PySem.boot_len (db_cons C (DE.bo (de_var C (i := 0) rfl (vis_by (by decide +kernel)))) db_nil))) (DE.bo de_int)) (dw_or1 (dt_not (dt_val (DE.bo (de_callB C (dc_all C.calm) (by decide +kernel) m_all boot_all (db_cons C (DE.bo (DF.da C (df_lc (own := [("part", 1)]) C 0 (DI.bo (di_seq C (de_var C (i := 0) rfl (vis_by (by decide +kernel))))) (blkOk_by (own := [("part", 1)]) (by decide +kernel)) (blk_use C fun _ _ _ _ _ _ C1 => (dg_name C1 (i := 1) rfl (loc_by (by decide +kernel)) (.inr (by decide +kernel)))) (blk_use C fun _ _ _ _ _ _ C1 => PTsD.le (c := 0) dts_nil (by decide +kernel)) (blk_use C fun _ _ _ _ _ _ C1 => DE.le (c := 0) (de_fn C1 rfl M_is_integer (by decide) (by decide +kernel) a_is_integer kp_is_integer b_is_integer_1 .nil (das_dat C1 (de_var C1 (i := 1) rfl (vis_by (by decide +kernel))) das_nil) rfl) (by decide +kernel)) (by decide)))) db_nil))))))))) (dss_one (ds_ret C de_bl)) dss_nil)
    (dss_one (ds_ret C (de_and C (de_cmp C dop_ge (DE.bo (de_ix C dix (DE.bo (de_var C (i := 0) rfl (vis_by (by decide +kernel)))) (DE.bo de_int))) (DE.bo de_int)) (de_one (de_cmp C (dop_eq C.units) (DE.bo (de_fn C hE M_common (by decide) (by decide +kernel) a_common kp_common b_common_2 .nil (das_dat C (de_ix C dix (DE.bo (de_var C (i := 0) rfl (vis_by (by decide +kernel)))) (DE.bo de_int)) (das_dat C (de_ix C dix (DE.bo (de_var C (i := 0) rfl (vis_by (by decide +kernel)))) (DE.bo de_int)) das_nil)) rfl)) (DE.bo de_int)))))))
  exact ⟨_, by decide +kernel, d⟩
abbrev s_is_told_fraction : Stmt := topS 12
theorem sc_is_told_fraction : FnScope N_is_told_fraction ["value"] (defScope s_is_told_fraction) := ⟨rfl, rfl, rfl, by decide +kernel, rfl, by decide +kernel, by decide +kernel⟩
theorem ok_is_told_fraction {P : Program} {w : World} {K : PySem.W.Frag} {mg : Str → Option Value} {base : Heap} {f : Addr} {od an : Option Addr} {osl : Array (Option Value)} {oc dV kV doc pm cdv ct : Value}
    (lk : K.lookup f = some ⟨oc, od, .func (PySem.W.fnOf "is_told_fraction" "is_told_fraction" (defArgs s_is_told_fraction) (defBody s_is_told_fraction) (defScope s_is_told_fraction) dV kV doc pm an cdv ct), osl⟩) (cd : PySem.W.codeIn K cdv "is_told_fraction" = true)
    {f_is_fraction : Addr} {fd_is_fraction : FuncData} (M_is_fraction : FnD P w K mg base 2 f_is_fraction fd_is_fraction ["value"] F_is_fraction 0) (a_is_fraction : mg "is_fraction" = some (.ref f_is_fraction)) (kp_is_fraction : PySem.W.keepIn K (.ref f_is_fraction) = true)
    (b_is_fraction_1 : BindG K fd_is_fraction ["value"] 1 [] [])
    {u_BEYOND : Value} (m_BEYOND : mg "BEYOND" = some u_BEYOND) (r_BEYOND : KRep K u_BEYOND d_BEYOND)
    (m_abs : mg "abs" = none) :
    FnD P w K mg base 3 f (PySem.W.fnOf "is_told_fraction" "is_told_fraction" (defArgs s_is_told_fraction) (defBody s_is_told_fraction) (defScope s_is_told_fraction) dV kV doc pm an cdv ct) ["value"] F_is_told_fraction 0 := by
  unfold F_is_told_fraction
  refine fnd_by lk cd sc_is_told_fraction (g := G_is_told_fraction) (by decide) (fun X W E hE h1 h2 h3 h4 h5 hfn C => ?_)
  subst h1 h2 h3 h4 h5
  have d : DSs X W (defBody s_is_told_fraction) (G_is_told_fraction E) _ := (dss_one (ds_ret C (de_and C (de_fn C hE M_is_fraction (by decide) (by decide +kernel) a_is_fraction kp_is_fraction b_is_fraction_1 .nil (das_dat C (de_var C (i := 0) rfl (vis_by (by decide +kernel))) das_nil) rfl) (de_and C (de_cmp C dop_lt (DE.bo (de_callB C dc_abs (by decide +kernel) m_abs boot_abs (db_cons C (DE.bo (de_ix C dix (DE.bo (de_var C (i := 0) rfl (vis_by (by decide +kernel)))) (DE.bo de_int))) db_nil))) (DE.bo (de_glob C (by decide +kernel) m_BEYOND r_BEYOND))) (de_one (de_cmp C dop_lt (DE.bo (de_ix C dix (DE.bo (de_var C (i := 0) rfl (vis_by (by decide +kernel)))) (DE.bo de_int))) (DE.bo (de_glob C (by decide +kernel) m_BEYOND r_BEYOND))))))))
  exact ⟨_, by decide +kernel, d⟩
abbrev s_is_stretch : Stmt := topS 19
theorem sc_is_stretch : FnScope N_is_stretch ["value"] (defScope s_is_stretch) := ⟨rfl, rfl, rfl, by decide +kernel, rfl, by decide +kernel, by decide +kernel⟩
theorem ok_is_stretch {P : Program} {w : World} {K : PySem.W.Frag} {mg : Str → Option Value} {base : Heap} {f : Addr} {od an : Option Addr} {osl : Array (Option Value)} {oc dV kV doc pm cdv ct : Value}
    (lk : K.lookup f = some ⟨oc, od, .func (PySem.W.fnOf "is_stretch" "is_stretch" (defArgs s_is_stretch) (defBody s_is_stretch) (defScope s_is_stretch) dV kV doc pm an cdv ct), osl⟩) (cd : PySem.W.codeIn K cdv "is_stretch" = true)
    {f_is_told_fraction : Addr} {fd_is_told_fraction : FuncData} (M_is_told_fraction : FnD P w K mg base 3 f_is_told_fraction fd_is_told_fraction ["value"] F_is_told_fraction 0) (a_is_told_fraction : mg "is_told_fraction" = some (.ref f_is_told_fraction)) (kp_is_told_fraction : PySem.W.keepIn K (.ref f_is_told_fraction) = true)
    {f_is_less : Addr} {fd_is_less : FuncData} (M_is_less : FnD P w K mg base 1 f_is_less fd_is_less ["one", "other"] F_is_less 0) (a_is_less : mg "is_less" = some (.ref f_is_less)) (kp_is_less : PySem.W.keepIn K (.ref f_is_less) = true)
    (b_is_told_fraction_1 : BindG K fd_is_told_fraction ["value"] 1 [] [])
    (b_is_less_2 : BindG K fd_is_less ["one", "other"] 2 [] [])
    (m_all : mg "all" = none)
    (m_isinstance : mg "isinstance" = none)
    (m_bool : mg "bool" = none)
    (m_len : mg "len" = none)
    (m_tuple : mg "tuple" = none) :
    FnD P w K mg base 4 f (PySem.W.fnOf "is_stretch" "is_stretch" (defArgs s_is_stretch) (defBody s_is_stretch) (defScope s_is_stretch) dV kV doc pm an cdv ct) ["value"] F_is_stretch 0 := by
  unfold F_is_stretch
  refine fnd_by lk cd sc_is_stretch (g := G_is_stretch) (by decide) (fun X W E hE h1 h2 h3 h4 h5 hfn C => ?_)
  subst h1 h2 h3 h4 h5
  have d : DSs X W (defBody s_is_stretch) (G_is_stretch E) _ := (dss_cons (ds_if C (DW.t (dw_or C (dt_not (dt_val (DE.bo (de_isi C isi_tuple (by decide +kernel) m_isinstance (by decide +kernel) m_tuple boot_tuple (DE.bo (de_var C (i := 0) rfl (vis_by (by decide +kernel)))))))) (dw_or C (dt_cmp C (dop_ne C.units) (DE.bo (de_callB C dc_len (by decide +kernel) m_len PySem.boot_len (db_cons C (DE.bo (de_var C (i := 0) rfl (vis_by (by decide +kernel)))) db_nil))) (DE.bo de_int)) (dw_or1 (dt_not (dt_val (DE.bo (de_callB C (dc_all C.calm) (by decide +kernel) m_all boot_all (db_cons C (DE.bo (DF.da C (df_lc (own := [("at", 1)]) C 0 (DI.bo (di_seq C (de_tup C (da_cons C de_int (da_cons C de_int da_nil))))) (blkOk_by (own := [("at", 1)]) (by decide +kernel)) (blk_use C fun _ _ _ _ _ _ C1 => (dg_name C1 (i := 1) rfl (loc_by (by decide +kernel)) (.inr (by decide +kernel)))) (blk_use C fun _ _ _ _ _ _ C1 => PTsD.le (c := 0) dts_nil (by decide +kernel)) (blk_use C fun _ _ _ _ _ _ C1 => DE.le (c := 0) (de_isi C1 isi_bool (by decide +kernel) m_isinstance (by decide +kernel) m_bool boot_bool (DE.bo (de_ix C1 dix (DE.bo (de_var C1 (i := 0) rfl (vis_by (by decide +kernel)))) (DE.bo (de_var C1 (i := 1) rfl (vis_by (by decide +kernel))))))) (by decide +kernel)) (by decide)))) db_nil))))))))) (dss_one (ds_ret C de_bl)) dss_nil)
    (dss_cons (ds_if C (DW.t (dw_or C (dt_not (dt_val (DE.bo (de_fn C hE M_is_told_fraction (by decide) (by decide +kernel) a_is_told_fraction kp_is_told_fraction b_is_told_fraction_1 .nil (das_dat C (de_ix C dix (DE.bo (de_var C (i := 0) rfl (vis_by (by decide +kernel)))) (DE.bo de_int)) das_nil) rfl)))) (dw_or C (dt_not (dt_val (DE.bo (de_fn C hE M_is_told_fraction (by decide) (by decide +kernel) a_is_told_fraction kp_is_told_fraction b_is_told_fraction_1 .nil (das_dat C (de_ix C dix (DE.bo (de_var C (i := 0) rfl (vis_by (by decide +kernel)))) (DE.bo de_int)) das_nil) rfl)))) (dw_or1 (dt_cmp C dop_lt (DE.bo (de_ix C dix (DE.bo (de_ix C dix (DE.bo (de_var C (i := 0) rfl (vis_by (by decide +kernel)))) (DE.bo de_int))) (DE.bo de_int))) (DE.bo de_int)))))) (dss_one (ds_ret C de_bl)) dss_nil)
    (dss_one (ds_ret C (de_or C (de_fn C hE M_is_less (by decide) (by decide +kernel) a_is_less kp_is_less b_is_less_2 .nil (das_dat C (de_ix C dix (DE.bo (de_var C (i := 0) rfl (vis_by (by decide +kernel)))) (DE.bo de_int)) (das_dat C (de_ix C dix (DE.bo (de_var C (i := 0) rfl (vis_by (by decide +kernel)))) (DE.bo de_int)) das_nil)) rfl) (de_one (de_and C (de_cmp C (dop_eq C.units) (DE.bo (de_ix C dix (DE.bo (de_var C (i := 0) rfl (vis_by (by decide +kernel)))) (DE.bo de_int))) (DE.bo (de_ix C dix (DE.bo (de_var C (i := 0) rfl (vis_by (by decide +kernel)))) (DE.bo de_int)))) (de_and C (de_ix C dix (DE.bo (de_var C (i := 0) rfl (vis_by (by decide +kernel)))) (DE.bo de_int)) (de_one (de_ix C dix (DE.bo (de_var C (i := 0) rfl (vis_by (by decide +kernel)))) (DE.bo de_int)))))))))))
  exact ⟨_, by decide +kernel, d⟩
abbrev s_check_stretch : Stmt := topS 20
theorem sc_check_stretch : FnScope N_check_stretch ["stretch"] (defScope s_check_stretch) := ⟨rfl, rfl, rfl, by decide +kernel, rfl, by decide +kernel, by decide +kernel⟩
theorem ok_check_stretch {P : Program} {w : World} {K : PySem.W.Frag} {mg : Str → Option Value} {base : Heap} {f : Addr} {od an : Option Addr} {osl : Array (Option Value)} {oc dV kV doc pm cdv ct : Value}
    (lk : K.lookup f = some ⟨oc, od, .func (PySem.W.fnOf "check_stretch" "check_stretch" (defArgs s_check_stretch) (defBody s_check_stretch) (defScope s_check_stretch) dV kV doc pm an cdv ct), osl⟩) (cd : PySem.W.codeIn K cdv "check_stretch" = true)
    {f_is_stretch : Addr} {fd_is_stretch : FuncData} (M_is_stretch : FnD P w K mg base 4 f_is_stretch fd_is_stretch ["value"] F_is_stretch 0) (a_is_stretch : mg "is_stretch" = some (.ref f_is_stretch)) (kp_is_stretch : PySem.W.keepIn K (.ref f_is_stretch) = true)
    (b_is_stretch_1 : BindG K fd_is_stretch ["value"] 1 [] []) :
    FnD P w K mg base 5 f (PySem.W.fnOf "check_stretch" "check_stretch" (defArgs s_check_stretch) (defBody s_check_stretch) (defScope s_check_stretch) dV kV doc pm an cdv ct) ["stretch"] F_check_stretch 0 := by
  unfold F_check_stretch
  refine fnd_by lk cd sc_check_stretch (g := G_check_stretch) (by decide) (fun X W E hE h1 h2 h3 h4 h5 hfn C => ?_)
  subst h1 h2 h3 h4 h5
  have d : DSs X W (defBody s_check_stretch) (G_check_stretch E) _ := (dss_one (ds_if C (dt_not (dt_val (DE.bo (de_fn C hE M_is_stretch (by decide) (by decide +kernel) a_is_stretch kp_is_stretch b_is_stretch_1 .nil (das_dat C (de_var C (i := 0) rfl (vis_by (by decide +kernel))) das_nil) rfl)))) (dss_one ds_off) dss_nil))
  exact ⟨_, by decide +kernel, d⟩
abbrev s_floor_of : Stmt := topS 16
theorem sc_floor_of : FnScope N_floor_of ["one"] (defScope s_floor_of) := ⟨rfl, rfl, rfl, by decide +kernel, rfl, by decide +kernel, by decide +kernel⟩
theorem ok_floor_of {P : Program} {w : World} {K : PySem.W.Frag} {mg : Str → Option Value} {base : Heap} {f : Addr} {od an : Option Addr} {osl : Array (Option Value)} {oc dV kV doc pm cdv ct : Value}
    (lk : K.lookup f = some ⟨oc, od, .func (PySem.W.fnOf "floor_of" "floor_of" (defArgs s_floor_of) (defBody s_floor_of) (defScope s_floor_of) dV kV doc pm an cdv ct), osl⟩) (cd : PySem.W.codeIn K cdv "floor_of" = true)
     :
    FnD P w K mg base 1 f (PySem.W.fnOf "floor_of" "floor_of" (defArgs s_floor_of) (defBody s_floor_of) (defScope s_floor_of) dV kV doc pm an cdv ct) ["one"] F_floor_of 0 := by
  unfold F_floor_of
  refine fnd_by lk cd sc_floor_of (g := G_floor_of) (by decide) (fun X W E hE h1 h2 h3 h4 h5 hfn C => ?_)
  subst h1 h2 h3 h4 h5
  have d : DSs X W (defBody s_floor_of) (G_floor_of E) _ := (dss_one (ds_ret C (de_bin C dop_fdiv (DE.bo (de_ix C dix (DE.bo (de_var C (i := 0) rfl (vis_by (by decide +kernel)))) (DE.bo de_int))) (DE.bo (de_ix C dix (DE.bo (de_var C (i := 0) rfl (vis_by (by decide +kernel)))) (DE.bo de_int))))))
  exact ⟨_, by decide +kernel, d⟩
abbrev s_is_inside : Stmt := topS 21
theorem sc_is_inside : FnScope N_is_inside ["stretch", "one"] (defScope s_is_inside) := ⟨rfl, rfl, rfl, by decide +kernel, rfl, by decide +kernel, by decide +kernel⟩
theorem ok_is_inside {P : Program} {w : World} {K : PySem.W.Frag} {mg : Str → Option Value} {base : Heap} {f : Addr} {od an : Option Addr} {osl : Array (Option Value)} {oc dV kV doc pm cdv ct : Value}
    (lk : K.lookup f = some ⟨oc, od, .func (PySem.W.fnOf "is_inside" "is_inside" (defArgs s_is_inside) (defBody s_is_inside) (defScope s_is_inside) dV kV doc pm an cdv ct), osl⟩) (cd : PySem.W.codeIn K cdv "is_inside" = true)
    {f_is_less : Addr} {fd_is_less : FuncData} (M_is_less : FnD P w K mg base 1 f_is_less fd_is_less ["one", "other"] F_is_less 0) (a_is_less : mg "is_less" = some (.ref f_is_less)) (kp_is_less : PySem.W.keepIn K (.ref f_is_less) = true)
    (b_is_less_2 : BindG K fd_is_less ["one", "other"] 2 [] []) :
    FnD P w K mg base 2 f (PySem.W.fnOf "is_inside" "is_inside" (defArgs s_is_inside) (defBody s_is_inside) (defScope s_is_inside) dV kV doc pm an cdv ct) ["stretch", "one"] F_is_inside 0 := by
  unfold F_is_inside
  refine fnd_by lk cd sc_is_inside (g := G_is_inside) (by decide) (fun X W E hE h1 h2 h3 h4 h5 hfn C => ?_)
  subst h1 h2 h3 h4 h5
  have d : DSs X W (defBody s_is_inside) (G_is_inside E) _ := (dss_cons (ds_asg C (de_var C (i := 0) rfl (vis_by (by decide +kernel))) (dg_tup C (dgs_cons (dg_name C (i := 2) rfl (loc_by (by decide +kernel)) (.inl (hfn _))) (dgs_cons (dg_name C (i := 3) rfl (loc_by (by decide +kernel)) (.inl (hfn _))) (dgs_cons (dg_name C (i := 4) rfl (loc_by (by decide +kernel)) (.inl (hfn _))) (dgs_cons (dg_name C (i := 5) rfl (loc_by (by decide +kernel)) (.inl (hfn _))) dgs_nil))))))
    (dss_cons (ds_if C (DW.t (dw_or C (dt_val (DE.bo (de_fn C hE M_is_less (by decide) (by decide +kernel) a_is_less kp_is_less b_is_less_2 .nil (das_dat C (de_var C (i := 1) rfl (vis_by (by decide +kernel))) (das_dat C (de_var C (i := 2) rfl (vis_by (by decide +kernel))) das_nil)) rfl))) (dw_or1 (DW.t (dw_and C (dt_cmp C (dop_eq C.units) (DE.bo (de_var C (i := 1) rfl (vis_by (by decide +kernel)))) (DE.bo (de_var C (i := 2) rfl (vis_by (by decide +kernel))))) (dw_and1 (dt_not (dt_val (DE.bo (de_var C (i := 3) rfl (vis_by (by decide +kernel)))))))))))) (dss_one (ds_ret C de_bl)) dss_nil)
    (dss_one (ds_ret C (de_or C (de_cmp C dop_is (DE.bo (de_var C (i := 4) rfl (vis_by (by decide +kernel)))) (DE.bo de_non)) (de_or C (de_fn C hE M_is_less (by decide) (by decide +kernel) a_is_less kp_is_less b_is_less_2 .nil (das_dat C (de_var C (i := 1) rfl (vis_by (by decide +kernel))) (das_dat C (de_var C (i := 4) rfl (vis_by (by decide +kernel))) das_nil)) rfl) (de_one (de_and C (de_cmp C (dop_eq C.units) (DE.bo (de_var C (i := 1) rfl (vis_by (by decide +kernel)))) (DE.bo (de_var C (i := 4) rfl (vis_by (by decide +kernel))))) (de_one (de_var C (i := 5) rfl (vis_by (by decide +kernel))))))))))))
  exact ⟨_, by decide +kernel, d⟩
abbrev s_reduced : Stmt := topS 10
theorem sc_reduced : FnScope N_reduced ["top", "low"] (defScope s_reduced) := ⟨rfl, rfl, rfl, by decide +kernel, rfl, by decide +kernel, by decide +kernel⟩
theorem ok_reduced {P : Program} {w : World} {K : PySem.W.Frag} {mg : Str → Option Value} {base : Heap} {f : Addr} {od an : Option Addr} {osl : Array (Option Value)} {oc dV kV doc pm cdv ct : Value}
    (lk : K.lookup f = some ⟨oc, od, .func (PySem.W.fnOf "reduced" "reduced" (defArgs s_reduced) (defBody s_reduced) (defScope s_reduced) dV kV doc pm an cdv ct), osl⟩) (cd : PySem.W.codeIn K cdv "reduced" = true)
    {f_common : Addr} {fd_common : FuncData} (M_common : FnD P w K mg base 1 f_common fd_common ["one", "other"] F_common 0) (a_common : mg "common" = some (.ref f_common)) (kp_common : PySem.W.keepIn K (.ref f_common) = true)
    (b_common_2 : BindG K fd_common ["one", "other"] 2 [] []) :
    FnD P w K mg base 2 f (PySem.W.fnOf "reduced" "reduced" (defArgs s_reduced) (defBody s_reduced) (defScope s_reduced) dV kV doc pm an cdv ct) ["top", "low"] F_reduced 0 := by
  unfold F_reduced
  refine fnd_by lk cd sc_reduced (g := G_reduced) (by decide) (fun X W E hE h1 h2 h3 h4 h5 hfn C => ?_)
  subst h1 h2 h3 h4 h5
  have d : DSs X W (defBody s_reduced) (G_reduced E) _ := (dss_cons (ds_set C (i := 2) rfl (loc_by (by decide +kernel)) (.inl (hfn _)) (de_if C (dt_cmp C dop_gt (DE.bo (de_var C (i := 1) rfl (vis_by (by decide +kernel)))) (DE.bo de_int)) (de_fn C hE M_common (by decide) (by decide +kernel) a_common kp_common b_common_2 .nil (das_dat C (de_var C (i := 0) rfl (vis_by (by decide +kernel))) (das_dat C (de_var C (i := 1) rfl (vis_by (by decide +kernel))) das_nil)) rfl) (de_bin C dop_sub (DE.bo de_int) (DE.bo (de_fn C hE M_common (by decide) (by decide +kernel) a_common kp_common b_common_2 .nil (das_dat C (de_var C (i := 0) rfl (vis_by (by decide +kernel))) (das_dat C (de_var C (i := 1) rfl (vis_by (by decide +kernel))) das_nil)) rfl)))))
    (dss_one (ds_ret C (de_tup C (da_cons C (de_bin C dop_fdiv (DE.bo (de_var C (i := 0) rfl (vis_by (by decide +kernel)))) (DE.bo (de_var C (i := 2) rfl (vis_by (by decide +kernel))))) (da_cons C (de_bin C dop_fdiv (DE.bo (de_var C (i := 1) rfl (vis_by (by decide +kernel)))) (DE.bo (de_var C (i := 2) rfl (vis_by (by decide +kernel))))) da_nil))))))
  exact ⟨_, by decide +kernel, d⟩
abbrev s_difference : Stmt := topS 13
theorem sc_difference : FnScope N_difference ["one", "other"] (defScope s_difference) := ⟨rfl, rfl, rfl, by decide +kernel, rfl, by decide +kernel, by decide +kernel⟩
theorem ok_difference {P : Program} {w : World} {K : PySem.W.Frag} {mg : Str → Option Value} {base : Heap} {f : Addr} {od an : Option Addr} {osl : Array (Option Value)} {oc dV kV doc pm cdv ct : Value}
    (lk : K.lookup f = some ⟨oc, od, .func (PySem.W.fnOf "difference" "difference" (defArgs s_difference) (defBody s_difference) (defScope s_difference) dV kV doc pm an cdv ct), osl⟩) (cd : PySem.W.codeIn K cdv "difference" = true)
    {f_reduced : Addr} {fd_reduced : FuncData} (M_reduced : FnD P w K mg base 2 f_reduced fd_reduced ["top", "low"] F_reduced 0) (a_reduced : mg "reduced" = some (.ref f_reduced)) (kp_reduced : PySem.W.keepIn K (.ref f_reduced) = true)
    (b_reduced_2 : BindG K fd_reduced ["top", "low"] 2 [] []) :
    FnD P w K mg base 3 f (PySem.W.fnOf "difference" "difference" (defArgs s_difference) (defBody s_difference) (defScope s_difference) dV kV doc pm an cdv ct) ["one", "other"] F_difference 0 := by
  unfold F_difference
  refine fnd_by lk cd sc_difference (g := G_difference) (by decide) (fun X W E hE h1 h2 h3 h4 h5 hfn C => ?_)
  subst h1 h2 h3 h4 h5
  have d : DSs X W (defBody s_difference) (G_difference E) _ := (dss_one (ds_ret C (de_fn C hE M_reduced (by decide) (by decide +kernel) a_reduced kp_reduced b_reduced_2 .nil (das_dat C (de_bin C dop_sub (DE.bo (de_bin C dop_mul (DE.bo (de_ix C dix (DE.bo (de_var C (i := 0) rfl (vis_by (by decide +kernel)))) (DE.bo de_int))) (DE.bo (de_ix C dix (DE.bo (de_var C (i := 1) rfl (vis_by (by decide +kernel)))) (DE.bo de_int))))) (DE.bo (de_bin C dop_mul (DE.bo (de_ix C dix (DE.bo (de_var C (i := 1) rfl (vis_by (by decide +kernel)))) (DE.bo de_int))) (DE.bo (de_ix C dix (DE.bo (de_var C (i := 0) rfl (vis_by (by decide +kernel)))) (DE.bo de_int)))))) (das_dat C (de_bin C dop_mul (DE.bo (de_ix C dix (DE.bo (de_var C (i := 0) rfl (vis_by (by decide +kernel)))) (DE.bo de_int))) (DE.bo (de_ix C dix (DE.bo (de_var C (i := 1) rfl (vis_by (by decide +kernel)))) (DE.bo de_int)))) das_nil)) rfl)))
  exact ⟨_, by decide +kernel, d⟩
abbrev s_quotient : Stmt := topS 14
theorem sc_quotient : FnScope N_quotient ["one", "other"] (defScope s_quotient) := ⟨rfl, rfl, rfl, by decide +kernel, rfl, by decide +kernel, by decide +kernel⟩
theorem ok_quotient {P : Program} {w : World} {K : PySem.W.Frag} {mg : Str → Option Value} {base : Heap} {f : Addr} {od an : Option Addr} {osl : Array (Option Value)} {oc dV kV doc pm cdv ct : Value}
    (lk : K.lookup f = some ⟨oc, od, .func (PySem.W.fnOf "quotient" "quotient" (defArgs s_quotient) (defBody s_quotient) (defScope s_quotient) dV kV doc pm an cdv ct), osl⟩) (cd : PySem.W.codeIn K cdv "quotient" = true)
    {f_reduced : Addr} {fd_reduced : FuncData} (M_reduced : FnD P w K mg base 2 f_reduced fd_reduced ["top", "low"] F_reduced 0) (a_reduced : mg "reduced" = some (.ref f_reduced)) (kp_reduced : PySem.W.keepIn K (.ref f_reduced) = true)
    (b_reduced_2 : BindG K fd_reduced ["top", "low"] 2 [] []) :
    FnD P w K mg base 3 f (PySem.W.fnOf "quotient" "quotient" (defArgs s_quotient) (defBody s_quotient) (defScope s_quotient) dV kV doc pm an cdv ct) ["one", "other"] F_quotient 0 := by
  unfold F_quotient
  refine fnd_by lk cd sc_quotient (g := G_quotient) (by decide) (fun X W E hE h1 h2 h3 h4 h5 hfn C => ?_)
  subst h1 h2 h3 h4 h5
  have d : DSs X W (defBody s_quotient) (G_quotient E) _ := (dss_one (ds_ret C (de_fn C hE M_reduced (by decide) (by decide +kernel) a_reduced kp_reduced b_reduced_2 .nil (das_dat C (de_bin C dop_mul (DE.bo (de_ix C dix (DE.bo (de_var C (i := 0) rfl (vis_by (by decide +kernel)))) (DE.bo de_int))) (DE.bo (de_ix C dix (DE.bo (de_var C (i := 1) rfl (vis_by (by decide +kernel)))) (DE.bo de_int)))) (das_dat C (de_bin C dop_mul (DE.bo (de_ix C dix (DE.bo (de_var C (i := 0) rfl (vis_by (by decide +kernel)))) (DE.bo de_int))) (DE.bo (de_ix C dix (DE.bo (de_var C (i := 1) rfl (vis_by (by decide +kernel)))) (DE.bo de_int)))) das_nil)) rfl)))
  exact ⟨_, by decide +kernel, d⟩
abbrev s_simplest_of : Stmt := topS 22
theorem sc_simplest_of : FnScope N_simplest_of ["stretch"] (defScope s_simplest_of) := ⟨rfl, rfl, rfl, by decide +kernel, rfl, by decide +kernel, by decide +kernel⟩
theorem ok_simplest_of {P : Program} {w : World} {K : PySem.W.Frag} {mg : Str → Option Value} {base : Heap} {f : Addr} {od an : Option Addr} {osl : Array (Option Value)} {oc dV kV doc pm cdv ct : Value}
    (lk : K.lookup f = some ⟨oc, od, .func (PySem.W.fnOf "simplest_of" "simplest_of" (defArgs s_simplest_of) (defBody s_simplest_of) (defScope s_simplest_of) dV kV doc pm an cdv ct), osl⟩) (cd : PySem.W.codeIn K cdv "simplest_of" = true)
    {f_floor_of : Addr} {fd_floor_of : FuncData} (M_floor_of : FnD P w K mg base 1 f_floor_of fd_floor_of ["one"] F_floor_of 0) (a_floor_of : mg "floor_of" = some (.ref f_floor_of)) (kp_floor_of : PySem.W.keepIn K (.ref f_floor_of) = true)
    {f_is_inside : Addr} {fd_is_inside : FuncData} (M_is_inside : FnD P w K mg base 2 f_is_inside fd_is_inside ["stretch", "one"] F_is_inside 0) (a_is_inside : mg "is_inside" = some (.ref f_is_inside)) (kp_is_inside : PySem.W.keepIn K (.ref f_is_inside) = true)
    {f_difference : Addr} {fd_difference : FuncData} (M_difference : FnD P w K mg base 3 f_difference fd_difference ["one", "other"] F_difference 0) (a_difference : mg "difference" = some (.ref f_difference)) (kp_difference : PySem.W.keepIn K (.ref f_difference) = true)
    {f_quotient : Addr} {fd_quotient : FuncData} (M_quotient : FnD P w K mg base 3 f_quotient fd_quotient ["one", "other"] F_quotient 0) (a_quotient : mg "quotient" = some (.ref f_quotient)) (kp_quotient : PySem.W.keepIn K (.ref f_quotient) = true)
    (b_floor_of_1 : BindG K fd_floor_of ["one"] 1 [] [])
    (b_is_inside_2 : BindG K fd_is_inside ["stretch", "one"] 2 [] [])
    (b_difference_2 : BindG K fd_difference ["one", "other"] 2 [] [])
    (b_quotient_2 : BindG K fd_quotient ["one", "other"] 2 [] [])
    {u_MOST_PARTS : Value} (m_MOST_PARTS : mg "MOST_PARTS" = some u_MOST_PARTS) (r_MOST_PARTS : KRep K u_MOST_PARTS d_MOST_PARTS)
    {u_ONE : Value} (m_ONE : mg "ONE" = some u_ONE) (r_ONE : KRep K u_ONE d_ONE)
    {u_NOTHING : Value} (m_NOTHING : mg "NOTHING" = some u_NOTHING) (r_NOTHING : KRep K u_NOTHING d_NOTHING)
    (m_range : mg "range" = none) :
    FnD P w K mg base 4 f (PySem.W.fnOf "simplest_of" "simplest_of" (defArgs s_simplest_of) (defBody s_simplest_of) (defScope s_simplest_of) dV kV doc pm an cdv ct) ["stretch"] F_simplest_of 0 := by
  unfold F_simplest_of
  refine fnd_by lk cd sc_simplest_of (g := G_simplest_of) (by decide) (fun X W E hE h1 h2 h3 h4 h5 hfn C => ?_)
  subst h1 h2 h3 h4 h5
  have d : DSs X W (defBody s_simplest_of) (G_simplest_of E) _ := (dss_cons (ds_par3F C (i := 1) (j := 2) (l := 3) rfl rfl rfl (by decide) (by decide) (by decide) (by decide +kernel) (by decide +kernel) (by decide +kernel) (df_lst C da_nil) (fun _ C1 => de_int) (fun _ C1 => (de_var C1 (i := 0) rfl (vis_by (by decide +kernel)))) (swp3 C rfl (by decide +kernel) (by decide +kernel) (by decide +kernel) (by decide +kernel) (by decide +kernel) (by decide +kernel) rfl rfl (fun _ _ z => nomatch z) (fun _ _ z => nomatch z) (fun _ _ z => nomatch z) rfl rfl))
    (dss_cons (ds_for C 0 (di_range1 C (by decide +kernel) m_range (DE.bo (de_glob C (by decide +kernel) m_MOST_PARTS r_MOST_PARTS))) (dg_name C (i := 4) rfl (loc_by (by decide +kernel)) (.inl (hfn _))) (DSs.le (c := 0) (dss_cons (ds_asg C (de_var C (i := 3) rfl (vis_by (by decide +kernel))) (dg_tup C (dgs_cons (dg_name C (i := 5) rfl (loc_by (by decide +kernel)) (.inl (hfn _))) (dgs_cons (dg_name C (i := 6) rfl (loc_by (by decide +kernel)) (.inl (hfn _))) (dgs_cons (dg_name C (i := 7) rfl (loc_by (by decide +kernel)) (.inl (hfn _))) (dgs_cons (dg_name C (i := 8) rfl (loc_by (by decide +kernel)) (.inl (hfn _))) dgs_nil))))))
    (dss_cons (ds_set C (i := 9) rfl (loc_by (by decide +kernel)) (.inl (hfn _)) (de_fn C hE M_floor_of (by decide) (by decide +kernel) a_floor_of kp_floor_of b_floor_of_1 .nil (das_dat C (de_var C (i := 5) rfl (vis_by (by decide +kernel))) das_nil) rfl))
    (dss_cons (ds_set C (i := 2) rfl (loc_by (by decide +kernel)) (.inl (hfn _)) (de_if C (DW.t (dw_and C (dt_val (DE.bo (de_var C (i := 6) rfl (vis_by (by decide +kernel))))) (dw_and1 (dt_cmp C (dop_eq C.units) (DE.bo (de_ix C dix (DE.bo (de_var C (i := 5) rfl (vis_by (by decide +kernel)))) (DE.bo de_int))) (DE.bo de_int))))) (de_var C (i := 9) rfl (vis_by (by decide +kernel))) (de_bin C dop_add (DE.bo (de_var C (i := 9) rfl (vis_by (by decide +kernel)))) (DE.bo de_int))))
    (dss_cons (ds_if C (dt_val (DE.bo (de_fn C hE M_is_inside (by decide) (by decide +kernel) a_is_inside kp_is_inside b_is_inside_2 .nil (das_dat C (de_var C (i := 3) rfl (vis_by (by decide +kernel))) (das_dat C (de_tup C (da_cons C (de_var C (i := 2) rfl (vis_by (by decide +kernel))) (da_cons C de_int da_nil))) das_nil)) rfl))) (dss_one ds_break) dss_nil)
    (dss_cons (ds_app C (i := 1) rfl (vis_by (by decide +kernel)) (de_var C (i := 9) rfl (vis_by (by decide +kernel))))
    (dss_cons (ds_set C (i := 10) rfl (loc_by (by decide +kernel)) (.inl (hfn _)) (de_fn C hE M_difference (by decide) (by decide +kernel) a_difference kp_difference b_difference_2 .nil (das_dat C (de_var C (i := 5) rfl (vis_by (by decide +kernel))) (das_dat C (de_tup C (da_cons C (de_var C (i := 9) rfl (vis_by (by decide +kernel))) (da_cons C de_int da_nil))) das_nil)) rfl))
    (dss_cons (ds_set C (i := 11) rfl (loc_by (by decide +kernel)) (.inl (hfn _)) (de_fn C hE M_quotient (by decide) (by decide +kernel) a_quotient kp_quotient b_quotient_2 .nil (das_dat C (de_glob C (by decide +kernel) m_ONE r_ONE) (das_dat C (de_fn C hE M_difference (by decide) (by decide +kernel) a_difference kp_difference b_difference_2 .nil (das_dat C (de_var C (i := 7) rfl (vis_by (by decide +kernel))) (das_dat C (de_tup C (da_cons C (de_var C (i := 9) rfl (vis_by (by decide +kernel))) (da_cons C de_int da_nil))) das_nil)) rfl) das_nil)) rfl))
    (dss_one (ds_set C (i := 3) rfl (loc_by (by decide +kernel)) (.inl (hfn _)) (de_tup C (da_cons C (de_var C (i := 11) rfl (vis_by (by decide +kernel))) (da_cons C (de_var C (i := 8) rfl (vis_by (by decide +kernel))) (da_cons C (de_if C (dt_cmp C (dop_eq C.units) (DE.bo (de_var C (i := 10) rfl (vis_by (by decide +kernel)))) (DE.bo (de_glob C (by decide +kernel) m_NOTHING r_NOTHING))) de_non (de_fn C hE M_quotient (by decide) (by decide +kernel) a_quotient kp_quotient b_quotient_2 .nil (das_dat C (de_glob C (by decide +kernel) m_ONE r_ONE) (das_dat C (de_var C (i := 10) rfl (vis_by (by decide +kernel))) das_nil)) rfl)) (da_cons C (de_var C (i := 6) rfl (vis_by (by decide +kernel))) da_nil)))))))))))))) (by decide +kernel)))
    (dss_cons (ds_set C (i := 12) rfl (loc_by (by decide +kernel)) (.inl (hfn _)) (de_tup C (da_cons C (de_var C (i := 2) rfl (vis_by (by decide +kernel))) (da_cons C de_int da_nil))))
    (dss_cons (ds_for C 0 (di_seq C (de_rev C (db_var C (i := 1) rfl (vis_by (by decide +kernel))))) (dg_name C (i := 9) rfl (loc_by (by decide +kernel)) (.inl (hfn _))) (DSs.le (c := 0) (dss_one (ds_set C (i := 12) rfl (loc_by (by decide +kernel)) (.inl (hfn _)) (de_tup C (da_cons C (de_bin C dop_add (DE.bo (de_bin C dop_mul (DE.bo (de_var C (i := 9) rfl (vis_by (by decide +kernel)))) (DE.bo (de_ix C dix (DE.bo (de_var C (i := 12) rfl (vis_by (by decide +kernel)))) (DE.bo de_int))))) (DE.bo (de_ix C dix (DE.bo (de_var C (i := 12) rfl (vis_by (by decide +kernel)))) (DE.bo de_int)))) (da_cons C (de_ix C dix (DE.bo (de_var C (i := 12) rfl (vis_by (by decide +kernel)))) (DE.bo de_int)) da_nil))))) (by decide +kernel)))
    (dss_one (ds_ret C (de_var C (i := 12) rfl (vis_by (by decide +kernel)))))))))
  exact ⟨_, by decide +kernel, d⟩
abbrev s_parents_of : Stmt := topS 23
theorem sc_parents_of : FnScope N_parents_of ["one"] (defScope s_parents_of) := ⟨rfl, rfl, rfl, by decide +kernel, rfl, by decide +kernel, by decide +kernel⟩
theorem ok_parents_of {P : Program} {w : World} {K : PySem.W.Frag} {mg : Str → Option Value} {base : Heap} {f : Addr} {od an : Option Addr} {osl : Array (Option Value)} {oc dV kV doc pm cdv ct : Value}
    (lk : K.lookup f = some ⟨oc, od, .func (PySem.W.fnOf "parents_of" "parents_of" (defArgs s_parents_of) (defBody s_parents_of) (defScope s_parents_of) dV kV doc pm an cdv ct), osl⟩) (cd : PySem.W.codeIn K cdv "parents_of" = true)
     :
    FnD P w K mg base 1 f (PySem.W.fnOf "parents_of" "parents_of" (defArgs s_parents_of) (defBody s_parents_of) (defScope s_parents_of) dV kV doc pm an cdv ct) ["one"] F_parents_of 0 := by
  unfold F_parents_of
  refine fnd_by lk cd sc_parents_of (g := G_parents_of) (by decide) (fun X W E hE h1 h2 h3 h4 h5 hfn C => ?_)
  subst h1 h2 h3 h4 h5
  have d : DSs X W (defBody s_parents_of) (G_parents_of E) _ := (dss_cons (ds_if C (dt_cmp C (dop_eq C.units) (DE.bo (de_ix C dix (DE.bo (de_var C (i := 0) rfl (vis_by (by decide +kernel)))) (DE.bo de_int))) (DE.bo de_int)) (dss_one (ds_ret C (de_tup C da_nil))) dss_nil)
    (dss_cons (ds_asg C (de_tup C (da_cons C (de_tup C (da_cons C de_int (da_cons C de_int da_nil))) (da_cons C (de_tup C (da_cons C de_int (da_cons C de_int da_nil))) (da_cons C (de_var C (i := 0) rfl (vis_by (by decide +kernel))) (da_cons C de_bl da_nil))))) (dg_tup C (dgs_cons (dg_name C (i := 1) rfl (loc_by (by decide +kernel)) (.inl (hfn _))) (dgs_cons (dg_name C (i := 2) rfl (loc_by (by decide +kernel)) (.inl (hfn _))) (dgs_cons (dg_name C (i := 3) rfl (loc_by (by decide +kernel)) (.inl (hfn _))) (dgs_cons (dg_name C (i := 4) rfl (loc_by (by decide +kernel)) (.inl (hfn _))) dgs_nil))))))
    (dss_cons (ds_while C 0 (DT.le (c := 0) (dt_cmp C (dop_ne C.units) (DE.bo (de_ix C dix (DE.bo (de_var C (i := 3) rfl (vis_by (by decide +kernel)))) (DE.bo de_int))) (DE.bo de_int)) (by decide +kernel)) (DSs.le (c := 0) (dss_cons (ds_par C (i := 5) (j := 6) rfl rfl (by decide) (by decide +kernel) (by decide +kernel) (da_cons C (de_bin C dop_fdiv (DE.bo (de_ix C dix (DE.bo (de_var C (i := 3) rfl (vis_by (by decide +kernel)))) (DE.bo de_int))) (DE.bo (de_ix C dix (DE.bo (de_var C (i := 3) rfl (vis_by (by decide +kernel)))) (DE.bo de_int)))) (da_cons C (de_bin C dop_mod (DE.bo (de_ix C dix (DE.bo (de_var C (i := 3) rfl (vis_by (by decide +kernel)))) (DE.bo de_int))) (DE.bo (de_ix C dix (DE.bo (de_var C (i := 3) rfl (vis_by (by decide +kernel)))) (DE.bo de_int)))) da_nil)) (swp2 C rfl (by decide +kernel) (by decide +kernel) (by decide +kernel) rfl (fun _ _ z => nomatch z) (fun _ _ z => nomatch z) rfl rfl))
    (dss_cons (ds_set C (i := 7) rfl (loc_by (by decide +kernel)) (.inl (hfn _)) (de_if C (dt_cmp C (dop_ne C.units) (DE.bo (de_var C (i := 6) rfl (vis_by (by decide +kernel)))) (DE.bo de_int)) (de_var C (i := 5) rfl (vis_by (by decide +kernel))) (de_bin C dop_sub (DE.bo (de_var C (i := 5) rfl (vis_by (by decide +kernel)))) (DE.bo de_int))))
    (dss_cons (ds_if C (dt_val (DE.bo (de_var C (i := 4) rfl (vis_by (by decide +kernel))))) (dss_one (ds_set C (i := 1) rfl (loc_by (by decide +kernel)) (.inl (hfn _)) (de_tup C (da_cons C (de_bin C dop_add (DE.bo (de_ix C dix (DE.bo (de_var C (i := 1) rfl (vis_by (by decide +kernel)))) (DE.bo de_int))) (DE.bo (de_bin C dop_mul (DE.bo (de_var C (i := 7) rfl (vis_by (by decide +kernel)))) (DE.bo (de_ix C dix (DE.bo (de_var C (i := 2) rfl (vis_by (by decide +kernel)))) (DE.bo de_int)))))) (da_cons C (de_bin C dop_add (DE.bo (de_ix C dix (DE.bo (de_var C (i := 1) rfl (vis_by (by decide +kernel)))) (DE.bo de_int))) (DE.bo (de_bin C dop_mul (DE.bo (de_var C (i := 7) rfl (vis_by (by decide +kernel)))) (DE.bo (de_ix C dix (DE.bo (de_var C (i := 2) rfl (vis_by (by decide +kernel)))) (DE.bo de_int)))))) da_nil))))) (dss_one (ds_set C (i := 2) rfl (loc_by (by decide +kernel)) (.inl (hfn _)) (de_tup C (da_cons C (de_bin C dop_add (DE.bo (de_ix C dix (DE.bo (de_var C (i := 2) rfl (vis_by (by decide +kernel)))) (DE.bo de_int))) (DE.bo (de_bin C dop_mul (DE.bo (de_var C (i := 7) rfl (vis_by (by decide +kernel)))) (DE.bo (de_ix C dix (DE.bo (de_var C (i := 1) rfl (vis_by (by decide +kernel)))) (DE.bo de_int)))))) (da_cons C (de_bin C dop_add (DE.bo (de_ix C dix (DE.bo (de_var C (i := 2) rfl (vis_by (by decide +kernel)))) (DE.bo de_int))) (DE.bo (de_bin C dop_mul (DE.bo (de_var C (i := 7) rfl (vis_by (by decide +kernel)))) (DE.bo (de_ix C dix (DE.bo (de_var C (i := 1) rfl (vis_by (by decide +kernel)))) (DE.bo de_int)))))) da_nil))))))
    (dss_one (ds_par C (i := 3) (j := 4) rfl rfl (by decide) (by decide +kernel) (by decide +kernel) (da_cons C (de_tup C (da_cons C (de_ix C dix (DE.bo (de_var C (i := 3) rfl (vis_by (by decide +kernel)))) (DE.bo de_int)) (da_cons C (de_var C (i := 6) rfl (vis_by (by decide +kernel))) da_nil))) (da_cons C (de_not (de_var C (i := 4) rfl (vis_by (by decide +kernel)))) da_nil)) (swp2 C rfl (by decide +kernel) (by decide +kernel) (by decide +kernel) rfl (fun _ _ z => nomatch z) (fun _ _ z => nomatch z) rfl rfl)))))) (by decide +kernel)))
    (dss_one (ds_ret C (de_tup C (da_cons C (de_var C (i := 1) rfl (vis_by (by decide +kernel))) (da_cons C (de_var C (i := 2) rfl (vis_by (by decide +kernel))) da_nil))))))))
  exact ⟨_, by decide +kernel, d⟩
abbrev s_edge_told : Stmt := topS 26
theorem sc_edge_told : FnScope N_edge_told ["stretch"] (defScope s_edge_told) := ⟨rfl, rfl, rfl, by decide +kernel, rfl, by decide +kernel, by decide +kernel⟩
theorem ok_edge_told {P : Program} {w : World} {K : PySem.W.Frag} {mg : Str → Option Value} {base : Heap} {f : Addr} {od an : Option Addr} {osl : Array (Option Value)} {oc dV kV doc pm cdv ct : Value}
    (lk : K.lookup f = some ⟨oc, od, .func (PySem.W.fnOf "edge_told" "edge_told" (defArgs s_edge_told) (defBody s_edge_told) (defScope s_edge_told) dV kV doc pm an cdv ct), osl⟩) (cd : PySem.W.codeIn K cdv "edge_told" = true)
    {f_simplest_of : Addr} {fd_simplest_of : FuncData} (M_simplest_of : FnD P w K mg base 4 f_simplest_of fd_simplest_of ["stretch"] F_simplest_of 0) (a_simplest_of : mg "simplest_of" = some (.ref f_simplest_of)) (kp_simplest_of : PySem.W.keepIn K (.ref f_simplest_of) = true)
    {f_parents_of : Addr} {fd_parents_of : FuncData} (M_parents_of : FnD P w K mg base 1 f_parents_of fd_parents_of ["one"] F_parents_of 0) (a_parents_of : mg "parents_of" = some (.ref f_parents_of)) (kp_parents_of : PySem.W.keepIn K (.ref f_parents_of) = true)
    (b_simplest_of_1 : BindG K fd_simplest_of ["stretch"] 1 [] [])
    (b_parents_of_1 : BindG K fd_parents_of ["one"] 1 [] []) :
    FnD P w K mg base 5 f (PySem.W.fnOf "edge_told" "edge_told" (defArgs s_edge_told) (defBody s_edge_told) (defScope s_edge_told) dV kV doc pm an cdv ct) ["stretch"] F_edge_told 0 := by
  unfold F_edge_told
  refine fnd_by lk cd sc_edge_told (g := G_edge_told) (by decide) (fun X W E hE h1 h2 h3 h4 h5 hfn C => ?_)
  subst h1 h2 h3 h4 h5
  have d : DSs X W (defBody s_edge_told) (G_edge_told E) _ := (dss_cons (ds_set C (i := 1) rfl (loc_by (by decide +kernel)) (.inl (hfn _)) (de_fn C hE M_simplest_of (by decide) (by decide +kernel) a_simplest_of kp_simplest_of b_simplest_of_1 .nil (das_dat C (de_var C (i := 0) rfl (vis_by (by decide +kernel))) das_nil) rfl))
    (dss_one (ds_ret C (de_tup C (da_cons C (de_ix C dix (DE.bo (de_var C (i := 1) rfl (vis_by (by decide +kernel)))) (DE.bo de_int)) (da_cons C (de_ix C dix (DE.bo (de_var C (i := 1) rfl (vis_by (by decide +kernel)))) (DE.bo de_int)) (da_cons C (de_fn C hE M_parents_of (by decide) (by decide +kernel) a_parents_of kp_parents_of b_parents_of_1 .nil (das_dat C (de_var C (i := 1) rfl (vis_by (by decide +kernel))) das_nil) rfl) da_nil)))))))
  exact ⟨_, by decide +kernel, d⟩
abbrev s_edge_size : Stmt := topS 27
theorem sc_edge_size : FnScope N_edge_size ["stretch"] (defScope s_edge_size) := ⟨rfl, rfl, rfl, by decide +kernel, rfl, by decide +kernel, by decide +kernel⟩
theorem ok_edge_size {P : Program} {w : World} {K : PySem.W.Frag} {mg : Str → Option Value} {base : Heap} {f : Addr} {od an : Option Addr} {osl : Array (Option Value)} {oc dV kV doc pm cdv ct : Value}
    (lk : K.lookup f = some ⟨oc, od, .func (PySem.W.fnOf "edge_size" "edge_size" (defArgs s_edge_size) (defBody s_edge_size) (defScope s_edge_size) dV kV doc pm an cdv ct), osl⟩) (cd : PySem.W.codeIn K cdv "edge_size" = true)
    {f_check_stretch : Addr} {fd_check_stretch : FuncData} (M_check_stretch : FnD P w K mg base 5 f_check_stretch fd_check_stretch ["stretch"] F_check_stretch 0) (a_check_stretch : mg "check_stretch" = some (.ref f_check_stretch)) (kp_check_stretch : PySem.W.keepIn K (.ref f_check_stretch) = true)
    {f_edge_told : Addr} {fd_edge_told : FuncData} (M_edge_told : FnD P w K mg base 5 f_edge_told fd_edge_told ["stretch"] F_edge_told 0) (a_edge_told : mg "edge_told" = some (.ref f_edge_told)) (kp_edge_told : PySem.W.keepIn K (.ref f_edge_told) = true)
    (b_check_stretch_1 : BindG K fd_check_stretch ["stretch"] 1 [] [])
    (b_edge_told_1 : BindG K fd_edge_told ["stretch"] 1 [] []) :
    FnD P w K mg base 6 f (PySem.W.fnOf "edge_size" "edge_size" (defArgs s_edge_size) (defBody s_edge_size) (defScope s_edge_size) dV kV doc pm an cdv ct) ["stretch"] F_edge_size 0 := by
  unfold F_edge_size
  refine fnd_by lk cd sc_edge_size (g := G_edge_size) (by decide) (fun X W E hE h1 h2 h3 h4 h5 hfn C => ?_)
  subst h1 h2 h3 h4 h5
  have d : DSs X W (defBody s_edge_size) (G_edge_size E) _ := (dss_cons (ds_expr C (DE.bo (de_fn C hE M_check_stretch (by decide) (by decide +kernel) a_check_stretch kp_check_stretch b_check_stretch_1 .nil (das_dat C (de_var C (i := 0) rfl (vis_by (by decide +kernel))) das_nil) rfl)))
    (dss_one (ds_ret C (de_fn C hE M_edge_told (by decide) (by decide +kernel) a_edge_told kp_edge_told b_edge_told_1 .nil (das_dat C (de_var C (i := 0) rfl (vis_by (by decide +kernel))) das_nil) rfl))))
  exact ⟨_, by decide +kernel, d⟩
abbrev s__law_take : Stmt := topS 34
theorem sc__law_take : FnScope N__law_take ["pot", "upto"] (defScope s__law_take) := ⟨rfl, rfl, rfl, by decide +kernel, rfl, by decide +kernel, by decide +kernel⟩
theorem ok__law_take {P : Program} {w : World} {K : PySem.W.Frag} {mg : Str → Option Value} {base : Heap} {f : Addr} {od an : Option Addr} {osl : Array (Option Value)} {oc dV kV doc pm cdv ct : Value}
    (lk : K.lookup f = some ⟨oc, od, .func (PySem.W.fnOf "_law_take" "_law_take" (defArgs s__law_take) (defBody s__law_take) (defScope s__law_take) dV kV doc pm an cdv ct), osl⟩) (cd : PySem.W.codeIn K cdv "_law_take" = true)
    (m_int : mg "int" = none) :
    FnD P w K mg base 1 f (PySem.W.fnOf "_law_take" "_law_take" (defArgs s__law_take) (defBody s__law_take) (defScope s__law_take) dV kV doc pm an cdv ct) ["pot", "upto"] F__law_take 1 := by
  unfold F__law_take
  refine fnd_by lk cd sc__law_take (g := G__law_take) (by decide) (fun X W E hE h1 h2 h3 h4 h5 hfn C => ?_)
  subst h1 h2 h3 h4 h5
  have d : DSs X W (defBody s__law_take) (G__law_take E) _ := (dss_cons (ds_if C (dt_cmp C dop_gt (DE.bo (de_pix C (i := 0) rfl (vis_by (by decide +kernel)))) (DE.bo de_int)) (dss_cons (ds_set C (i := 2) rfl (loc_by (by decide +kernel)) (.inl (hfn _)) (de_bin C dop_mod (DE.bo (de_callT C dc_int (by decide +kernel) m_int boot_int (db_cons C (DE.bo (de_pix C (i := 0) rfl (vis_by (by decide +kernel)))) db_nil))) (DE.bo (de_var C (i := 1) rfl (vis_by (by decide +kernel))))))
    (dss_cons (ds_ps0 C (i := 0) rfl (vis_by (by decide +kernel)) (de_bin C dop_fdiv (DE.bo (de_pix C (i := 0) rfl (vis_by (by decide +kernel)))) (DE.bo (de_var C (i := 1) rfl (vis_by (by decide +kernel))))))
    (dss_one (ds_ret C (de_var C (i := 2) rfl (vis_by (by decide +kernel))))))) dss_nil)
    (dss_cons (ds_tick C (i := 0) rfl (vis_by (by decide +kernel)))
    (dss_cons (ds_set C (i := 3) rfl (loc_by (by decide +kernel)) (.inl (hfn _)) (de_ix C dix (DE.bo (DF.da C (df_lst C (da_cons C de_int (da_cons C de_int (da_cons C de_int (da_cons C de_int (da_cons C de_int da_nil)))))))) (DE.bo (de_bin C dop_mod (DE.bo (de_callT C dc_int (by decide +kernel) m_int boot_int (db_cons C (DE.bo (de_pix C (i := 0) rfl (vis_by (by decide +kernel)))) db_nil))) (DE.bo de_int)))))
    (dss_cons (ds_set C (i := 4) rfl (loc_by (by decide +kernel)) (.inl (hfn _)) (de_bin C dop_mod (DE.bo (de_callT C dc_int (by decide +kernel) m_int boot_int (db_cons C (DE.bo (de_bin C dop_pow (DE.bo (de_callT C dc_int (by decide +kernel) m_int boot_int (db_cons C (DE.bo (de_bin C dop_add (DE.bo (de_bin C dop_add (DE.bo (de_pix C (i := 0) rfl (vis_by (by decide +kernel)))) (DE.bo (de_bin C dop_mul (DE.bo (de_bin C dop_mul (DE.bo de_int) (DE.bo (de_pix C (i := 0) rfl (vis_by (by decide +kernel)))))) (DE.bo (de_pix C (i := 0) rfl (vis_by (by decide +kernel)))))))) (DE.bo de_int))) db_nil))) (DE.bo de_int))) db_nil))) (DE.bo (de_var C (i := 3) rfl (vis_by (by decide +kernel))))))
    (dss_cons (ds_set C (i := 4) rfl (loc_by (by decide +kernel)) (.inl (hfn _)) (de_bin C dop_mod (DE.bo (de_callT C dc_int (by decide +kernel) m_int boot_int (db_cons C (DE.bo (de_bin C dop_mul (DE.bo (de_var C (i := 4) rfl (vis_by (by decide +kernel)))) (DE.bo (de_bin C dop_add (DE.bo (de_bin C dop_mod (DE.bo (de_callT C dc_int (by decide +kernel) m_int boot_int (db_cons C (DE.bo (de_var C (i := 4) rfl (vis_by (by decide +kernel)))) db_nil))) (DE.bo de_int))) (DE.bo (de_bin C dop_mul (DE.bo de_int) (DE.bo (de_pix C (i := 0) rfl (vis_by (by decide +kernel)))))))))) db_nil))) (DE.bo de_int)))
    (dss_one (ds_ret C (de_bin C dop_mod (DE.bo (de_callT C dc_int (by decide +kernel) m_int boot_int (db_cons C (DE.bo (de_bin C dop_fdiv (DE.bo (de_var C (i := 4) rfl (vis_by (by decide +kernel)))) (DE.bo de_int))) db_nil))) (DE.bo (de_var C (i := 1) rfl (vis_by (by decide +kernel))))))))))))
  exact ⟨_, by decide +kernel, d⟩
abbrev s__law_cut : Stmt := topS 39
theorem sc__law_cut : FnScope N__law_cut ["top", "low"] (defScope s__law_cut) := ⟨rfl, rfl, rfl, by decide +kernel, rfl, by decide +kernel, by decide +kernel⟩
theorem ok__law_cut {P : Program} {w : World} {K : PySem.W.Frag} {mg : Str → Option Value} {base : Heap} {f : Addr} {od an : Option Addr} {osl : Array (Option Value)} {oc dV kV doc pm cdv ct : Value}
    (lk : K.lookup f = some ⟨oc, od, .func (PySem.W.fnOf "_law_cut" "_law_cut" (defArgs s__law_cut) (defBody s__law_cut) (defScope s__law_cut) dV kV doc pm an cdv ct), osl⟩) (cd : PySem.W.codeIn K cdv "_law_cut" = true)
    (m_abs : mg "abs" = none)
    (m_int : mg "int" = none) :
    FnD P w K mg base 1 f (PySem.W.fnOf "_law_cut" "_law_cut" (defArgs s__law_cut) (defBody s__law_cut) (defScope s__law_cut) dV kV doc pm an cdv ct) ["top", "low"] F__law_cut 0 := by
  unfold F__law_cut
  refine fnd_by lk cd sc__law_cut (g := G__law_cut) (by decide) (fun X W E hE h1 h2 h3 h4 h5 hfn C => ?_)
  subst h1 h2 h3 h4 h5
  have d : DSs X W (defBody s__law_cut) (G__law_cut E) _ := (dss_cons (ds_par C (i := 2) (j := 3) rfl rfl (by decide) (by decide +kernel) (by decide +kernel) (da_cons C (de_callB C dc_abs (by decide +kernel) m_abs boot_abs (db_cons C (DE.bo (de_callT C dc_int (by decide +kernel) m_int boot_int (db_cons C (DE.bo (de_var C (i := 0) rfl (vis_by (by decide +kernel)))) db_nil))) db_nil)) (da_cons C (de_callT C dc_int (by decide +kernel) m_int boot_int (db_cons C (DE.bo (de_var C (i := 1) rfl (vis_by (by decide +kernel)))) db_nil)) da_nil)) (swp2 C rfl (by decide +kernel) (by decide +kernel) (by decide +kernel) rfl (fun _ _ z => nomatch z) (fun _ _ z => nomatch z) rfl rfl))
    (dss_cons (ds_while C 0 (DT.le (c := 0) (dt_cmp C (dop_ne C.units) (DE.bo (de_var C (i := 3) rfl (vis_by (by decide +kernel)))) (DE.bo de_int)) (by decide +kernel)) (DSs.le (c := 0) (dss_one (ds_par C (i := 2) (j := 3) rfl rfl (by decide) (by decide +kernel) (by decide +kernel) (da_cons C (de_var C (i := 3) rfl (vis_by (by decide +kernel))) (da_cons C (de_bin C dop_mod (DE.bo (de_var C (i := 2) rfl (vis_by (by decide +kernel)))) (DE.bo (de_var C (i := 3) rfl (vis_by (by decide +kernel))))) da_nil)) (swp2 C rfl (by decide +kernel) (by decide +kernel) (by decide +kernel) rfl (fun _ _ z => nomatch z) (fun _ _ z => nomatch z) rfl rfl))) (by decide +kernel)))
    (dss_one (ds_ret C (de_tup C (da_cons C (de_bin C dop_fdiv (DE.bo (de_callT C dc_int (by decide +kernel) m_int boot_int (db_cons C (DE.bo (de_var C (i := 0) rfl (vis_by (by decide +kernel)))) db_nil))) (DE.bo (de_var C (i := 2) rfl (vis_by (by decide +kernel))))) (da_cons C (de_bin C dop_fdiv (DE.bo (de_callT C dc_int (by decide +kernel) m_int boot_int (db_cons C (DE.bo (de_var C (i := 1) rfl (vis_by (by decide +kernel)))) db_nil))) (DE.bo (de_var C (i := 2) rfl (vis_by (by decide +kernel))))) da_nil)))))))
  exact ⟨_, by decide +kernel, d⟩
abbrev s__law_of : Stmt := topS 35
theorem sc__law_of : FnScope N__law_of ["pot", "some"] (defScope s__law_of) := ⟨rfl, rfl, rfl, by decide +kernel, rfl, by decide +kernel, by decide +kernel⟩
theorem ok__law_of {P : Program} {w : World} {K : PySem.W.Frag} {mg : Str → Option Value} {base : Heap} {f : Addr} {od an : Option Addr} {osl : Array (Option Value)} {oc dV kV doc pm cdv ct : Value}
    (lk : K.lookup f = some ⟨oc, od, .func (PySem.W.fnOf "_law_of" "_law_of" (defArgs s__law_of) (defBody s__law_of) (defScope s__law_of) dV kV doc pm an cdv ct), osl⟩) (cd : PySem.W.codeIn K cdv "_law_of" = true)
    {f__law_take : Addr} {fd__law_take : FuncData} (M__law_take : FnD P w K mg base 1 f__law_take fd__law_take ["pot", "upto"] F__law_take 1) (a__law_take : mg "_law_take" = some (.ref f__law_take)) (kp__law_take : PySem.W.keepIn K (.ref f__law_take) = true)
    (b__law_take_2 : BindG K fd__law_take ["pot", "upto"] 2 [] [])
    (m_len : mg "len" = none) :
    FnD P w K mg base 2 f (PySem.W.fnOf "_law_of" "_law_of" (defArgs s__law_of) (defBody s__law_of) (defScope s__law_of) dV kV doc pm an cdv ct) ["pot", "some"] F__law_of 1 := by
  unfold F__law_of
  refine fnd_by lk cd sc__law_of (g := G__law_of) (by decide) (fun X W E hE h1 h2 h3 h4 h5 hfn C => ?_)
  subst h1 h2 h3 h4 h5
  have d : DSs X W (defBody s__law_of) (G__law_of E) _ := (dss_one (ds_ret C (de_ix C dix (DE.bo (de_var C (i := 1) rfl (vis_by (by decide +kernel)))) (DE.bo (de_fn C hE M__law_take (by decide) (by decide +kernel) a__law_take kp__law_take b__law_take_2 .nil (das_pot C (i := 0) rfl (vis_by (by decide +kernel)) (das_dat C (de_callB C dc_len (by decide +kernel) m_len PySem.boot_len (db_cons C (DE.bo (de_var C (i := 1) rfl (vis_by (by decide +kernel)))) db_nil)) das_nil)) rfl)))))
  exact ⟨_, by decide +kernel, d⟩
abbrev s__law_stretch : Stmt := topS 41
theorem sc__law_stretch : FnScope N__law_stretch ["pot", "most"] (defScope s__law_stretch) := ⟨rfl, rfl, rfl, by decide +kernel, rfl, by decide +kernel, by decide +kernel⟩
theorem ok__law_stretch {P : Program} {w : World} {K : PySem.W.Frag} {mg : Str → Option Value} {base : Heap} {f : Addr} {od an : Option Addr} {osl : Array (Option Value)} {oc dV kV doc pm cdv ct : Value}
    (lk : K.lookup f = some ⟨oc, od, .func (PySem.W.fnOf "_law_stretch" "_law_stretch" (defArgs s__law_stretch) (defBody s__law_stretch) (defScope s__law_stretch) dV kV doc pm an cdv ct), osl⟩) (cd : PySem.W.codeIn K cdv "_law_stretch" = true)
    {f__law_take : Addr} {fd__law_take : FuncData} (M__law_take : FnD P w K mg base 1 f__law_take fd__law_take ["pot", "upto"] F__law_take 1) (a__law_take : mg "_law_take" = some (.ref f__law_take)) (kp__law_take : PySem.W.keepIn K (.ref f__law_take) = true)
    {f__law_of : Addr} {fd__law_of : FuncData} (M__law_of : FnD P w K mg base 2 f__law_of fd__law_of ["pot", "some"] F__law_of 1) (a__law_of : mg "_law_of" = some (.ref f__law_of)) (kp__law_of : PySem.W.keepIn K (.ref f__law_of) = true)
    {f__law_cut : Addr} {fd__law_cut : FuncData} (M__law_cut : FnD P w K mg base 1 f__law_cut fd__law_cut ["top", "low"] F__law_cut 0) (a__law_cut : mg "_law_cut" = some (.ref f__law_cut)) (kp__law_cut : PySem.W.keepIn K (.ref f__law_cut) = true)
    (b__law_take_2 : BindG K fd__law_take ["pot", "upto"] 2 [] [])
    (b__law_of_2 : BindG K fd__law_of ["pot", "some"] 2 [] [])
    (b__law_cut_2 : BindG K fd__law_cut ["top", "low"] 2 [] [])
    (m_int : mg "int" = none) :
    FnD P w K mg base 3 f (PySem.W.fnOf "_law_stretch" "_law_stretch" (defArgs s__law_stretch) (defBody s__law_stretch) (defScope s__law_stretch) dV kV doc pm an cdv ct) ["pot", "most"] F__law_stretch 8 := by
  unfold F__law_stretch
  refine fnd_by lk cd sc__law_stretch (g := G__law_stretch) (by decide) (fun X W E hE h1 h2 h3 h4 h5 hfn C => ?_)
  subst h1 h2 h3 h4 h5
  have d : DSs X W (defBody s__law_stretch) (G__law_stretch E) _ := (dss_cons (ds_set C (i := 2) rfl (loc_by (by decide +kernel)) (.inl (hfn _)) (de_callT C dc_int (by decide +kernel) m_int boot_int (db_cons C (DE.bo (de_bin C dop_add (DE.bo de_int) (DE.bo (de_fn C hE M__law_take (by decide) (by decide +kernel) a__law_take kp__law_take b__law_take_2 .nil (das_pot C (i := 0) rfl (vis_by (by decide +kernel)) (das_dat C (de_var C (i := 1) rfl (vis_by (by decide +kernel))) das_nil)) rfl)))) db_nil)))
    (dss_cons (ds_set C (i := 3) rfl (loc_by (by decide +kernel)) (.inl (hfn _)) (de_callT C dc_int (by decide +kernel) m_int boot_int (db_cons C (DE.bo (de_fn C hE M__law_take (by decide) (by decide +kernel) a__law_take kp__law_take b__law_take_2 .nil (das_pot C (i := 0) rfl (vis_by (by decide +kernel)) (das_dat C (de_bin C dop_add (DE.bo (de_bin C dop_mul (DE.bo de_int) (DE.bo (de_var C (i := 2) rfl (vis_by (by decide +kernel)))))) (DE.bo de_int)) das_nil)) rfl)) db_nil)))
    (dss_cons (ds_set C (i := 4) rfl (loc_by (by decide +kernel)) (.inl (hfn _)) (de_tup C (da_cons C (de_bin C dop_add (DE.bo de_int) (DE.bo (de_callT C dc_int (by decide +kernel) m_int boot_int (db_cons C (DE.bo (de_fn C hE M__law_take (by decide) (by decide +kernel) a__law_take kp__law_take b__law_take_2 .nil (das_pot C (i := 0) rfl (vis_by (by decide +kernel)) (das_dat C de_int das_nil)) rfl)) db_nil)))) (da_cons C (de_bin C dop_add (DE.bo de_int) (DE.bo (de_callT C dc_int (by decide +kernel) m_int boot_int (db_cons C (DE.bo (de_fn C hE M__law_take (by decide) (by decide +kernel) a__law_take kp__law_take b__law_take_2 .nil (das_pot C (i := 0) rfl (vis_by (by decide +kernel)) (das_dat C (de_fn C hE M__law_of (by decide) (by decide +kernel) a__law_of kp__law_of b__law_of_2 .nil (das_pot C (i := 0) rfl (vis_by (by decide +kernel)) (das_dat C (DF.da C (df_lst C (da_cons C de_int (da_cons C de_int (da_cons C de_int da_nil))))) das_nil)) rfl) das_nil)) rfl)) db_nil)))) da_nil))))
    (dss_cons (ds_par C (i := 5) (j := 6) rfl rfl (by decide) (by decide +kernel) (by decide +kernel) (da_cons C (de_fn C hE M__law_cut (by decide) (by decide +kernel) a__law_cut kp__law_cut b__law_cut_2 .nil (das_dat C (de_var C (i := 3) rfl (vis_by (by decide +kernel))) (das_dat C (de_var C (i := 2) rfl (vis_by (by decide +kernel))) das_nil)) rfl) (da_cons C (de_fn C hE M__law_cut (by decide) (by decide +kernel) a__law_cut kp__law_cut b__law_cut_2 .nil (das_dat C (de_bin C dop_add (DE.bo (de_bin C dop_mul (DE.bo (de_var C (i := 3) rfl (vis_by (by decide +kernel)))) (DE.bo (de_ix C dix (DE.bo (de_var C (i := 4) rfl (vis_by (by decide +kernel)))) (DE.bo de_int))))) (DE.bo (de_bin C dop_mul (DE.bo (de_ix C dix (DE.bo (de_var C (i := 4) rfl (vis_by (by decide +kernel)))) (DE.bo de_int))) (DE.bo (de_var C (i := 2) rfl (vis_by (by decide +kernel))))))) (das_dat C (de_bin C dop_mul (DE.bo (de_var C (i := 2) rfl (vis_by (by decide +kernel)))) (DE.bo (de_ix C dix (DE.bo (de_var C (i := 4) rfl (vis_by (by decide +kernel)))) (DE.bo de_int)))) das_nil)) rfl) da_nil)) (swp2 C rfl (by decide +kernel) (by decide +kernel) (by decide +kernel) rfl (fun _ _ z => nomatch z) (fun _ _ z => nomatch z) rfl rfl))
    (dss_cons (ds_if C (dt_cmp C (dop_eq C.units) (DE.bo (de_fn C hE M__law_take (by decide) (by decide +kernel) a__law_take kp__law_take b__law_take_2 .nil (das_pot C (i := 0) rfl (vis_by (by decide +kernel)) (das_dat C de_int das_nil)) rfl)) (DE.bo de_int)) (dss_one (ds_ret C (de_tup C (da_cons C (de_var C (i := 5) rfl (vis_by (by decide +kernel))) (da_cons C de_bl (da_cons C (de_var C (i := 5) rfl (vis_by (by decide +kernel))) (da_cons C de_bl da_nil))))))) dss_nil)
    (dss_one (ds_ret C (de_tup C (da_cons C (de_var C (i := 5) rfl (vis_by (by decide +kernel))) (da_cons C (de_cmp C (dop_eq C.units) (DE.bo (de_fn C hE M__law_take (by decide) (by decide +kernel) a__law_take kp__law_take b__law_take_2 .nil (das_pot C (i := 0) rfl (vis_by (by decide +kernel)) (das_dat C de_int das_nil)) rfl)) (DE.bo de_int)) (da_cons C (de_var C (i := 6) rfl (vis_by (by decide +kernel))) (da_cons C (de_cmp C (dop_eq C.units) (DE.bo (de_fn C hE M__law_take (by decide) (by decide +kernel) a__law_take kp__law_take b__law_take_2 .nil (das_pot C (i := 0) rfl (vis_by (by decide +kernel)) (das_dat C de_int das_nil)) rfl)) (DE.bo de_int)) da_nil))))))))))))
  exact ⟨_, by decide +kernel, d⟩
abbrev s__law_is_in : Stmt := topS 40
theorem sc__law_is_in : FnScope N__law_is_in ["stretch", "top", "low"] (defScope s__law_is_in) := ⟨rfl, rfl, rfl, by decide +kernel, rfl, by decide +kernel, by decide +kernel⟩
theorem ok__law_is_in {P : Program} {w : World} {K : PySem.W.Frag} {mg : Str → Option Value} {base : Heap} {f : Addr} {od an : Option Addr} {osl : Array (Option Value)} {oc dV kV doc pm cdv ct : Value}
    (lk : K.lookup f = some ⟨oc, od, .func (PySem.W.fnOf "_law_is_in" "_law_is_in" (defArgs s__law_is_in) (defBody s__law_is_in) (defScope s__law_is_in) dV kV doc pm an cdv ct), osl⟩) (cd : PySem.W.codeIn K cdv "_law_is_in" = true)
     :
    FnD P w K mg base 1 f (PySem.W.fnOf "_law_is_in" "_law_is_in" (defArgs s__law_is_in) (defBody s__law_is_in) (defScope s__law_is_in) dV kV doc pm an cdv ct) ["stretch", "top", "low"] F__law_is_in 0 := by
  unfold F__law_is_in
  refine fnd_by lk cd sc__law_is_in (g := G__law_is_in) (by decide) (fun X W E hE h1 h2 h3 h4 h5 hfn C => ?_)
  subst h1 h2 h3 h4 h5
  have d : DSs X W (defBody s__law_is_in) (G__law_is_in E) _ := (dss_cons (ds_asg C (de_var C (i := 0) rfl (vis_by (by decide +kernel))) (dg_tup C (dgs_cons (dg_name C (i := 3) rfl (loc_by (by decide +kernel)) (.inl (hfn _))) (dgs_cons (dg_name C (i := 4) rfl (loc_by (by decide +kernel)) (.inl (hfn _))) (dgs_cons (dg_name C (i := 5) rfl (loc_by (by decide +kernel)) (.inl (hfn _))) (dgs_cons (dg_name C (i := 6) rfl (loc_by (by decide +kernel)) (.inl (hfn _))) dgs_nil))))))
    (dss_cons (ds_par C (i := 7) (j := 8) rfl rfl (by decide) (by decide +kernel) (by decide +kernel) (da_cons C (de_bin C dop_sub (DE.bo (de_bin C dop_mul (DE.bo (de_var C (i := 1) rfl (vis_by (by decide +kernel)))) (DE.bo (de_ix C dix (DE.bo (de_var C (i := 3) rfl (vis_by (by decide +kernel)))) (DE.bo de_int))))) (DE.bo (de_bin C dop_mul (DE.bo (de_ix C dix (DE.bo (de_var C (i := 3) rfl (vis_by (by decide +kernel)))) (DE.bo de_int))) (DE.bo (de_var C (i := 2) rfl (vis_by (by decide +kernel))))))) (da_cons C (de_bin C dop_sub (DE.bo (de_bin C dop_mul (DE.bo (de_ix C dix (DE.bo (de_var C (i := 5) rfl (vis_by (by decide +kernel)))) (DE.bo de_int))) (DE.bo (de_var C (i := 2) rfl (vis_by (by decide +kernel)))))) (DE.bo (de_bin C dop_mul (DE.bo (de_var C (i := 1) rfl (vis_by (by decide +kernel)))) (DE.bo (de_ix C dix (DE.bo (de_var C (i := 5) rfl (vis_by (by decide +kernel)))) (DE.bo de_int)))))) da_nil)) (swp2 C rfl (by decide +kernel) (by decide +kernel) (by decide +kernel) rfl (fun _ _ z => nomatch z) (fun _ _ z => nomatch z) rfl rfl))
    (dss_one (ds_ret C (de_and C (de_or C (de_cmp C dop_gt (DE.bo (de_var C (i := 7) rfl (vis_by (by decide +kernel)))) (DE.bo de_int)) (de_one (de_and C (de_cmp C (dop_eq C.units) (DE.bo (de_var C (i := 7) rfl (vis_by (by decide +kernel)))) (DE.bo de_int)) (de_one (de_var C (i := 4) rfl (vis_by (by decide +kernel))))))) (de_one (de_or C (de_cmp C dop_gt (DE.bo (de_var C (i := 8) rfl (vis_by (by decide +kernel)))) (DE.bo de_int)) (de_one (de_and C (de_cmp C (dop_eq C.units) (DE.bo (de_var C (i := 8) rfl (vis_by (by decide +kernel)))) (DE.bo de_int)) (de_one (de_var C (i := 6) rfl (vis_by (by decide +kernel)))))))))))))
  exact ⟨_, by decide +kernel, d⟩
abbrev s__law_simplest : Stmt := topS 42
theorem sc__law_simplest : FnScope N__law_simplest ["stretch"] (defScope s__law_simplest) := ⟨rfl, rfl, rfl, by decide +kernel, rfl, by decide +kernel, by decide +kernel⟩
theorem ok__law_simplest {P : Program} {w : World} {K : PySem.W.Frag} {mg : Str → Option Value} {base : Heap} {f : Addr} {od an : Option Addr} {osl : Array (Option Value)} {oc dV kV doc pm cdv ct : Value}
    (lk : K.lookup f = some ⟨oc, od, .func (PySem.W.fnOf "_law_simplest" "_law_simplest" (defArgs s__law_simplest) (defBody s__law_simplest) (defScope s__law_simplest) dV kV doc pm an cdv ct), osl⟩) (cd : PySem.W.codeIn K cdv "_law_simplest" = true)
    {f__law_is_in : Addr} {fd__law_is_in : FuncData} (M__law_is_in : FnD P w K mg base 1 f__law_is_in fd__law_is_in ["stretch", "top", "low"] F__law_is_in 0) (a__law_is_in : mg "_law_is_in" = some (.ref f__law_is_in)) (kp__law_is_in : PySem.W.keepIn K (.ref f__law_is_in) = true)
    (b__law_is_in_3 : BindG K fd__law_is_in ["stretch", "top", "low"] 3 [] [])
    (m_range : mg "range" = none)
    (m_int : mg "int" = none) :
    FnD P w K mg base 2 f (PySem.W.fnOf "_law_simplest" "_law_simplest" (defArgs s__law_simplest) (defBody s__law_simplest) (defScope s__law_simplest) dV kV doc pm an cdv ct) ["stretch"] F__law_simplest 0 := by
  unfold F__law_simplest
  refine fnd_by lk cd sc__law_simplest (g := G__law_simplest) (by decide) (fun X W E hE h1 h2 h3 h4 h5 hfn C => ?_)
  subst h1 h2 h3 h4 h5
  have d : DSs X W (defBody s__law_simplest) (G__law_simplest E) _ := (dss_cons (ds_for C 0 (di_range2 C (by decide +kernel) m_range (DE.bo de_int) (DE.bo de_int)) (dg_name C (i := 1) rfl (loc_by (by decide +kernel)) (.inl (hfn _))) (DSs.le (c := 0) (dss_cons (ds_set C (i := 2) rfl (loc_by (by decide +kernel)) (.inl (hfn _)) (de_bin C dop_fdiv (DE.bo (de_bin C dop_mul (DE.bo (de_ix C dix (DE.bo (de_ix C dix (DE.bo (de_var C (i := 0) rfl (vis_by (by decide +kernel)))) (DE.bo de_int))) (DE.bo de_int))) (DE.bo (de_var C (i := 1) rfl (vis_by (by decide +kernel)))))) (DE.bo (de_ix C dix (DE.bo (de_ix C dix (DE.bo (de_var C (i := 0) rfl (vis_by (by decide +kernel)))) (DE.bo de_int))) (DE.bo de_int)))))
    (dss_one (ds_for C 0 (di_seq C (de_tup C (da_cons C (de_var C (i := 2) rfl (vis_by (by decide +kernel))) (da_cons C (de_bin C dop_add (DE.bo (de_var C (i := 2) rfl (vis_by (by decide +kernel)))) (DE.bo de_int)) da_nil)))) (dg_name C (i := 3) rfl (loc_by (by decide +kernel)) (.inl (hfn _))) (DSs.le (c := 0) (dss_one (ds_if C (dt_val (DE.bo (de_fn C hE M__law_is_in (by decide) (by decide +kernel) a__law_is_in kp__law_is_in b__law_is_in_3 .nil (das_dat C (de_var C (i := 0) rfl (vis_by (by decide +kernel))) (das_dat C (de_var C (i := 3) rfl (vis_by (by decide +kernel))) (das_dat C (de_var C (i := 1) rfl (vis_by (by decide +kernel))) das_nil))) rfl))) (dss_one (ds_ret C (de_tup C (da_cons C (de_callT C dc_int (by decide +kernel) m_int boot_int (db_cons C (DE.bo (de_var C (i := 3) rfl (vis_by (by decide +kernel)))) db_nil)) (da_cons C (de_callT C dc_int (by decide +kernel) m_int boot_int (db_cons C (DE.bo (de_var C (i := 1) rfl (vis_by (by decide +kernel)))) db_nil)) da_nil))))) dss_nil)) (by decide +kernel))))) (by decide +kernel)))
    (dss_one (ds_ret C de_non)))
  exact ⟨_, by decide +kernel, d⟩
abbrev s_with_parents : Stmt := topS 24
theorem sc_with_parents : FnScope N_with_parents ["one"] (defScope s_with_parents) := ⟨rfl, rfl, rfl, by decide +kernel, rfl, by decide +kernel, by decide +kernel⟩
theorem ok_with_parents {P : Program} {w : World} {K : PySem.W.Frag} {mg : Str → Option Value} {base : Heap} {f : Addr} {od an : Option Addr} {osl : Array (Option Value)} {oc dV kV doc pm cdv ct : Value}
    (lk : K.lookup f = some ⟨oc, od, .func (PySem.W.fnOf "with_parents" "with_parents" (defArgs s_with_parents) (defBody s_with_parents) (defScope s_with_parents) dV kV doc pm an cdv ct), osl⟩) (cd : PySem.W.codeIn K cdv "with_parents" = true)
    {f_parents_of : Addr} {fd_parents_of : FuncData} (M_parents_of : FnD P w K mg base 1 f_parents_of fd_parents_of ["one"] F_parents_of 0) (a_parents_of : mg "parents_of" = some (.ref f_parents_of)) (kp_parents_of : PySem.W.keepIn K (.ref f_parents_of) = true)
    (b_parents_of_1 : BindG K fd_parents_of ["one"] 1 [] []) :
    FnD P w K mg base 2 f (PySem.W.fnOf "with_parents" "with_parents" (defArgs s_with_parents) (defBody s_with_parents) (defScope s_with_parents) dV kV doc pm an cdv ct) ["one"] F_with_parents 0 := by
  unfold F_with_parents
  refine fnd_by lk cd sc_with_parents (g := G_with_parents) (by decide) (fun X W E hE h1 h2 h3 h4 h5 hfn C => ?_)
  subst h1 h2 h3 h4 h5
  have d : DSs X W (defBody s_with_parents) (G_with_parents E) _ := (dss_one (ds_ret C (de_tup C (da_cons C (de_var C (i := 0) rfl (vis_by (by decide +kernel))) (da_cons C (de_fn C hE M_parents_of (by decide) (by decide +kernel) a_parents_of kp_parents_of b_parents_of_1 .nil (das_dat C (de_var C (i := 0) rfl (vis_by (by decide +kernel))) das_nil) rfl) da_nil)))))
  exact ⟨_, by decide +kernel, d⟩
abbrev s_simplest : Stmt := topS 25
theorem sc_simplest : FnScope N_simplest ["stretch"] (defScope s_simplest) := ⟨rfl, rfl, rfl, by decide +kernel, rfl, by decide +kernel, by decide +kernel⟩
theorem ok_simplest {P : Program} {w : World} {K : PySem.W.Frag} {mg : Str → Option Value} {base : Heap} {f : Addr} {od an : Option Addr} {osl : Array (Option Value)} {oc dV kV doc pm cdv ct : Value}
    (lk : K.lookup f = some ⟨oc, od, .func (PySem.W.fnOf "simplest" "simplest" (defArgs s_simplest) (defBody s_simplest) (defScope s_simplest) dV kV doc pm an cdv ct), osl⟩) (cd : PySem.W.codeIn K cdv "simplest" = true)
    {f_check_stretch : Addr} {fd_check_stretch : FuncData} (M_check_stretch : FnD P w K mg base 5 f_check_stretch fd_check_stretch ["stretch"] F_check_stretch 0) (a_check_stretch : mg "check_stretch" = some (.ref f_check_stretch)) (kp_check_stretch : PySem.W.keepIn K (.ref f_check_stretch) = true)
    {f_with_parents : Addr} {fd_with_parents : FuncData} (M_with_parents : FnD P w K mg base 2 f_with_parents fd_with_parents ["one"] F_with_parents 0) (a_with_parents : mg "with_parents" = some (.ref f_with_parents)) (kp_with_parents : PySem.W.keepIn K (.ref f_with_parents) = true)
    {f_simplest_of : Addr} {fd_simplest_of : FuncData} (M_simplest_of : FnD P w K mg base 4 f_simplest_of fd_simplest_of ["stretch"] F_simplest_of 0) (a_simplest_of : mg "simplest_of" = some (.ref f_simplest_of)) (kp_simplest_of : PySem.W.keepIn K (.ref f_simplest_of) = true)
    (b_check_stretch_1 : BindG K fd_check_stretch ["stretch"] 1 [] [])
    (b_with_parents_1 : BindG K fd_with_parents ["one"] 1 [] [])
    (b_simplest_of_1 : BindG K fd_simplest_of ["stretch"] 1 [] []) :
    FnD P w K mg base 6 f (PySem.W.fnOf "simplest" "simplest" (defArgs s_simplest) (defBody s_simplest) (defScope s_simplest) dV kV doc pm an cdv ct) ["stretch"] F_simplest 0 := by
  unfold F_simplest
  refine fnd_by lk cd sc_simplest (g := G_simplest) (by decide) (fun X W E hE h1 h2 h3 h4 h5 hfn C => ?_)
  subst h1 h2 h3 h4 h5
  have d : DSs X W (defBody s_simplest) (G_simplest E) _ := (dss_cons (ds_expr C (DE.bo (de_fn C hE M_check_stretch (by decide) (by decide +kernel) a_check_stretch kp_check_stretch b_check_stretch_1 .nil (das_dat C (de_var C (i := 0) rfl (vis_by (by decide +kernel))) das_nil) rfl)))
    (dss_one (ds_ret C (de_fn C hE M_with_parents (by decide) (by decide +kernel) a_with_parents kp_with_parents b_with_parents_1 .nil (das_dat C (de_fn C hE M_simplest_of (by decide) (by decide +kernel) a_simplest_of kp_simplest_of b_simplest_of_1 .nil (das_dat C (de_var C (i := 0) rfl (vis_by (by decide +kernel))) das_nil) rfl) das_nil) rfl))))
  exact ⟨_, by decide +kernel, d⟩
abbrev s__law_is_whole : Stmt := topS 43
theorem sc__law_is_whole : FnScope N__law_is_whole ["value"] (defScope s__law_is_whole) := ⟨rfl, rfl, rfl, by decide +kernel, rfl, by decide +kernel, by decide +kernel⟩
theorem ok__law_is_whole {P : Program} {w : World} {K : PySem.W.Frag} {mg : Str → Option Value} {base : Heap} {f : Addr} {od an : Option Addr} {osl : Array (Option Value)} {oc dV kV doc pm cdv ct : Value}
    (lk : K.lookup f = some ⟨oc, od, .func (PySem.W.fnOf "_law_is_whole" "_law_is_whole" (defArgs s__law_is_whole) (defBody s__law_is_whole) (defScope s__law_is_whole) dV kV doc pm an cdv ct), osl⟩) (cd : PySem.W.codeIn K cdv "_law_is_whole" = true)
    (m_isinstance : mg "isinstance" = none)
    (m_bool : mg "bool" = none)
    (m_int : mg "int" = none) :
    FnD P w K mg base 1 f (PySem.W.fnOf "_law_is_whole" "_law_is_whole" (defArgs s__law_is_whole) (defBody s__law_is_whole) (defScope s__law_is_whole) dV kV doc pm an cdv ct) ["value"] F__law_is_whole 0 := by
  unfold F__law_is_whole
  refine fnd_by lk cd sc__law_is_whole (g := G__law_is_whole) (by decide) (fun X W E hE h1 h2 h3 h4 h5 hfn C => ?_)
  subst h1 h2 h3 h4 h5
  have d : DSs X W (defBody s__law_is_whole) (G__law_is_whole E) _ := (dss_one (ds_ret C (de_and C (de_isi C isi_int (by decide +kernel) m_isinstance (by decide +kernel) m_int boot_int (DE.bo (de_var C (i := 0) rfl (vis_by (by decide +kernel))))) (de_one (de_not (de_isi C isi_bool (by decide +kernel) m_isinstance (by decide +kernel) m_bool boot_bool (DE.bo (de_var C (i := 0) rfl (vis_by (by decide +kernel))))))))))
  exact ⟨_, by decide +kernel, d⟩
abbrev s__law_is_paper : Stmt := topS 44
theorem sc__law_is_paper : FnScope N__law_is_paper ["stretch", "fraction", "paper"] (defScope s__law_is_paper) := ⟨rfl, rfl, rfl, by decide +kernel, rfl, by decide +kernel, by decide +kernel⟩
theorem ok__law_is_paper {P : Program} {w : World} {K : PySem.W.Frag} {mg : Str → Option Value} {base : Heap} {f : Addr} {od an : Option Addr} {osl : Array (Option Value)} {oc dV kV doc pm cdv ct : Value}
    (lk : K.lookup f = some ⟨oc, od, .func (PySem.W.fnOf "_law_is_paper" "_law_is_paper" (defArgs s__law_is_paper) (defBody s__law_is_paper) (defScope s__law_is_paper) dV kV doc pm an cdv ct), osl⟩) (cd : PySem.W.codeIn K cdv "_law_is_paper" = true)
    {f__law_is_whole : Addr} {fd__law_is_whole : FuncData} (M__law_is_whole : FnD P w K mg base 1 f__law_is_whole fd__law_is_whole ["value"] F__law_is_whole 0) (a__law_is_whole : mg "_law_is_whole" = some (.ref f__law_is_whole)) (kp__law_is_whole : PySem.W.keepIn K (.ref f__law_is_whole) = true)
    {f__law_is_in : Addr} {fd__law_is_in : FuncData} (M__law_is_in : FnD P w K mg base 1 f__law_is_in fd__law_is_in ["stretch", "top", "low"] F__law_is_in 0) (a__law_is_in : mg "_law_is_in" = some (.ref f__law_is_in)) (kp__law_is_in : PySem.W.keepIn K (.ref f__law_is_in) = true)
    {f__law_cut : Addr} {fd__law_cut : FuncData} (M__law_cut : FnD P w K mg base 1 f__law_cut fd__law_cut ["top", "low"] F__law_cut 0) (a__law_cut : mg "_law_cut" = some (.ref f__law_cut)) (kp__law_cut : PySem.W.keepIn K (.ref f__law_cut) = true)
    (b__law_is_whole_1 : BindG K fd__law_is_whole ["value"] 1 [] [])
    (b__law_is_in_3 : BindG K fd__law_is_in ["stretch", "top", "low"] 3 [] [])
    (b__law_cut_2 : BindG K fd__law_cut ["top", "low"] 2 [] [])
    (m_all : mg "all" = none)
    (m_len : mg "len" = none)
    (m_isinstance : mg "isinstance" = none)
    (m_tuple : mg "tuple" = none) :
    FnD P w K mg base 2 f (PySem.W.fnOf "_law_is_paper" "_law_is_paper" (defArgs s__law_is_paper) (defBody s__law_is_paper) (defScope s__law_is_paper) dV kV doc pm an cdv ct) ["stretch", "fraction", "paper"] F__law_is_paper 0 := by
  unfold F__law_is_paper
  refine fnd_by lk cd sc__law_is_paper (g := G__law_is_paper) (by decide) (fun X W E hE h1 h2 h3 h4 h5 hfn C => ?_)
  subst h1 h2 h3 h4 h5
  have d : DSs X W (defBody s__law_is_paper) (G__law_is_paper E) _ := (dss_cons (ds_if C (DW.t (dw_or C (dt_not (dt_val (DE.bo (de_isi C isi_tuple (by decide +kernel) m_isinstance (by decide +kernel) m_tuple boot_tuple (DE.bo (de_var C (i := 1) rfl (vis_by (by decide +kernel)))))))) (dw_or C (dt_cmp C (dop_ne C.units) (DE.bo (de_callB C dc_len (by decide +kernel) m_len PySem.boot_len (db_cons C (DE.bo (de_var C (i := 1) rfl (vis_by (by decide +kernel)))) db_nil))) (DE.bo de_int)) (dw_or1 (dt_not (dt_val (DE.bo (de_callB C (dc_all C.calm) (by decide +kernel) m_all boot_all (db_cons C (DE.bo (DF.da C (df_lc (own := [("part", 9)]) C 0 (DI.bo (di_seq C (de_var C (i := 1) rfl (vis_by (by decide +kernel))))) (blkOk_by (own := [("part", 9)]) (by decide +kernel)) (blk_use C fun _ _ _ _ _ _ C1 => (dg_name C1 (i := 9) rfl (loc_by (by decide +kernel)) (.inr (by decide +kernel)))) (blk_use C fun _ _ _ _ _ _ C1 => PTsD.le (c := 0) dts_nil (by decide +kernel)) (blk_use C fun _ _ _ _ _ _ C1 => DE.le (c := 0) (de_fn C1 rfl M__law_is_whole (by decide) (by decide +kernel) a__law_is_whole kp__law_is_whole b__law_is_whole_1 .nil (das_dat C1 (de_var C1 (i := 9) rfl (vis_by (by decide +kernel))) das_nil) rfl) (by decide +kernel)) (by decide)))) db_nil))))))))) (dss_one (ds_ret C de_bl)) dss_nil)
    (dss_cons (ds_asg C (de_var C (i := 1) rfl (vis_by (by decide +kernel))) (dg_tup C (dgs_cons (dg_name C (i := 3) rfl (loc_by (by decide +kernel)) (.inl (hfn _))) (dgs_cons (dg_name C (i := 4) rfl (loc_by (by decide +kernel)) (.inl (hfn _))) dgs_nil))))
    (dss_cons (ds_if C (DW.t (dw_or C (dt_cmp C dop_lt (DE.bo (de_var C (i := 4) rfl (vis_by (by decide +kernel)))) (DE.bo de_int)) (dw_or C (dt_cmp C (dop_ne C.units) (DE.bo (de_fn C hE M__law_cut (by decide) (by decide +kernel) a__law_cut kp__law_cut b__law_cut_2 .nil (das_dat C (de_var C (i := 3) rfl (vis_by (by decide +kernel))) (das_dat C (de_var C (i := 4) rfl (vis_by (by decide +kernel))) das_nil)) rfl)) (DE.bo (de_var C (i := 1) rfl (vis_by (by decide +kernel))))) (dw_or1 (dt_not (dt_val (DE.bo (de_fn C hE M__law_is_in (by decide) (by decide +kernel) a__law_is_in kp__law_is_in b__law_is_in_3 .nil (das_dat C (de_var C (i := 0) rfl (vis_by (by decide +kernel))) (das_dat C (de_var C (i := 3) rfl (vis_by (by decide +kernel))) (das_dat C (de_var C (i := 4) rfl (vis_by (by decide +kernel))) das_nil))) rfl)))))))) (dss_one (ds_ret C de_bl)) dss_nil)
    (dss_cons (ds_if C (dt_cmp C (dop_eq C.units) (DE.bo (de_var C (i := 4) rfl (vis_by (by decide +kernel)))) (DE.bo de_int)) (dss_one (ds_ret C (de_and C (de_cmp C (dop_eq C.units) (DE.bo (de_var C (i := 2) rfl (vis_by (by decide +kernel)))) (DE.bo (de_tup C da_nil))) (de_and C (de_isi C isi_tuple (by decide +kernel) m_isinstance (by decide +kernel) m_tuple boot_tuple (DE.bo (de_var C (i := 2) rfl (vis_by (by decide +kernel))))) (de_one (de_not (de_fn C hE M__law_is_in (by decide) (by decide +kernel) a__law_is_in kp__law_is_in b__law_is_in_3 .nil (das_dat C (de_var C (i := 0) rfl (vis_by (by decide +kernel))) (das_dat C (de_bin C dop_sub (DE.bo (de_var C (i := 3) rfl (vis_by (by decide +kernel)))) (DE.bo de_int)) (das_dat C de_int das_nil))) rfl))))))) dss_nil)
    (dss_cons (ds_if C (DW.t (dw_or C (dt_not (dt_val (DE.bo (de_isi C isi_tuple (by decide +kernel) m_isinstance (by decide +kernel) m_tuple boot_tuple (DE.bo (de_var C (i := 2) rfl (vis_by (by decide +kernel)))))))) (dw_or1 (dt_cmp C (dop_ne C.units) (DE.bo (de_callB C dc_len (by decide +kernel) m_len PySem.boot_len (db_cons C (DE.bo (de_var C (i := 2) rfl (vis_by (by decide +kernel)))) db_nil))) (DE.bo de_int))))) (dss_one (ds_ret C de_bl)) dss_nil)
    (dss_cons (ds_for C 0 (di_seq C (de_var C (i := 2) rfl (vis_by (by decide +kernel)))) (dg_name C (i := 5) rfl (loc_by (by decide +kernel)) (.inl (hfn _))) (DSs.le (c := 0) (dss_one (ds_if C (DW.t (dw_or C (dt_not (dt_val (DE.bo (de_isi C isi_tuple (by decide +kernel) m_isinstance (by decide +kernel) m_tuple boot_tuple (DE.bo (de_var C (i := 5) rfl (vis_by (by decide +kernel)))))))) (dw_or C (dt_cmp C (dop_ne C.units) (DE.bo (de_callB C dc_len (by decide +kernel) m_len PySem.boot_len (db_cons C (DE.bo (de_var C (i := 5) rfl (vis_by (by decide +kernel)))) db_nil))) (DE.bo de_int)) (dw_or1 (dt_not (dt_val (DE.bo (de_callB C (dc_all C.calm) (by decide +kernel) m_all boot_all (db_cons C (DE.bo (DF.da C (df_lc (own := [("part", 9)]) C 0 (DI.bo (di_seq C (de_var C (i := 5) rfl (vis_by (by decide +kernel))))) (blkOk_by (own := [("part", 9)]) (by decide +kernel)) (blk_use C fun _ _ _ _ _ _ C1 => (dg_name C1 (i := 9) rfl (loc_by (by decide +kernel)) (.inr (by decide +kernel)))) (blk_use C fun _ _ _ _ _ _ C1 => PTsD.le (c := 0) dts_nil (by decide +kernel)) (blk_use C fun _ _ _ _ _ _ C1 => DE.le (c := 0) (de_and C1 (de_fn C1 rfl M__law_is_whole (by decide) (by decide +kernel) a__law_is_whole kp__law_is_whole b__law_is_whole_1 .nil (das_dat C1 (de_var C1 (i := 9) rfl (vis_by (by decide +kernel))) das_nil) rfl) (de_one (de_cmp C1 dop_ge (DE.bo (de_var C1 (i := 9) rfl (vis_by (by decide +kernel)))) (DE.bo de_int)))) (by decide +kernel)) (by decide)))) db_nil))))))))) (dss_one (ds_ret C de_bl)) dss_nil)) (by decide +kernel)))
    (dss_cons (ds_asg C (de_var C (i := 2) rfl (vis_by (by decide +kernel))) (dg_tup C (dgs_cons (dg_tup C (dgs_cons (dg_name C (i := 5) rfl (loc_by (by decide +kernel)) (.inl (hfn _))) (dgs_cons (dg_name C (i := 6) rfl (loc_by (by decide +kernel)) (.inl (hfn _))) dgs_nil))) (dgs_cons (dg_tup C (dgs_cons (dg_name C (i := 7) rfl (loc_by (by decide +kernel)) (.inl (hfn _))) (dgs_cons (dg_name C (i := 8) rfl (loc_by (by decide +kernel)) (.inl (hfn _))) dgs_nil))) dgs_nil))))
    (dss_cons (ds_if C (DW.t (dw_or C (dt_cmp C dop_lt (DE.bo (de_var C (i := 6) rfl (vis_by (by decide +kernel)))) (DE.bo de_int)) (dw_or C (dt_cmp C (dop_ne C.units) (DE.bo (de_tup C (da_cons C (de_bin C dop_add (DE.bo (de_var C (i := 5) rfl (vis_by (by decide +kernel)))) (DE.bo (de_var C (i := 7) rfl (vis_by (by decide +kernel))))) (da_cons C (de_bin C dop_add (DE.bo (de_var C (i := 6) rfl (vis_by (by decide +kernel)))) (DE.bo (de_var C (i := 8) rfl (vis_by (by decide +kernel))))) da_nil)))) (DE.bo (de_var C (i := 1) rfl (vis_by (by decide +kernel))))) (dw_or1 (dt_cmp C (dop_ne C.units) (DE.bo (de_bin C dop_sub (DE.bo (de_bin C dop_mul (DE.bo (de_var C (i := 7) rfl (vis_by (by decide +kernel)))) (DE.bo (de_var C (i := 6) rfl (vis_by (by decide +kernel)))))) (DE.bo (de_bin C dop_mul (DE.bo (de_var C (i := 5) rfl (vis_by (by decide +kernel)))) (DE.bo (de_var C (i := 8) rfl (vis_by (by decide +kernel)))))))) (DE.bo de_int)))))) (dss_one (ds_ret C de_bl)) dss_nil)
    (dss_one (ds_ret C (de_and C (de_not (de_fn C hE M__law_is_in (by decide) (by decide +kernel) a__law_is_in kp__law_is_in b__law_is_in_3 .nil (das_dat C (de_var C (i := 0) rfl (vis_by (by decide +kernel))) (das_dat C (de_var C (i := 5) rfl (vis_by (by decide +kernel))) (das_dat C (de_var C (i := 6) rfl (vis_by (by decide +kernel))) das_nil))) rfl)) (de_one (de_or C (de_cmp C (dop_eq C.units) (DE.bo (de_var C (i := 8) rfl (vis_by (by decide +kernel)))) (DE.bo de_int)) (de_one (de_not (de_fn C hE M__law_is_in (by decide) (by decide +kernel) a__law_is_in kp__law_is_in b__law_is_in_3 .nil (das_dat C (de_var C (i := 0) rfl (vis_by (by decide +kernel))) (das_dat C (de_var C (i := 7) rfl (vis_by (by decide +kernel))) (das_dat C (de_var C (i := 8) rfl (vis_by (by decide +kernel))) das_nil))) rfl))))))))))))))))
  exact ⟨_, by decide +kernel, d⟩
abbrev s__law_is_shown : Stmt := topS 45
theorem sc__law_is_shown : FnScope N__law_is_shown ["stretch", "value"] (defScope s__law_is_shown) := ⟨rfl, rfl, rfl, by decide +kernel, rfl, by decide +kernel, by decide +kernel⟩
theorem ok__law_is_shown {P : Program} {w : World} {K : PySem.W.Frag} {mg : Str → Option Value} {base : Heap} {f : Addr} {od an : Option Addr} {osl : Array (Option Value)} {oc dV kV doc pm cdv ct : Value}
    (lk : K.lookup f = some ⟨oc, od, .func (PySem.W.fnOf "_law_is_shown" "_law_is_shown" (defArgs s__law_is_shown) (defBody s__law_is_shown) (defScope s__law_is_shown) dV kV doc pm an cdv ct), osl⟩) (cd : PySem.W.codeIn K cdv "_law_is_shown" = true)
    {f__law_is_paper : Addr} {fd__law_is_paper : FuncData} (M__law_is_paper : FnD P w K mg base 2 f__law_is_paper fd__law_is_paper ["stretch", "fraction", "paper"] F__law_is_paper 0) (a__law_is_paper : mg "_law_is_paper" = some (.ref f__law_is_paper)) (kp__law_is_paper : PySem.W.keepIn K (.ref f__law_is_paper) = true)
    (b__law_is_paper_3 : BindG K fd__law_is_paper ["stretch", "fraction", "paper"] 3 [] [])
    (m_len : mg "len" = none)
    (m_isinstance : mg "isinstance" = none)
    (m_tuple : mg "tuple" = none) :
    FnD P w K mg base 3 f (PySem.W.fnOf "_law_is_shown" "_law_is_shown" (defArgs s__law_is_shown) (defBody s__law_is_shown) (defScope s__law_is_shown) dV kV doc pm an cdv ct) ["stretch", "value"] F__law_is_shown 0 := by
  unfold F__law_is_shown
  refine fnd_by lk cd sc__law_is_shown (g := G__law_is_shown) (by decide) (fun X W E hE h1 h2 h3 h4 h5 hfn C => ?_)
  subst h1 h2 h3 h4 h5
  have d : DSs X W (defBody s__law_is_shown) (G__law_is_shown E) _ := (dss_one (ds_ret C (de_and C (de_isi C isi_tuple (by decide +kernel) m_isinstance (by decide +kernel) m_tuple boot_tuple (DE.bo (de_var C (i := 1) rfl (vis_by (by decide +kernel))))) (de_and C (de_cmp C (dop_eq C.units) (DE.bo (de_callB C dc_len (by decide +kernel) m_len PySem.boot_len (db_cons C (DE.bo (de_var C (i := 1) rfl (vis_by (by decide +kernel)))) db_nil))) (DE.bo de_int)) (de_one (de_fn C hE M__law_is_paper (by decide) (by decide +kernel) a__law_is_paper kp__law_is_paper b__law_is_paper_3 .nil (das_dat C (de_var C (i := 0) rfl (vis_by (by decide +kernel))) (das_dat C (de_ix C dix (DE.bo (de_var C (i := 1) rfl (vis_by (by decide +kernel)))) (DE.bo de_int)) (das_dat C (de_ix C dix (DE.bo (de_var C (i := 1) rfl (vis_by (by decide +kernel)))) (DE.bo de_int)) das_nil))) rfl))))))
  exact ⟨_, by decide +kernel, d⟩
abbrev s__law_is_edge : Stmt := topS 46
theorem sc__law_is_edge : FnScope N__law_is_edge ["stretch", "value"] (defScope s__law_is_edge) := ⟨rfl, rfl, rfl, by decide +kernel, rfl, by decide +kernel, by decide +kernel⟩
theorem ok__law_is_edge {P : Program} {w : World} {K : PySem.W.Frag} {mg : Str → Option Value} {base : Heap} {f : Addr} {od an : Option Addr} {osl : Array (Option Value)} {oc dV kV doc pm cdv ct : Value}
    (lk : K.lookup f = some ⟨oc, od, .func (PySem.W.fnOf "_law_is_edge" "_law_is_edge" (defArgs s__law_is_edge) (defBody s__law_is_edge) (defScope s__law_is_edge) dV kV doc pm an cdv ct), osl⟩) (cd : PySem.W.codeIn K cdv "_law_is_edge" = true)
    {f__law_is_whole : Addr} {fd__law_is_whole : FuncData} (M__law_is_whole : FnD P w K mg base 1 f__law_is_whole fd__law_is_whole ["value"] F__law_is_whole 0) (a__law_is_whole : mg "_law_is_whole" = some (.ref f__law_is_whole)) (kp__law_is_whole : PySem.W.keepIn K (.ref f__law_is_whole) = true)
    {f__law_is_paper : Addr} {fd__law_is_paper : FuncData} (M__law_is_paper : FnD P w K mg base 2 f__law_is_paper fd__law_is_paper ["stretch", "fraction", "paper"] F__law_is_paper 0) (a__law_is_paper : mg "_law_is_paper" = some (.ref f__law_is_paper)) (kp__law_is_paper : PySem.W.keepIn K (.ref f__law_is_paper) = true)
    (b__law_is_whole_1 : BindG K fd__law_is_whole ["value"] 1 [] [])
    (b__law_is_paper_3 : BindG K fd__law_is_paper ["stretch", "fraction", "paper"] 3 [] [])
    (m_all : mg "all" = none)
    (m_len : mg "len" = none)
    (m_isinstance : mg "isinstance" = none)
    (m_tuple : mg "tuple" = none) :
    FnD P w K mg base 3 f (PySem.W.fnOf "_law_is_edge" "_law_is_edge" (defArgs s__law_is_edge) (defBody s__law_is_edge) (defScope s__law_is_edge) dV kV doc pm an cdv ct) ["stretch", "value"] F__law_is_edge 0 := by
  unfold F__law_is_edge
  refine fnd_by lk cd sc__law_is_edge (g := G__law_is_edge) (by decide) (fun X W E hE h1 h2 h3 h4 h5 hfn C => ?_)
  subst h1 h2 h3 h4 h5
  have d : DSs X W (defBody s__law_is_edge) (G__law_is_edge E) _ := (dss_cons (ds_if C (DW.t (dw_or C (dt_not (dt_val (DE.bo (de_isi C isi_tuple (by decide +kernel) m_isinstance (by decide +kernel) m_tuple boot_tuple (DE.bo (de_var C (i := 1) rfl (vis_by (by decide +kernel)))))))) (dw_or C (dt_cmp C (dop_ne C.units) (DE.bo (de_callB C dc_len (by decide +kernel) m_len PySem.boot_len (db_cons C (DE.bo (de_var C (i := 1) rfl (vis_by (by decide +kernel)))) db_nil))) (DE.bo de_int)) (dw_or1 (dt_not (dt_val (DE.bo (de_callB C (dc_all C.calm) (by decide +kernel) m_all boot_all (db_cons C (DE.bo (DF.da C (df_lc (own := [("part", 2)]) C 0 (DI.bo (di_seq C (de_sl C dsl (DE.bo (de_var C (i := 1) rfl (vis_by (by decide +kernel)))) dp_none (dp_some (DE.bo de_int))))) (blkOk_by (own := [("part", 2)]) (by decide +kernel)) (blk_use C fun _ _ _ _ _ _ C1 => (dg_name C1 (i := 2) rfl (loc_by (by decide +kernel)) (.inr (by decide +kernel)))) (blk_use C fun _ _ _ _ _ _ C1 => PTsD.le (c := 0) dts_nil (by decide +kernel)) (blk_use C fun _ _ _ _ _ _ C1 => DE.le (c := 0) (de_fn C1 rfl M__law_is_whole (by decide) (by decide +kernel) a__law_is_whole kp__law_is_whole b__law_is_whole_1 .nil (das_dat C1 (de_var C1 (i := 2) rfl (vis_by (by decide +kernel))) das_nil) rfl) (by decide +kernel)) (by decide)))) db_nil))))))))) (dss_one (ds_ret C de_bl)) dss_nil)
    (dss_one (ds_ret C (de_and C (de_cmp C dop_gt (DE.bo (de_ix C dix (DE.bo (de_var C (i := 1) rfl (vis_by (by decide +kernel)))) (DE.bo de_int))) (DE.bo de_int)) (de_one (de_fn C hE M__law_is_paper (by decide) (by decide +kernel) a__law_is_paper kp__law_is_paper b__law_is_paper_3 .nil (das_dat C (de_var C (i := 0) rfl (vis_by (by decide +kernel))) (das_dat C (de_tup C (da_cons C (de_ix C dix (DE.bo (de_var C (i := 1) rfl (vis_by (by decide +kernel)))) (DE.bo de_int)) (da_cons C (de_ix C dix (DE.bo (de_var C (i := 1) rfl (vis_by (by decide +kernel)))) (DE.bo de_int)) da_nil))) (das_dat C (de_ix C dix (DE.bo (de_var C (i := 1) rfl (vis_by (by decide +kernel)))) (DE.bo de_int)) das_nil))) rfl))))))
  exact ⟨_, by decide +kernel, d⟩
abbrev s__law_odd : Stmt := topS 37
theorem sc__law_odd : FnScope N__law_odd ["pot"] (defScope s__law_odd) := ⟨rfl, rfl, rfl, by decide +kernel, rfl, by decide +kernel, by decide +kernel⟩
theorem ok__law_odd {P : Program} {w : World} {K : PySem.W.Frag} {mg : Str → Option Value} {base : Heap} {f : Addr} {od an : Option Addr} {osl : Array (Option Value)} {oc dV kV doc pm cdv ct : Value}
    (lk : K.lookup f = some ⟨oc, od, .func (PySem.W.fnOf "_law_odd" "_law_odd" (defArgs s__law_odd) (defBody s__law_odd) (defScope s__law_odd) dV kV doc pm an cdv ct), osl⟩) (cd : PySem.W.codeIn K cdv "_law_odd" = true)
    {f__law_of : Addr} {fd__law_of : FuncData} (M__law_of : FnD P w K mg base 2 f__law_of fd__law_of ["pot", "some"] F__law_of 1) (a__law_of : mg "_law_of" = some (.ref f__law_of)) (kp__law_of : PySem.W.keepIn K (.ref f__law_of) = true)
    (b__law_of_2 : BindG K fd__law_of ["pot", "some"] 2 [] []) :
    FnD P w K mg base 3 f (PySem.W.fnOf "_law_odd" "_law_odd" (defArgs s__law_odd) (defBody s__law_odd) (defScope s__law_odd) dV kV doc pm an cdv ct) ["pot"] F__law_odd 1 := by
  unfold F__law_odd
  refine fnd_by lk cd sc__law_odd (g := G__law_odd) (by decide) (fun X W E hE h1 h2 h3 h4 h5 hfn C => ?_)
  subst h1 h2 h3 h4 h5
  have d : DSs X W (defBody s__law_odd) (G__law_odd E) _ := (dss_cons (ds_setF C (i := 1) rfl (loc_by (by decide +kernel)) (.inl (hfn _)) (df_lst C (da_cons C de_non (da_cons C de_bl (da_cons C de_bl (da_cons C de_int (da_cons C de_int (da_cons C (de_neg (DE.bo de_int)) (da_cons C de_int (da_cons C de_int (da_cons C de_int (da_cons C de_str (da_cons C de_str (da_cons C de_str (da_cons C de_str (da_cons C de_str (da_cons C (de_tup C da_nil) (da_cons C (DF.da C (df_lst C da_nil)) (da_cons C (de_dic0 C) (da_cons C (de_tup C (da_cons C de_int da_nil)) (da_cons C (de_tup C (da_cons C (de_tup C da_nil) da_nil)) (da_cons C (DF.da C (df_lst C (da_cons C de_int da_nil))) da_nil))))))))))))))))))))))
    (dss_cons (ds_ext C (i := 1) rfl (vis_by (by decide +kernel)) (DE.bo (DF.da C (df_lst C (da_cons C (de_tup C (da_cons C de_str da_nil)) (da_cons C (de_tup C (da_cons C de_str (da_cons C de_str da_nil))) (da_cons C (de_tup C (da_cons C de_int (da_cons C de_int da_nil))) (da_cons C (de_tup C (da_cons C de_non da_nil)) (da_cons C (de_tup C (da_cons C de_str (da_cons C de_str (da_cons C de_int da_nil)))) (da_cons C (de_bin C dop_pow (DE.bo de_int) (DE.bo de_int)) da_nil))))))))))
    (dss_one (ds_frz 1 (ds_ret C (de_fn C hE M__law_of (by decide) (by decide +kernel) a__law_of kp__law_of b__law_of_2 .nil (das_pot C (i := 0) rfl (vis_by (by decide +kernel)) (das_dat C (de_var C (i := 1) rfl (vis_by (by decide +kernel))) das_nil)) rfl))))))
  exact ⟨_, by decide +kernel, d⟩
abbrev s__law_bent : Stmt := topS 38
theorem sc__law_bent : FnScope N__law_bent ["pot", "value"] (defScope s__law_bent) := ⟨rfl, rfl, rfl, by decide +kernel, rfl, by decide +kernel, by decide +kernel⟩
theorem ok__law_bent_1 {P : Program} {w : World} {K : PySem.W.Frag} {mg : Str → Option Value} {base : Heap} {f : Addr} {od an : Option Addr} {osl : Array (Option Value)} {oc dV kV doc pm cdv ct : Value}
    (lk : K.lookup f = some ⟨oc, od, .func (PySem.W.fnOf "_law_bent" "_law_bent" (defArgs s__law_bent) (defBody s__law_bent) (defScope s__law_bent) dV kV doc pm an cdv ct), osl⟩) (cd : PySem.W.codeIn K cdv "_law_bent" = true)
    {f__law_take : Addr} {fd__law_take : FuncData} (M__law_take : FnD P w K mg base 1 f__law_take fd__law_take ["pot", "upto"] F__law_take 1) (a__law_take : mg "_law_take" = some (.ref f__law_take)) (kp__law_take : PySem.W.keepIn K (.ref f__law_take) = true)
    (M__law_bent : FnD P w K mg base 0 f (PySem.W.fnOf "_law_bent" "_law_bent" (defArgs s__law_bent) (defBody s__law_bent) (defScope s__law_bent) dV kV doc pm an cdv ct) ["pot", "value"] (V__law_bent 0) 0) (a__law_bent : mg "_law_bent" = some (.ref f)) (kp__law_bent : PySem.W.keepIn K (.ref f) = true)
    {f__law_of : Addr} {fd__law_of : FuncData} (M__law_of : FnD P w K mg base 2 f__law_of fd__law_of ["pot", "some"] F__law_of 1) (a__law_of : mg "_law_of" = some (.ref f__law_of)) (kp__law_of : PySem.W.keepIn K (.ref f__law_of) = true)
    {f__law_odd : Addr} {fd__law_odd : FuncData} (M__law_odd : FnD P w K mg base 3 f__law_odd fd__law_odd ["pot"] F__law_odd 1) (a__law_odd : mg "_law_odd" = some (.ref f__law_odd)) (kp__law_odd : PySem.W.keepIn K (.ref f__law_odd) = true)
    (b__law_take_2 : BindG K fd__law_take ["pot", "upto"] 2 [] [])
    (b__law_bent_2 : BindG K (PySem.W.fnOf "_law_bent" "_law_bent" (defArgs s__law_bent) (defBody s__law_bent) (defScope s__law_bent) dV kV doc pm an cdv ct) ["pot", "value"] 2 [] [])
    (b__law_of_2 : BindG K fd__law_of ["pot", "some"] 2 [] [])
    (b__law_odd_1 : BindG K fd__law_odd ["pot"] 1 [] [])
    (m_isinstance : mg "isinstance" = none)
    (m_tuple : mg "tuple" = none)
    (m_len : mg "len" = none)
    (m_list : mg "list" = none)
    (m_bool : mg "bool" = none)
    (m_int : mg "int" = none)
    (m_str : mg "str" = none) :
    FnD P w K mg base 4 f (PySem.W.fnOf "_law_bent" "_law_bent" (defArgs s__law_bent) (defBody s__law_bent) (defScope s__law_bent) dV kV doc pm an cdv ct) ["pot", "value"] (V__law_bent 1) 6 := by
  show FnD P w K mg base 4 f (PySem.W.fnOf "_law_bent" "_law_bent" (defArgs s__law_bent) (defBody s__law_bent) (defScope s__law_bent) dV kV doc pm an cdv ct) ["pot", "value"] (specOf 2 N__law_bent (G__law_bent (V__law_bent 0))) 6
  refine fnd_by lk cd sc__law_bent (g := (G__law_bent (V__law_bent 0))) (by decide) (fun X W E hE h1 h2 h3 h4 h5 hfn C => ?_)
  subst h1 h2 h3 h4 h5
  have d : DSs X W (defBody s__law_bent) ((G__law_bent (V__law_bent 0)) E) _ := (dss_cons (ds_if C (DW.t (dw_and C (dt_val (DE.bo (de_isi C isi_tuple (by decide +kernel) m_isinstance (by decide +kernel) m_tuple boot_tuple (DE.bo (de_var C (i := 1) rfl (vis_by (by decide +kernel))))))) (dw_and C (dt_cmp C (dop_ne C.units) (DE.bo (de_var C (i := 1) rfl (vis_by (by decide +kernel)))) (DE.bo (de_tup C da_nil))) (dw_and1 (dt_cmp C dop_gt (DE.bo (de_fn C hE M__law_take (by decide) (by decide +kernel) a__law_take kp__law_take b__law_take_2 .nil (das_pot C (i := 0) rfl (vis_by (by decide +kernel)) (das_dat C de_int das_nil)) rfl)) (DE.bo de_int)))))) (dss_cons (ds_set C (i := 2) rfl (loc_by (by decide +kernel)) (.inl (hfn _)) (de_fn C hE M__law_take (by decide) (by decide +kernel) a__law_take kp__law_take b__law_take_2 .nil (das_pot C (i := 0) rfl (vis_by (by decide +kernel)) (das_dat C (de_callB C dc_len (by decide +kernel) m_len PySem.boot_len (db_cons C (DE.bo (de_var C (i := 1) rfl (vis_by (by decide +kernel)))) db_nil)) das_nil)) rfl))
    (dss_one (ds_ret C (de_bin C dop_add (DE.bo (de_bin C dop_add (DE.bo (de_sl C dsl (DE.bo (de_var C (i := 1) rfl (vis_by (by decide +kernel)))) dp_none (dp_some (DE.bo (de_var C (i := 2) rfl (vis_by (by decide +kernel))))))) (DE.bo (de_tup C (da_cons C (de_fn C hE M__law_bent (by decide) (by decide +kernel) a__law_bent kp__law_bent b__law_bent_2 .nil (das_pot C (i := 0) rfl (vis_by (by decide +kernel)) (das_dat C (de_ix C dix (DE.bo (de_var C (i := 1) rfl (vis_by (by decide +kernel)))) (DE.bo (de_var C (i := 2) rfl (vis_by (by decide +kernel))))) das_nil)) rfl) da_nil))))) (DE.bo (de_sl C dsl (DE.bo (de_var C (i := 1) rfl (vis_by (by decide +kernel)))) (dp_some (DE.bo (de_bin C dop_add (DE.bo (de_var C (i := 2) rfl (vis_by (by decide +kernel)))) (DE.bo de_int)))) dp_none)))))) dss_nil)
    (dss_cons (ds_if C (dt_val (DE.bo (de_isi C isi_tuple (by decide +kernel) m_isinstance (by decide +kernel) m_tuple boot_tuple (DE.bo (de_var C (i := 1) rfl (vis_by (by decide +kernel))))))) (dss_cons (ds_set C (i := 3) rfl (loc_by (by decide +kernel)) (.inl (hfn _)) (DF.da C (df_lst C (da_cons C (DF.da C (df_callT C dcf_list (by decide +kernel) m_list boot_list (db_cons C (DE.bo (de_var C (i := 1) rfl (vis_by (by decide +kernel)))) db_nil))) (da_cons C (de_sl C dsl (DE.bo (de_var C (i := 1) rfl (vis_by (by decide +kernel)))) (dp_some (DE.bo de_int)) dp_none) (da_cons C (de_sl C dsl (DE.bo (de_var C (i := 1) rfl (vis_by (by decide +kernel)))) dp_none (dp_some (DE.bo (de_neg (DE.bo de_int))))) (da_cons C (de_bin C dop_add (DE.bo (de_var C (i := 1) rfl (vis_by (by decide +kernel)))) (DE.bo (de_sl C dsl (DE.bo (de_var C (i := 1) rfl (vis_by (by decide +kernel)))) (dp_some (DE.bo (de_neg (DE.bo de_int)))) dp_none))) (da_cons C (de_rev C (DE.bo (de_var C (i := 1) rfl (vis_by (by decide +kernel))))) (da_cons C (de_tup C da_nil) (da_cons C de_non (da_cons C (de_bin C dop_add (DE.bo (de_var C (i := 1) rfl (vis_by (by decide +kernel)))) (DE.bo (de_tup C (da_cons C de_int da_nil)))) da_nil)))))))))))
    (dss_one (ds_ret C (de_fn C hE M__law_of (by decide) (by decide +kernel) a__law_of kp__law_of b__law_of_2 .nil (das_pot C (i := 0) rfl (vis_by (by decide +kernel)) (das_dat C (de_var C (i := 3) rfl (vis_by (by decide +kernel))) das_nil)) rfl)))) dss_nil)
    (dss_cons (ds_if C (DW.t (dw_and C (dt_val (DE.bo (de_isi C isi_int (by decide +kernel) m_isinstance (by decide +kernel) m_int boot_int (DE.bo (de_var C (i := 1) rfl (vis_by (by decide +kernel))))))) (dw_and1 (dt_not (dt_val (DE.bo (de_isi C isi_bool (by decide +kernel) m_isinstance (by decide +kernel) m_bool boot_bool (DE.bo (de_var C (i := 1) rfl (vis_by (by decide +kernel))))))))))) (dss_one (ds_ret C (de_fn C hE M__law_of (by decide) (by decide +kernel) a__law_of kp__law_of b__law_of_2 .nil (das_pot C (i := 0) rfl (vis_by (by decide +kernel)) (das_dat C (DF.da C (df_lst C (da_cons C (de_bin C dop_add (DE.bo (de_var C (i := 1) rfl (vis_by (by decide +kernel)))) (DE.bo de_int)) (da_cons C (de_bin C dop_sub (DE.bo (de_var C (i := 1) rfl (vis_by (by decide +kernel)))) (DE.bo de_int)) (da_cons C (de_cmp C (dop_eq C.units) (DE.bo (de_var C (i := 1) rfl (vis_by (by decide +kernel)))) (DE.bo de_int)) (da_cons C (de_callT C dc_str (by decide +kernel) m_str boot_str (db_cons C (DE.bo (de_var C (i := 1) rfl (vis_by (by decide +kernel)))) db_nil)) (da_cons C de_non (da_cons C de_int (da_cons C (de_neg (DE.bo (de_var C (i := 1) rfl (vis_by (by decide +kernel))))) (da_cons C (de_bin C dop_add (DE.bo (de_var C (i := 1) rfl (vis_by (by decide +kernel)))) (DE.bo de_int)) da_nil)))))))))) das_nil)) rfl))) dss_nil)
    (dss_cons (ds_if C (dt_val (DE.bo (de_isi C isi_str (by decide +kernel) m_isinstance (by decide +kernel) m_str boot_str (DE.bo (de_var C (i := 1) rfl (vis_by (by decide +kernel))))))) (dss_one (ds_ret C (de_fn C hE M__law_of (by decide) (by decide +kernel) a__law_of kp__law_of b__law_of_2 .nil (das_pot C (i := 0) rfl (vis_by (by decide +kernel)) (das_dat C (DF.da C (df_lst C (da_cons C de_off (da_cons C (de_sl C dsl (DE.bo (de_var C (i := 1) rfl (vis_by (by decide +kernel)))) dp_none (dp_some (DE.bo (de_neg (DE.bo de_int))))) (da_cons C de_off (da_cons C de_non (da_cons C de_str (da_cons C de_str (da_cons C de_str (da_cons C (DF.da C (df_lst C (da_cons C (de_var C (i := 1) rfl (vis_by (by decide +kernel))) da_nil))) (da_cons C de_int da_nil))))))))))) das_nil)) rfl))) dss_nil)
    (dss_one (ds_ret C (de_fn C hE M__law_odd (by decide) (by decide +kernel) a__law_odd kp__law_odd b__law_odd_1 .nil (das_pot C (i := 0) rfl (vis_by (by decide +kernel)) das_nil) rfl)))))))
  exact ⟨_, by decide +kernel, d⟩
theorem ok__law_bent_2 {P : Program} {w : World} {K : PySem.W.Frag} {mg : Str → Option Value} {base : Heap} {f : Addr} {od an : Option Addr} {osl : Array (Option Value)} {oc dV kV doc pm cdv ct : Value}
    (lk : K.lookup f = some ⟨oc, od, .func (PySem.W.fnOf "_law_bent" "_law_bent" (defArgs s__law_bent) (defBody s__law_bent) (defScope s__law_bent) dV kV doc pm an cdv ct), osl⟩) (cd : PySem.W.codeIn K cdv "_law_bent" = true)
    {f__law_take : Addr} {fd__law_take : FuncData} (M__law_take : FnD P w K mg base 1 f__law_take fd__law_take ["pot", "upto"] F__law_take 1) (a__law_take : mg "_law_take" = some (.ref f__law_take)) (kp__law_take : PySem.W.keepIn K (.ref f__law_take) = true)
    (M__law_bent : FnD P w K mg base 4 f (PySem.W.fnOf "_law_bent" "_law_bent" (defArgs s__law_bent) (defBody s__law_bent) (defScope s__law_bent) dV kV doc pm an cdv ct) ["pot", "value"] (V__law_bent 1) 6) (a__law_bent : mg "_law_bent" = some (.ref f)) (kp__law_bent : PySem.W.keepIn K (.ref f) = true)
    {f__law_of : Addr} {fd__law_of : FuncData} (M__law_of : FnD P w K mg base 2 f__law_of fd__law_of ["pot", "some"] F__law_of 1) (a__law_of : mg "_law_of" = some (.ref f__law_of)) (kp__law_of : PySem.W.keepIn K (.ref f__law_of) = true)
    {f__law_odd : Addr} {fd__law_odd : FuncData} (M__law_odd : FnD P w K mg base 3 f__law_odd fd__law_odd ["pot"] F__law_odd 1) (a__law_odd : mg "_law_odd" = some (.ref f__law_odd)) (kp__law_odd : PySem.W.keepIn K (.ref f__law_odd) = true)
    (b__law_take_2 : BindG K fd__law_take ["pot", "upto"] 2 [] [])
    (b__law_bent_2 : BindG K (PySem.W.fnOf "_law_bent" "_law_bent" (defArgs s__law_bent) (defBody s__law_bent) (defScope s__law_bent) dV kV doc pm an cdv ct) ["pot", "value"] 2 [] [])
    (b__law_of_2 : BindG K fd__law_of ["pot", "some"] 2 [] [])
    (b__law_odd_1 : BindG K fd__law_odd ["pot"] 1 [] [])
    (m_isinstance : mg "isinstance" = none)
    (m_tuple : mg "tuple" = none)
    (m_len : mg "len" = none)
    (m_list : mg "list" = none)
    (m_bool : mg "bool" = none)
    (m_int : mg "int" = none)
    (m_str : mg "str" = none) :
    FnD P w K mg base 5 f (PySem.W.fnOf "_law_bent" "_law_bent" (defArgs s__law_bent) (defBody s__law_bent) (defScope s__law_bent) dV kV doc pm an cdv ct) ["pot", "value"] (V__law_bent 2) 12 := by
  show FnD P w K mg base 5 f (PySem.W.fnOf "_law_bent" "_law_bent" (defArgs s__law_bent) (defBody s__law_bent) (defScope s__law_bent) dV kV doc pm an cdv ct) ["pot", "value"] (specOf 2 N__law_bent (G__law_bent (V__law_bent 1))) 12
  refine fnd_by lk cd sc__law_bent (g := (G__law_bent (V__law_bent 1))) (by decide) (fun X W E hE h1 h2 h3 h4 h5 hfn C => ?_)
  subst h1 h2 h3 h4 h5
  have d : DSs X W (defBody s__law_bent) ((G__law_bent (V__law_bent 1)) E) _ := (dss_cons (ds_if C (DW.t (dw_and C (dt_val (DE.bo (de_isi C isi_tuple (by decide +kernel) m_isinstance (by decide +kernel) m_tuple boot_tuple (DE.bo (de_var C (i := 1) rfl (vis_by (by decide +kernel))))))) (dw_and C (dt_cmp C (dop_ne C.units) (DE.bo (de_var C (i := 1) rfl (vis_by (by decide +kernel)))) (DE.bo (de_tup C da_nil))) (dw_and1 (dt_cmp C dop_gt (DE.bo (de_fn C hE M__law_take (by decide) (by decide +kernel) a__law_take kp__law_take b__law_take_2 .nil (das_pot C (i := 0) rfl (vis_by (by decide +kernel)) (das_dat C de_int das_nil)) rfl)) (DE.bo de_int)))))) (dss_cons (ds_set C (i := 2) rfl (loc_by (by decide +kernel)) (.inl (hfn _)) (de_fn C hE M__law_take (by decide) (by decide +kernel) a__law_take kp__law_take b__law_take_2 .nil (das_pot C (i := 0) rfl (vis_by (by decide +kernel)) (das_dat C (de_callB C dc_len (by decide +kernel) m_len PySem.boot_len (db_cons C (DE.bo (de_var C (i := 1) rfl (vis_by (by decide +kernel)))) db_nil)) das_nil)) rfl))
    (dss_one (ds_ret C (de_bin C dop_add (DE.bo (de_bin C dop_add (DE.bo (de_sl C dsl (DE.bo (de_var C (i := 1) rfl (vis_by (by decide +kernel)))) dp_none (dp_some (DE.bo (de_var C (i := 2) rfl (vis_by (by decide +kernel))))))) (DE.bo (de_tup C (da_cons C (de_fn C hE M__law_bent (by decide) (by decide +kernel) a__law_bent kp__law_bent b__law_bent_2 .nil (das_pot C (i := 0) rfl (vis_by (by decide +kernel)) (das_dat C (de_ix C dix (DE.bo (de_var C (i := 1) rfl (vis_by (by decide +kernel)))) (DE.bo (de_var C (i := 2) rfl (vis_by (by decide +kernel))))) das_nil)) rfl) da_nil))))) (DE.bo (de_sl C dsl (DE.bo (de_var C (i := 1) rfl (vis_by (by decide +kernel)))) (dp_some (DE.bo (de_bin C dop_add (DE.bo (de_var C (i := 2) rfl (vis_by (by decide +kernel)))) (DE.bo de_int)))) dp_none)))))) dss_nil)
    (dss_cons (ds_if C (dt_val (DE.bo (de_isi C isi_tuple (by decide +kernel) m_isinstance (by decide +kernel) m_tuple boot_tuple (DE.bo (de_var C (i := 1) rfl (vis_by (by decide +kernel))))))) (dss_cons (ds_set C (i := 3) rfl (loc_by (by decide +kernel)) (.inl (hfn _)) (DF.da C (df_lst C (da_cons C (DF.da C (df_callT C dcf_list (by decide +kernel) m_list boot_list (db_cons C (DE.bo (de_var C (i := 1) rfl (vis_by (by decide +kernel)))) db_nil))) (da_cons C (de_sl C dsl (DE.bo (de_var C (i := 1) rfl (vis_by (by decide +kernel)))) (dp_some (DE.bo de_int)) dp_none) (da_cons C (de_sl C dsl (DE.bo (de_var C (i := 1) rfl (vis_by (by decide +kernel)))) dp_none (dp_some (DE.bo (de_neg (DE.bo de_int))))) (da_cons C (de_bin C dop_add (DE.bo (de_var C (i := 1) rfl (vis_by (by decide +kernel)))) (DE.bo (de_sl C dsl (DE.bo (de_var C (i := 1) rfl (vis_by (by decide +kernel)))) (dp_some (DE.bo (de_neg (DE.bo de_int)))) dp_none))) (da_cons C (de_rev C (DE.bo (de_var C (i := 1) rfl (vis_by (by decide +kernel))))) (da_cons C (de_tup C da_nil) (da_cons C de_non (da_cons C (de_bin C dop_add (DE.bo (de_var C (i := 1) rfl (vis_by (by decide +kernel)))) (DE.bo (de_tup C (da_cons C de_int da_nil)))) da_nil)))))))))))
    (dss_one (ds_ret C (de_fn C hE M__law_of (by decide) (by decide +kernel) a__law_of kp__law_of b__law_of_2 .nil (das_pot C (i := 0) rfl (vis_by (by decide +kernel)) (das_dat C (de_var C (i := 3) rfl (vis_by (by decide +kernel))) das_nil)) rfl)))) dss_nil)
    (dss_cons (ds_if C (DW.t (dw_and C (dt_val (DE.bo (de_isi C isi_int (by decide +kernel) m_isinstance (by decide +kernel) m_int boot_int (DE.bo (de_var C (i := 1) rfl (vis_by (by decide +kernel))))))) (dw_and1 (dt_not (dt_val (DE.bo (de_isi C isi_bool (by decide +kernel) m_isinstance (by decide +kernel) m_bool boot_bool (DE.bo (de_var C (i := 1) rfl (vis_by (by decide +kernel))))))))))) (dss_one (ds_ret C (de_fn C hE M__law_of (by decide) (by decide +kernel) a__law_of kp__law_of b__law_of_2 .nil (das_pot C (i := 0) rfl (vis_by (by decide +kernel)) (das_dat C (DF.da C (df_lst C (da_cons C (de_bin C dop_add (DE.bo (de_var C (i := 1) rfl (vis_by (by decide +kernel)))) (DE.bo de_int)) (da_cons C (de_bin C dop_sub (DE.bo (de_var C (i := 1) rfl (vis_by (by decide +kernel)))) (DE.bo de_int)) (da_cons C (de_cmp C (dop_eq C.units) (DE.bo (de_var C (i := 1) rfl (vis_by (by decide +kernel)))) (DE.bo de_int)) (da_cons C (de_callT C dc_str (by decide +kernel) m_str boot_str (db_cons C (DE.bo (de_var C (i := 1) rfl (vis_by (by decide +kernel)))) db_nil)) (da_cons C de_non (da_cons C de_int (da_cons C (de_neg (DE.bo (de_var C (i := 1) rfl (vis_by (by decide +kernel))))) (da_cons C (de_bin C dop_add (DE.bo (de_var C (i := 1) rfl (vis_by (by decide +kernel)))) (DE.bo de_int)) da_nil)))))))))) das_nil)) rfl))) dss_nil)
    (dss_cons (ds_if C (dt_val (DE.bo (de_isi C isi_str (by decide +kernel) m_isinstance (by decide +kernel) m_str boot_str (DE.bo (de_var C (i := 1) rfl (vis_by (by decide +kernel))))))) (dss_one (ds_ret C (de_fn C hE M__law_of (by decide) (by decide +kernel) a__law_of kp__law_of b__law_of_2 .nil (das_pot C (i := 0) rfl (vis_by (by decide +kernel)) (das_dat C (DF.da C (df_lst C (da_cons C de_off (da_cons C (de_sl C dsl (DE.bo (de_var C (i := 1) rfl (vis_by (by decide +kernel)))) dp_none (dp_some (DE.bo (de_neg (DE.bo de_int))))) (da_cons C de_off (da_cons C de_non (da_cons C de_str (da_cons C de_str (da_cons C de_str (da_cons C (DF.da C (df_lst C (da_cons C (de_var C (i := 1) rfl (vis_by (by decide +kernel))) da_nil))) (da_cons C de_int da_nil))))))))))) das_nil)) rfl))) dss_nil)
    (dss_one (ds_ret C (de_fn C hE M__law_odd (by decide) (by decide +kernel) a__law_odd kp__law_odd b__law_odd_1 .nil (das_pot C (i := 0) rfl (vis_by (by decide +kernel)) das_nil) rfl)))))))
  exact ⟨_, by decide +kernel, d⟩
theorem ok__law_bent_3 {P : Program} {w : World} {K : PySem.W.Frag} {mg : Str → Option Value} {base : Heap} {f : Addr} {od an : Option Addr} {osl : Array (Option Value)} {oc dV kV doc pm cdv ct : Value}
    (lk : K.lookup f = some ⟨oc, od, .func (PySem.W.fnOf "_law_bent" "_law_bent" (defArgs s__law_bent) (defBody s__law_bent) (defScope s__law_bent) dV kV doc pm an cdv ct), osl⟩) (cd : PySem.W.codeIn K cdv "_law_bent" = true)
    {f__law_take : Addr} {fd__law_take : FuncData} (M__law_take : FnD P w K mg base 1 f__law_take fd__law_take ["pot", "upto"] F__law_take 1) (a__law_take : mg "_law_take" = some (.ref f__law_take)) (kp__law_take : PySem.W.keepIn K (.ref f__law_take) = true)
    (M__law_bent : FnD P w K mg base 5 f (PySem.W.fnOf "_law_bent" "_law_bent" (defArgs s__law_bent) (defBody s__law_bent) (defScope s__law_bent) dV kV doc pm an cdv ct) ["pot", "value"] (V__law_bent 2) 12) (a__law_bent : mg "_law_bent" = some (.ref f)) (kp__law_bent : PySem.W.keepIn K (.ref f) = true)
    {f__law_of : Addr} {fd__law_of : FuncData} (M__law_of : FnD P w K mg base 2 f__law_of fd__law_of ["pot", "some"] F__law_of 1) (a__law_of : mg "_law_of" = some (.ref f__law_of)) (kp__law_of : PySem.W.keepIn K (.ref f__law_of) = true)
    {f__law_odd : Addr} {fd__law_odd : FuncData} (M__law_odd : FnD P w K mg base 3 f__law_odd fd__law_odd ["pot"] F__law_odd 1) (a__law_odd : mg "_law_odd" = some (.ref f__law_odd)) (kp__law_odd : PySem.W.keepIn K (.ref f__law_odd) = true)
    (b__law_take_2 : BindG K fd__law_take ["pot", "upto"] 2 [] [])
    (b__law_bent_2 : BindG K (PySem.W.fnOf "_law_bent" "_law_bent" (defArgs s__law_bent) (defBody s__law_bent) (defScope s__law_bent) dV kV doc pm an cdv ct) ["pot", "value"] 2 [] [])
    (b__law_of_2 : BindG K fd__law_of ["pot", "some"] 2 [] [])
    (b__law_odd_1 : BindG K fd__law_odd ["pot"] 1 [] [])
    (m_isinstance : mg "isinstance" = none)
    (m_tuple : mg "tuple" = none)
    (m_len : mg "len" = none)
    (m_list : mg "list" = none)
    (m_bool : mg "bool" = none)
    (m_int : mg "int" = none)
    (m_str : mg "str" = none) :
    FnD P w K mg base 6 f (PySem.W.fnOf "_law_bent" "_law_bent" (defArgs s__law_bent) (defBody s__law_bent) (defScope s__law_bent) dV kV doc pm an cdv ct) ["pot", "value"] (V__law_bent 3) 18 := by
  show FnD P w K mg base 6 f (PySem.W.fnOf "_law_bent" "_law_bent" (defArgs s__law_bent) (defBody s__law_bent) (defScope s__law_bent) dV kV doc pm an cdv ct) ["pot", "value"] (specOf 2 N__law_bent (G__law_bent (V__law_bent 2))) 18
  refine fnd_by lk cd sc__law_bent (g := (G__law_bent (V__law_bent 2))) (by decide) (fun X W E hE h1 h2 h3 h4 h5 hfn C => ?_)
  subst h1 h2 h3 h4 h5
  have d : DSs X W (defBody s__law_bent) ((G__law_bent (V__law_bent 2)) E) _ := (dss_cons (ds_if C (DW.t (dw_and C (dt_val (DE.bo (de_isi C isi_tuple (by decide +kernel) m_isinstance (by decide +kernel) m_tuple boot_tuple (DE.bo (de_var C (i := 1) rfl (vis_by (by decide +kernel))))))) (dw_and C (dt_cmp C (dop_ne C.units) (DE.bo (de_var C (i := 1) rfl (vis_by (by decide +kernel)))) (DE.bo (de_tup C da_nil))) (dw_and1 (dt_cmp C dop_gt (DE.bo (de_fn C hE M__law_take (by decide) (by decide +kernel) a__law_take kp__law_take b__law_take_2 .nil (das_pot C (i := 0) rfl (vis_by (by decide +kernel)) (das_dat C de_int das_nil)) rfl)) (DE.bo de_int)))))) (dss_cons (ds_set C (i := 2) rfl (loc_by (by decide +kernel)) (.inl (hfn _)) (de_fn C hE M__law_take (by decide) (by decide +kernel) a__law_take kp__law_take b__law_take_2 .nil (das_pot C (i := 0) rfl (vis_by (by decide +kernel)) (das_dat C (de_callB C dc_len (by decide +kernel) m_len PySem.boot_len (db_cons C (DE.bo (de_var C (i := 1) rfl (vis_by (by decide +kernel)))) db_nil)) das_nil)) rfl))
    (dss_one (ds_ret C (de_bin C dop_add (DE.bo (de_bin C dop_add (DE.bo (de_sl C dsl (DE.bo (de_var C (i := 1) rfl (vis_by (by decide +kernel)))) dp_none (dp_some (DE.bo (de_var C (i := 2) rfl (vis_by (by decide +kernel))))))) (DE.bo (de_tup C (da_cons C (de_fn C hE M__law_bent (by decide) (by decide +kernel) a__law_bent kp__law_bent b__law_bent_2 .nil (das_pot C (i := 0) rfl (vis_by (by decide +kernel)) (das_dat C (de_ix C dix (DE.bo (de_var C (i := 1) rfl (vis_by (by decide +kernel)))) (DE.bo (de_var C (i := 2) rfl (vis_by (by decide +kernel))))) das_nil)) rfl) da_nil))))) (DE.bo (de_sl C dsl (DE.bo (de_var C (i := 1) rfl (vis_by (by decide +kernel)))) (dp_some (DE.bo (de_bin C dop_add (DE.bo (de_var C (i := 2) rfl (vis_by (by decide +kernel)))) (DE.bo de_int)))) dp_none)))))) dss_nil)
    (dss_cons (ds_if C (dt_val (DE.bo (de_isi C isi_tuple (by decide +kernel) m_isinstance (by decide +kernel) m_tuple boot_tuple (DE.bo (de_var C (i := 1) rfl (vis_by (by decide +kernel))))))) (dss_cons (ds_set C (i := 3) rfl (loc_by (by decide +kernel)) (.inl (hfn _)) (DF.da C (df_lst C (da_cons C (DF.da C (df_callT C dcf_list (by decide +kernel) m_list boot_list (db_cons C (DE.bo (de_var C (i := 1) rfl (vis_by (by decide +kernel)))) db_nil))) (da_cons C (de_sl C dsl (DE.bo (de_var C (i := 1) rfl (vis_by (by decide +kernel)))) (dp_some (DE.bo de_int)) dp_none) (da_cons C (de_sl C dsl (DE.bo (de_var C (i := 1) rfl (vis_by (by decide +kernel)))) dp_none (dp_some (DE.bo (de_neg (DE.bo de_int))))) (da_cons C (de_bin C dop_add (DE.bo (de_var C (i := 1) rfl (vis_by (by decide +kernel)))) (DE.bo (de_sl C dsl (DE.bo (de_var C (i := 1) rfl (vis_by (by decide +kernel)))) (dp_some (DE.bo (de_neg (DE.bo de_int)))) dp_none))) (da_cons C (de_rev C (DE.bo (de_var C (i := 1) rfl (vis_by (by decide +kernel))))) (da_cons C (de_tup C da_nil) (da_cons C de_non (da_cons C (de_bin C dop_add (DE.bo (de_var C (i := 1) rfl (vis_by (by decide +kernel)))) (DE.bo (de_tup C (da_cons C de_int da_nil)))) da_nil)))))))))))
    (dss_one (ds_ret C (de_fn C hE M__law_of (by decide) (by decide +kernel) a__law_of kp__law_of b__law_of_2 .nil (das_pot C (i := 0) rfl (vis_by (by decide +kernel)) (das_dat C (de_var C (i := 3) rfl (vis_by (by decide +kernel))) das_nil)) rfl)))) dss_nil)
    (dss_cons (ds_if C (DW.t (dw_and C (dt_val (DE.bo (de_isi C isi_int (by decide +kernel) m_isinstance (by decide +kernel) m_int boot_int (DE.bo (de_var C (i := 1) rfl (vis_by (by decide +kernel))))))) (dw_and1 (dt_not (dt_val (DE.bo (de_isi C isi_bool (by decide +kernel) m_isinstance (by decide +kernel) m_bool boot_bool (DE.bo (de_var C (i := 1) rfl (vis_by (by decide +kernel))))))))))) (dss_one (ds_ret C (de_fn C hE M__law_of (by decide) (by decide +kernel) a__law_of kp__law_of b__law_of_2 .nil (das_pot C (i := 0) rfl (vis_by (by decide +kernel)) (das_dat C (DF.da C (df_lst C (da_cons C (de_bin C dop_add (DE.bo (de_var C (i := 1) rfl (vis_by (by decide +kernel)))) (DE.bo de_int)) (da_cons C (de_bin C dop_sub (DE.bo (de_var C (i := 1) rfl (vis_by (by decide +kernel)))) (DE.bo de_int)) (da_cons C (de_cmp C (dop_eq C.units) (DE.bo (de_var C (i := 1) rfl (vis_by (by decide +kernel)))) (DE.bo de_int)) (da_cons C (de_callT C dc_str (by decide +kernel) m_str boot_str (db_cons C (DE.bo (de_var C (i := 1) rfl (vis_by (by decide +kernel)))) db_nil)) (da_cons C de_non (da_cons C de_int (da_cons C (de_neg (DE.bo (de_var C (i := 1) rfl (vis_by (by decide +kernel))))) (da_cons C (de_bin C dop_add (DE.bo (de_var C (i := 1) rfl (vis_by (by decide +kernel)))) (DE.bo de_int)) da_nil)))))))))) das_nil)) rfl))) dss_nil)
    (dss_cons (ds_if C (dt_val (DE.bo (de_isi C isi_str (by decide +kernel) m_isinstance (by decide +kernel) m_str boot_str (DE.bo (de_var C (i := 1) rfl (vis_by (by decide +kernel))))))) (dss_one (ds_ret C (de_fn C hE M__law_of (by decide) (by decide +kernel) a__law_of kp__law_of b__law_of_2 .nil (das_pot C (i := 0) rfl (vis_by (by decide +kernel)) (das_dat C (DF.da C (df_lst C (da_cons C de_off (da_cons C (de_sl C dsl (DE.bo (de_var C (i := 1) rfl (vis_by (by decide +kernel)))) dp_none (dp_some (DE.bo (de_neg (DE.bo de_int))))) (da_cons C de_off (da_cons C de_non (da_cons C de_str (da_cons C de_str (da_cons C de_str (da_cons C (DF.da C (df_lst C (da_cons C (de_var C (i := 1) rfl (vis_by (by decide +kernel))) da_nil))) (da_cons C de_int da_nil))))))))))) das_nil)) rfl))) dss_nil)
    (dss_one (ds_ret C (de_fn C hE M__law_odd (by decide) (by decide +kernel) a__law_odd kp__law_odd b__law_odd_1 .nil (das_pot C (i := 0) rfl (vis_by (by decide +kernel)) das_nil) rfl)))))))
  exact ⟨_, by decide +kernel, d⟩
theorem ok__law_bent_4 {P : Program} {w : World} {K : PySem.W.Frag} {mg : Str → Option Value} {base : Heap} {f : Addr} {od an : Option Addr} {osl : Array (Option Value)} {oc dV kV doc pm cdv ct : Value}
    (lk : K.lookup f = some ⟨oc, od, .func (PySem.W.fnOf "_law_bent" "_law_bent" (defArgs s__law_bent) (defBody s__law_bent) (defScope s__law_bent) dV kV doc pm an cdv ct), osl⟩) (cd : PySem.W.codeIn K cdv "_law_bent" = true)
    {f__law_take : Addr} {fd__law_take : FuncData} (M__law_take : FnD P w K mg base 1 f__law_take fd__law_take ["pot", "upto"] F__law_take 1) (a__law_take : mg "_law_take" = some (.ref f__law_take)) (kp__law_take : PySem.W.keepIn K (.ref f__law_take) = true)
    (M__law_bent : FnD P w K mg base 6 f (PySem.W.fnOf "_law_bent" "_law_bent" (defArgs s__law_bent) (defBody s__law_bent) (defScope s__law_bent) dV kV doc pm an cdv ct) ["pot", "value"] (V__law_bent 3) 18) (a__law_bent : mg "_law_bent" = some (.ref f)) (kp__law_bent : PySem.W.keepIn K (.ref f) = true)
    {f__law_of : Addr} {fd__law_of : FuncData} (M__law_of : FnD P w K mg base 2 f__law_of fd__law_of ["pot", "some"] F__law_of 1) (a__law_of : mg "_law_of" = some (.ref f__law_of)) (kp__law_of : PySem.W.keepIn K (.ref f__law_of) = true)
    {f__law_odd : Addr} {fd__law_odd : FuncData} (M__law_odd : FnD P w K mg base 3 f__law_odd fd__law_odd ["pot"] F__law_odd 1) (a__law_odd : mg "_law_odd" = some (.ref f__law_odd)) (kp__law_odd : PySem.W.keepIn K (.ref f__law_odd) = true)
    (b__law_take_2 : BindG K fd__law_take ["pot", "upto"] 2 [] [])
    (b__law_bent_2 : BindG K (PySem.W.fnOf "_law_bent" "_law_bent" (defArgs s__law_bent) (defBody s__law_bent) (defScope s__law_bent) dV kV doc pm an cdv ct) ["pot", "value"] 2 [] [])
    (b__law_of_2 : BindG K fd__law_of ["pot", "some"] 2 [] [])
    (b__law_odd_1 : BindG K fd__law_odd ["pot"] 1 [] [])
    (m_isinstance : mg "isinstance" = none)
    (m_tuple : mg "tuple" = none)
    (m_len : mg "len" = none)
    (m_list : mg "list" = none)
    (m_bool : mg "bool" = none)
    (m_int : mg "int" = none)
    (m_str : mg "str" = none) :
    FnD P w K mg base 7 f (PySem.W.fnOf "_law_bent" "_law_bent" (defArgs s__law_bent) (defBody s__law_bent) (defScope s__law_bent) dV kV doc pm an cdv ct) ["pot", "value"] (V__law_bent 4) 24 := by
  show FnD P w K mg base 7 f (PySem.W.fnOf "_law_bent" "_law_bent" (defArgs s__law_bent) (defBody s__law_bent) (defScope s__law_bent) dV kV doc pm an cdv ct) ["pot", "value"] (specOf 2 N__law_bent (G__law_bent (V__law_bent 3))) 24
  refine fnd_by lk cd sc__law_bent (g := (G__law_bent (V__law_bent 3))) (by decide) (fun X W E hE h1 h2 h3 h4 h5 hfn C => ?_)
  subst h1 h2 h3 h4 h5
  have d : DSs X W (defBody s__law_bent) ((G__law_bent (V__law_bent 3)) E) _ := (dss_cons (ds_if C (DW.t (dw_and C (dt_val (DE.bo (de_isi C isi_tuple (by decide +kernel) m_isinstance (by decide +kernel) m_tuple boot_tuple (DE.bo (de_var C (i := 1) rfl (vis_by (by decide +kernel))))))) (dw_and C (dt_cmp C (dop_ne C.units) (DE.bo (de_var C (i := 1) rfl (vis_by (by decide +kernel)))) (DE.bo (de_tup C da_nil))) (dw_and1 (dt_cmp C dop_gt (DE.bo (de_fn C hE M__law_take (by decide) (by decide +kernel) a__law_take kp__law_take b__law_take_2 .nil (das_pot C (i := 0) rfl (vis_by (by decide +kernel)) (das_dat C de_int das_nil)) rfl)) (DE.bo de_int)))))) (dss_cons (ds_set C (i := 2) rfl (loc_by (by decide +kernel)) (.inl (hfn _)) (de_fn C hE M__law_take (by decide) (by decide +kernel) a__law_take kp__law_take b__law_take_2 .nil (das_pot C (i := 0) rfl (vis_by (by decide +kernel)) (das_dat C (de_callB C dc_len (by decide +kernel) m_len PySem.boot_len (db_cons C (DE.bo (de_var C (i := 1) rfl (vis_by (by decide +kernel)))) db_nil)) das_nil)) rfl))
    (dss_one (ds_ret C (de_bin C dop_add (DE.bo (de_bin C dop_add (DE.bo (de_sl C dsl (DE.bo (de_var C (i := 1) rfl (vis_by (by decide +kernel)))) dp_none (dp_some (DE.bo (de_var C (i := 2) rfl (vis_by (by decide +kernel))))))) (DE.bo (de_tup C (da_cons C (de_fn C hE M__law_bent (by decide) (by decide +kernel) a__law_bent kp__law_bent b__law_bent_2 .nil (das_pot C (i := 0) rfl (vis_by (by decide +kernel)) (das_dat C (de_ix C dix (DE.bo (de_var C (i := 1) rfl (vis_by (by decide +kernel)))) (DE.bo (de_var C (i := 2) rfl (vis_by (by decide +kernel))))) das_nil)) rfl) da_nil))))) (DE.bo (de_sl C dsl (DE.bo (de_var C (i := 1) rfl (vis_by (by decide +kernel)))) (dp_some (DE.bo (de_bin C dop_add (DE.bo (de_var C (i := 2) rfl (vis_by (by decide +kernel)))) (DE.bo de_int)))) dp_none)))))) dss_nil)
    (dss_cons (ds_if C (dt_val (DE.bo (de_isi C isi_tuple (by decide +kernel) m_isinstance (by decide +kernel) m_tuple boot_tuple (DE.bo (de_var C (i := 1) rfl (vis_by (by decide +kernel))))))) (dss_cons (ds_set C (i := 3) rfl (loc_by (by decide +kernel)) (.inl (hfn _)) (DF.da C (df_lst C (da_cons C (DF.da C (df_callT C dcf_list (by decide +kernel) m_list boot_list (db_cons C (DE.bo (de_var C (i := 1) rfl (vis_by (by decide +kernel)))) db_nil))) (da_cons C (de_sl C dsl (DE.bo (de_var C (i := 1) rfl (vis_by (by decide +kernel)))) (dp_some (DE.bo de_int)) dp_none) (da_cons C (de_sl C dsl (DE.bo (de_var C (i := 1) rfl (vis_by (by decide +kernel)))) dp_none (dp_some (DE.bo (de_neg (DE.bo de_int))))) (da_cons C (de_bin C dop_add (DE.bo (de_var C (i := 1) rfl (vis_by (by decide +kernel)))) (DE.bo (de_sl C dsl (DE.bo (de_var C (i := 1) rfl (vis_by (by decide +kernel)))) (dp_some (DE.bo (de_neg (DE.bo de_int)))) dp_none))) (da_cons C (de_rev C (DE.bo (de_var C (i := 1) rfl (vis_by (by decide +kernel))))) (da_cons C (de_tup C da_nil) (da_cons C de_non (da_cons C (de_bin C dop_add (DE.bo (de_var C (i := 1) rfl (vis_by (by decide +kernel)))) (DE.bo (de_tup C (da_cons C de_int da_nil)))) da_nil)))))))))))
    (dss_one (ds_ret C (de_fn C hE M__law_of (by decide) (by decide +kernel) a__law_of kp__law_of b__law_of_2 .nil (das_pot C (i := 0) rfl (vis_by (by decide +kernel)) (das_dat C (de_var C (i := 3) rfl (vis_by (by decide +kernel))) das_nil)) rfl)))) dss_nil)
    (dss_cons (ds_if C (DW.t (dw_and C (dt_val (DE.bo (de_isi C isi_int (by decide +kernel) m_isinstance (by decide +kernel) m_int boot_int (DE.bo (de_var C (i := 1) rfl (vis_by (by decide +kernel))))))) (dw_and1 (dt_not (dt_val (DE.bo (de_isi C isi_bool (by decide +kernel) m_isinstance (by decide +kernel) m_bool boot_bool (DE.bo (de_var C (i := 1) rfl (vis_by (by decide +kernel))))))))))) (dss_one (ds_ret C (de_fn C hE M__law_of (by decide) (by decide +kernel) a__law_of kp__law_of b__law_of_2 .nil (das_pot C (i := 0) rfl (vis_by (by decide +kernel)) (das_dat C (DF.da C (df_lst C (da_cons C (de_bin C dop_add (DE.bo (de_var C (i := 1) rfl (vis_by (by decide +kernel)))) (DE.bo de_int)) (da_cons C (de_bin C dop_sub (DE.bo (de_var C (i := 1) rfl (vis_by (by decide +kernel)))) (DE.bo de_int)) (da_cons C (de_cmp C (dop_eq C.units) (DE.bo (de_var C (i := 1) rfl (vis_by (by decide +kernel)))) (DE.bo de_int)) (da_cons C (de_callT C dc_str (by decide +kernel) m_str boot_str (db_cons C (DE.bo (de_var C (i := 1) rfl (vis_by (by decide +kernel)))) db_nil)) (da_cons C de_non (da_cons C de_int (da_cons C (de_neg (DE.bo (de_var C (i := 1) rfl (vis_by (by decide +kernel))))) (da_cons C (de_bin C dop_add (DE.bo (de_var C (i := 1) rfl (vis_by (by decide +kernel)))) (DE.bo de_int)) da_nil)))))))))) das_nil)) rfl))) dss_nil)
    (dss_cons (ds_if C (dt_val (DE.bo (de_isi C isi_str (by decide +kernel) m_isinstance (by decide +kernel) m_str boot_str (DE.bo (de_var C (i := 1) rfl (vis_by (by decide +kernel))))))) (dss_one (ds_ret C (de_fn C hE M__law_of (by decide) (by decide +kernel) a__law_of kp__law_of b__law_of_2 .nil (das_pot C (i := 0) rfl (vis_by (by decide +kernel)) (das_dat C (DF.da C (df_lst C (da_cons C de_off (da_cons C (de_sl C dsl (DE.bo (de_var C (i := 1) rfl (vis_by (by decide +kernel)))) dp_none (dp_some (DE.bo (de_neg (DE.bo de_int))))) (da_cons C de_off (da_cons C de_non (da_cons C de_str (da_cons C de_str (da_cons C de_str (da_cons C (DF.da C (df_lst C (da_cons C (de_var C (i := 1) rfl (vis_by (by decide +kernel))) da_nil))) (da_cons C de_int da_nil))))))))))) das_nil)) rfl))) dss_nil)
    (dss_one (ds_ret C (de_fn C hE M__law_odd (by decide) (by decide +kernel) a__law_odd kp__law_odd b__law_odd_1 .nil (das_pot C (i := 0) rfl (vis_by (by decide +kernel)) das_nil) rfl)))))))
  exact ⟨_, by decide +kernel, d⟩
abbrev s_are_parents : Stmt := topS 28
theorem sc_are_parents : FnScope N_are_parents ["value"] (defScope s_are_parents) := ⟨rfl, rfl, rfl, by decide +kernel, rfl, by decide +kernel, by decide +kernel⟩
theorem ok_are_parents {P : Program} {w : World} {K : PySem.W.Frag} {mg : Str → Option Value} {base : Heap} {f : Addr} {od an : Option Addr} {osl : Array (Option Value)} {oc dV kV doc pm cdv ct : Value}
    (lk : K.lookup f = some ⟨oc, od, .func (PySem.W.fnOf "are_parents" "are_parents" (defArgs s_are_parents) (defBody s_are_parents) (defScope s_are_parents) dV kV doc pm an cdv ct), osl⟩) (cd : PySem.W.codeIn K cdv "are_parents" = true)
    {f_is_integer : Addr} {fd_is_integer : FuncData} (M_is_integer : FnD P w K mg base 1 f_is_integer fd_is_integer ["value"] F_is_integer 0) (a_is_integer : mg "is_integer" = some (.ref f_is_integer)) (kp_is_integer : PySem.W.keepIn K (.ref f_is_integer) = true)
    (b_is_integer_1 : BindG K fd_is_integer ["value"] 1 [] [])
    (m_len : mg "len" = none)
    (m_isinstance : mg "isinstance" = none)
    (m_tuple : mg "tuple" = none)
    (m_all : mg "all" = none) :
    FnD P w K mg base 2 f (PySem.W.fnOf "are_parents" "are_parents" (defArgs s_are_parents) (defBody s_are_parents) (defScope s_are_parents) dV kV doc pm an cdv ct) ["value"] F_are_parents 0 := by
  unfold F_are_parents
  refine fnd_by lk cd sc_are_parents (g := G_are_parents) (by decide) (fun X W E hE h1 h2 h3 h4 h5 hfn C => ?_)
  subst h1 h2 h3 h4 h5
  have d : DSs X W (defBody s_are_parents) (G_are_parents E) _ := (dss_cons (ds_if C (DW.t (dw_or C (dt_not (dt_val (DE.bo (de_isi C isi_tuple (by decide +kernel) m_isinstance (by decide +kernel) m_tuple boot_tuple (DE.bo (de_var C (i := 0) rfl (vis_by (by decide +kernel)))))))) (dw_or1 (dt_cmp C (dop_ne C.units) (DE.bo (de_callB C dc_len (by decide +kernel) m_len PySem.boot_len (db_cons C (DE.bo (de_var C (i := 0) rfl (vis_by (by decide +kernel)))) db_nil))) (DE.bo de_int))))) (dss_one (ds_ret C de_bl)) dss_nil)
    (dss_cons (ds_for C 0 (di_seq C (de_var C (i := 0) rfl (vis_by (by decide +kernel)))) (dg_name C (i := 1) rfl (loc_by (by decide +kernel)) (.inl (hfn _))) (DSs.le (c := 0) (dss_one (ds_if C (DW.t (dw_or C (dt_not (dt_val (DE.bo (de_isi C isi_tuple (by decide +kernel) m_isinstance (by decide +kernel) m_tuple boot_tuple (DE.bo (de_var C (i := 1) rfl (vis_by (by decide +kernel)))))))) (dw_or C (dt_cmp C (dop_ne C.units) (DE.bo (de_callB C dc_len (by decide +kernel) m_len PySem.boot_len (db_cons C (DE.bo (de_var C (i := 1) rfl (vis_by (by decide +kernel)))) db_nil))) (DE.bo de_int)) (dw_or1 (dt_not (dt_val (DE.bo (de_callB C (dc_all C.calm) (by decide +kernel) m_all boot_all (db_cons C (DE.bo (DF.da C (df_lc (own := [("part", 2)]) C 0 (DI.bo (di_seq C (de_var C (i := 1) rfl (vis_by (by decide +kernel))))) (blkOk_by (own := [("part", 2)]) (by decide +kernel)) (blk_use C fun _ _ _ _ _ _ C1 => (dg_name C1 (i := 2) rfl (loc_by (by decide +kernel)) (.inr (by decide +kernel)))) (blk_use C fun _ _ _ _ _ _ C1 => PTsD.le (c := 0) dts_nil (by decide +kernel)) (blk_use C fun _ _ _ _ _ _ C1 => DE.le (c := 0) (de_and C1 (de_fn C1 rfl M_is_integer (by decide) (by decide +kernel) a_is_integer kp_is_integer b_is_integer_1 .nil (das_dat C1 (de_var C1 (i := 2) rfl (vis_by (by decide +kernel))) das_nil) rfl) (de_one (de_cmp C1 dop_ge (DE.bo (de_var C1 (i := 2) rfl (vis_by (by decide +kernel)))) (DE.bo de_int)))) (by decide +kernel)) (by decide)))) db_nil))))))))) (dss_one (ds_ret C de_bl)) dss_nil)) (by decide +kernel)))
    (dss_one (ds_ret C (de_cmp C dop_gt (DE.bo (de_ix C dix (DE.bo (de_ix C dix (DE.bo (de_var C (i := 0) rfl (vis_by (by decide +kernel)))) (DE.bo de_int))) (DE.bo de_int))) (DE.bo de_int))))))
  exact ⟨_, by decide +kernel, d⟩
abbrev s_is_simplest : Stmt := topS 29
theorem sc_is_simplest : FnScope N_is_simplest ["stretch", "value"] (defScope s_is_simplest) := ⟨rfl, rfl, rfl, by decide +kernel, rfl, by decide +kernel, by decide +kernel⟩
theorem ok_is_simplest {P : Program} {w : World} {K : PySem.W.Frag} {mg : Str → Option Value} {base : Heap} {f : Addr} {od an : Option Addr} {osl : Array (Option Value)} {oc dV kV doc pm cdv ct : Value}
    (lk : K.lookup f = some ⟨oc, od, .func (PySem.W.fnOf "is_simplest" "is_simplest" (defArgs s_is_simplest) (defBody s_is_simplest) (defScope s_is_simplest) dV kV doc pm an cdv ct), osl⟩) (cd : PySem.W.codeIn K cdv "is_simplest" = true)
    {f_is_inside : Addr} {fd_is_inside : FuncData} (M_is_inside : FnD P w K mg base 2 f_is_inside fd_is_inside ["stretch", "one"] F_is_inside 0) (a_is_inside : mg "is_inside" = some (.ref f_is_inside)) (kp_is_inside : PySem.W.keepIn K (.ref f_is_inside) = true)
    {f_is_fraction : Addr} {fd_is_fraction : FuncData} (M_is_fraction : FnD P w K mg base 2 f_is_fraction fd_is_fraction ["value"] F_is_fraction 0) (a_is_fraction : mg "is_fraction" = some (.ref f_is_fraction)) (kp_is_fraction : PySem.W.keepIn K (.ref f_is_fraction) = true)
    {f_are_parents : Addr} {fd_are_parents : FuncData} (M_are_parents : FnD P w K mg base 2 f_are_parents fd_are_parents ["value"] F_are_parents 0) (a_are_parents : mg "are_parents" = some (.ref f_are_parents)) (kp_are_parents : PySem.W.keepIn K (.ref f_are_parents) = true)
    (b_is_inside_2 : BindG K fd_is_inside ["stretch", "one"] 2 [] [])
    (b_is_fraction_1 : BindG K fd_is_fraction ["value"] 1 [] [])
    (b_are_parents_1 : BindG K fd_are_parents ["value"] 1 [] [])
    (m_len : mg "len" = none)
    (m_isinstance : mg "isinstance" = none)
    (m_tuple : mg "tuple" = none) :
    FnD P w K mg base 3 f (PySem.W.fnOf "is_simplest" "is_simplest" (defArgs s_is_simplest) (defBody s_is_simplest) (defScope s_is_simplest) dV kV doc pm an cdv ct) ["stretch", "value"] F_is_simplest 0 := by
  unfold F_is_simplest
  refine fnd_by lk cd sc_is_simplest (g := G_is_simplest) (by decide) (fun X W E hE h1 h2 h3 h4 h5 hfn C => ?_)
  subst h1 h2 h3 h4 h5
  have d : DSs X W (defBody s_is_simplest) (G_is_simplest E) _ := (dss_cons (ds_if C (DW.t (dw_or C (dt_not (dt_val (DE.bo (de_isi C isi_tuple (by decide +kernel) m_isinstance (by decide +kernel) m_tuple boot_tuple (DE.bo (de_var C (i := 1) rfl (vis_by (by decide +kernel)))))))) (dw_or C (dt_cmp C (dop_ne C.units) (DE.bo (de_callB C dc_len (by decide +kernel) m_len PySem.boot_len (db_cons C (DE.bo (de_var C (i := 1) rfl (vis_by (by decide +kernel)))) db_nil))) (DE.bo de_int)) (dw_or C (dt_not (dt_val (DE.bo (de_fn C hE M_is_fraction (by decide) (by decide +kernel) a_is_fraction kp_is_fraction b_is_fraction_1 .nil (das_dat C (de_ix C dix (DE.bo (de_var C (i := 1) rfl (vis_by (by decide +kernel)))) (DE.bo de_int)) das_nil) rfl)))) (dw_or1 (dt_not (dt_val (DE.bo (de_fn C hE M_is_inside (by decide) (by decide +kernel) a_is_inside kp_is_inside b_is_inside_2 .nil (das_dat C (de_var C (i := 0) rfl (vis_by (by decide +kernel))) (das_dat C (de_ix C dix (DE.bo (de_var C (i := 1) rfl (vis_by (by decide +kernel)))) (DE.bo de_int)) das_nil)) rfl))))))))) (dss_one (ds_ret C de_bl)) dss_nil)
    (dss_cons (ds_asg C (de_var C (i := 1) rfl (vis_by (by decide +kernel))) (dg_tup C (dgs_cons (dg_tup C (dgs_cons (dg_name C (i := 2) rfl (loc_by (by decide +kernel)) (.inl (hfn _))) (dgs_cons (dg_name C (i := 3) rfl (loc_by (by decide +kernel)) (.inl (hfn _))) dgs_nil))) (dgs_cons (dg_name C (i := 4) rfl (loc_by (by decide +kernel)) (.inl (hfn _))) dgs_nil))))
    (dss_cons (ds_if C (dt_cmp C (dop_eq C.units) (DE.bo (de_var C (i := 3) rfl (vis_by (by decide +kernel)))) (DE.bo de_int)) (dss_one (ds_ret C (de_and C (de_cmp C (dop_eq C.units) (DE.bo (de_var C (i := 4) rfl (vis_by (by decide +kernel)))) (DE.bo (de_tup C da_nil))) (de_and C (de_isi C isi_tuple (by decide +kernel) m_isinstance (by decide +kernel) m_tuple boot_tuple (DE.bo (de_var C (i := 4) rfl (vis_by (by decide +kernel))))) (de_one (de_not (de_fn C hE M_is_inside (by decide) (by decide +kernel) a_is_inside kp_is_inside b_is_inside_2 .nil (das_dat C (de_var C (i := 0) rfl (vis_by (by decide +kernel))) (das_dat C (de_tup C (da_cons C (de_bin C dop_sub (DE.bo (de_var C (i := 2) rfl (vis_by (by decide +kernel)))) (DE.bo de_int)) (da_cons C de_int da_nil))) das_nil)) rfl))))))) dss_nil)
    (dss_cons (ds_if C (dt_not (dt_val (DE.bo (de_fn C hE M_are_parents (by decide) (by decide +kernel) a_are_parents kp_are_parents b_are_parents_1 .nil (das_dat C (de_var C (i := 4) rfl (vis_by (by decide +kernel))) das_nil) rfl)))) (dss_one (ds_ret C de_bl)) dss_nil)
    (dss_cons (ds_asg C (de_var C (i := 4) rfl (vis_by (by decide +kernel))) (dg_tup C (dgs_cons (dg_tup C (dgs_cons (dg_name C (i := 5) rfl (loc_by (by decide +kernel)) (.inl (hfn _))) (dgs_cons (dg_name C (i := 6) rfl (loc_by (by decide +kernel)) (.inl (hfn _))) dgs_nil))) (dgs_cons (dg_tup C (dgs_cons (dg_name C (i := 7) rfl (loc_by (by decide +kernel)) (.inl (hfn _))) (dgs_cons (dg_name C (i := 8) rfl (loc_by (by decide +kernel)) (.inl (hfn _))) dgs_nil))) dgs_nil))))
    (dss_cons (ds_if C (DW.t (dw_or C (dt_cmp C (dop_ne C.units) (DE.bo (de_tup C (da_cons C (de_bin C dop_add (DE.bo (de_var C (i := 5) rfl (vis_by (by decide +kernel)))) (DE.bo (de_var C (i := 7) rfl (vis_by (by decide +kernel))))) (da_cons C (de_bin C dop_add (DE.bo (de_var C (i := 6) rfl (vis_by (by decide +kernel)))) (DE.bo (de_var C (i := 8) rfl (vis_by (by decide +kernel))))) da_nil)))) (DE.bo (de_tup C (da_cons C (de_var C (i := 2) rfl (vis_by (by decide +kernel))) (da_cons C (de_var C (i := 3) rfl (vis_by (by decide +kernel))) da_nil))))) (dw_or1 (dt_cmp C (dop_ne C.units) (DE.bo (de_bin C dop_sub (DE.bo (de_bin C dop_mul (DE.bo (de_var C (i := 7) rfl (vis_by (by decide +kernel)))) (DE.bo (de_var C (i := 6) rfl (vis_by (by decide +kernel)))))) (DE.bo (de_bin C dop_mul (DE.bo (de_var C (i := 5) rfl (vis_by (by decide +kernel)))) (DE.bo (de_var C (i := 8) rfl (vis_by (by decide +kernel)))))))) (DE.bo de_int))))) (dss_one (ds_ret C de_bl)) dss_nil)
    (dss_one (ds_ret C (de_and C (de_not (de_fn C hE M_is_inside (by decide) (by decide +kernel) a_is_inside kp_is_inside b_is_inside_2 .nil (das_dat C (de_var C (i := 0) rfl (vis_by (by decide +kernel))) (das_dat C (de_tup C (da_cons C (de_var C (i := 5) rfl (vis_by (by decide +kernel))) (da_cons C (de_var C (i := 6) rfl (vis_by (by decide +kernel))) da_nil))) das_nil)) rfl)) (de_one (de_or C (de_cmp C (dop_eq C.units) (DE.bo (de_var C (i := 8) rfl (vis_by (by decide +kernel)))) (DE.bo de_int)) (de_one (de_not (de_fn C hE M_is_inside (by decide) (by decide +kernel) a_is_inside kp_is_inside b_is_inside_2 .nil (das_dat C (de_var C (i := 0) rfl (vis_by (by decide +kernel))) (das_dat C (de_tup C (da_cons C (de_var C (i := 7) rfl (vis_by (by decide +kernel))) (da_cons C (de_var C (i := 8) rfl (vis_by (by decide +kernel))) da_nil))) das_nil)) rfl))))))))))))))
  exact ⟨_, by decide +kernel, d⟩
abbrev s_shows_simplest : Stmt := topS 30
theorem sc_shows_simplest : FnScope N_shows_simplest ["stretch", "value"] (defScope s_shows_simplest) := ⟨rfl, rfl, rfl, by decide +kernel, rfl, by decide +kernel, by decide +kernel⟩
theorem ok_shows_simplest {P : Program} {w : World} {K : PySem.W.Frag} {mg : Str → Option Value} {base : Heap} {f : Addr} {od an : Option Addr} {osl : Array (Option Value)} {oc dV kV doc pm cdv ct : Value}
    (lk : K.lookup f = some ⟨oc, od, .func (PySem.W.fnOf "shows_simplest" "shows_simplest" (defArgs s_shows_simplest) (defBody s_shows_simplest) (defScope s_shows_simplest) dV kV doc pm an cdv ct), osl⟩) (cd : PySem.W.codeIn K cdv "shows_simplest" = true)
    {f_check_stretch : Addr} {fd_check_stretch : FuncData} (M_check_stretch : FnD P w K mg base 5 f_check_stretch fd_check_stretch ["stretch"] F_check_stretch 0) (a_check_stretch : mg "check_stretch" = some (.ref f_check_stretch)) (kp_check_stretch : PySem.W.keepIn K (.ref f_check_stretch) = true)
    {f_is_simplest : Addr} {fd_is_simplest : FuncData} (M_is_simplest : FnD P w K mg base 3 f_is_simplest fd_is_simplest ["stretch", "value"] F_is_simplest 0) (a_is_simplest : mg "is_simplest" = some (.ref f_is_simplest)) (kp_is_simplest : PySem.W.keepIn K (.ref f_is_simplest) = true)
    (b_check_stretch_1 : BindG K fd_check_stretch ["stretch"] 1 [] [])
    (b_is_simplest_2 : BindG K fd_is_simplest ["stretch", "value"] 2 [] []) :
    FnD P w K mg base 6 f (PySem.W.fnOf "shows_simplest" "shows_simplest" (defArgs s_shows_simplest) (defBody s_shows_simplest) (defScope s_shows_simplest) dV kV doc pm an cdv ct) ["stretch", "value"] F_shows_simplest 0 := by
  unfold F_shows_simplest
  refine fnd_by lk cd sc_shows_simplest (g := G_shows_simplest) (by decide) (fun X W E hE h1 h2 h3 h4 h5 hfn C => ?_)
  subst h1 h2 h3 h4 h5
  have d : DSs X W (defBody s_shows_simplest) (G_shows_simplest E) _ := (dss_cons (ds_expr C (DE.bo (de_fn C hE M_check_stretch (by decide) (by decide +kernel) a_check_stretch kp_check_stretch b_check_stretch_1 .nil (das_dat C (de_var C (i := 0) rfl (vis_by (by decide +kernel))) das_nil) rfl)))
    (dss_one (ds_ret C (de_fn C hE M_is_simplest (by decide) (by decide +kernel) a_is_simplest kp_is_simplest b_is_simplest_2 .nil (das_dat C (de_var C (i := 0) rfl (vis_by (by decide +kernel))) (das_dat C (de_var C (i := 1) rfl (vis_by (by decide +kernel))) das_nil)) rfl))))
  exact ⟨_, by decide +kernel, d⟩
abbrev s_shows_edge_size : Stmt := topS 31
theorem sc_shows_edge_size : FnScope N_shows_edge_size ["stretch", "value"] (defScope s_shows_edge_size) := ⟨rfl, rfl, rfl, by decide +kernel, rfl, by decide +kernel, by decide +kernel⟩
theorem ok_shows_edge_size {P : Program} {w : World} {K : PySem.W.Frag} {mg : Str → Option Value} {base : Heap} {f : Addr} {od an : Option Addr} {osl : Array (Option Value)} {oc dV kV doc pm cdv ct : Value}
    (lk : K.lookup f = some ⟨oc, od, .func (PySem.W.fnOf "shows_edge_size" "shows_edge_size" (defArgs s_shows_edge_size) (defBody s_shows_edge_size) (defScope s_shows_edge_size) dV kV doc pm an cdv ct), osl⟩) (cd : PySem.W.codeIn K cdv "shows_edge_size" = true)
    {f_check_stretch : Addr} {fd_check_stretch : FuncData} (M_check_stretch : FnD P w K mg base 5 f_check_stretch fd_check_stretch ["stretch"] F_check_stretch 0) (a_check_stretch : mg "check_stretch" = some (.ref f_check_stretch)) (kp_check_stretch : PySem.W.keepIn K (.ref f_check_stretch) = true)
    {f_is_integer : Addr} {fd_is_integer : FuncData} (M_is_integer : FnD P w K mg base 1 f_is_integer fd_is_integer ["value"] F_is_integer 0) (a_is_integer : mg "is_integer" = some (.ref f_is_integer)) (kp_is_integer : PySem.W.keepIn K (.ref f_is_integer) = true)
    {f_is_simplest : Addr} {fd_is_simplest : FuncData} (M_is_simplest : FnD P w K mg base 3 f_is_simplest fd_is_simplest ["stretch", "value"] F_is_simplest 0) (a_is_simplest : mg "is_simplest" = some (.ref f_is_simplest)) (kp_is_simplest : PySem.W.keepIn K (.ref f_is_simplest) = true)
    (b_check_stretch_1 : BindG K fd_check_stretch ["stretch"] 1 [] [])
    (b_is_integer_1 : BindG K fd_is_integer ["value"] 1 [] [])
    (b_is_simplest_2 : BindG K fd_is_simplest ["stretch", "value"] 2 [] [])
    (m_len : mg "len" = none)
    (m_isinstance : mg "isinstance" = none)
    (m_tuple : mg "tuple" = none) :
    FnD P w K mg base 6 f (PySem.W.fnOf "shows_edge_size" "shows_edge_size" (defArgs s_shows_edge_size) (defBody s_shows_edge_size) (defScope s_shows_edge_size) dV kV doc pm an cdv ct) ["stretch", "value"] F_shows_edge_size 0 := by
  unfold F_shows_edge_size
  refine fnd_by lk cd sc_shows_edge_size (g := G_shows_edge_size) (by decide) (fun X W E hE h1 h2 h3 h4 h5 hfn C => ?_)
  subst h1 h2 h3 h4 h5
  have d : DSs X W (defBody s_shows_edge_size) (G_shows_edge_size E) _ := (dss_cons (ds_expr C (DE.bo (de_fn C hE M_check_stretch (by decide) (by decide +kernel) a_check_stretch kp_check_stretch b_check_stretch_1 .nil (das_dat C (de_var C (i := 0) rfl (vis_by (by decide +kernel))) das_nil) rfl)))
    (dss_cons (ds_if C (DW.t (dw_or C (dt_not (dt_val (DE.bo (de_isi C isi_tuple (by decide +kernel) m_isinstance (by decide +kernel) m_tuple boot_tuple (DE.bo (de_var C (i := 1) rfl (vis_by (by decide +kernel)))))))) (dw_or C (dt_cmp C (dop_ne C.units) (DE.bo (de_callB C dc_len (by decide +kernel) m_len PySem.boot_len (db_cons C (DE.bo (de_var C (i := 1) rfl (vis_by (by decide +kernel)))) db_nil))) (DE.bo de_int)) (dw_or C (dt_not (dt_val (DE.bo (de_fn C hE M_is_integer (by decide) (by decide +kernel) a_is_integer kp_is_integer b_is_integer_1 .nil (das_dat C (de_ix C dix (DE.bo (de_var C (i := 1) rfl (vis_by (by decide +kernel)))) (DE.bo de_int)) das_nil) rfl)))) (dw_or1 (dt_not (dt_val (DE.bo (de_fn C hE M_is_integer (by decide) (by decide +kernel) a_is_integer kp_is_integer b_is_integer_1 .nil (das_dat C (de_ix C dix (DE.bo (de_var C (i := 1) rfl (vis_by (by decide +kernel)))) (DE.bo de_int)) das_nil) rfl))))))))) (dss_one (ds_ret C de_bl)) dss_nil)
    (dss_one (ds_ret C (de_fn C hE M_is_simplest (by decide) (by decide +kernel) a_is_simplest kp_is_simplest b_is_simplest_2 .nil (das_dat C (de_var C (i := 0) rfl (vis_by (by decide +kernel))) (das_dat C (de_tup C (da_cons C (de_tup C (da_cons C (de_ix C dix (DE.bo (de_var C (i := 1) rfl (vis_by (by decide +kernel)))) (DE.bo de_int)) (da_cons C (de_ix C dix (DE.bo (de_var C (i := 1) rfl (vis_by (by decide +kernel)))) (DE.bo de_int)) da_nil))) (da_cons C (de_ix C dix (DE.bo (de_var C (i := 1) rfl (vis_by (by decide +kernel)))) (DE.bo de_int)) da_nil))) das_nil)) rfl)))))
  exact ⟨_, by decide +kernel, d⟩
abbrev s__law_right : Stmt := topS 47
theorem sc__law_right : FnScope N__law_right ["pot"] (defScope s__law_right) := ⟨rfl, rfl, rfl, by decide +kernel, rfl, by decide +kernel, by decide +kernel⟩
theorem ok__law_right {P : Program} {w : World} {K : PySem.W.Frag} {mg : Str → Option Value} {base : Heap} {f : Addr} {od an : Option Addr} {osl : Array (Option Value)} {oc dV kV doc pm cdv ct : Value}
    (lk : K.lookup f = some ⟨oc, od, .func (PySem.W.fnOf "_law_right" "_law_right" (defArgs s__law_right) (defBody s__law_right) (defScope s__law_right) dV kV doc pm an cdv ct), osl⟩) (cd : PySem.W.codeIn K cdv "_law_right" = true)
    {f__law_stretch : Addr} {fd__law_stretch : FuncData} (M__law_stretch : FnD P w K mg base 3 f__law_stretch fd__law_stretch ["pot", "most"] F__law_stretch 8) (a__law_stretch : mg "_law_stretch" = some (.ref f__law_stretch)) (kp__law_stretch : PySem.W.keepIn K (.ref f__law_stretch) = true)
    {f__law_simplest : Addr} {fd__law_simplest : FuncData} (M__law_simplest : FnD P w K mg base 2 f__law_simplest fd__law_simplest ["stretch"] F__law_simplest 0) (a__law_simplest : mg "_law_simplest" = some (.ref f__law_simplest)) (kp__law_simplest : PySem.W.keepIn K (.ref f__law_simplest) = true)
    {f_simplest : Addr} {fd_simplest : FuncData} (M_simplest : FnD P w K mg base 6 f_simplest fd_simplest ["stretch"] F_simplest 0) (a_simplest : mg "simplest" = some (.ref f_simplest)) (kp_simplest : PySem.W.keepIn K (.ref f_simplest) = true)
    {f__law_is_shown : Addr} {fd__law_is_shown : FuncData} (M__law_is_shown : FnD P w K mg base 3 f__law_is_shown fd__law_is_shown ["stretch", "value"] F__law_is_shown 0) (a__law_is_shown : mg "_law_is_shown" = some (.ref f__law_is_shown)) (kp__law_is_shown : PySem.W.keepIn K (.ref f__law_is_shown) = true)
    {f_edge_size : Addr} {fd_edge_size : FuncData} (M_edge_size : FnD P w K mg base 6 f_edge_size fd_edge_size ["stretch"] F_edge_size 0) (a_edge_size : mg "edge_size" = some (.ref f_edge_size)) (kp_edge_size : PySem.W.keepIn K (.ref f_edge_size) = true)
    {f__law_is_edge : Addr} {fd__law_is_edge : FuncData} (M__law_is_edge : FnD P w K mg base 3 f__law_is_edge fd__law_is_edge ["stretch", "value"] F__law_is_edge 0) (a__law_is_edge : mg "_law_is_edge" = some (.ref f__law_is_edge)) (kp__law_is_edge : PySem.W.keepIn K (.ref f__law_is_edge) = true)
    {f__law_odd : Addr} {fd__law_odd : FuncData} (M__law_odd : FnD P w K mg base 3 f__law_odd fd__law_odd ["pot"] F__law_odd 1) (a__law_odd : mg "_law_odd" = some (.ref f__law_odd)) (kp__law_odd : PySem.W.keepIn K (.ref f__law_odd) = true)
    {f__law_bent : Addr} {fd__law_bent : FuncData} (M__law_bent : FnD P w K mg base 7 f__law_bent fd__law_bent ["pot", "value"] F__law_bent 24) (a__law_bent : mg "_law_bent" = some (.ref f__law_bent)) (kp__law_bent : PySem.W.keepIn K (.ref f__law_bent) = true)
    {f_shows_simplest : Addr} {fd_shows_simplest : FuncData} (M_shows_simplest : FnD P w K mg base 6 f_shows_simplest fd_shows_simplest ["stretch", "value"] F_shows_simplest 0) (a_shows_simplest : mg "shows_simplest" = some (.ref f_shows_simplest)) (kp_shows_simplest : PySem.W.keepIn K (.ref f_shows_simplest) = true)
    {f_shows_edge_size : Addr} {fd_shows_edge_size : FuncData} (M_shows_edge_size : FnD P w K mg base 6 f_shows_edge_size fd_shows_edge_size ["stretch", "value"] F_shows_edge_size 0) (a_shows_edge_size : mg "shows_edge_size" = some (.ref f_shows_edge_size)) (kp_shows_edge_size : PySem.W.keepIn K (.ref f_shows_edge_size) = true)
    (b__law_stretch_2 : BindG K fd__law_stretch ["pot", "most"] 2 [] [])
    (b__law_simplest_1 : BindG K fd__law_simplest ["stretch"] 1 [] [])
    (b_simplest_0_stretch : BindG K fd_simplest ["stretch"] 0 ["stretch"] [])
    (b__law_is_shown_2 : BindG K fd__law_is_shown ["stretch", "value"] 2 [] [])
    (b_edge_size_0_stretch : BindG K fd_edge_size ["stretch"] 0 ["stretch"] [])
    (b__law_is_edge_2 : BindG K fd__law_is_edge ["stretch", "value"] 2 [] [])
    (b_simplest_1 : BindG K fd_simplest ["stretch"] 1 [] [])
    (b__law_odd_1 : BindG K fd__law_odd ["pot"] 1 [] [])
    (b__law_bent_2 : BindG K fd__law_bent ["pot", "value"] 2 [] [])
    (b_shows_simplest_0_stretch_value : BindG K fd_shows_simplest ["stretch", "value"] 0 ["stretch", "value"] [])
    (b_edge_size_1 : BindG K fd_edge_size ["stretch"] 1 [] [])
    (b_shows_edge_size_0_stretch_value : BindG K fd_shows_edge_size ["stretch", "value"] 0 ["stretch", "value"] [])
    (m_repr : mg "repr" = none)
    (m_list : mg "list" = none)
    (m_range : mg "range" = none) :
    FnD P w K mg base 8 f (PySem.W.fnOf "_law_right" "_law_right" (defArgs s__law_right) (defBody s__law_right) (defScope s__law_right) dV kV doc pm an cdv ct) ["pot"] F__law_right 281 := by
  unfold F__law_right
  refine fnd_by lk cd sc__law_right (g := G__law_right) (by decide) (fun X W E hE h1 h2 h3 h4 h5 hfn C => ?_)
  subst h1 h2 h3 h4 h5
  have d : DSs X W (defBody s__law_right) (G__law_right E) _ := (dss_cons (ds_par C (i := 1) (j := 2) rfl rfl (by decide) (by decide +kernel) (by decide +kernel) (da_cons C (de_fn C hE M__law_stretch (by decide) (by decide +kernel) a__law_stretch kp__law_stretch b__law_stretch_2 .nil (das_pot C (i := 0) rfl (vis_by (by decide +kernel)) (das_dat C de_int das_nil)) rfl) (da_cons C (de_fn C hE M__law_stretch (by decide) (by decide +kernel) a__law_stretch kp__law_stretch b__law_stretch_2 .nil (das_pot C (i := 0) rfl (vis_by (by decide +kernel)) (das_dat C de_int das_nil)) rfl) da_nil)) (swp2 C rfl (by decide +kernel) (by decide +kernel) (by decide +kernel) rfl (fun _ _ z => nomatch z) (fun _ _ z => nomatch z) rfl rfl))
    (dss_cons (ds_asg C (de_tup C (da_cons C (de_fn C hE M__law_simplest (by decide) (by decide +kernel) a__law_simplest kp__law_simplest b__law_simplest_1 .nil (das_dat C (de_var C (i := 1) rfl (vis_by (by decide +kernel))) das_nil) rfl) (da_cons C (de_fnk0 C hE M_simplest (by decide) (by decide +kernel) a_simplest kp_simplest b_simplest_0_stretch .nil (dkw_dat C (de_var C (i := 1) rfl (vis_by (by decide +kernel))) dkw_nil) rfl) da_nil))) (dg_tup C (dgs_cons (dg_name C (i := 3) rfl (loc_by (by decide +kernel)) (.inl (hfn _))) (dgs_cons (dg_name C (i := 4) rfl (loc_by (by decide +kernel)) (.inl (hfn _))) dgs_nil))) (hw := swc2 C rfl (by decide +kernel)))
    (dss_cons (ds_if C (DW.t (dw_or C (dt_cmp C (dop_ne C.units) (DE.bo (de_callB C (dc_repr C.gd C.units) (by decide +kernel) m_repr boot_repr (db_cons C (DE.bo (de_ix C dix (DE.bo (de_var C (i := 4) rfl (vis_by (by decide +kernel)))) (DE.bo de_int))) db_nil))) (DE.bo (de_callB C (dc_repr C.gd C.units) (by decide +kernel) m_repr boot_repr (db_cons C (DE.bo (de_var C (i := 3) rfl (vis_by (by decide +kernel)))) db_nil)))) (dw_or1 (dt_not (dt_val (DE.bo (de_fn C hE M__law_is_shown (by decide) (by decide +kernel) a__law_is_shown kp__law_is_shown b__law_is_shown_2 .nil (das_dat C (de_var C (i := 1) rfl (vis_by (by decide +kernel))) (das_dat C (de_var C (i := 4) rfl (vis_by (by decide +kernel))) das_nil)) rfl))))))) (dss_one (ds_ret C de_bl)) dss_nil)
    (dss_cons (ds_set C (i := 5) rfl (loc_by (by decide +kernel)) (.inl (hfn _)) (de_fnk0 C hE M_edge_size (by decide) (by decide +kernel) a_edge_size kp_edge_size b_edge_size_0_stretch .nil (dkw_dat C (de_var C (i := 1) rfl (vis_by (by decide +kernel))) dkw_nil) rfl))
    (dss_cons (ds_if C (DW.t (dw_or C (dt_cmp C (dop_ne C.units) (DE.bo (de_callB C (dc_repr C.gd C.units) (by decide +kernel) m_repr boot_repr (db_cons C (DE.bo (de_var C (i := 5) rfl (vis_by (by decide +kernel)))) db_nil))) (DE.bo (de_callB C (dc_repr C.gd C.units) (by decide +kernel) m_repr boot_repr (db_cons C (DE.bo (de_bin C dop_add (DE.bo (de_tup C (da_cons C (de_ix C dix (DE.bo (de_var C (i := 3) rfl (vis_by (by decide +kernel)))) (DE.bo de_int)) (da_cons C (de_ix C dix (DE.bo (de_var C (i := 3) rfl (vis_by (by decide +kernel)))) (DE.bo de_int)) da_nil)))) (DE.bo (de_sl C dsl (DE.bo (de_var C (i := 5) rfl (vis_by (by decide +kernel)))) (dp_some (DE.bo de_int)) dp_none)))) db_nil)))) (dw_or1 (dt_not (dt_val (DE.bo (de_fn C hE M__law_is_edge (by decide) (by decide +kernel) a__law_is_edge kp__law_is_edge b__law_is_edge_2 .nil (das_dat C (de_var C (i := 1) rfl (vis_by (by decide +kernel))) (das_dat C (de_var C (i := 5) rfl (vis_by (by decide +kernel))) das_nil)) rfl))))))) (dss_one (ds_ret C de_bl)) dss_nil)
    (dss_cons (ds_setF C (i := 6) rfl (loc_by (by decide +kernel)) (.inl (hfn _)) (df_lst C (da_cons C (de_var C (i := 4) rfl (vis_by (by decide +kernel))) (da_cons C (de_rev C (DE.bo (de_var C (i := 4) rfl (vis_by (by decide +kernel))))) (da_cons C (DF.da C (df_callT C dcf_list (by decide +kernel) m_list boot_list (db_cons C (DE.bo (de_var C (i := 4) rfl (vis_by (by decide +kernel)))) db_nil))) (da_cons C (de_sl C dsl (DE.bo (de_var C (i := 4) rfl (vis_by (by decide +kernel)))) dp_none (dp_some (DE.bo de_int))) (da_cons C (de_bin C dop_add (DE.bo (de_var C (i := 4) rfl (vis_by (by decide +kernel)))) (DE.bo (de_tup C (da_cons C (de_tup C da_nil) da_nil)))) da_nil)))))))
    (dss_cons (ds_ext C (i := 6) rfl (vis_by (by decide +kernel)) (DE.bo (DF.da C (df_lst C (da_cons C (de_tup C (da_cons C (de_ix C dix (DE.bo (de_var C (i := 4) rfl (vis_by (by decide +kernel)))) (DE.bo de_int)) (da_cons C (de_tup C da_nil) da_nil))) (da_cons C (de_fn C hE M_simplest (by decide) (by decide +kernel) a_simplest kp_simplest b_simplest_1 .nil (das_dat C (de_var C (i := 2) rfl (vis_by (by decide +kernel))) das_nil) rfl) (da_cons C (de_tup C (da_cons C (de_var C (i := 3) rfl (vis_by (by decide +kernel))) (da_cons C (de_tup C (da_cons C (de_tup C (da_cons C de_int (da_cons C de_int da_nil))) (da_cons C (de_tup C (da_cons C de_int (da_cons C de_int da_nil))) da_nil))) da_nil))) (da_cons C de_non da_nil))))))))
    (dss_cons (ds_ext C (i := 6) rfl (vis_by (by decide +kernel)) (DE.bo (DF.da C (df_lst C (da_cons C (de_tup C (da_cons C (de_tup C (da_cons C (de_bin C dop_add (DE.bo (de_ix C dix (DE.bo (de_var C (i := 3) rfl (vis_by (by decide +kernel)))) (DE.bo de_int))) (DE.bo de_int)) (da_cons C (de_ix C dix (DE.bo (de_var C (i := 3) rfl (vis_by (by decide +kernel)))) (DE.bo de_int)) da_nil))) (da_cons C (de_ix C dix (DE.bo (de_var C (i := 4) rfl (vis_by (by decide +kernel)))) (DE.bo de_int)) da_nil))) (da_cons C (de_tup C (da_cons C (de_tup C (da_cons C (de_bin C dop_mul (DE.bo de_int) (DE.bo (de_ix C dix (DE.bo (de_var C (i := 3) rfl (vis_by (by decide +kernel)))) (DE.bo de_int)))) (da_cons C (de_bin C dop_mul (DE.bo de_int) (DE.bo (de_ix C dix (DE.bo (de_var C (i := 3) rfl (vis_by (by decide +kernel)))) (DE.bo de_int)))) da_nil))) (da_cons C (de_ix C dix (DE.bo (de_var C (i := 4) rfl (vis_by (by decide +kernel)))) (DE.bo de_int)) da_nil))) (da_cons C (de_fn C hE M__law_odd (by decide) (by decide +kernel) a__law_odd kp__law_odd b__law_odd_1 .nil (das_pot C (i := 0) rfl (vis_by (by decide +kernel)) das_nil) rfl) da_nil)))))))
    (dss_cons (ds_ext C (i := 6) rfl (vis_by (by decide +kernel)) (DE.bo (de_bin C dop_add (DE.bo (DF.da C (df_lc (own := [("lap", 8)]) C 144 (DI.bo (di_range1 C (by decide +kernel) m_range (DE.bo de_int))) (blkOk_by (own := [("lap", 8)]) (by decide +kernel)) (blk_use C fun _ _ _ _ _ _ C1 => (dg_name C1 (i := 8) rfl (loc_by (by decide +kernel)) (.inr (by decide +kernel)))) (blk_use C fun _ _ _ _ _ _ C1 => PTsD.le (c := 0) dts_nil (by decide +kernel)) (blk_use C fun _ _ _ _ _ _ C1 => DE.le (c := 24) (de_fn C1 rfl M__law_bent (by decide) (by decide +kernel) a__law_bent kp__law_bent b__law_bent_2 .nil (das_pot C1 (i := 0) rfl (vis_by (by decide +kernel)) (das_dat C1 (de_var C1 (i := 4) rfl (vis_by (by decide +kernel))) das_nil)) rfl) (by decide +kernel)) (by decide)))) (DE.bo (DF.da C (df_lst C (da_cons C (de_tup C (da_cons C (de_var C (i := 3) rfl (vis_by (by decide +kernel))) (da_cons C (de_rev C (DE.bo (de_ix C dix (DE.bo (de_var C (i := 4) rfl (vis_by (by decide +kernel)))) (DE.bo de_int)))) da_nil))) da_nil)))))))
    (dss_cons (ds_frz 6 (ds_for C 0 (di_seq C (de_var C (i := 6) rfl (vis_by (by decide +kernel)))) (dg_name C (i := 7) rfl (loc_by (by decide +kernel)) (.inl (hfn _))) (DSs.le (c := 0) (dss_one (ds_if C (dt_cmp C (dop_ne C.units) (DE.bo (de_callB C (dc_repr C.gd C.units) (by decide +kernel) m_repr boot_repr (db_cons C (DE.bo (de_fnk0 C hE M_shows_simplest (by decide) (by decide +kernel) a_shows_simplest kp_shows_simplest b_shows_simplest_0_stretch_value .nil (dkw_dat C (de_var C (i := 1) rfl (vis_by (by decide +kernel))) (dkw_dat C (de_var C (i := 7) rfl (vis_by (by decide +kernel))) dkw_nil)) rfl)) db_nil))) (DE.bo (de_callB C (dc_repr C.gd C.units) (by decide +kernel) m_repr boot_repr (db_cons C (DE.bo (de_fn C hE M__law_is_shown (by decide) (by decide +kernel) a__law_is_shown kp__law_is_shown b__law_is_shown_2 .nil (das_dat C (de_var C (i := 1) rfl (vis_by (by decide +kernel))) (das_dat C (de_var C (i := 7) rfl (vis_by (by decide +kernel))) das_nil)) rfl)) db_nil)))) (dss_one (ds_ret C de_bl)) dss_nil)) (by decide +kernel))))
    (dss_cons (ds_setF C (i := 6) rfl (loc_by (by decide +kernel)) (.inl (hfn _)) (df_lst C (da_cons C (de_var C (i := 5) rfl (vis_by (by decide +kernel))) (da_cons C (de_rev C (DE.bo (de_var C (i := 5) rfl (vis_by (by decide +kernel))))) (da_cons C (DF.da C (df_callT C dcf_list (by decide +kernel) m_list boot_list (db_cons C (DE.bo (de_var C (i := 5) rfl (vis_by (by decide +kernel)))) db_nil))) (da_cons C (de_sl C dsl (DE.bo (de_var C (i := 5) rfl (vis_by (by decide +kernel)))) dp_none (dp_some (DE.bo de_int))) da_nil))))))
    (dss_cons (ds_ext C (i := 6) rfl (vis_by (by decide +kernel)) (DE.bo (DF.da C (df_lst C (da_cons C (de_tup C (da_cons C (de_ix C dix (DE.bo (de_var C (i := 5) rfl (vis_by (by decide +kernel)))) (DE.bo de_int)) (da_cons C (de_ix C dix (DE.bo (de_var C (i := 5) rfl (vis_by (by decide +kernel)))) (DE.bo de_int)) (da_cons C (de_tup C da_nil) da_nil)))) (da_cons C (de_bin C dop_add (DE.bo (de_tup C (da_cons C (de_bin C dop_add (DE.bo (de_ix C dix (DE.bo (de_var C (i := 5) rfl (vis_by (by decide +kernel)))) (DE.bo de_int))) (DE.bo de_int)) da_nil))) (DE.bo (de_sl C dsl (DE.bo (de_var C (i := 5) rfl (vis_by (by decide +kernel)))) (dp_some (DE.bo de_int)) dp_none))) (da_cons C (de_fn C hE M_edge_size (by decide) (by decide +kernel) a_edge_size kp_edge_size b_edge_size_1 .nil (das_dat C (de_var C (i := 2) rfl (vis_by (by decide +kernel))) das_nil) rfl) (da_cons C de_non da_nil))))))))
    (dss_cons (ds_for C 0 (di_seq C (de_bin C dop_add (db_var C (i := 6) rfl (vis_by (by decide +kernel))) (DE.bo (DF.da C (df_lc (own := [("lap", 8)]) C 120 (DI.bo (di_range1 C (by decide +kernel) m_range (DE.bo de_int))) (blkOk_by (own := [("lap", 8)]) (by decide +kernel)) (blk_use C fun _ _ _ _ _ _ C1 => (dg_name C1 (i := 8) rfl (loc_by (by decide +kernel)) (.inr (by decide +kernel)))) (blk_use C fun _ _ _ _ _ _ C1 => PTsD.le (c := 0) dts_nil (by decide +kernel)) (blk_use C fun _ _ _ _ _ _ C1 => DE.le (c := 24) (de_fn C1 rfl M__law_bent (by decide) (by decide +kernel) a__law_bent kp__law_bent b__law_bent_2 .nil (das_pot C1 (i := 0) rfl (vis_by (by decide +kernel)) (das_dat C1 (de_var C1 (i := 5) rfl (vis_by (by decide +kernel))) das_nil)) rfl) (by decide +kernel)) (by decide)))))) (dg_name C (i := 7) rfl (loc_by (by decide +kernel)) (.inl (hfn _))) (DSs.le (c := 0) (dss_one (ds_if C (dt_cmp C (dop_ne C.units) (DE.bo (de_callB C (dc_repr C.gd C.units) (by decide +kernel) m_repr boot_repr (db_cons C (DE.bo (de_fnk0 C hE M_shows_edge_size (by decide) (by decide +kernel) a_shows_edge_size kp_shows_edge_size b_shows_edge_size_0_stretch_value .nil (dkw_dat C (de_var C (i := 1) rfl (vis_by (by decide +kernel))) (dkw_dat C (de_var C (i := 7) rfl (vis_by (by decide +kernel))) dkw_nil)) rfl)) db_nil))) (DE.bo (de_callB C (dc_repr C.gd C.units) (by decide +kernel) m_repr boot_repr (db_cons C (DE.bo (de_fn C hE M__law_is_edge (by decide) (by decide +kernel) a__law_is_edge kp__law_is_edge b__law_is_edge_2 .nil (das_dat C (de_var C (i := 1) rfl (vis_by (by decide +kernel))) (das_dat C (de_var C (i := 7) rfl (vis_by (by decide +kernel))) das_nil)) rfl)) db_nil)))) (dss_one (ds_ret C de_bl)) dss_nil)) (by decide +kernel)))
    (dss_one (ds_ret C de_bl)))))))))))))))
  exact ⟨_, by decide +kernel, d⟩
abbrev s_law : Stmt := topS 48
theorem sc_law : FnScope N_law ["script"] (defScope s_law) := ⟨rfl, rfl, rfl, by decide +kernel, rfl, by decide +kernel, by decide +kernel⟩
theorem ok_law {P : Program} {w : World} {K : PySem.W.Frag} {mg : Str → Option Value} {base : Heap} {f : Addr} {od an : Option Addr} {osl : Array (Option Value)} {oc dV kV doc pm cdv ct : Value}
    (lk : K.lookup f = some ⟨oc, od, .func (PySem.W.fnOf "law" "law" (defArgs s_law) (defBody s_law) (defScope s_law) dV kV doc pm an cdv ct), osl⟩) (cd : PySem.W.codeIn K cdv "law" = true)
    {f__law_cells : Addr} {fd__law_cells : FuncData} (M__law_cells : FnD P w K mg base 1 f__law_cells fd__law_cells ["script", "limit"] F__law_cells 0) (a__law_cells : mg "_law_cells" = some (.ref f__law_cells)) (kp__law_cells : PySem.W.keepIn K (.ref f__law_cells) = true)
    {f__law_pot : Addr} {fd__law_pot : FuncData} (M__law_pot : FnD P w K mg base 1 f__law_pot fd__law_pot ["script", "place"] F__law_pot 0) (a__law_pot : mg "_law_pot" = some (.ref f__law_pot)) (kp__law_pot : PySem.W.keepIn K (.ref f__law_pot) = true)
    {f__law_right : Addr} {fd__law_right : FuncData} (M__law_right : FnD P w K mg base 8 f__law_right fd__law_right ["pot"] F__law_right 281) (a__law_right : mg "_law_right" = some (.ref f__law_right)) (kp__law_right : PySem.W.keepIn K (.ref f__law_right) = true)
    (b__law_cells_2 : BindG K fd__law_cells ["script", "limit"] 2 [] [])
    (b__law_pot_2 : BindG K fd__law_pot ["script", "place"] 2 [] [])
    (b__law_right_1 : BindG K fd__law_right ["pot"] 1 [] [])
    (m_all : mg "all" = none)
    (m_range : mg "range" = none) :
    FnD P w K mg base 9 f (PySem.W.fnOf "law" "law" (defArgs s_law) (defBody s_law) (defScope s_law) dV kV doc pm an cdv ct) ["script"] F_law 0 := by
  unfold F_law
  refine fnd_by lk cd sc_law (g := G_law) (by decide) (fun X W E hE h1 h2 h3 h4 h5 hfn C => ?_)
  subst h1 h2 h3 h4 h5
  have d : DSs X W (defBody s_law) (G_law E) _ := (dss_cons (ds_for C 0 (di_seq C (de_fn C hE M__law_cells (by decide) (by decide +kernel) a__law_cells kp__law_cells b__law_cells_2 .nil (das_scr C (i := 0) rfl (vis_by (by decide +kernel)) (das_dat C de_int das_nil)) rfl)) (dg_name C (i := 1) rfl (loc_by (by decide +kernel)) (.inl (hfn _))) (DSs.le (c := 0) (dss_pot C hE M__law_pot (by decide) (by decide +kernel) a__law_pot kp__law_pot b__law_pot_2 rfl (i := 2) (l := 0) (m := 1) rfl (loc_by (by decide +kernel)) (.inl (hfn _)) rfl (vis_by (by decide +kernel)) rfl (vis_by (by decide +kernel)) (by decide) (fun _ hp Cp => (dss_one (ds_if Cp (dt_not (dt_val (DE.bo (de_callB Cp (dc_all Cp.calm) (by decide +kernel) m_all boot_all (db_cons Cp (DE.bo (DF.da Cp (df_lc (own := [("lap", 3)]) Cp 1686 (DI.bo (di_range1 Cp (by decide +kernel) m_range (DE.bo de_int))) (blkOk_by (own := [("lap", 3)]) (by decide +kernel)) (blk_use Cp fun _ _ _ _ _ _ C1 => (dg_name C1 (i := 3) rfl (loc_by (by decide +kernel)) (.inr (by decide +kernel)))) (blk_use Cp fun _ _ _ _ _ _ C1 => PTsD.le (c := 0) dts_nil (by decide +kernel)) (blk_use Cp fun _ _ _ _ _ _ C1 => DE.le (c := 281) (de_fn C1 rfl M__law_right (by decide) (by decide +kernel) a__law_right kp__law_right b__law_right_1 .nil (das_pot C1 (i := 2) rfl (vis_by (by decide +kernel)) das_nil) rfl) (by decide +kernel)) (by decide)))) db_nil))))) (dss_one (ds_ret Cp de_bl)) dss_nil)))) (by decide +kernel)))
    (dss_one (ds_ret C de_bl)))
  exact ⟨_, by decide +kernel, d⟩
end K83
/-! K83: what the top has written; the end (printed by gen.py). -/
namespace K83
open PySem PySem.Spec PyProof.Rows L2 DL
theorem all_mk {l : PySem.W.OpenLaw} {w : World} {K : PySem.W.Frag} {h : Heap} {mg : Str → Option Value} {fa : Addr} (X : K.In h) (G : h.Ns mainGlobals mg) (hfa : mg "law" = some (.ref fa))
    {f__law_cells : Addr} {od__law_cells an__law_cells : Option Addr} {sl__law_cells : Array (Option Value)} {oc__law_cells kV__law_cells dc__law_cells pm__law_cells cd__law_cells ct__law_cells : Value}
    (a__law_cells : PySem.W.nsIn K mainGlobals "_law_cells" = some (some (.ref f__law_cells))) (l__law_cells : K.lookup f__law_cells = some ⟨oc__law_cells, od__law_cells, .func (PySem.W.fnOf "_law_cells" "_law_cells" (defArgs s__law_cells) (defBody s__law_cells) (defScope s__law_cells) .none kV__law_cells dc__law_cells pm__law_cells an__law_cells cd__law_cells ct__law_cells), sl__law_cells⟩) (c__law_cells : PySem.W.codeIn K cd__law_cells "_law_cells" = true) (k__law_cells : PySem.W.keepIn K (.ref f__law_cells) = true)
    {f__law_pot : Addr} {od__law_pot an__law_pot : Option Addr} {sl__law_pot : Array (Option Value)} {oc__law_pot kV__law_pot dc__law_pot pm__law_pot cd__law_pot ct__law_pot : Value}
    (a__law_pot : PySem.W.nsIn K mainGlobals "_law_pot" = some (some (.ref f__law_pot))) (l__law_pot : K.lookup f__law_pot = some ⟨oc__law_pot, od__law_pot, .func (PySem.W.fnOf "_law_pot" "_law_pot" (defArgs s__law_pot) (defBody s__law_pot) (defScope s__law_pot) .none kV__law_pot dc__law_pot pm__law_pot an__law_pot cd__law_pot ct__law_pot), sl__law_pot⟩) (c__law_pot : PySem.W.codeIn K cd__law_pot "_law_pot" = true) (k__law_pot : PySem.W.keepIn K (.ref f__law_pot) = true)
    {f_is_less : Addr} {od_is_less an_is_less : Option Addr} {sl_is_less : Array (Option Value)} {oc_is_less kV_is_less dc_is_less pm_is_less cd_is_less ct_is_less : Value}
    (a_is_less : PySem.W.nsIn K mainGlobals "is_less" = some (some (.ref f_is_less))) (l_is_less : K.lookup f_is_less = some ⟨oc_is_less, od_is_less, .func (PySem.W.fnOf "is_less" "is_less" (defArgs s_is_less) (defBody s_is_less) (defScope s_is_less) .none kV_is_less dc_is_less pm_is_less an_is_less cd_is_less ct_is_less), sl_is_less⟩) (c_is_less : PySem.W.codeIn K cd_is_less "is_less" = true) (k_is_less : PySem.W.keepIn K (.ref f_is_less) = true)
    {f_common : Addr} {od_common an_common : Option Addr} {sl_common : Array (Option Value)} {oc_common kV_common dc_common pm_common cd_common ct_common : Value}
    (a_common : PySem.W.nsIn K mainGlobals "common" = some (some (.ref f_common))) (l_common : K.lookup f_common = some ⟨oc_common, od_common, .func (PySem.W.fnOf "common" "common" (defArgs s_common) (defBody s_common) (defScope s_common) .none kV_common dc_common pm_common an_common cd_common ct_common), sl_common⟩) (c_common : PySem.W.codeIn K cd_common "common" = true) (k_common : PySem.W.keepIn K (.ref f_common) = true)
    {f_is_integer : Addr} {od_is_integer an_is_integer : Option Addr} {sl_is_integer : Array (Option Value)} {oc_is_integer kV_is_integer dc_is_integer pm_is_integer cd_is_integer ct_is_integer : Value}
    (a_is_integer : PySem.W.nsIn K mainGlobals "is_integer" = some (some (.ref f_is_integer))) (l_is_integer : K.lookup f_is_integer = some ⟨oc_is_integer, od_is_integer, .func (PySem.W.fnOf "is_integer" "is_integer" (defArgs s_is_integer) (defBody s_is_integer) (defScope s_is_integer) .none kV_is_integer dc_is_integer pm_is_integer an_is_integer cd_is_integer ct_is_integer), sl_is_integer⟩) (c_is_integer : PySem.W.codeIn K cd_is_integer "is_integer" = true) (k_is_integer : PySem.W.keepIn K (.ref f_is_integer) = true)
    {f_is_fraction : Addr} {od_is_fraction an_is_fraction : Option Addr} {sl_is_fraction : Array (Option Value)} {oc_is_fraction kV_is_fraction dc_is_fraction pm_is_fraction cd_is_fraction ct_is_fraction : Value}
    (a_is_fraction : PySem.W.nsIn K mainGlobals "is_fraction" = some (some (.ref f_is_fraction))) (l_is_fraction : K.lookup f_is_fraction = some ⟨oc_is_fraction, od_is_fraction, .func (PySem.W.fnOf "is_fraction" "is_fraction" (defArgs s_is_fraction) (defBody s_is_fraction) (defScope s_is_fraction) .none kV_is_fraction dc_is_fraction pm_is_fraction an_is_fraction cd_is_fraction ct_is_fraction), sl_is_fraction⟩) (c_is_fraction : PySem.W.codeIn K cd_is_fraction "is_fraction" = true) (k_is_fraction : PySem.W.keepIn K (.ref f_is_fraction) = true)
    {f_is_told_fraction : Addr} {od_is_told_fraction an_is_told_fraction : Option Addr} {sl_is_told_fraction : Array (Option Value)} {oc_is_told_fraction kV_is_told_fraction dc_is_told_fraction pm_is_told_fraction cd_is_told_fraction ct_is_told_fraction : Value}
    (a_is_told_fraction : PySem.W.nsIn K mainGlobals "is_told_fraction" = some (some (.ref f_is_told_fraction))) (l_is_told_fraction : K.lookup f_is_told_fraction = some ⟨oc_is_told_fraction, od_is_told_fraction, .func (PySem.W.fnOf "is_told_fraction" "is_told_fraction" (defArgs s_is_told_fraction) (defBody s_is_told_fraction) (defScope s_is_told_fraction) .none kV_is_told_fraction dc_is_told_fraction pm_is_told_fraction an_is_told_fraction cd_is_told_fraction ct_is_told_fraction), sl_is_told_fraction⟩) (c_is_told_fraction : PySem.W.codeIn K cd_is_told_fraction "is_told_fraction" = true) (k_is_told_fraction : PySem.W.keepIn K (.ref f_is_told_fraction) = true)
    {f_is_stretch : Addr} {od_is_stretch an_is_stretch : Option Addr} {sl_is_stretch : Array (Option Value)} {oc_is_stretch kV_is_stretch dc_is_stretch pm_is_stretch cd_is_stretch ct_is_stretch : Value}
    (a_is_stretch : PySem.W.nsIn K mainGlobals "is_stretch" = some (some (.ref f_is_stretch))) (l_is_stretch : K.lookup f_is_stretch = some ⟨oc_is_stretch, od_is_stretch, .func (PySem.W.fnOf "is_stretch" "is_stretch" (defArgs s_is_stretch) (defBody s_is_stretch) (defScope s_is_stretch) .none kV_is_stretch dc_is_stretch pm_is_stretch an_is_stretch cd_is_stretch ct_is_stretch), sl_is_stretch⟩) (c_is_stretch : PySem.W.codeIn K cd_is_stretch "is_stretch" = true) (k_is_stretch : PySem.W.keepIn K (.ref f_is_stretch) = true)
    {f_check_stretch : Addr} {od_check_stretch an_check_stretch : Option Addr} {sl_check_stretch : Array (Option Value)} {oc_check_stretch kV_check_stretch dc_check_stretch pm_check_stretch cd_check_stretch ct_check_stretch : Value}
    (a_check_stretch : PySem.W.nsIn K mainGlobals "check_stretch" = some (some (.ref f_check_stretch))) (l_check_stretch : K.lookup f_check_stretch = some ⟨oc_check_stretch, od_check_stretch, .func (PySem.W.fnOf "check_stretch" "check_stretch" (defArgs s_check_stretch) (defBody s_check_stretch) (defScope s_check_stretch) .none kV_check_stretch dc_check_stretch pm_check_stretch an_check_stretch cd_check_stretch ct_check_stretch), sl_check_stretch⟩) (c_check_stretch : PySem.W.codeIn K cd_check_stretch "check_stretch" = true) (k_check_stretch : PySem.W.keepIn K (.ref f_check_stretch) = true)
    {f_floor_of : Addr} {od_floor_of an_floor_of : Option Addr} {sl_floor_of : Array (Option Value)} {oc_floor_of kV_floor_of dc_floor_of pm_floor_of cd_floor_of ct_floor_of : Value}
    (a_floor_of : PySem.W.nsIn K mainGlobals "floor_of" = some (some (.ref f_floor_of))) (l_floor_of : K.lookup f_floor_of = some ⟨oc_floor_of, od_floor_of, .func (PySem.W.fnOf "floor_of" "floor_of" (defArgs s_floor_of) (defBody s_floor_of) (defScope s_floor_of) .none kV_floor_of dc_floor_of pm_floor_of an_floor_of cd_floor_of ct_floor_of), sl_floor_of⟩) (c_floor_of : PySem.W.codeIn K cd_floor_of "floor_of" = true) (k_floor_of : PySem.W.keepIn K (.ref f_floor_of) = true)
    {f_is_inside : Addr} {od_is_inside an_is_inside : Option Addr} {sl_is_inside : Array (Option Value)} {oc_is_inside kV_is_inside dc_is_inside pm_is_inside cd_is_inside ct_is_inside : Value}
    (a_is_inside : PySem.W.nsIn K mainGlobals "is_inside" = some (some (.ref f_is_inside))) (l_is_inside : K.lookup f_is_inside = some ⟨oc_is_inside, od_is_inside, .func (PySem.W.fnOf "is_inside" "is_inside" (defArgs s_is_inside) (defBody s_is_inside) (defScope s_is_inside) .none kV_is_inside dc_is_inside pm_is_inside an_is_inside cd_is_inside ct_is_inside), sl_is_inside⟩) (c_is_inside : PySem.W.codeIn K cd_is_inside "is_inside" = true) (k_is_inside : PySem.W.keepIn K (.ref f_is_inside) = true)
    {f_reduced : Addr} {od_reduced an_reduced : Option Addr} {sl_reduced : Array (Option Value)} {oc_reduced kV_reduced dc_reduced pm_reduced cd_reduced ct_reduced : Value}
    (a_reduced : PySem.W.nsIn K mainGlobals "reduced" = some (some (.ref f_reduced))) (l_reduced : K.lookup f_reduced = some ⟨oc_reduced, od_reduced, .func (PySem.W.fnOf "reduced" "reduced" (defArgs s_reduced) (defBody s_reduced) (defScope s_reduced) .none kV_reduced dc_reduced pm_reduced an_reduced cd_reduced ct_reduced), sl_reduced⟩) (c_reduced : PySem.W.codeIn K cd_reduced "reduced" = true) (k_reduced : PySem.W.keepIn K (.ref f_reduced) = true)
    {f_difference : Addr} {od_difference an_difference : Option Addr} {sl_difference : Array (Option Value)} {oc_difference kV_difference dc_difference pm_difference cd_difference ct_difference : Value}
    (a_difference : PySem.W.nsIn K mainGlobals "difference" = some (some (.ref f_difference))) (l_difference : K.lookup f_difference = some ⟨oc_difference, od_difference, .func (PySem.W.fnOf "difference" "difference" (defArgs s_difference) (defBody s_difference) (defScope s_difference) .none kV_difference dc_difference pm_difference an_difference cd_difference ct_difference), sl_difference⟩) (c_difference : PySem.W.codeIn K cd_difference "difference" = true) (k_difference : PySem.W.keepIn K (.ref f_difference) = true)
    {f_quotient : Addr} {od_quotient an_quotient : Option Addr} {sl_quotient : Array (Option Value)} {oc_quotient kV_quotient dc_quotient pm_quotient cd_quotient ct_quotient : Value}
    (a_quotient : PySem.W.nsIn K mainGlobals "quotient" = some (some (.ref f_quotient))) (l_quotient : K.lookup f_quotient = some ⟨oc_quotient, od_quotient, .func (PySem.W.fnOf "quotient" "quotient" (defArgs s_quotient) (defBody s_quotient) (defScope s_quotient) .none kV_quotient dc_quotient pm_quotient an_quotient cd_quotient ct_quotient), sl_quotient⟩) (c_quotient : PySem.W.codeIn K cd_quotient "quotient" = true) (k_quotient : PySem.W.keepIn K (.ref f_quotient) = true)
    {f_simplest_of : Addr} {od_simplest_of an_simplest_of : Option Addr} {sl_simplest_of : Array (Option Value)} {oc_simplest_of kV_simplest_of dc_simplest_of pm_simplest_of cd_simplest_of ct_simplest_of : Value}
    (a_simplest_of : PySem.W.nsIn K mainGlobals "simplest_of" = some (some (.ref f_simplest_of))) (l_simplest_of : K.lookup f_simplest_of = some ⟨oc_simplest_of, od_simplest_of, .func (PySem.W.fnOf "simplest_of" "simplest_of" (defArgs s_simplest_of) (defBody s_simplest_of) (defScope s_simplest_of) .none kV_simplest_of dc_simplest_of pm_simplest_of an_simplest_of cd_simplest_of ct_simplest_of), sl_simplest_of⟩) (c_simplest_of : PySem.W.codeIn K cd_simplest_of "simplest_of" = true) (k_simplest_of : PySem.W.keepIn K (.ref f_simplest_of) = true)
    {f_parents_of : Addr} {od_parents_of an_parents_of : Option Addr} {sl_parents_of : Array (Option Value)} {oc_parents_of kV_parents_of dc_parents_of pm_parents_of cd_parents_of ct_parents_of : Value}
    (a_parents_of : PySem.W.nsIn K mainGlobals "parents_of" = some (some (.ref f_parents_of))) (l_parents_of : K.lookup f_parents_of = some ⟨oc_parents_of, od_parents_of, .func (PySem.W.fnOf "parents_of" "parents_of" (defArgs s_parents_of) (defBody s_parents_of) (defScope s_parents_of) .none kV_parents_of dc_parents_of pm_parents_of an_parents_of cd_parents_of ct_parents_of), sl_parents_of⟩) (c_parents_of : PySem.W.codeIn K cd_parents_of "parents_of" = true) (k_parents_of : PySem.W.keepIn K (.ref f_parents_of) = true)
    {f_edge_told : Addr} {od_edge_told an_edge_told : Option Addr} {sl_edge_told : Array (Option Value)} {oc_edge_told kV_edge_told dc_edge_told pm_edge_told cd_edge_told ct_edge_told : Value}
    (a_edge_told : PySem.W.nsIn K mainGlobals "edge_told" = some (some (.ref f_edge_told))) (l_edge_told : K.lookup f_edge_told = some ⟨oc_edge_told, od_edge_told, .func (PySem.W.fnOf "edge_told" "edge_told" (defArgs s_edge_told) (defBody s_edge_told) (defScope s_edge_told) .none kV_edge_told dc_edge_told pm_edge_told an_edge_told cd_edge_told ct_edge_told), sl_edge_told⟩) (c_edge_told : PySem.W.codeIn K cd_edge_told "edge_told" = true) (k_edge_told : PySem.W.keepIn K (.ref f_edge_told) = true)
    {f_edge_size : Addr} {od_edge_size an_edge_size : Option Addr} {sl_edge_size : Array (Option Value)} {oc_edge_size kV_edge_size dc_edge_size pm_edge_size cd_edge_size ct_edge_size : Value}
    (a_edge_size : PySem.W.nsIn K mainGlobals "edge_size" = some (some (.ref f_edge_size))) (l_edge_size : K.lookup f_edge_size = some ⟨oc_edge_size, od_edge_size, .func (PySem.W.fnOf "edge_size" "edge_size" (defArgs s_edge_size) (defBody s_edge_size) (defScope s_edge_size) .none kV_edge_size dc_edge_size pm_edge_size an_edge_size cd_edge_size ct_edge_size), sl_edge_size⟩) (c_edge_size : PySem.W.codeIn K cd_edge_size "edge_size" = true) (k_edge_size : PySem.W.keepIn K (.ref f_edge_size) = true)
    {f__law_take : Addr} {od__law_take an__law_take : Option Addr} {sl__law_take : Array (Option Value)} {oc__law_take kV__law_take dc__law_take pm__law_take cd__law_take ct__law_take : Value}
    (a__law_take : PySem.W.nsIn K mainGlobals "_law_take" = some (some (.ref f__law_take))) (l__law_take : K.lookup f__law_take = some ⟨oc__law_take, od__law_take, .func (PySem.W.fnOf "_law_take" "_law_take" (defArgs s__law_take) (defBody s__law_take) (defScope s__law_take) .none kV__law_take dc__law_take pm__law_take an__law_take cd__law_take ct__law_take), sl__law_take⟩) (c__law_take : PySem.W.codeIn K cd__law_take "_law_take" = true) (k__law_take : PySem.W.keepIn K (.ref f__law_take) = true)
    {f__law_cut : Addr} {od__law_cut an__law_cut : Option Addr} {sl__law_cut : Array (Option Value)} {oc__law_cut kV__law_cut dc__law_cut pm__law_cut cd__law_cut ct__law_cut : Value}
    (a__law_cut : PySem.W.nsIn K mainGlobals "_law_cut" = some (some (.ref f__law_cut))) (l__law_cut : K.lookup f__law_cut = some ⟨oc__law_cut, od__law_cut, .func (PySem.W.fnOf "_law_cut" "_law_cut" (defArgs s__law_cut) (defBody s__law_cut) (defScope s__law_cut) .none kV__law_cut dc__law_cut pm__law_cut an__law_cut cd__law_cut ct__law_cut), sl__law_cut⟩) (c__law_cut : PySem.W.codeIn K cd__law_cut "_law_cut" = true) (k__law_cut : PySem.W.keepIn K (.ref f__law_cut) = true)
    {f__law_of : Addr} {od__law_of an__law_of : Option Addr} {sl__law_of : Array (Option Value)} {oc__law_of kV__law_of dc__law_of pm__law_of cd__law_of ct__law_of : Value}
    (a__law_of : PySem.W.nsIn K mainGlobals "_law_of" = some (some (.ref f__law_of))) (l__law_of : K.lookup f__law_of = some ⟨oc__law_of, od__law_of, .func (PySem.W.fnOf "_law_of" "_law_of" (defArgs s__law_of) (defBody s__law_of) (defScope s__law_of) .none kV__law_of dc__law_of pm__law_of an__law_of cd__law_of ct__law_of), sl__law_of⟩) (c__law_of : PySem.W.codeIn K cd__law_of "_law_of" = true) (k__law_of : PySem.W.keepIn K (.ref f__law_of) = true)
    {f__law_stretch : Addr} {od__law_stretch an__law_stretch : Option Addr} {sl__law_stretch : Array (Option Value)} {oc__law_stretch kV__law_stretch dc__law_stretch pm__law_stretch cd__law_stretch ct__law_stretch : Value}
    (a__law_stretch : PySem.W.nsIn K mainGlobals "_law_stretch" = some (some (.ref f__law_stretch))) (l__law_stretch : K.lookup f__law_stretch = some ⟨oc__law_stretch, od__law_stretch, .func (PySem.W.fnOf "_law_stretch" "_law_stretch" (defArgs s__law_stretch) (defBody s__law_stretch) (defScope s__law_stretch) .none kV__law_stretch dc__law_stretch pm__law_stretch an__law_stretch cd__law_stretch ct__law_stretch), sl__law_stretch⟩) (c__law_stretch : PySem.W.codeIn K cd__law_stretch "_law_stretch" = true) (k__law_stretch : PySem.W.keepIn K (.ref f__law_stretch) = true)
    {f__law_is_in : Addr} {od__law_is_in an__law_is_in : Option Addr} {sl__law_is_in : Array (Option Value)} {oc__law_is_in kV__law_is_in dc__law_is_in pm__law_is_in cd__law_is_in ct__law_is_in : Value}
    (a__law_is_in : PySem.W.nsIn K mainGlobals "_law_is_in" = some (some (.ref f__law_is_in))) (l__law_is_in : K.lookup f__law_is_in = some ⟨oc__law_is_in, od__law_is_in, .func (PySem.W.fnOf "_law_is_in" "_law_is_in" (defArgs s__law_is_in) (defBody s__law_is_in) (defScope s__law_is_in) .none kV__law_is_in dc__law_is_in pm__law_is_in an__law_is_in cd__law_is_in ct__law_is_in), sl__law_is_in⟩) (c__law_is_in : PySem.W.codeIn K cd__law_is_in "_law_is_in" = true) (k__law_is_in : PySem.W.keepIn K (.ref f__law_is_in) = true)
    {f__law_simplest : Addr} {od__law_simplest an__law_simplest : Option Addr} {sl__law_simplest : Array (Option Value)} {oc__law_simplest kV__law_simplest dc__law_simplest pm__law_simplest cd__law_simplest ct__law_simplest : Value}
    (a__law_simplest : PySem.W.nsIn K mainGlobals "_law_simplest" = some (some (.ref f__law_simplest))) (l__law_simplest : K.lookup f__law_simplest = some ⟨oc__law_simplest, od__law_simplest, .func (PySem.W.fnOf "_law_simplest" "_law_simplest" (defArgs s__law_simplest) (defBody s__law_simplest) (defScope s__law_simplest) .none kV__law_simplest dc__law_simplest pm__law_simplest an__law_simplest cd__law_simplest ct__law_simplest), sl__law_simplest⟩) (c__law_simplest : PySem.W.codeIn K cd__law_simplest "_law_simplest" = true) (k__law_simplest : PySem.W.keepIn K (.ref f__law_simplest) = true)
    {f_with_parents : Addr} {od_with_parents an_with_parents : Option Addr} {sl_with_parents : Array (Option Value)} {oc_with_parents kV_with_parents dc_with_parents pm_with_parents cd_with_parents ct_with_parents : Value}
    (a_with_parents : PySem.W.nsIn K mainGlobals "with_parents" = some (some (.ref f_with_parents))) (l_with_parents : K.lookup f_with_parents = some ⟨oc_with_parents, od_with_parents, .func (PySem.W.fnOf "with_parents" "with_parents" (defArgs s_with_parents) (defBody s_with_parents) (defScope s_with_parents) .none kV_with_parents dc_with_parents pm_with_parents an_with_parents cd_with_parents ct_with_parents), sl_with_parents⟩) (c_with_parents : PySem.W.codeIn K cd_with_parents "with_parents" = true) (k_with_parents : PySem.W.keepIn K (.ref f_with_parents) = true)
    {f_simplest : Addr} {od_simplest an_simplest : Option Addr} {sl_simplest : Array (Option Value)} {oc_simplest kV_simplest dc_simplest pm_simplest cd_simplest ct_simplest : Value}
    (a_simplest : PySem.W.nsIn K mainGlobals "simplest" = some (some (.ref f_simplest))) (l_simplest : K.lookup f_simplest = some ⟨oc_simplest, od_simplest, .func (PySem.W.fnOf "simplest" "simplest" (defArgs s_simplest) (defBody s_simplest) (defScope s_simplest) .none kV_simplest dc_simplest pm_simplest an_simplest cd_simplest ct_simplest), sl_simplest⟩) (c_simplest : PySem.W.codeIn K cd_simplest "simplest" = true) (k_simplest : PySem.W.keepIn K (.ref f_simplest) = true)
    {f__law_is_whole : Addr} {od__law_is_whole an__law_is_whole : Option Addr} {sl__law_is_whole : Array (Option Value)} {oc__law_is_whole kV__law_is_whole dc__law_is_whole pm__law_is_whole cd__law_is_whole ct__law_is_whole : Value}
    (a__law_is_whole : PySem.W.nsIn K mainGlobals "_law_is_whole" = some (some (.ref f__law_is_whole))) (l__law_is_whole : K.lookup f__law_is_whole = some ⟨oc__law_is_whole, od__law_is_whole, .func (PySem.W.fnOf "_law_is_whole" "_law_is_whole" (defArgs s__law_is_whole) (defBody s__law_is_whole) (defScope s__law_is_whole) .none kV__law_is_whole dc__law_is_whole pm__law_is_whole an__law_is_whole cd__law_is_whole ct__law_is_whole), sl__law_is_whole⟩) (c__law_is_whole : PySem.W.codeIn K cd__law_is_whole "_law_is_whole" = true) (k__law_is_whole : PySem.W.keepIn K (.ref f__law_is_whole) = true)
    {f__law_is_paper : Addr} {od__law_is_paper an__law_is_paper : Option Addr} {sl__law_is_paper : Array (Option Value)} {oc__law_is_paper kV__law_is_paper dc__law_is_paper pm__law_is_paper cd__law_is_paper ct__law_is_paper : Value}
    (a__law_is_paper : PySem.W.nsIn K mainGlobals "_law_is_paper" = some (some (.ref f__law_is_paper))) (l__law_is_paper : K.lookup f__law_is_paper = some ⟨oc__law_is_paper, od__law_is_paper, .func (PySem.W.fnOf "_law_is_paper" "_law_is_paper" (defArgs s__law_is_paper) (defBody s__law_is_paper) (defScope s__law_is_paper) .none kV__law_is_paper dc__law_is_paper pm__law_is_paper an__law_is_paper cd__law_is_paper ct__law_is_paper), sl__law_is_paper⟩) (c__law_is_paper : PySem.W.codeIn K cd__law_is_paper "_law_is_paper" = true) (k__law_is_paper : PySem.W.keepIn K (.ref f__law_is_paper) = true)
    {f__law_is_shown : Addr} {od__law_is_shown an__law_is_shown : Option Addr} {sl__law_is_shown : Array (Option Value)} {oc__law_is_shown kV__law_is_shown dc__law_is_shown pm__law_is_shown cd__law_is_shown ct__law_is_shown : Value}
    (a__law_is_shown : PySem.W.nsIn K mainGlobals "_law_is_shown" = some (some (.ref f__law_is_shown))) (l__law_is_shown : K.lookup f__law_is_shown = some ⟨oc__law_is_shown, od__law_is_shown, .func (PySem.W.fnOf "_law_is_shown" "_law_is_shown" (defArgs s__law_is_shown) (defBody s__law_is_shown) (defScope s__law_is_shown) .none kV__law_is_shown dc__law_is_shown pm__law_is_shown an__law_is_shown cd__law_is_shown ct__law_is_shown), sl__law_is_shown⟩) (c__law_is_shown : PySem.W.codeIn K cd__law_is_shown "_law_is_shown" = true) (k__law_is_shown : PySem.W.keepIn K (.ref f__law_is_shown) = true)
    {f__law_is_edge : Addr} {od__law_is_edge an__law_is_edge : Option Addr} {sl__law_is_edge : Array (Option Value)} {oc__law_is_edge kV__law_is_edge dc__law_is_edge pm__law_is_edge cd__law_is_edge ct__law_is_edge : Value}
    (a__law_is_edge : PySem.W.nsIn K mainGlobals "_law_is_edge" = some (some (.ref f__law_is_edge))) (l__law_is_edge : K.lookup f__law_is_edge = some ⟨oc__law_is_edge, od__law_is_edge, .func (PySem.W.fnOf "_law_is_edge" "_law_is_edge" (defArgs s__law_is_edge) (defBody s__law_is_edge) (defScope s__law_is_edge) .none kV__law_is_edge dc__law_is_edge pm__law_is_edge an__law_is_edge cd__law_is_edge ct__law_is_edge), sl__law_is_edge⟩) (c__law_is_edge : PySem.W.codeIn K cd__law_is_edge "_law_is_edge" = true) (k__law_is_edge : PySem.W.keepIn K (.ref f__law_is_edge) = true)
    {f__law_odd : Addr} {od__law_odd an__law_odd : Option Addr} {sl__law_odd : Array (Option Value)} {oc__law_odd kV__law_odd dc__law_odd pm__law_odd cd__law_odd ct__law_odd : Value}
    (a__law_odd : PySem.W.nsIn K mainGlobals "_law_odd" = some (some (.ref f__law_odd))) (l__law_odd : K.lookup f__law_odd = some ⟨oc__law_odd, od__law_odd, .func (PySem.W.fnOf "_law_odd" "_law_odd" (defArgs s__law_odd) (defBody s__law_odd) (defScope s__law_odd) .none kV__law_odd dc__law_odd pm__law_odd an__law_odd cd__law_odd ct__law_odd), sl__law_odd⟩) (c__law_odd : PySem.W.codeIn K cd__law_odd "_law_odd" = true) (k__law_odd : PySem.W.keepIn K (.ref f__law_odd) = true)
    {f__law_bent : Addr} {od__law_bent an__law_bent : Option Addr} {sl__law_bent : Array (Option Value)} {oc__law_bent kV__law_bent dc__law_bent pm__law_bent cd__law_bent ct__law_bent : Value}
    (a__law_bent : PySem.W.nsIn K mainGlobals "_law_bent" = some (some (.ref f__law_bent))) (l__law_bent : K.lookup f__law_bent = some ⟨oc__law_bent, od__law_bent, .func (PySem.W.fnOf "_law_bent" "_law_bent" (defArgs s__law_bent) (defBody s__law_bent) (defScope s__law_bent) .none kV__law_bent dc__law_bent pm__law_bent an__law_bent cd__law_bent ct__law_bent), sl__law_bent⟩) (c__law_bent : PySem.W.codeIn K cd__law_bent "_law_bent" = true) (k__law_bent : PySem.W.keepIn K (.ref f__law_bent) = true)
    {f_are_parents : Addr} {od_are_parents an_are_parents : Option Addr} {sl_are_parents : Array (Option Value)} {oc_are_parents kV_are_parents dc_are_parents pm_are_parents cd_are_parents ct_are_parents : Value}
    (a_are_parents : PySem.W.nsIn K mainGlobals "are_parents" = some (some (.ref f_are_parents))) (l_are_parents : K.lookup f_are_parents = some ⟨oc_are_parents, od_are_parents, .func (PySem.W.fnOf "are_parents" "are_parents" (defArgs s_are_parents) (defBody s_are_parents) (defScope s_are_parents) .none kV_are_parents dc_are_parents pm_are_parents an_are_parents cd_are_parents ct_are_parents), sl_are_parents⟩) (c_are_parents : PySem.W.codeIn K cd_are_parents "are_parents" = true) (k_are_parents : PySem.W.keepIn K (.ref f_are_parents) = true)
    {f_is_simplest : Addr} {od_is_simplest an_is_simplest : Option Addr} {sl_is_simplest : Array (Option Value)} {oc_is_simplest kV_is_simplest dc_is_simplest pm_is_simplest cd_is_simplest ct_is_simplest : Value}
    (a_is_simplest : PySem.W.nsIn K mainGlobals "is_simplest" = some (some (.ref f_is_simplest))) (l_is_simplest : K.lookup f_is_simplest = some ⟨oc_is_simplest, od_is_simplest, .func (PySem.W.fnOf "is_simplest" "is_simplest" (defArgs s_is_simplest) (defBody s_is_simplest) (defScope s_is_simplest) .none kV_is_simplest dc_is_simplest pm_is_simplest an_is_simplest cd_is_simplest ct_is_simplest), sl_is_simplest⟩) (c_is_simplest : PySem.W.codeIn K cd_is_simplest "is_simplest" = true) (k_is_simplest : PySem.W.keepIn K (.ref f_is_simplest) = true)
    {f_shows_simplest : Addr} {od_shows_simplest an_shows_simplest : Option Addr} {sl_shows_simplest : Array (Option Value)} {oc_shows_simplest kV_shows_simplest dc_shows_simplest pm_shows_simplest cd_shows_simplest ct_shows_simplest : Value}
    (a_shows_simplest : PySem.W.nsIn K mainGlobals "shows_simplest" = some (some (.ref f_shows_simplest))) (l_shows_simplest : K.lookup f_shows_simplest = some ⟨oc_shows_simplest, od_shows_simplest, .func (PySem.W.fnOf "shows_simplest" "shows_simplest" (defArgs s_shows_simplest) (defBody s_shows_simplest) (defScope s_shows_simplest) .none kV_shows_simplest dc_shows_simplest pm_shows_simplest an_shows_simplest cd_shows_simplest ct_shows_simplest), sl_shows_simplest⟩) (c_shows_simplest : PySem.W.codeIn K cd_shows_simplest "shows_simplest" = true) (k_shows_simplest : PySem.W.keepIn K (.ref f_shows_simplest) = true)
    {f_shows_edge_size : Addr} {od_shows_edge_size an_shows_edge_size : Option Addr} {sl_shows_edge_size : Array (Option Value)} {oc_shows_edge_size kV_shows_edge_size dc_shows_edge_size pm_shows_edge_size cd_shows_edge_size ct_shows_edge_size : Value}
    (a_shows_edge_size : PySem.W.nsIn K mainGlobals "shows_edge_size" = some (some (.ref f_shows_edge_size))) (l_shows_edge_size : K.lookup f_shows_edge_size = some ⟨oc_shows_edge_size, od_shows_edge_size, .func (PySem.W.fnOf "shows_edge_size" "shows_edge_size" (defArgs s_shows_edge_size) (defBody s_shows_edge_size) (defScope s_shows_edge_size) .none kV_shows_edge_size dc_shows_edge_size pm_shows_edge_size an_shows_edge_size cd_shows_edge_size ct_shows_edge_size), sl_shows_edge_size⟩) (c_shows_edge_size : PySem.W.codeIn K cd_shows_edge_size "shows_edge_size" = true) (k_shows_edge_size : PySem.W.keepIn K (.ref f_shows_edge_size) = true)
    {f__law_right : Addr} {od__law_right an__law_right : Option Addr} {sl__law_right : Array (Option Value)} {oc__law_right kV__law_right dc__law_right pm__law_right cd__law_right ct__law_right : Value}
    (a__law_right : PySem.W.nsIn K mainGlobals "_law_right" = some (some (.ref f__law_right))) (l__law_right : K.lookup f__law_right = some ⟨oc__law_right, od__law_right, .func (PySem.W.fnOf "_law_right" "_law_right" (defArgs s__law_right) (defBody s__law_right) (defScope s__law_right) .none kV__law_right dc__law_right pm__law_right an__law_right cd__law_right ct__law_right), sl__law_right⟩) (c__law_right : PySem.W.codeIn K cd__law_right "_law_right" = true) (k__law_right : PySem.W.keepIn K (.ref f__law_right) = true)
    {f_law : Addr} {od_law an_law : Option Addr} {sl_law : Array (Option Value)} {oc_law kV_law dc_law pm_law cd_law ct_law : Value}
    (a_law : PySem.W.nsIn K mainGlobals "law" = some (some (.ref f_law))) (l_law : K.lookup f_law = some ⟨oc_law, od_law, .func (PySem.W.fnOf "law" "law" (defArgs s_law) (defBody s_law) (defScope s_law) .none kV_law dc_law pm_law an_law cd_law ct_law), sl_law⟩) (c_law : PySem.W.codeIn K cd_law "law" = true) (k_law : PySem.W.keepIn K (.ref f_law) = true)
    (z_max : PySem.W.nsIn K mainGlobals "max" = some none)
    (z_min : PySem.W.nsIn K mainGlobals "min" = some none)
    (z_len : PySem.W.nsIn K mainGlobals "len" = some none)
    (z_list : PySem.W.nsIn K mainGlobals "list" = some none)
    (z_range : PySem.W.nsIn K mainGlobals "range" = some none)
    (z_int : PySem.W.nsIn K mainGlobals "int" = some none)
    (z_abs : PySem.W.nsIn K mainGlobals "abs" = some none)
    (z_isinstance : PySem.W.nsIn K mainGlobals "isinstance" = some none)
    (z_bool : PySem.W.nsIn K mainGlobals "bool" = some none)
    (z_all : PySem.W.nsIn K mainGlobals "all" = some none)
    (z_tuple : PySem.W.nsIn K mainGlobals "tuple" = some none)
    (z_str : PySem.W.nsIn K mainGlobals "str" = some none)
    (z_repr : PySem.W.nsIn K mainGlobals "repr" = some none)
    (z_gcd : PySem.W.nsIn K mainGlobals "gcd" = some (some (.builtin "math.gcd")))
    {t_BEYOND_1 : Tok}
    (z_BEYOND : PySem.W.nsIn K mainGlobals "BEYOND" = some (some (.int 1000000000000000000000000000000000000000000000000000000000000000000000000000000000000000000000000000000000000000000000000000000000000000000000000000000000000000000000000000000000000000000000000000000000000000000000000000000000000000000000000000000000000000000000000000000000000000000000000000000000000 t_BEYOND_1)))
    {t_MOST_PARTS_1 : Tok}
    (z_MOST_PARTS : PySem.W.nsIn K mainGlobals "MOST_PARTS" = some (some (.int 1000000 t_MOST_PARTS_1)))
    {t_ONE_2 : Tok}
    {t_ONE_3 : Tok}
    {T_ONE_1 : Addr} {oD_ONE_1 : Option Addr} {nT_ONE_1 : Nat} {sT_ONE_1 : Array (Option Value)} (lc_ONE_1 : K.lookup T_ONE_1 = some ⟨.type "tuple", oD_ONE_1, .seq #[(.int 1 t_ONE_2), (.int 1 t_ONE_3)] nT_ONE_1, sT_ONE_1⟩)
    (z_ONE : PySem.W.nsIn K mainGlobals "ONE" = some (some (.ref T_ONE_1)))
    {t_NOTHING_2 : Tok}
    {t_NOTHING_3 : Tok}
    {T_NOTHING_1 : Addr} {oD_NOTHING_1 : Option Addr} {nT_NOTHING_1 : Nat} {sT_NOTHING_1 : Array (Option Value)} (lc_NOTHING_1 : K.lookup T_NOTHING_1 = some ⟨.type "tuple", oD_NOTHING_1, .seq #[(.int 0 t_NOTHING_2), (.int 1 t_NOTHING_3)] nT_NOTHING_1, sT_NOTHING_1⟩)
    (z_NOTHING : PySem.W.nsIn K mainGlobals "NOTHING" = some (some (.ref T_NOTHING_1))) :
    ∃ fd : FuncData, (∀ (s : Shared) (v : Value), BindsTo s fd ⟨[v], []⟩ [("script", v)]) ∧ ∀ base : Heap, K.In base → base.Ns mainGlobals mg → FnD l.prog w K mg base 9 fa fd ["script"] F_law 0 := by
  have b_is_integer_1 : BindG K (PySem.W.fnOf "is_integer" "is_integer" (defArgs s_is_integer) (defBody s_is_integer) (defScope s_is_integer) .none kV_is_integer dc_is_integer pm_is_integer an_is_integer cd_is_integer ct_is_integer) ["value"] 1 [] [] := BindG.plain fun us ws h1 h2 => match us, ws, h1, h2 with | [_], [], _, _ => rfl
  have b_common_2 : BindG K (PySem.W.fnOf "common" "common" (defArgs s_common) (defBody s_common) (defScope s_common) .none kV_common dc_common pm_common an_common cd_common ct_common) ["one", "other"] 2 [] [] := BindG.plain fun us ws h1 h2 => match us, ws, h1, h2 with | [_, _], [], _, _ => rfl
  have b_is_fraction_1 : BindG K (PySem.W.fnOf "is_fraction" "is_fraction" (defArgs s_is_fraction) (defBody s_is_fraction) (defScope s_is_fraction) .none kV_is_fraction dc_is_fraction pm_is_fraction an_is_fraction cd_is_fraction ct_is_fraction) ["value"] 1 [] [] := BindG.plain fun us ws h1 h2 => match us, ws, h1, h2 with | [_], [], _, _ => rfl
  have b_is_told_fraction_1 : BindG K (PySem.W.fnOf "is_told_fraction" "is_told_fraction" (defArgs s_is_told_fraction) (defBody s_is_told_fraction) (defScope s_is_told_fraction) .none kV_is_told_fraction dc_is_told_fraction pm_is_told_fraction an_is_told_fraction cd_is_told_fraction ct_is_told_fraction) ["value"] 1 [] [] := BindG.plain fun us ws h1 h2 => match us, ws, h1, h2 with | [_], [], _, _ => rfl
  have b_is_less_2 : BindG K (PySem.W.fnOf "is_less" "is_less" (defArgs s_is_less) (defBody s_is_less) (defScope s_is_less) .none kV_is_less dc_is_less pm_is_less an_is_less cd_is_less ct_is_less) ["one", "other"] 2 [] [] := BindG.plain fun us ws h1 h2 => match us, ws, h1, h2 with | [_, _], [], _, _ => rfl
  have b_is_stretch_1 : BindG K (PySem.W.fnOf "is_stretch" "is_stretch" (defArgs s_is_stretch) (defBody s_is_stretch) (defScope s_is_stretch) .none kV_is_stretch dc_is_stretch pm_is_stretch an_is_stretch cd_is_stretch ct_is_stretch) ["value"] 1 [] [] := BindG.plain fun us ws h1 h2 => match us, ws, h1, h2 with | [_], [], _, _ => rfl
  have b_reduced_2 : BindG K (PySem.W.fnOf "reduced" "reduced" (defArgs s_reduced) (defBody s_reduced) (defScope s_reduced) .none kV_reduced dc_reduced pm_reduced an_reduced cd_reduced ct_reduced) ["top", "low"] 2 [] [] := BindG.plain fun us ws h1 h2 => match us, ws, h1, h2 with | [_, _], [], _, _ => rfl
  have b_floor_of_1 : BindG K (PySem.W.fnOf "floor_of" "floor_of" (defArgs s_floor_of) (defBody s_floor_of) (defScope s_floor_of) .none kV_floor_of dc_floor_of pm_floor_of an_floor_of cd_floor_of ct_floor_of) ["one"] 1 [] [] := BindG.plain fun us ws h1 h2 => match us, ws, h1, h2 with | [_], [], _, _ => rfl
  have b_is_inside_2 : BindG K (PySem.W.fnOf "is_inside" "is_inside" (defArgs s_is_inside) (defBody s_is_inside) (defScope s_is_inside) .none kV_is_inside dc_is_inside pm_is_inside an_is_inside cd_is_inside ct_is_inside) ["stretch", "one"] 2 [] [] := BindG.plain fun us ws h1 h2 => match us, ws, h1, h2 with | [_, _], [], _, _ => rfl
  have b_difference_2 : BindG K (PySem.W.fnOf "difference" "difference" (defArgs s_difference) (defBody s_difference) (defScope s_difference) .none kV_difference dc_difference pm_difference an_difference cd_difference ct_difference) ["one", "other"] 2 [] [] := BindG.plain fun us ws h1 h2 => match us, ws, h1, h2 with | [_, _], [], _, _ => rfl
  have b_quotient_2 : BindG K (PySem.W.fnOf "quotient" "quotient" (defArgs s_quotient) (defBody s_quotient) (defScope s_quotient) .none kV_quotient dc_quotient pm_quotient an_quotient cd_quotient ct_quotient) ["one", "other"] 2 [] [] := BindG.plain fun us ws h1 h2 => match us, ws, h1, h2 with | [_, _], [], _, _ => rfl
  have b_simplest_of_1 : BindG K (PySem.W.fnOf "simplest_of" "simplest_of" (defArgs s_simplest_of) (defBody s_simplest_of) (defScope s_simplest_of) .none kV_simplest_of dc_simplest_of pm_simplest_of an_simplest_of cd_simplest_of ct_simplest_of) ["stretch"] 1 [] [] := BindG.plain fun us ws h1 h2 => match us, ws, h1, h2 with | [_], [], _, _ => rfl
  have b_parents_of_1 : BindG K (PySem.W.fnOf "parents_of" "parents_of" (defArgs s_parents_of) (defBody s_parents_of) (defScope s_parents_of) .none kV_parents_of dc_parents_of pm_parents_of an_parents_of cd_parents_of ct_parents_of) ["one"] 1 [] [] := BindG.plain fun us ws h1 h2 => match us, ws, h1, h2 with | [_], [], _, _ => rfl
  have b_check_stretch_1 : BindG K (PySem.W.fnOf "check_stretch" "check_stretch" (defArgs s_check_stretch) (defBody s_check_stretch) (defScope s_check_stretch) .none kV_check_stretch dc_check_stretch pm_check_stretch an_check_stretch cd_check_stretch ct_check_stretch) ["stretch"] 1 [] [] := BindG.plain fun us ws h1 h2 => match us, ws, h1, h2 with | [_], [], _, _ => rfl
  have b_edge_told_1 : BindG K (PySem.W.fnOf "edge_told" "edge_told" (defArgs s_edge_told) (defBody s_edge_told) (defScope s_edge_told) .none kV_edge_told dc_edge_told pm_edge_told an_edge_told cd_edge_told ct_edge_told) ["stretch"] 1 [] [] := BindG.plain fun us ws h1 h2 => match us, ws, h1, h2 with | [_], [], _, _ => rfl
  have b__law_take_2 : BindG K (PySem.W.fnOf "_law_take" "_law_take" (defArgs s__law_take) (defBody s__law_take) (defScope s__law_take) .none kV__law_take dc__law_take pm__law_take an__law_take cd__law_take ct__law_take) ["pot", "upto"] 2 [] [] := BindG.plain fun us ws h1 h2 => match us, ws, h1, h2 with | [_, _], [], _, _ => rfl
  have b__law_of_2 : BindG K (PySem.W.fnOf "_law_of" "_law_of" (defArgs s__law_of) (defBody s__law_of) (defScope s__law_of) .none kV__law_of dc__law_of pm__law_of an__law_of cd__law_of ct__law_of) ["pot", "some"] 2 [] [] := BindG.plain fun us ws h1 h2 => match us, ws, h1, h2 with | [_, _], [], _, _ => rfl
  have b__law_cut_2 : BindG K (PySem.W.fnOf "_law_cut" "_law_cut" (defArgs s__law_cut) (defBody s__law_cut) (defScope s__law_cut) .none kV__law_cut dc__law_cut pm__law_cut an__law_cut cd__law_cut ct__law_cut) ["top", "low"] 2 [] [] := BindG.plain fun us ws h1 h2 => match us, ws, h1, h2 with | [_, _], [], _, _ => rfl
  have b__law_is_in_3 : BindG K (PySem.W.fnOf "_law_is_in" "_law_is_in" (defArgs s__law_is_in) (defBody s__law_is_in) (defScope s__law_is_in) .none kV__law_is_in dc__law_is_in pm__law_is_in an__law_is_in cd__law_is_in ct__law_is_in) ["stretch", "top", "low"] 3 [] [] := BindG.plain fun us ws h1 h2 => match us, ws, h1, h2 with | [_, _, _], [], _, _ => rfl
  have b_with_parents_1 : BindG K (PySem.W.fnOf "with_parents" "with_parents" (defArgs s_with_parents) (defBody s_with_parents) (defScope s_with_parents) .none kV_with_parents dc_with_parents pm_with_parents an_with_parents cd_with_parents ct_with_parents) ["one"] 1 [] [] := BindG.plain fun us ws h1 h2 => match us, ws, h1, h2 with | [_], [], _, _ => rfl
  have b__law_is_whole_1 : BindG K (PySem.W.fnOf "_law_is_whole" "_law_is_whole" (defArgs s__law_is_whole) (defBody s__law_is_whole) (defScope s__law_is_whole) .none kV__law_is_whole dc__law_is_whole pm__law_is_whole an__law_is_whole cd__law_is_whole ct__law_is_whole) ["value"] 1 [] [] := BindG.plain fun us ws h1 h2 => match us, ws, h1, h2 with | [_], [], _, _ => rfl
  have b__law_is_paper_3 : BindG K (PySem.W.fnOf "_law_is_paper" "_law_is_paper" (defArgs s__law_is_paper) (defBody s__law_is_paper) (defScope s__law_is_paper) .none kV__law_is_paper dc__law_is_paper pm__law_is_paper an__law_is_paper cd__law_is_paper ct__law_is_paper) ["stretch", "fraction", "paper"] 3 [] [] := BindG.plain fun us ws h1 h2 => match us, ws, h1, h2 with | [_, _, _], [], _, _ => rfl
  have b__law_bent_2 : BindG K (PySem.W.fnOf "_law_bent" "_law_bent" (defArgs s__law_bent) (defBody s__law_bent) (defScope s__law_bent) .none kV__law_bent dc__law_bent pm__law_bent an__law_bent cd__law_bent ct__law_bent) ["pot", "value"] 2 [] [] := BindG.plain fun us ws h1 h2 => match us, ws, h1, h2 with | [_, _], [], _, _ => rfl
  have b__law_odd_1 : BindG K (PySem.W.fnOf "_law_odd" "_law_odd" (defArgs s__law_odd) (defBody s__law_odd) (defScope s__law_odd) .none kV__law_odd dc__law_odd pm__law_odd an__law_odd cd__law_odd ct__law_odd) ["pot"] 1 [] [] := BindG.plain fun us ws h1 h2 => match us, ws, h1, h2 with | [_], [], _, _ => rfl
  have b_are_parents_1 : BindG K (PySem.W.fnOf "are_parents" "are_parents" (defArgs s_are_parents) (defBody s_are_parents) (defScope s_are_parents) .none kV_are_parents dc_are_parents pm_are_parents an_are_parents cd_are_parents ct_are_parents) ["value"] 1 [] [] := BindG.plain fun us ws h1 h2 => match us, ws, h1, h2 with | [_], [], _, _ => rfl
  have b_is_simplest_2 : BindG K (PySem.W.fnOf "is_simplest" "is_simplest" (defArgs s_is_simplest) (defBody s_is_simplest) (defScope s_is_simplest) .none kV_is_simplest dc_is_simplest pm_is_simplest an_is_simplest cd_is_simplest ct_is_simplest) ["stretch", "value"] 2 [] [] := BindG.plain fun us ws h1 h2 => match us, ws, h1, h2 with | [_, _], [], _, _ => rfl
  have b__law_stretch_2 : BindG K (PySem.W.fnOf "_law_stretch" "_law_stretch" (defArgs s__law_stretch) (defBody s__law_stretch) (defScope s__law_stretch) .none kV__law_stretch dc__law_stretch pm__law_stretch an__law_stretch cd__law_stretch ct__law_stretch) ["pot", "most"] 2 [] [] := BindG.plain fun us ws h1 h2 => match us, ws, h1, h2 with | [_, _], [], _, _ => rfl
  have b__law_simplest_1 : BindG K (PySem.W.fnOf "_law_simplest" "_law_simplest" (defArgs s__law_simplest) (defBody s__law_simplest) (defScope s__law_simplest) .none kV__law_simplest dc__law_simplest pm__law_simplest an__law_simplest cd__law_simplest ct__law_simplest) ["stretch"] 1 [] [] := BindG.plain fun us ws h1 h2 => match us, ws, h1, h2 with | [_], [], _, _ => rfl
  have b_simplest_0_stretch : BindG K (PySem.W.fnOf "simplest" "simplest" (defArgs s_simplest) (defBody s_simplest) (defScope s_simplest) .none kV_simplest dc_simplest pm_simplest an_simplest cd_simplest ct_simplest) ["stretch"] 0 ["stretch"] [] := BindG.plain fun us ws h1 h2 => match us, ws, h1, h2 with | [], [_], _, _ => rfl
  have b__law_is_shown_2 : BindG K (PySem.W.fnOf "_law_is_shown" "_law_is_shown" (defArgs s__law_is_shown) (defBody s__law_is_shown) (defScope s__law_is_shown) .none kV__law_is_shown dc__law_is_shown pm__law_is_shown an__law_is_shown cd__law_is_shown ct__law_is_shown) ["stretch", "value"] 2 [] [] := BindG.plain fun us ws h1 h2 => match us, ws, h1, h2 with | [_, _], [], _, _ => rfl
  have b_edge_size_0_stretch : BindG K (PySem.W.fnOf "edge_size" "edge_size" (defArgs s_edge_size) (defBody s_edge_size) (defScope s_edge_size) .none kV_edge_size dc_edge_size pm_edge_size an_edge_size cd_edge_size ct_edge_size) ["stretch"] 0 ["stretch"] [] := BindG.plain fun us ws h1 h2 => match us, ws, h1, h2 with | [], [_], _, _ => rfl
  have b__law_is_edge_2 : BindG K (PySem.W.fnOf "_law_is_edge" "_law_is_edge" (defArgs s__law_is_edge) (defBody s__law_is_edge) (defScope s__law_is_edge) .none kV__law_is_edge dc__law_is_edge pm__law_is_edge an__law_is_edge cd__law_is_edge ct__law_is_edge) ["stretch", "value"] 2 [] [] := BindG.plain fun us ws h1 h2 => match us, ws, h1, h2 with | [_, _], [], _, _ => rfl
  have b_simplest_1 : BindG K (PySem.W.fnOf "simplest" "simplest" (defArgs s_simplest) (defBody s_simplest) (defScope s_simplest) .none kV_simplest dc_simplest pm_simplest an_simplest cd_simplest ct_simplest) ["stretch"] 1 [] [] := BindG.plain fun us ws h1 h2 => match us, ws, h1, h2 with | [_], [], _, _ => rfl
  have b_shows_simplest_0_stretch_value : BindG K (PySem.W.fnOf "shows_simplest" "shows_simplest" (defArgs s_shows_simplest) (defBody s_shows_simplest) (defScope s_shows_simplest) .none kV_shows_simplest dc_shows_simplest pm_shows_simplest an_shows_simplest cd_shows_simplest ct_shows_simplest) ["stretch", "value"] 0 ["stretch", "value"] [] := BindG.plain fun us ws h1 h2 => match us, ws, h1, h2 with | [], [_, _], _, _ => rfl
  have b_edge_size_1 : BindG K (PySem.W.fnOf "edge_size" "edge_size" (defArgs s_edge_size) (defBody s_edge_size) (defScope s_edge_size) .none kV_edge_size dc_edge_size pm_edge_size an_edge_size cd_edge_size ct_edge_size) ["stretch"] 1 [] [] := BindG.plain fun us ws h1 h2 => match us, ws, h1, h2 with | [_], [], _, _ => rfl
  have b_shows_edge_size_0_stretch_value : BindG K (PySem.W.fnOf "shows_edge_size" "shows_edge_size" (defArgs s_shows_edge_size) (defBody s_shows_edge_size) (defScope s_shows_edge_size) .none kV_shows_edge_size dc_shows_edge_size pm_shows_edge_size an_shows_edge_size cd_shows_edge_size ct_shows_edge_size) ["stretch", "value"] 0 ["stretch", "value"] [] := BindG.plain fun us ws h1 h2 => match us, ws, h1, h2 with | [], [_, _], _, _ => rfl
  have b__law_cells_2 : BindG K (PySem.W.fnOf "_law_cells" "_law_cells" (defArgs s__law_cells) (defBody s__law_cells) (defScope s__law_cells) .none kV__law_cells dc__law_cells pm__law_cells an__law_cells cd__law_cells ct__law_cells) ["script", "limit"] 2 [] [] := BindG.plain fun us ws h1 h2 => match us, ws, h1, h2 with | [_, _], [], _, _ => rfl
  have b__law_pot_2 : BindG K (PySem.W.fnOf "_law_pot" "_law_pot" (defArgs s__law_pot) (defBody s__law_pot) (defScope s__law_pot) .none kV__law_pot dc__law_pot pm__law_pot an__law_pot cd__law_pot ct__law_pot) ["script", "place"] 2 [] [] := BindG.plain fun us ws h1 h2 => match us, ws, h1, h2 with | [_, _], [], _, _ => rfl
  have b__law_right_1 : BindG K (PySem.W.fnOf "_law_right" "_law_right" (defArgs s__law_right) (defBody s__law_right) (defScope s__law_right) .none kV__law_right dc__law_right pm__law_right an__law_right cd__law_right ct__law_right) ["pot"] 1 [] [] := BindG.plain fun us ws h1 h2 => match us, ws, h1, h2 with | [_], [], _, _ => rfl
  have m_max := PySem.W.mg_none_of X G z_max
  have m_min := PySem.W.mg_none_of X G z_min
  have m_len := PySem.W.mg_none_of X G z_len
  have m_list := PySem.W.mg_none_of X G z_list
  have m_range := PySem.W.mg_none_of X G z_range
  have m_int := PySem.W.mg_none_of X G z_int
  have m_abs := PySem.W.mg_none_of X G z_abs
  have m_isinstance := PySem.W.mg_none_of X G z_isinstance
  have m_bool := PySem.W.mg_none_of X G z_bool
  have m_all := PySem.W.mg_none_of X G z_all
  have m_tuple := PySem.W.mg_none_of X G z_tuple
  have m_str := PySem.W.mg_none_of X G z_str
  have m_repr := PySem.W.mg_none_of X G z_repr
  have m_gcd := PySem.W.mg_of X G z_gcd
  have m_BEYOND := PySem.W.mg_of X G z_BEYOND
  have r_BEYOND : KRep K (.int 1000000000000000000000000000000000000000000000000000000000000000000000000000000000000000000000000000000000000000000000000000000000000000000000000000000000000000000000000000000000000000000000000000000000000000000000000000000000000000000000000000000000000000000000000000000000000000000000000000000000000 t_BEYOND_1) d_BEYOND := KRep.int
  have m_MOST_PARTS := PySem.W.mg_of X G z_MOST_PARTS
  have r_MOST_PARTS : KRep K (.int 1000000 t_MOST_PARTS_1) d_MOST_PARTS := KRep.int
  have m_ONE := PySem.W.mg_of X G z_ONE
  have r_ONE : KRep K (.ref T_ONE_1) d_ONE := (KRep.tup lc_ONE_1 (by decide +kernel) (.cons KRep.int (.cons KRep.int KReps.nil)))
  have m_NOTHING := PySem.W.mg_of X G z_NOTHING
  have r_NOTHING : KRep K (.ref T_NOTHING_1) d_NOTHING := (KRep.tup lc_NOTHING_1 (by decide +kernel) (.cons KRep.int (.cons KRep.int KReps.nil)))
  have g__law_cells := PySem.W.mg_of X G a__law_cells
  have g__law_pot := PySem.W.mg_of X G a__law_pot
  have g_is_less := PySem.W.mg_of X G a_is_less
  have g_common := PySem.W.mg_of X G a_common
  have g_is_integer := PySem.W.mg_of X G a_is_integer
  have g_is_fraction := PySem.W.mg_of X G a_is_fraction
  have g_is_told_fraction := PySem.W.mg_of X G a_is_told_fraction
  have g_is_stretch := PySem.W.mg_of X G a_is_stretch
  have g_check_stretch := PySem.W.mg_of X G a_check_stretch
  have g_floor_of := PySem.W.mg_of X G a_floor_of
  have g_is_inside := PySem.W.mg_of X G a_is_inside
  have g_reduced := PySem.W.mg_of X G a_reduced
  have g_difference := PySem.W.mg_of X G a_difference
  have g_quotient := PySem.W.mg_of X G a_quotient
  have g_simplest_of := PySem.W.mg_of X G a_simplest_of
  have g_parents_of := PySem.W.mg_of X G a_parents_of
  have g_edge_told := PySem.W.mg_of X G a_edge_told
  have g_edge_size := PySem.W.mg_of X G a_edge_size
  have g__law_take := PySem.W.mg_of X G a__law_take
  have g__law_cut := PySem.W.mg_of X G a__law_cut
  have g__law_of := PySem.W.mg_of X G a__law_of
  have g__law_stretch := PySem.W.mg_of X G a__law_stretch
  have g__law_is_in := PySem.W.mg_of X G a__law_is_in
  have g__law_simplest := PySem.W.mg_of X G a__law_simplest
  have g_with_parents := PySem.W.mg_of X G a_with_parents
  have g_simplest := PySem.W.mg_of X G a_simplest
  have g__law_is_whole := PySem.W.mg_of X G a__law_is_whole
  have g__law_is_paper := PySem.W.mg_of X G a__law_is_paper
  have g__law_is_shown := PySem.W.mg_of X G a__law_is_shown
  have g__law_is_edge := PySem.W.mg_of X G a__law_is_edge
  have g__law_odd := PySem.W.mg_of X G a__law_odd
  have g__law_bent := PySem.W.mg_of X G a__law_bent
  have g_are_parents := PySem.W.mg_of X G a_are_parents
  have g_is_simplest := PySem.W.mg_of X G a_is_simplest
  have g_shows_simplest := PySem.W.mg_of X G a_shows_simplest
  have g_shows_edge_size := PySem.W.mg_of X G a_shows_edge_size
  have g__law_right := PySem.W.mg_of X G a__law_right
  have g_law := PySem.W.mg_of X G a_law
  have e := hfa.symm.trans g_law
  cases e
  refine ⟨PySem.W.fnOf "law" "law" (defArgs s_law) (defBody s_law) (defScope s_law) .none kV_law dc_law pm_law an_law cd_law ct_law, fun s v => .of_eq rfl, fun base _ _ => ?_⟩
  have M__law_cells := ok__law_cells (P := l.prog) (w := w) (base := base) (mg := mg) l__law_cells c__law_cells m_max m_min m_len m_list m_range
  have M__law_pot := ok__law_pot (P := l.prog) (w := w) (base := base) (mg := mg) l__law_pot c__law_pot m_len m_int m_abs
  have M_is_less := ok_is_less (P := l.prog) (w := w) (base := base) (mg := mg) l_is_less c_is_less
  have M_common := ok_common (P := l.prog) (w := w) (base := base) (mg := mg) l_common c_common m_gcd
  have M_is_integer := ok_is_integer (P := l.prog) (w := w) (base := base) (mg := mg) l_is_integer c_is_integer m_isinstance m_bool m_int
  have M_is_fraction := ok_is_fraction (P := l.prog) (w := w) (base := base) (mg := mg) l_is_fraction c_is_fraction M_is_integer g_is_integer k_is_integer M_common g_common k_common b_is_integer_1 b_common_2 m_all m_len m_isinstance m_tuple
  have M_is_told_fraction := ok_is_told_fraction (P := l.prog) (w := w) (base := base) (mg := mg) l_is_told_fraction c_is_told_fraction M_is_fraction g_is_fraction k_is_fraction b_is_fraction_1 m_BEYOND r_BEYOND m_abs
  have M_is_stretch := ok_is_stretch (P := l.prog) (w := w) (base := base) (mg := mg) l_is_stretch c_is_stretch M_is_told_fraction g_is_told_fraction k_is_told_fraction M_is_less g_is_less k_is_less b_is_told_fraction_1 b_is_less_2 m_all m_isinstance m_bool m_len m_tuple
  have M_check_stretch := ok_check_stretch (P := l.prog) (w := w) (base := base) (mg := mg) l_check_stretch c_check_stretch M_is_stretch g_is_stretch k_is_stretch b_is_stretch_1
  have M_floor_of := ok_floor_of (P := l.prog) (w := w) (base := base) (mg := mg) l_floor_of c_floor_of
  have M_is_inside := ok_is_inside (P := l.prog) (w := w) (base := base) (mg := mg) l_is_inside c_is_inside M_is_less g_is_less k_is_less b_is_less_2
  have M_reduced := ok_reduced (P := l.prog) (w := w) (base := base) (mg := mg) l_reduced c_reduced M_common g_common k_common b_common_2
  have M_difference := ok_difference (P := l.prog) (w := w) (base := base) (mg := mg) l_difference c_difference M_reduced g_reduced k_reduced b_reduced_2
  have M_quotient := ok_quotient (P := l.prog) (w := w) (base := base) (mg := mg) l_quotient c_quotient M_reduced g_reduced k_reduced b_reduced_2
  have M_simplest_of := ok_simplest_of (P := l.prog) (w := w) (base := base) (mg := mg) l_simplest_of c_simplest_of M_floor_of g_floor_of k_floor_of M_is_inside g_is_inside k_is_inside M_difference g_difference k_difference M_quotient g_quotient k_quotient b_floor_of_1 b_is_inside_2 b_difference_2 b_quotient_2 m_MOST_PARTS r_MOST_PARTS m_ONE r_ONE m_NOTHING r_NOTHING m_range
  have M_parents_of := ok_parents_of (P := l.prog) (w := w) (base := base) (mg := mg) l_parents_of c_parents_of
  have M_edge_told := ok_edge_told (P := l.prog) (w := w) (base := base) (mg := mg) l_edge_told c_edge_told M_simplest_of g_simplest_of k_simplest_of M_parents_of g_parents_of k_parents_of b_simplest_of_1 b_parents_of_1
  have M_edge_size := ok_edge_size (P := l.prog) (w := w) (base := base) (mg := mg) l_edge_size c_edge_size M_check_stretch g_check_stretch k_check_stretch M_edge_told g_edge_told k_edge_told b_check_stretch_1 b_edge_told_1
  have M__law_take := ok__law_take (P := l.prog) (w := w) (base := base) (mg := mg) l__law_take c__law_take m_int
  have M__law_cut := ok__law_cut (P := l.prog) (w := w) (base := base) (mg := mg) l__law_cut c__law_cut m_abs m_int
  have M__law_of := ok__law_of (P := l.prog) (w := w) (base := base) (mg := mg) l__law_of c__law_of M__law_take g__law_take k__law_take b__law_take_2 m_len
  have M__law_stretch := ok__law_stretch (P := l.prog) (w := w) (base := base) (mg := mg) l__law_stretch c__law_stretch M__law_take g__law_take k__law_take M__law_of g__law_of k__law_of M__law_cut g__law_cut k__law_cut b__law_take_2 b__law_of_2 b__law_cut_2 m_int
  have M__law_is_in := ok__law_is_in (P := l.prog) (w := w) (base := base) (mg := mg) l__law_is_in c__law_is_in
  have M__law_simplest := ok__law_simplest (P := l.prog) (w := w) (base := base) (mg := mg) l__law_simplest c__law_simplest M__law_is_in g__law_is_in k__law_is_in b__law_is_in_3 m_range m_int
  have M_with_parents := ok_with_parents (P := l.prog) (w := w) (base := base) (mg := mg) l_with_parents c_with_parents M_parents_of g_parents_of k_parents_of b_parents_of_1
  have M_simplest := ok_simplest (P := l.prog) (w := w) (base := base) (mg := mg) l_simplest c_simplest M_check_stretch g_check_stretch k_check_stretch M_with_parents g_with_parents k_with_parents M_simplest_of g_simplest_of k_simplest_of b_check_stretch_1 b_with_parents_1 b_simplest_of_1
  have M__law_is_whole := ok__law_is_whole (P := l.prog) (w := w) (base := base) (mg := mg) l__law_is_whole c__law_is_whole m_isinstance m_bool m_int
  have M__law_is_paper := ok__law_is_paper (P := l.prog) (w := w) (base := base) (mg := mg) l__law_is_paper c__law_is_paper M__law_is_whole g__law_is_whole k__law_is_whole M__law_is_in g__law_is_in k__law_is_in M__law_cut g__law_cut k__law_cut b__law_is_whole_1 b__law_is_in_3 b__law_cut_2 m_all m_len m_isinstance m_tuple
  have M__law_is_shown := ok__law_is_shown (P := l.prog) (w := w) (base := base) (mg := mg) l__law_is_shown c__law_is_shown M__law_is_paper g__law_is_paper k__law_is_paper b__law_is_paper_3 m_len m_isinstance m_tuple
  have M__law_is_edge := ok__law_is_edge (P := l.prog) (w := w) (base := base) (mg := mg) l__law_is_edge c__law_is_edge M__law_is_whole g__law_is_whole k__law_is_whole M__law_is_paper g__law_is_paper k__law_is_paper b__law_is_whole_1 b__law_is_paper_3 m_all m_len m_isinstance m_tuple
  have M__law_odd := ok__law_odd (P := l.prog) (w := w) (base := base) (mg := mg) l__law_odd c__law_odd M__law_of g__law_of k__law_of b__law_of_2
  have M__law_bent_1 := ok__law_bent_1 (P := l.prog) (w := w) (base := base) (mg := mg) l__law_bent c__law_bent M__law_take g__law_take k__law_take fnd_off g__law_bent k__law_bent M__law_of g__law_of k__law_of M__law_odd g__law_odd k__law_odd b__law_take_2 b__law_bent_2 b__law_of_2 b__law_odd_1 m_isinstance m_tuple m_len m_list m_bool m_int m_str
  have M__law_bent_2 := ok__law_bent_2 (P := l.prog) (w := w) (base := base) (mg := mg) l__law_bent c__law_bent M__law_take g__law_take k__law_take M__law_bent_1 g__law_bent k__law_bent M__law_of g__law_of k__law_of M__law_odd g__law_odd k__law_odd b__law_take_2 b__law_bent_2 b__law_of_2 b__law_odd_1 m_isinstance m_tuple m_len m_list m_bool m_int m_str
  have M__law_bent_3 := ok__law_bent_3 (P := l.prog) (w := w) (base := base) (mg := mg) l__law_bent c__law_bent M__law_take g__law_take k__law_take M__law_bent_2 g__law_bent k__law_bent M__law_of g__law_of k__law_of M__law_odd g__law_odd k__law_odd b__law_take_2 b__law_bent_2 b__law_of_2 b__law_odd_1 m_isinstance m_tuple m_len m_list m_bool m_int m_str
  have M__law_bent_4 := ok__law_bent_4 (P := l.prog) (w := w) (base := base) (mg := mg) l__law_bent c__law_bent M__law_take g__law_take k__law_take M__law_bent_3 g__law_bent k__law_bent M__law_of g__law_of k__law_of M__law_odd g__law_odd k__law_odd b__law_take_2 b__law_bent_2 b__law_of_2 b__law_odd_1 m_isinstance m_tuple m_len m_list m_bool m_int m_str
  have M__law_bent : FnD l.prog w K mg base 7 f__law_bent (PySem.W.fnOf "_law_bent" "_law_bent" (defArgs s__law_bent) (defBody s__law_bent) (defScope s__law_bent) .none kV__law_bent dc__law_bent pm__law_bent an__law_bent cd__law_bent ct__law_bent) ["pot", "value"] F__law_bent 24 := by
    unfold F__law_bent
    exact M__law_bent_4
  have M_are_parents := ok_are_parents (P := l.prog) (w := w) (base := base) (mg := mg) l_are_parents c_are_parents M_is_integer g_is_integer k_is_integer b_is_integer_1 m_len m_isinstance m_tuple m_all
  have M_is_simplest := ok_is_simplest (P := l.prog) (w := w) (base := base) (mg := mg) l_is_simplest c_is_simplest M_is_inside g_is_inside k_is_inside M_is_fraction g_is_fraction k_is_fraction M_are_parents g_are_parents k_are_parents b_is_inside_2 b_is_fraction_1 b_are_parents_1 m_len m_isinstance m_tuple
  have M_shows_simplest := ok_shows_simplest (P := l.prog) (w := w) (base := base) (mg := mg) l_shows_simplest c_shows_simplest M_check_stretch g_check_stretch k_check_stretch M_is_simplest g_is_simplest k_is_simplest b_check_stretch_1 b_is_simplest_2
  have M_shows_edge_size := ok_shows_edge_size (P := l.prog) (w := w) (base := base) (mg := mg) l_shows_edge_size c_shows_edge_size M_check_stretch g_check_stretch k_check_stretch M_is_integer g_is_integer k_is_integer M_is_simplest g_is_simplest k_is_simplest b_check_stretch_1 b_is_integer_1 b_is_simplest_2 m_len m_isinstance m_tuple
  have M__law_right := ok__law_right (P := l.prog) (w := w) (base := base) (mg := mg) l__law_right c__law_right M__law_stretch g__law_stretch k__law_stretch M__law_simplest g__law_simplest k__law_simplest M_simplest g_simplest k_simplest M__law_is_shown g__law_is_shown k__law_is_shown M_edge_size g_edge_size k_edge_size M__law_is_edge g__law_is_edge k__law_is_edge M__law_odd g__law_odd k__law_odd M__law_bent g__law_bent k__law_bent M_shows_simplest g_shows_simplest k_shows_simplest M_shows_edge_size g_shows_edge_size k_shows_edge_size b__law_stretch_2 b__law_simplest_1 b_simplest_0_stretch b__law_is_shown_2 b_edge_size_0_stretch b__law_is_edge_2 b_simplest_1 b__law_odd_1 b__law_bent_2 b_shows_simplest_0_stretch_value b_edge_size_1 b_shows_edge_size_0_stretch_value m_repr m_list m_range
  have M_law := ok_law (P := l.prog) (w := w) (base := base) (mg := mg) l_law c_law M__law_cells g__law_cells k__law_cells M__law_pot g__law_pot k__law_pot M__law_right g__law_right k__law_right b__law_cells_2 b__law_pot_2 b__law_right_1 m_all m_range
  exact M_law
end K83
open PySem PySem.W PyProof.Rows
set_option maxHeartbeats 0 in
theorem PySem.Challenge.cw_whatthepicturesays_k83_whole_simplest_fr_holds : PySem.Challenge.rw_whatthepicturesays_k83_whole_simplest_fr.Holds := by
  w_on; o_law; k_head; (case hw => w_witness2)
  k_fill
  refine DL.walk_ofG (l := PySem.Challenge.rw_whatthepicturesays_k83_whole_simplest_fr) (n := 63) (k := 9) (c := 0) (x := "script") (F := K83.F_law) rfl (by decide) rfl ⟨rfl, by decide, by decide⟩ DL.guards_caller (by decide) (fun w h Y => PySem.W.kIn_of Y) ?F K83.law_true
  case F =>
    intro w mg fa h KX G hmg
    refine' K83.all_mk KX G hmg ?a__law_cells ?l__law_cells ?c__law_cells ?k__law_cells ?a__law_pot ?l__law_pot ?c__law_pot ?k__law_pot ?a_is_less ?l_is_less ?c_is_less ?k_is_less ?a_common ?l_common ?c_common ?k_common ?a_is_integer ?l_is_integer ?c_is_integer ?k_is_integer ?a_is_fraction ?l_is_fraction ?c_is_fraction ?k_is_fraction ?a_is_told_fraction ?l_is_told_fraction ?c_is_told_fraction ?k_is_told_fraction ?a_is_stretch ?l_is_stretch ?c_is_stretch ?k_is_stretch ?a_check_stretch ?l_check_stretch ?c_check_stretch ?k_check_stretch ?a_floor_of ?l_floor_of ?c_floor_of ?k_floor_of ?a_is_inside ?l_is_inside ?c_is_inside ?k_is_inside ?a_reduced ?l_reduced ?c_reduced ?k_reduced ?a_difference ?l_difference ?c_difference ?k_difference ?a_quotient ?l_quotient ?c_quotient ?k_quotient ?a_simplest_of ?l_simplest_of ?c_simplest_of ?k_simplest_of ?a_parents_of ?l_parents_of ?c_parents_of ?k_parents_of ?a_edge_told ?l_edge_told ?c_edge_told ?k_edge_told ?a_edge_size ?l_edge_size ?c_edge_size ?k_edge_size ?a__law_take ?l__law_take ?c__law_take ?k__law_take ?a__law_cut ?l__law_cut ?c__law_cut ?k__law_cut ?a__law_of ?l__law_of ?c__law_of ?k__law_of ?a__law_stretch ?l__law_stretch ?c__law_stretch ?k__law_stretch ?a__law_is_in ?l__law_is_in ?c__law_is_in ?k__law_is_in ?a__law_simplest ?l__law_simplest ?c__law_simplest ?k__law_simplest ?a_with_parents ?l_with_parents ?c_with_parents ?k_with_parents ?a_simplest ?l_simplest ?c_simplest ?k_simplest ?a__law_is_whole ?l__law_is_whole ?c__law_is_whole ?k__law_is_whole ?a__law_is_paper ?l__law_is_paper ?c__law_is_paper ?k__law_is_paper ?a__law_is_shown ?l__law_is_shown ?c__law_is_shown ?k__law_is_shown ?a__law_is_edge ?l__law_is_edge ?c__law_is_edge ?k__law_is_edge ?a__law_odd ?l__law_odd ?c__law_odd ?k__law_odd ?a__law_bent ?l__law_bent ?c__law_bent ?k__law_bent ?a_are_parents ?l_are_parents ?c_are_parents ?k_are_parents ?a_is_simplest ?l_is_simplest ?c_is_simplest ?k_is_simplest ?a_shows_simplest ?l_shows_simplest ?c_shows_simplest ?k_shows_simplest ?a_shows_edge_size ?l_shows_edge_size ?c_shows_edge_size ?k_shows_edge_size ?a__law_right ?l__law_right ?c__law_right ?k__law_right ?a_law ?l_law ?c_law ?k_law ?z_max ?z_min ?z_len ?z_list ?z_range ?z_int ?z_abs ?z_isinstance ?z_bool ?z_all ?z_tuple ?z_str ?z_repr ?z_gcd ?z_BEYOND ?z_MOST_PARTS ?lc_ONE_1 ?z_ONE ?lc_NOTHING_1 ?z_NOTHING
    (case a__law_cells => k_is)
    (case a__law_pot => k_is)
    (case a_is_less => k_is)
    (case a_common => k_is)
    (case a_is_integer => k_is)
    (case a_is_fraction => k_is)
    (case a_is_told_fraction => k_is)
    (case a_is_stretch => k_is)
    (case a_check_stretch => k_is)
    (case a_floor_of => k_is)
    (case a_is_inside => k_is)
    (case a_reduced => k_is)
    (case a_difference => k_is)
    (case a_quotient => k_is)
    (case a_simplest_of => k_is)
    (case a_parents_of => k_is)
    (case a_edge_told => k_is)
    (case a_edge_size => k_is)
    (case a__law_take => k_is)
    (case a__law_cut => k_is)
    (case a__law_of => k_is)
    (case a__law_stretch => k_is)
    (case a__law_is_in => k_is)
    (case a__law_simplest => k_is)
    (case a_with_parents => k_is)
    (case a_simplest => k_is)
    (case a__law_is_whole => k_is)
    (case a__law_is_paper => k_is)
    (case a__law_is_shown => k_is)
    (case a__law_is_edge => k_is)
    (case a__law_odd => k_is)
    (case a__law_bent => k_is)
    (case a_are_parents => k_is)
    (case a_is_simplest => k_is)
    (case a_shows_simplest => k_is)
    (case a_shows_edge_size => k_is)
    (case a__law_right => k_is)
    (case a_law => k_is)
    (case z_max => k_is)
    (case z_min => k_is)
    (case z_len => k_is)
    (case z_list => k_is)
    (case z_range => k_is)
    (case z_int => k_is)
    (case z_abs => k_is)
    (case z_isinstance => k_is)
    (case z_bool => k_is)
    (case z_all => k_is)
    (case z_tuple => k_is)
    (case z_str => k_is)
    (case z_repr => k_is)
    (case z_gcd => k_is)
    (case z_BEYOND => k_is)
    (case z_MOST_PARTS => k_is)
    (case z_ONE => k_is)
    (case z_NOTHING => k_is)
    (case l__law_cells => k_is)
    (case l__law_pot => k_is)
    (case l_is_less => k_is)
    (case l_common => k_is)
    (case l_is_integer => k_is)
    (case l_is_fraction => k_is)
    (case l_is_told_fraction => k_is)
    (case l_is_stretch => k_is)
    (case l_check_stretch => k_is)
    (case l_floor_of => k_is)
    (case l_is_inside => k_is)
    (case l_reduced => k_is)
    (case l_difference => k_is)
    (case l_quotient => k_is)
    (case l_simplest_of => k_is)
    (case l_parents_of => k_is)
    (case l_edge_told => k_is)
    (case l_edge_size => k_is)
    (case l__law_take => k_is)
    (case l__law_cut => k_is)
    (case l__law_of => k_is)
    (case l__law_stretch => k_is)
    (case l__law_is_in => k_is)
    (case l__law_simplest => k_is)
    (case l_with_parents => k_is)
    (case l_simplest => k_is)
    (case l__law_is_whole => k_is)
    (case l__law_is_paper => k_is)
    (case l__law_is_shown => k_is)
    (case l__law_is_edge => k_is)
    (case l__law_odd => k_is)
    (case l__law_bent => k_is)
    (case l_are_parents => k_is)
    (case l_is_simplest => k_is)
    (case l_shows_simplest => k_is)
    (case l_shows_edge_size => k_is)
    (case l__law_right => k_is)
    (case l_law => k_is)
    (case lc_NOTHING_1 => k_is)
    (case lc_ONE_1 => k_is)
    (case c__law_cells => k_is)
    (case k__law_cells => k_is)
    (case c__law_pot => k_is)
    (case k__law_pot => k_is)
    (case c_is_less => k_is)
    (case k_is_less => k_is)
    (case c_common => k_is)
    (case k_common => k_is)
    (case c_is_integer => k_is)
    (case k_is_integer => k_is)
    (case c_is_fraction => k_is)
    (case k_is_fraction => k_is)
    (case c_is_told_fraction => k_is)
    (case k_is_told_fraction => k_is)
    (case c_is_stretch => k_is)
    (case k_is_stretch => k_is)
    (case c_check_stretch => k_is)
    (case k_check_stretch => k_is)
    (case c_floor_of => k_is)
    (case k_floor_of => k_is)
    (case c_is_inside => k_is)
    (case k_is_inside => k_is)
    (case c_reduced => k_is)
    (case k_reduced => k_is)
    (case c_difference => k_is)
    (case k_difference => k_is)
    (case c_quotient => k_is)
    (case k_quotient => k_is)
    (case c_simplest_of => k_is)
    (case k_simplest_of => k_is)
    (case c_parents_of => k_is)
    (case k_parents_of => k_is)
    (case c_edge_told => k_is)
    (case k_edge_told => k_is)
    (case c_edge_size => k_is)
    (case k_edge_size => k_is)
    (case c__law_take => k_is)
    (case k__law_take => k_is)
    (case c__law_cut => k_is)
    (case k__law_cut => k_is)
    (case c__law_of => k_is)
    (case k__law_of => k_is)
    (case c__law_stretch => k_is)
    (case k__law_stretch => k_is)
    (case c__law_is_in => k_is)
    (case k__law_is_in => k_is)
    (case c__law_simplest => k_is)
    (case k__law_simplest => k_is)
    (case c_with_parents => k_is)
    (case k_with_parents => k_is)
    (case c_simplest => k_is)
    (case k_simplest => k_is)
    (case c__law_is_whole => k_is)
    (case k__law_is_whole => k_is)
    (case c__law_is_paper => k_is)
    (case k__law_is_paper => k_is)
    (case c__law_is_shown => k_is)
    (case k__law_is_shown => k_is)
    (case c__law_is_edge => k_is)
    (case k__law_is_edge => k_is)
    (case c__law_odd => k_is)
    (case k__law_odd => k_is)
    (case c__law_bent => k_is)
    (case k__law_bent => k_is)
    (case c_are_parents => k_is)
    (case k_are_parents => k_is)
    (case c_is_simplest => k_is)
    (case k_is_simplest => k_is)
    (case c_shows_simplest => k_is)
    (case k_shows_simplest => k_is)
    (case c_shows_edge_size => k_is)
    (case k_shows_edge_size => k_is)
    (case c__law_right => k_is)
    (case k__law_right => k_is)
    (case c_law => k_is)
    (case k_law => k_is)
